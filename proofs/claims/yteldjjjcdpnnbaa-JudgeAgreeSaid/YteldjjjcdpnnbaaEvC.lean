/-
  PROVED: the evaluator: regions that draw their order, the theorem on the whole, contracts of functions, and from a contract to a law. Conditions: the type table, the functions and the contracts fit the program.
-/
import Derived.Test.YteldjjjcdpnnbaaEvB
import Derived.KernelRfl
import Derived.Laws.StructEq
import Derived.WalkKit
import Derived.ProofKit
import Derived.OpenShut
import Derived.SizedLaws
import Derived.Carry
import Derived.IntWalk
set_option linter.unusedVariables false
set_option linter.unusedSimpArgs false
set_option linter.unusedSectionVars false
namespace Go.Ev
section
variable {P:Program} {R:Type} {E:ed R} {w0:World} {I0:Nat→Prop} {f0:FuncId} {Fin:R→Value→World→Prop} {Q:R→Prop}
variable {w:World} {S:St} {m:Mem} {fr:Frame} {fs:List aO} {frs cs:List Frame}
variable {n:Nat}
theorem uq:∀{ps:List Nat} {aa:List AV} {us:List Value} {env:Env} {tmps:Array Value} {nn:Nat},bi w S m aa us→ps.length=aa.length→(∀p∈ps,p<nn)→tmps.size=nn→nn≤65535→(∀i,CR w S m (env.at i) (tmps.getD i undef))→
  ((ps.zip us).foldl (fun tmps (t,a)=>tmps.setIfInBounds t a) tmps).size=nn∧∀i,CR w S m ((lX ps aa env).at i) (((ps.zip us).foldl (fun tmps (t,a)=>tmps.setIfInBounds t a) tmps).getD i undef)
 | [],aa,us,env,tmps,nn,_,_,_,hs,_,he=>by
   simp only[List.zip_nil_left,List.foldl_nil,lX]
   exact⟨hs,he⟩
 | p::ps, [],us,env,tmps,nn,_,hl,_,_,_,_=>by simp at hl
 | p::ps,a::aa,us,env,tmps,nn,hc,hl,hp,hs,hn,he=>by
   obtain⟨u,r,rfl,h1,h2⟩:=bT.1 hc
   simp only[List.zip_cons_cons,List.foldl_cons,lX]
   have hpn:=hp p List.mem_cons_self
   refine uq (nn:=nn) h2 (by simpa using hl) (fun q hq=>hp q (List.mem_cons_of_mem _ hq)) (by simp[hs]) hn fun i=>?_
   rw[Env.oE (by omega)]
   simp only[Array.getD_eq_getD_getElem?,Array.getElem?_setIfInBounds]
   by_cases hi:i=p
   ·subst hi;simp[hs,hpn,h1]
   ·rw[if_neg hi,if_neg (Ne.symm hi),←Array.getD_eq_getD_getElem?];exact he i
theorem rJ{α β γ:Type}(f:γ→α×β→γ)(x:γ)(a:Array α)(b:Array β):(a.zip b).foldl f x=(a.toList.zip b.toList).foldl f x:=by
 rw[←Array.foldl_toList,Array.toList_zip]
theorem tJ{ρ:Operand→Value}{x:Operand}{args:Array Operand}{ats:Array TypeId}{t:TypeId}{l:Nat}{r:Loop}(hx:ρ x=.func (.yield l) #[] #[])(h:w.heap[l]? = some (.loop r))(hs:args.size=r.params.size) :
  (do let d ←resolve ρ {callee:=.value x,args:=args,argTypes:=ats} t;invoke d.target d.args:Sem Next).run P w =
    .ok (.round l r.fn ((r.params.zip (args.map ρ)).foldl (fun tmps (t,a)=>tmps.setIfInBounds t a) r.tmps) r.assign r.body) w:=by
 simp only[resolve,hx,Deferred.ofValue,Sem.run_bind,Sem.run_pure,Result.andThen_ok,invoke,Array.empty_append]
 exact run_yield h (by simpa using hs)
theorem tZ{ρa:Operand→AV}{ρc:Operand→Value}(hρ:∀x,CR w S m (ρa x) (ρc x))(l:Array Operand):bi w S m (l.toList.map ρa) (l.map ρc).toList:=by
 rw[Array.toList_map];exact qj hρ l.toList
theorem yX(hP:Fits P E Fin w0 I0)(ih:∀c,Tr.Ok Q (Good P E w0 I0 f0 Fin Q) (run ai E n c)→Good P E w0 I0 f0 Fin Q c)
  {all:Array Oper} {i:Nat} {l:List Nat} {kc:List Item} {o:Oper} {ρ:Operand→AV} {fn:FuncId} {below:aO} {next:AV→Mem→Tr R}
  (hW:WR w0 w S m) (hI:∀b,S.I b→I0 b∨w0.heap.size≤b) (hfs:rq w S m fs frs) (hB:pg f0 (below::fs)) (hm:fr.mode=.run)
  (ht:fr.todo=.inRegion all (i::l)::kc) (ho:all[i]? = some o) (hw:Region.wanted o (yielded all fr.tmps)=true)
  (hρ:∀x∈o.op.operands.toList,CR w S m (ρ x) (fr.eval x)) (hbelow:FR w S m below fr)
  (hnext:∀v m' w' S' z,Step w0 w S m w' S' m'→CR w' S' m' v z→Tr.Ok Q (Good P E w0 I0 f0 Fin Q) (next v m')→Ends P f0 Fin Q (fr.finish z) frs cs w')
  (h:Tr.Ok Q (Good P E w0 I0 f0 Fin Q) (match iR ai E ρ m o with
        | some tv=>tv.bind o.pos fun v=>next v m
        | none=>match o.op with
          | .call {callee:=.value x,args,.. }=>match ρ x with
            | .fn g first caps=>match look E.gK g with
              | some s=>(jy ai s m (first++(args.toList.map ρ++caps))).bind o.pos fun p=>next p.1 p.2
              | none=>match look E.ki g with
                | none=>.bad 163 o.pos
                | some G=>match fY g G (first++(args.toList.map ρ++caps)) with
                  | none=>.bad 164 o.pos
                  | some h=>run ai E n {frames:=h::below::fs,mem:=m}
            | .yield l=>match m.at l with
               | .loop r=>match Nat.beq r.params.length (args.toList.map ρ).length&&r.params.all (fun p=>Nat.blt p r.n) with
                 | true=>run ai E n {frames:={fn:=r.fn,n:=r.n,env:=lX r.params (args.toList.map ρ) r.env,todo:=[.code r.assign,.beginRound,.code r.body],marks:=[],bP:=some l}::below::fs,mem:=m}
                 | false=>.bad 165 o.pos
               | _=>.bad 166 o.pos
            | _=>.bad 167 o.pos
          | _=>(kz ai E fn ρ m o).bind o.pos fun p=>next p.1 p.2)):Ends P f0 Fin Q fr frs cs w:=by
 classical
 -- operands that are not named mean nothing
 let ρ':Operand→AV:=fun x=>if x∈o.op.operands.toList then ρ x else .undef
 have hρ':∀x,CR w S m (ρ' x) (fr.eval x):=fun x=>by
  by_cases hx:x∈o.op.operands.toList
  ·simp only[ρ',if_pos hx];exact hρ x hx
  ·simp only[ρ',if_neg hx];exact cJ
 have hsame:∀x∈o.op.operands.toList,ρ x=ρ' x:=fun x hx=>by simp only[ρ',if_pos hx]
 rw[oZ hsame,wI hsame] at h
 cases hev:iR ai E ρ' m o with
 | some tv=>
   rw[hev] at h
   simp only at h
   obtain⟨v,hv,h⟩:=TV.bind_ok h
   obtain⟨z,hz,hc⟩:=pR hP.ti hW hρ' hev hv
   have hd:∀c,o.op≠.defer c:=fun c e=>by simp[iR,e] at hev
   exact .step (yC hm ht ho hw hd hz) (hnext v m w S z (.refl hW) hc h)
 | none=>
   rw[hev] at h
   simp only at h
   have other:Tr.Ok Q (Good P E w0 I0 f0 Fin Q) ((kz ai E fn ρ' m o).bind o.pos fun p=>next p.1 p.2)→Ends P f0 Fin Q fr frs cs w:=by
    intro h
    obtain⟨⟨v,m'⟩,hv,h⟩:=TV.bind_ok h
    obtain⟨nx,z,w',S',hrun,hnx,hs,hc⟩:=vW hP.ti hW hρ' hv
    have hd:∀c,o.op≠.defer c:=fun c e=>by simp[kz,e,TV.Is] at hv
    rcases hnx with rfl|⟨rfl,rfl⟩
    ·exact .step (yC hm ht ho hw hd hrun) (hnext v m' w' S' z hs hc h)
    ·exact .step (G0 hm ht ho hw hd hrun) (hnext _ m' w' S' undef hs cJ h)
   split at h
   ·rename_i x args ats hop
    have hd:∀c,o.op≠.defer c:=fun c e=>by rw[hop] at e;cases e
    have hx:CR w S m (ρ x) (fr.eval x):=hρ x (by rw[hop];simp[Op.operands,Call.operands])
    have hargs:bi w S m (args.toList.map ρ) (args.map fr.eval).toList:=by
     have e:args.toList.map ρ=args.toList.map ρ':=jr fun y hy=>hsame y (by rw[hop];simp only[Op.operands,Call.operands];simp at hy ⊢;exact .inr hy)
     rw[e];exact tZ hρ' args
    have hexec:∀nx,(do let d ←resolve fr.eval {callee:=.value x,args:=args,argTypes:=ats} o.type;invoke d.target d.args:Sem Next).run P w=.ok nx w→(execOp fr.eval o).run P w=.ok nx w:=fun nx he=>by
     simp only[execOp,hop];exact he
    cases hv:ρ x<;>rw[hv] at h hx<;>(try simp only at h)<;>try exact h.elim
    ·rename_i g first caps
     obtain⟨us,vs,hxe,hus,hvs⟩:=kL.1 hx
     have hall:bi w S m (first++(args.toList.map ρ++caps)) (us++args.map fr.eval++vs).toList:=by
      rw[Array.append_assoc,Array.toList_append,Array.toList_append]
      exact hus.append (hargs.append hvs)
     cases hsp:look E.gK g with
     | some s=>
       rw[hsp] at h
       simp only at h
       obtain⟨⟨v,m'⟩,hv,h⟩:=TV.bind_ok h
       obtain⟨F,hF,hb,hn⟩:=(hP.gK g s hsp).body
       obtain⟨w',S',z,fr',hs,hc,hsteps,hleave⟩:=nG (hP.gK g s hsp) hW hall hv (fr::(frs++cs))
       have hstep:=x8 (cs:=frs++cs) hm ht ho hw hd (hexec _ (gv hxe hF hn hb w))
       exact .steps ((Steps.head hstep hsteps).trans (.one (step_leave_returned hleave))) (hnext v m' w' S' z hs hc h)
     | none=>
       rw[hsp] at h
       simp only at h
       cases hG:look E.ki g with
       | none=>rw[hG] at h;exact h.elim
       | some G=>
         rw[hG] at h
         simp only at h
         cases hen:fY g G (first++(args.toList.map ρ++caps)) with
         | none=>rw[hen] at h;exact h.elim
         | some h'=>
           rw[hen] at h
           simp only at h
           obtain⟨hGf,hGn⟩:=hP.ki _ _ hG
           obtain⟨hfr,hbody,hnh'⟩:=jD hGf hen hall
           have hstep:=x8 (cs:=frs++cs) hm ht ho hw hd (hexec _ (gv hxe hGf hGn hbody w))
           exact .step (frs2:=fr::frs) hstep (ih _ h (dw hnh') S _ _ cs w hW hI ⟨_,_,rfl,hfr,_,_,rfl,hbelow,hfs⟩ hB)
    ·rename_i lp
     cases hml:m.at lp<;>rw[hml] at h<;>(try simp only at h)<;>try exact h.elim
     rename_i r
     have hxe:fr.eval x=.func (.yield (S.σ lp)) #[] #[]:=by
      rw[CR,hml] at hx;exact hx
     cases hok:Nat.beq r.params.length (args.toList.map ρ).length&&r.params.all (fun p=>Nat.blt p r.n) with
     | false=>rw[hok] at h;exact h.elim
     | true=>
       rw[hok] at h
       simp only at h
       rw[Bool.and_eq_true] at hok
       obtain⟨hlen,hlt⟩:=hok
       have hlen:=Nat.eq_of_beq_eq_true hlen
       have hlt:∀p∈r.params,p<r.n:=fun p hp=>by
        have:=List.all_eq_true.1 hlt p hp
        exact Nat.le_of_ble_eq_true this
       have hb:=hW.box lp
       rw[hml] at hb
       obtain⟨L,g1,g2,g3,g4,g5,g6,g7,⟨g8,g9⟩,g10⟩:=hb
       have hsz:args.size=L.params.size:=by
        have h1:L.params.size=r.params.length:=by rw[g5,List.size_toArray]
        rw[List.length_map,Array.length_toList] at hlen
        omega
       have hstep:=Ht (P:=P) (cs:=frs++cs) hm ht ho hw hd (hexec _ (tJ hxe g1 hsz))
       have hput:=uq hargs hlen hlt g8 g9 g10
       rw[rJ,g4,g5,g6,g7] at hstep
       refine .step (frs2:=fr::frs) hstep (ih _ h (dw fun a ha=>by cases ha;rfl) S _ _ cs w hW hI ⟨_,_,rfl,?_,_,_,rfl,hbelow,hfs⟩ hB)
       refine⟨rfl,hput.1,g9,fun y _=>hput.2 y,bD.code (.mk (a:=.beginRound) rfl (bD.code rfl)),?_,fun a ha=>?_,rfl,fun d hd=>absurd hd List.not_mem_nil,rfl,rfl,rfl,fun q hq=>by cases hq;rw[hml];rfl⟩
       ·exact .mk trivial (.mk trivial (.mk trivial fun a ha=>absurd ha List.not_mem_nil))
       ·simp only[List.tail_cons,List.mem_cons,List.not_mem_nil,or_false] at ha
        rcases ha with rfl|rfl<;>rfl
   ·exact other h
end
end Go.Ev
namespace Go.Ev
section
variable {P:Program} {R:Type} {E:ed R} {w0:World} {I0:Nat→Prop} {f0:FuncId} {Fin:R→Value→World→Prop} {Q:R→Prop}
variable {w:World} {S:St} {m:Mem} {fr:Frame} {fs:List aO} {frs cs:List Frame}
variable {fn:FuncId} {nn:Nat} {env:Env} {marks:List Nat} {bP:Option Nat} {k:List a_} {n:Nat}
def qm(env env':Env)(D:List Nat):Prop:=∀x,env'.at x=env.at x∨(x∈D∧∃v,env.at x=.bool false v∧env'.at x=.bool true v)
theorem qm.CR{env':Env}{D:List Nat}(h:qm env env' D){x:Nat}{v:Value}(hc:CR w S m (env.at x) v):CR w S m (env'.at x) v:=by
 rcases h x with e|⟨_,b,e1,e2⟩
 ·rw[e];exact hc
 ·rw[e1] at hc;rw[e2];exact bR.2 (bR.1 hc)
theorem FR.Ck{env':Env}{D:List Nat}{todo:List a_}(h:qm env env' D)(hf:FR w S m ⟨fn,nn,env,todo,marks,bP⟩ fr):FR w S m ⟨fn,nn,env',todo,marks,bP⟩ fr:=
 ⟨hf.fn,hf.n,hf.small,fun i hi=>h.CR (hf.env i hi),hf.todo,hf.live,hf.flat,hf.defers,hf.marks,hf.mode,hf.kind,hf.bP,hf.jl⟩
theorem BX{todo:List a_}(hf:FR w S m ⟨fn,nn,env,todo,marks,bP⟩ fr){d:Nat}{c v:Bool}(hnh:¬Hid ⟨fn,nn,env,todo,marks,bP⟩ fr d)(h:env.at d=.bool c v):d<nn:=by
 have hc:=hf.env d hnh
 rw[show(aO.env ⟨fn,nn,env,todo,marks,bP⟩).at d=.bool c v from h] at hc
 have hc:=bR.1 hc
 rcases Nat.lt_or_ge d nn with h'|h'
 ·exact h'
 ·rw[Array.getD_eq_getD_getElem?,Array.getElem?_eq_none (by rw[hf.n];exact h')] at hc;cases hc
theorem Eh(hP:Fits P E Fin w0 I0)(ih:∀c,Tr.Ok Q (Good P E w0 I0 f0 Fin Q) (run ai E n c)→Good P E w0 I0 f0 Fin Q c){all:Array Oper}{o:Oper}{rest:List Oper}
  (h:Tr.Ok Q (Good P E w0 I0 f0 Fin Q) (run ai E (n+1) {frames:=⟨fn,nn,env,.ops all (o::rest)::k,marks,bP⟩::fs,mem:=m}))
  (hW:WR w0 w S m) (hI:∀b,S.I b→I0 b∨w0.heap.size≤b) (hf:FR w S m ⟨fn,nn,env,.ops all (o::rest)::k,marks,bP⟩ fr) (hfs:rq w S m fs frs) (hB:pg f0 (⟨fn,nn,env,.ops all (o::rest)::k,marks,bP⟩::fs)) :
  Ends P f0 Fin Q fr frs cs w:=by
 have hnh:∀{env:Env} y,¬Hid ⟨fn,nn,env,.ops all (o::rest)::k,marks,bP⟩ fr y:=fun y=>fw fun a ha=>by cases ha;rfl
 obtain⟨it,kc,ht,h1,h2⟩:=hf.todo.cons_inv
 obtain⟨l,rfl,hl⟩:∃l:List Nat,it=.inRegion all l∧l.map (fun i=>all[i]?)=(o::rest).map some:=h1
 cases l with
 | nil=>cases hl
 | cons i l=>
   simp only[List.map_cons,List.cons.injEq] at hl
   simp only[run] at h
   cases hd:gf nn o.dst with
   | false=>rw[hd] at h;exact h.elim
   | true=>
     rw[hd] at h
     simp only at h
     obtain⟨env',hre,h⟩:=rh h fun d _ c v e=>by have:=BX hf (hnh d) e;have:nn≤65535:=hf.small;omega
     have hf':=hf.Ck (D:=cn all o) hre
     have hw:∀{t:Bool},cX all env' o t→Region.wanted o (yielded all fr.tmps)=t:=fun hg=>il hg fun d _=>hf'.env d (hnh d)
     have goes:∀{v:AV} {m':Mem} {w':World} {S':St} {z:Value},Step w0 w S m w' S' m'→CR w' S' m' v z→
       Tr.Ok Q (Good P E w0 I0 f0 Fin Q) (run ai E n {frames:=⟨fn,nn,env'.fj o.dst v,.ops all rest::k,marks,bP⟩::fs,mem:=m'})→Ends P f0 Fin Q (fr.finish z) frs cs w':=fun hs hc h=>
      ih _ h (dw fun a ha=>by cases ha;rfl) _ _ _ cs _ hs.wr (fun b hb=>(hs.grows b hb).elim (hI b) .inr) ⟨_,_,rfl,qY (hf'.mono hs.out) hd hc,hfs.mono hs.out⟩ (hB.swap rfl)
     rcases h with ⟨hg,h⟩|⟨hg,h⟩
     ·exact yX (fn:=fn) (ρ:=eT env') (below:=⟨fn,nn,env',.ops all (o::rest)::k,marks,bP⟩) (next:=fun v m=>run ai E n {frames:=⟨fn,nn,env'.fj o.dst v,.ops all rest::k,marks,bP⟩::fs,mem:=m})
       hP ih hW hI hfs (hB.swap rfl) hf.mode ht hl.1 (hw hg) (fun x _=>nA hf' x fun t _=>hnh t) hf' (fun v m' w' S' z hs hc h=>goes hs hc h) h
     ·exact .step (ub hf.mode ht hl.1 (hw hg)) (goes (.refl hW) (gm.2 ⟨#[],rfl,bw.2 rfl⟩) h)
end
end Go.Ev
namespace Go.Ev
theorem uo(e:Edge):Region.binds .any e=iw e:=by
 obtain⟨on,g⟩:=e
 cases g<;>rfl
theorem kF:∀{os:List Oper} {k i:Nat} {o:Oper},fJ k os=true→os[i]? = some o→∀e∈o.after.toList,iw e=true→e.on<k+i
 | [],k,i,o,_,h=>by simp at h
 | p::os,k,i,o,he,h=>by
   rw[fJ,Bool.and_eq_true] at he
   cases i with
   | zero=>
     cases h
     intro e hm hb
     have:=List.all_eq_true.1 he.1 e hm
     rw[hb] at this
     simp at this
     omega
   | succ i=>
     intro e hm hb
     have:=kF he.2 (by simpa using h) e hm hb
     omega
theorem i7{all:Array Oper}{i j:Nat}:j∈fu all i↔∃o e,all[i]? = some o∧e∈o.after.toList∧iw e=true∧e.on=j:=by
 unfold fu
 cases h:all[i]? with
 | none=>simp
 | some o=>simp[and_assoc]
theorem pred_lt{all:Array Oper}(h:fJ 0 all.toList=true){i j:Nat}(hj:j∈fu all i):j<i:=by
 obtain⟨o,e,h1,h2,h3,rfl⟩:=i7.1 hj
 have:=kF h (by rw[Array.getElem?_toList];exact h1) e h2 h3
 omega
structure Hw(all:Array Oper)(acc:List Nat):Prop where
 nodup:acc.Nodup
 lt:∀i∈acc,i<all.size
 FM:∀i∈acc,∀j∈fu all i,j∈acc
 pw:acc.Pairwise fun i j=>i ∉ fu all j
theorem Hw.lin{all:Array Oper}{acc:List Nat}(h:Hw all acc)(he:fJ 0 all.toList=true)(hc:∀i,i<all.size→i∈acc):DW all acc.reverse∧∀i,i<all.size→i∈acc.reverse:=
 ⟨⟨List.pairwise_reverse.2 (h.nodup.imp Ne.symm),fun i hi=>h.lt i (List.mem_reverse.1 hi),List.pairwise_reverse.2 h.pw,fun i _ hp=>Nat.lt_irrefl _ (pred_lt he hp),
  fun k hk hn=>absurd (List.mem_reverse.2 (hc k hk)) hn⟩,fun i hi=>List.mem_reverse.2 (hc i hi)⟩
theorem uh{all:Array Oper}{listed:Array Bool}{acc:List Nat}(hl:listed.size=all.size)(hm:∀i,i<all.size→(listed.getD i false=true↔i∈acc))(hlt:∀i∈acc,i<all.size){i:Nat}(hi:i<all.size) :
  (!listed.getD i true&&((all[i]?).map (·.after.all fun e=>!Region.binds .any e||listed.getD e.on false)).getD false)=true↔i ∉ acc∧∀j∈fu all i,j∈acc:=by
 have h1:listed.getD i true=listed.getD i false:=by
  simp only[Array.getD_eq_getD_getElem?,Array.getElem?_eq_getElem (by omega:i<listed.size),Option.getD_some]
 have h2:∀j,listed.getD j false=true↔j∈acc:=fun j=>by
  by_cases hj:j<all.size
  ·exact hm j hj
  ·rw[Array.getD_eq_getD_getElem?,Array.getElem?_eq_none (by omega)]
   exact⟨fun h=>(by cases h),fun h=>absurd (hlt j h) hj⟩
 rw[h1,Bool.and_eq_true,Bool.not_eq_true',Array.getElem?_eq_getElem hi]
 simp only[Option.map_some,Option.getD_some,Array.all_eq_true',Bool.or_eq_true,Bool.not_eq_true']
 constructor
 ·rintro ⟨h3,h4⟩
  refine⟨fun h=>(by rw[(h2 i).2 h] at h3;cases h3),fun j hj=>?_⟩
  obtain⟨o,e,e1,e2,e3,rfl⟩:=i7.1 hj
  rw[Array.getElem?_eq_getElem hi] at e1
  cases e1
  rcases h4 e (by simpa using e2) with h5|h5
  ·rw[uo,e3] at h5;cases h5
  ·exact(h2 _).1 h5
 ·rintro ⟨h3,h4⟩
  refine⟨?_,fun e he=>?_⟩
  ·cases h:listed.getD i false with
   | false=>rfl
   | true=>exact absurd ((h2 i).1 h) h3
  ·cases hb:Region.binds .any e with
   | false=>exact .inl rfl
   | true=>exact .inr ((h2 _).2 (h4 _ (i7.2 ⟨_,e,Array.getElem?_eq_getElem hi,by simpa using he,by rw[←uo];exact hb,rfl⟩)))
theorem nM{all:Array Oper}(he:fJ 0 all.toList=true):∀(fuel t:Nat) (listed:Array Bool) (acc:List Nat),listed.size=all.size→(∀i,i<all.size→(listed.getD i false=true↔i∈acc))→Hw all acc→
  ((List.range all.size).filter fun i=>decide (i ∉ acc)).length≤fuel→DW all (Region.linearise.go .any all fuel t listed acc)∧∀i,i<all.size→i∈Region.linearise.go .any all fuel t listed acc
 | 0,t,listed,acc,hl,hm,hP,hf=>by
   rw[Region.linearise.go]
   refine hP.lin he fun i hi=>?_
   have:(List.range all.size).filter (fun i=>decide (i ∉ acc))=[]:=List.length_eq_zero_iff.1 (by omega)
   have:=List.filter_eq_nil_iff.1 this i (List.mem_range.2 hi)
   simpa using this
 | fuel+1,t,listed,acc,hl,hm,hP,hf=>by
   rw[Region.linearise.go]
   split
   ·rename_i i hi
    have hmem:=List.mem_of_getElem? hi
    obtain⟨h1,h2⟩:=List.mem_filter.1 hmem
    have hin:=List.mem_range.1 h1
    obtain⟨h3,h4⟩:=(uh hl hm hP.lt hin).1 h2
    refine nM he fuel _ _ _ (by simp[hl]) (fun j hj=>?_) ⟨List.nodup_cons.2 ⟨h3,hP.nodup⟩,fun j hj=>?_,fun j hj k hk=>?_,List.pairwise_cons.2 ⟨fun j hj hp=>h3 (hP.FM j hj i hp),hP.pw⟩⟩ ?_
    ·simp only[Array.getD_eq_getD_getElem?,Array.getElem?_setIfInBounds]
     by_cases hji:i=j
     ·subst hji;simp[hl,hin]
     ·rw[if_neg hji,←Array.getD_eq_getD_getElem?,hm j hj,List.mem_cons]
      exact⟨.inr,fun h=>h.elim (fun e=>absurd e.symm hji) id⟩
    ·rcases List.mem_cons.1 hj with rfl|hj
     ·exact hin
     ·exact hP.lt j hj
    ·rcases List.mem_cons.1 hj with rfl|hj
     ·exact List.mem_cons_of_mem _ (h4 k hk)
     ·exact List.mem_cons_of_mem _ (hP.FM j hj k hk)
    ·have e:(List.range all.size).filter (fun j=>decide (j ∉ i::acc))=((List.range all.size).filter fun j=>decide (j ∉ acc)).filter fun j=>decide (j≠i):=by
      rw[List.filter_filter]
      refine List.filter_congr fun j _=>?_
      simp[List.mem_cons,not_or]
     rw[e]
     have:(((List.range all.size).filter fun j=>decide (j ∉ acc)).filter fun j=>decide (j≠i)).length<((List.range all.size).filter fun j=>decide (j ∉ acc)).length:=
      List.length_filter_lt_length_iff_exists.2 ⟨i,List.mem_filter.2 ⟨h1,by simpa using h3⟩,by simp⟩
     omega
   ·rename_i hn
    refine hP.lin he fun i hi=>?_
    -- the least that is not listed could go
    have key:∀i,i<all.size→i∈acc:=fun i=>by
     induction i using Nat.strongRecOn with
     | ind i ihi=>
       intro hi
       by_cases hia:i∈acc
       ·exact hia
       ·have hr:=(uh hl hm hP.lt hi).2 ⟨hia,fun j hj=>ihi j (pred_lt he hj) (by have:=pred_lt he hj;omega)⟩
        have hmem:=List.mem_filter (p:=fun i=>!listed.getD i true&&((all[i]?).map (·.after.all fun e=>!Region.binds .any e||listed.getD e.on false)).getD false) |>.2 ⟨List.mem_range.2 hi,hr⟩
        have hpos:=List.length_pos_of_mem hmem
        exact absurd (List.getElem?_eq_none_iff.1 hn) (by have:=Nat.mod_lt t hpos;omega)
    exact key i hi
theorem uR{all:Array Oper}(he:fJ 0 all.toList=true)(t:Nat):DW all (Region.schedule true all t)∧∀i,i<all.size→i∈Region.schedule true all t:=by
 unfold Region.schedule
 rw[Bool.true_or,if_pos rfl]
 unfold Region.linearise
 refine nM he _ _ _ _ (by simp) (fun i hi=>?_) ⟨List.nodup_nil,fun _ h=>absurd h List.not_mem_nil,fun _ h=>absurd h List.not_mem_nil,.nil⟩ ?_
 ·simp[Array.getD_eq_getD_getElem?,hi]
 ·have:=List.length_filter_le (fun i=>decide (i ∉ ([]:List Nat))) (List.range all.size)
  rw[List.length_range] at this
  exact this
theorem lY{ms:List Nat}{b:Nat}:∀{es:List Edge},(eZ ms es).testBit b=true→∃e∈es,iw e=true∧(b=e.on∨(ms.getD e.on 0).testBit b=true)
 | [],h=>by simp[eZ] at h
 | e::es,h=>by
   simp only[eZ] at h
   cases hb:iw e with
   | false=>
     rw[hb] at h
     obtain⟨e',h1,h2⟩:=lY h
     exact⟨e',List.mem_cons_of_mem _ h1,h2⟩
   | true=>
     rw[hb] at h
     simp only[Nat.testBit_or,Bool.or_eq_true] at h
     rcases h with (h|h)|h
     ·exact⟨e,List.mem_cons_self,hb,.inl (by
       rw[Nat.testBit_two_pow] at h
       simpa [eq_comm] using h)⟩
     ·exact⟨e,List.mem_cons_self,hb,.inr h⟩
     ·obtain⟨e',h1,h2⟩:=lY h
      exact⟨e',List.mem_cons_of_mem _ h1,h2⟩
theorem kG:∀{os:List Oper} {ms:List Nat} {j:Nat},j<ms.length→(eU os ms).getD j 0=ms.getD j 0
 | [],ms,j,_=>by rw[eU]
 | o::os,ms,j,h=>by
   rw[eU,kG (by simp;omega)]
   rw[List.getD_eq_getElem?_getD,List.getD_eq_getElem?_getD,List.getElem?_append_left h]
theorem o8:∀{os:List Oper} {ms:List Nat} {i:Nat} {o:Oper},os[i]? = some o→(∀e∈o.after.toList,iw e=true→e.on<ms.length+i)→(eU os ms).getD (ms.length+i) 0=eZ (eU os ms) o.after.toList
 | [],ms,i,o,h,_=>by simp at h
 | p::os,ms,i,o,h,he=>by
   rw[eU]
   have hlen:(ms ++ [eZ ms p.after.toList]).length=ms.length+1:=by simp
   cases i with
   | zero=>
     cases h
     rw[Nat.add_zero,kG (by omega)]
     have:(ms ++ [eZ ms p.after.toList]).getD ms.length 0=eZ ms p.after.toList:=by
      rw[List.getD_eq_getElem?_getD,List.getElem?_append_right (Nat.le_refl _),Nat.sub_self];rfl
     rw[this]
     have hpre:∀j,j<ms.length→(eU os (ms ++ [eZ ms p.after.toList])).getD j 0=ms.getD j 0:=fun j hj=>by
      rw[kG (by omega),List.getD_eq_getElem?_getD,List.getD_eq_getElem?_getD,List.getElem?_append_left hj]
     have key:∀es:List Edge,(∀e∈es,iw e=true→e.on<ms.length)→eZ ms es=eZ (eU os (ms ++ [eZ ms p.after.toList])) es:=fun es=>by
      induction es with
      | nil=>intro _;rfl
      | cons e es ih=>
        intro hh
        simp only[eZ]
        rw[ih fun e' h'=>hh e' (List.mem_cons_of_mem _ h')]
        cases hb:iw e with
        | false=>rfl
        | true=>simp only;rw[hpre _ (hh e List.mem_cons_self hb)]
     exact key _ he
   | succ i=>
     have:=o8 (os:=os) (ms:=ms ++ [eZ ms p.after.toList]) (i:=i) (o:=o) (by simpa using h) (fun e hm hb=>by have:=he e hm hb;omega)
     rw[hlen] at this
     rw[←this]
     congr 1
     omega
theorem Au{all:Array Oper}{l:List Nat}(he:fJ 0 all.toList=true)(hL:DW all l):∀{i b:Nat},i<all.size→(∀j∈fu all i,j ∉ l)→((eU all.toList []).getD i 0).testBit b=true→b ∉ l:=by
 intro i
 induction i using Nat.strongRecOn with
 | ind i ihi=>
   intro b hi hp hb
   obtain⟨o,ho⟩:∃o,all[i]? = some o:=⟨_,Array.getElem?_eq_getElem hi⟩
   have ho':all.toList[i]? = some o:=by rw[Array.getElem?_toList];exact ho
   have hedge:=kF he ho'
   have:=o8 (ms:=[]) ho' (fun e hm h=>by have:=hedge e hm h;simpa using this)
   rw[List.length_nil,Nat.zero_add] at this
   rw[this] at hb
   obtain⟨e,h1,h2,h3⟩:=lY hb
   have hj:e.on∈fu all i:=i7.2 ⟨o,e,ho,h1,h2,rfl⟩
   have hlt:=pred_lt he hj
   rcases h3 with rfl|h3
   ·exact hp _ hj
   ·exact ihi e.on hlt (by omega) (hL.closed e.on (by omega) (hp _ hj)) h3
theorem DW.Ay{all:Array Oper}{i:Nat}{l:List Nat}(h:DW all (i::l)):∀j∈fu all i,j ∉ i::l:=fun j hj hm=>by
 rcases List.mem_cons.1 hm with rfl|hm
 ·exact h.self j List.mem_cons_self hj
 ·exact(List.pairwise_cons.1 h.pw).1 j hm hj
theorem cY.done{n:Nat}{all:Array Oper}{ms rest bs l:List Nat}{i b:Nat}(h:cY n all ms rest bs (i::l))(hb:(ms.getD i 0).testBit b=true):b ∉ i::l:=by
 rw[h.I7] at hb
 exact Au h.vM h.lin (h.lin.lt i List.mem_cons_self) h.lin.Ay hb
end Go.Ev
namespace Go.Ev
section
variable {P:Program} {R:Type} {E:ed R} {w0:World} {I0:Nat→Prop} {f0:FuncId} {Fin:R→Value→World→Prop} {Q:R→Prop}
variable {w:World} {S:St} {m:Mem} {fr:Frame} {fs:List aO} {frs cs:List Frame}
variable {fn:FuncId} {nn:Nat} {env:Env} {marks:List Nat} {bP:Option Nat} {k:List a_} {n:Nat}
theorem AL{a b:AV}{z:Value}(h:fK a b)(hc:CR w S m a z):CR w S m b z:=by
 unfold fK at h
 split at h
 ·subst h;exact bR.2 (bR.1 hc)
 ·obtain⟨rfl,rfl⟩:=h;exact bg.2 (bg.1 hc)
 ·subst h;exact hc
theorem vk{A:cH}{s:aH}{aa:List AV}{v:AV}{m':Mem}(hp:ic (aa.flatMap AV.cells)=true)(h:(jy A s m aa).Is (v,m')):m'=m:=by
 unfold jy at h
 cases hok:gq s.args aa with
 | false=>rw[hok] at h;exact h.elim
 | true=>
   rw[hok,rA hp] at h
   simp only at h
   cases htd:oy s.args (aa.flatMap AV.cells) with
   | none=>rw[htd] at h;exact h.elim
   | some q=>
     obtain⟨x,r⟩:=q
     rw[htd] at h
     cases r with
     | cons _ _=>exact h.elim
     | nil=>obtain⟨_,h⟩:=h;cases h;rfl
theorem ED(hP:Fits P E Fin w0 I0){all:Array Oper}{i:Nat}{l:List Nat}{kc:List Item}{o:Oper}{ρ:Operand→AV}{tv:TV AV}{v:AV}(hW:WR w0 w S m)(hm:fr.mode=.run)
  (ht:fr.todo=.inRegion all (i::l)::kc) (ho:all[i]? = some o) (hw:Region.wanted o (yielded all fr.tmps)=true) (hρ:∀x∈o.op.operands.toList,CR w S m (ρ x) (fr.eval x))
  (h:DX ai E m ρ o=some tv) (hv:tv.Is v) (cs:List Frame):∃w' S' z,Step w0 w S m w' S' m∧CR w' S' m v z∧Steps P (lone fr cs w) (lone (fr.finish z) cs w'):=by
 classical
 let ρ':Operand→AV:=fun x=>if x∈o.op.operands.toList then ρ x else .undef
 have hρ':∀x,CR w S m (ρ' x) (fr.eval x):=fun x=>by
  by_cases hx:x∈o.op.operands.toList
  ·simp only[ρ',if_pos hx];exact hρ x hx
  ·simp only[ρ',if_neg hx];exact cJ
 have hsame:∀x∈o.op.operands.toList,ρ x=ρ' x:=fun x hx=>by simp only[ρ',if_pos hx]
 rw[oh hsame] at h
 unfold DX at h
 cases hev:iR ai E ρ' m o with
 | some tv'=>
   rw[hev] at h
   cases h
   obtain⟨z,hz,hc⟩:=pR hP.ti hW hρ' hev hv
   have hd:∀c,o.op≠.defer c:=fun c e=>by simp[iR,e] at hev
   exact⟨w,S,z,.refl hW,hc,.one (yC hm ht ho hw hd hz)⟩
 | none=>
   rw[hev] at h
   simp only at h
   unfold np at h
   cases hop:o.op<;>rw[hop] at h<;>(try simp only at h)<;>try (cases h;done)
   rename_i c
   obtain⟨callee,args,ats⟩:=c
   cases callee<;>simp only at h<;>try (cases h;done)
   rename_i x
   have hd:∀c,o.op≠.defer c:=fun c e=>by rw[hop] at e;cases e
   have hx:=hρ' x
   have hargs:bi w S m (args.toList.map ρ') (args.map fr.eval).toList:=tZ hρ' args
   have hexec:∀nx,(do let d ←resolve fr.eval {callee:=.value x,args:=args,argTypes:=ats} o.type;invoke d.target d.args:Sem Next).run P w=.ok nx w→(execOp fr.eval o).run P w=.ok nx w:=fun nx he=>by
    simp only[execOp,hop];exact he
   cases hvx:ρ' x<;>rw[hvx] at h hx<;>(try simp only at h)<;>try (cases h;done)
   rename_i g first caps
   obtain⟨us,vs,hxe,hus,hvs⟩:=kL.1 hx
   have hall:bi w S m (first++(args.toList.map ρ'++caps)) (us++args.map fr.eval++vs).toList:=by
    rw[Array.append_assoc,Array.toList_append,Array.toList_append]
    exact hus.append (hargs.append hvs)
   cases hsp:look E.gK g with
   | none=>rw[hsp] at h;cases h
   | some s=>
     rw[hsp] at h
     simp only at h
     cases hpl:ic ((first++(args.toList.map ρ'++caps)).flatMap AV.cells) with
     | false=>rw[hpl] at h;cases h
     | true=>
       rw[hpl] at h
       cases h
       obtain⟨⟨v',m'⟩,hv1,rfl⟩:=TV.rQ hv
       obtain rfl:=vk hpl hv1
       obtain⟨F,hF,hb,hn⟩:=(hP.gK g s hsp).body
       obtain⟨w',S',z,fr',hs,hc,hsteps,hleave⟩:=nG (hP.gK g s hsp) hW hall hv1 (fr::cs)
       have hstep:=x8 (cs:=cs) hm ht ho hw hd (hexec _ (gv hxe hF hn hb w))
       exact⟨w',S',z,hs,hc,(Steps.head hstep hsteps).trans (.one (step_leave_returned hleave))⟩
theorem l5{t:Nat}:∀{l:List Operand},Operand.tmp t∈l→t∈tmpsOf l
 | x::l,h=>by
   rcases List.mem_cons.1 h with rfl|h'
   ·exact List.mem_cons_self
   ·cases x<;>simp only[tmpsOf]
    ·exact List.mem_cons_of_mem _ (l5 h')
    all_goals exact l5 h'
theorem jG{all:Array Oper}{o:Oper}{t:Nat}(h:Operand.tmp t∈o.op.operands.toList):t∈readsOf all o:=List.mem_append.2 (.inl (l5 h))
theorem fD{all:Array Oper}{o:Oper}{t:Nat}(h:t∈cn all o):t∈readsOf all o:=List.mem_append.2 (.inr h)
theorem mz{all:Array Oper}{ms rest bs l:List Nat}{i:Nat}{kc:List Item}{o:Oper}{f:aO}(hD:cY nn all ms rest bs (i::l))(hf:f.todo.head?.bind a_.drawn=some (all,bs))(ht:fr.todo=.inRegion all (i::l)::kc)
  (hro:∀b∈bs,i≠b→∀p d,all[b]? = some p→p.dst=some d→d∈readsOf all o→(ms.getD i 0).testBit b=true) (hown:i∈bs→∀d,∀p,all[i]? = some p→p.dst=some d→d ∉ readsOf all o) {t:Nat} (hr:t∈readsOf all o):¬Hid f fr t:=by
 rintro ⟨all',bs',l',k',b,p,e1,e2,e3,e4,e5,e6⟩
 rw[hf] at e1
 cases e1
 rw[ht] at e2
 cases e2
 by_cases hib:i=b
 ·subst hib;exact hown e3 t p e5 e6 hr
 ·exact hD.done (hro b e3 hib p t e5 e6 hr) e4
theorem cY.drop{all:Array Oper}{ms rest bs l:List Nat}{i:Nat}(h:cY nn all ms rest bs (i::l))(hi:i ∉ rest):cY nn all ms rest bs l:=by
 refine⟨h.I7,h.vM,h.lin.tail,h.nodup,fun j hj=>?_,fun j hj=>h.IL j (List.mem_cons_of_mem _ hj),h.lt,h.read,h.dst,h.own,h.Ko,h.HZ⟩
 rcases List.mem_cons.1 (h.sub j hj) with rfl|hm
 ·exact absurd hj hi
 ·exact hm
theorem q9(hP:Fits P E Fin w0 I0){all:Array Oper}{ms rest bs:List Nat}(cs:List Frame)(hst:∀b∈bs,s8 E env m all b):∀(l:List Nat) {w:World} {S:St} {fr:Frame} {kc:List Item},WR w0 w S m→FR w S m ⟨fn,nn,env,.dq all ms rest bs::k,marks,bP⟩ fr→
  fr.todo=.inRegion all l::kc→cY nn all ms rest bs l→bD nn S k kc→
  ∃w' S' fr' l' kc',Step w0 w S m w' S' m∧FR w' S' m ⟨fn,nn,env,.dq all ms rest bs::k,marks,bP⟩ fr'∧Steps P (lone fr cs w) (lone fr' cs w')∧fr'.todo=.inRegion all l'::kc'∧cY nn all ms rest bs l'∧bD nn S' k kc'∧(∀i,l'.head? = some i→i∈rest)∧fr'.fn=fr.fn
 | [],w,S,fr,kc,hW,hf,ht,hD,hk=>⟨w,S,fr, [],kc,.refl hW,hf,.refl _ _,ht,hD,hk,fun i h=>(by cases h),rfl⟩
 | i::l,w,S,fr,kc,hW,hf,ht,hD,hk=>by
   by_cases hir:i∈rest
   ·exact⟨w,S,fr,i::l,kc,.refl hW,hf,.refl _ _,ht,hD,hk,fun j h=>(by cases h;exact hir),rfl⟩
   ·have hib:i∈bs:=(hD.IL i List.mem_cons_self).resolve_left hir
    obtain⟨o,ho,hg⟩:=hst i hib
    have hnh:∀{t:Nat},t∈readsOf all o→¬Hid ⟨fn,nn,env,.dq all ms rest bs::k,marks,bP⟩ fr t:=fun hr=>
     mz hD rfl ht (fun b hb hne p d hp hd hr=>hD.read i hib b hb hne o p d ho hp hd hr) (fun _ d p hp hd=>by rw[ho] at hp;cases hp;exact hD.own i hib o d ho hd) hr
    have hop:∀x∈o.op.operands.toList,CR w S m (eT env x) (fr.eval x):=fun x hx=>nA hf x fun t e=>hnh (by subst e;exact jG hx)
    have hwant:∀{t:Bool},cX all env o t→Region.wanted o (yielded all fr.tmps)=t:=fun hg=>il hg fun d hd=>hf.env d (hnh (fD hd))
    have hdok:=hD.HZ i hib o ho
    -- one operation,then on
    have main:∀{w1:World} {S1:St} {v:AV} {z:Value},Step w0 w S m w1 S1 m→CR w1 S1 m v z→jC env o.dst v→Steps P (lone fr cs w) (lone (fr.finish z) cs w1)→
      ∃w' S' fr' l' kc',Step w0 w S m w' S' m∧FR w' S' m ⟨fn,nn,env,.dq all ms rest bs::k,marks,bP⟩ fr'∧Steps P (lone fr cs w) (lone fr' cs w')∧fr'.todo=.inRegion all l'::kc'∧cY nn all ms rest bs l'∧bD nn S' k kc'∧(∀i,l'.head? = some i→i∈rest)∧fr'.fn=fr.fn:=by
     intro w1 S1 v z hs hc hsd hsteps
     have hD':=hD.drop hir
     have hf1:=hf.mono hs.out
     have hk1:=bD.mono hs.out hf.live.tail hk
     have hfin:=jc (z:=z) ht ho
     rw[hfin] at hsteps
     have hf2:FR w1 S1 m ⟨fn,nn,env,.dq all ms rest bs::k,marks,bP⟩ {fr with tmps:=tK fr.tmps o.dst z,todo:=.inRegion all l::kc}:=by
      refine⟨hf1.fn,oB.trans hf1.n,hf1.small,fun x hx=>?_,.mk (a:=.dq all ms rest bs) ⟨l,rfl,hD'⟩ hk1,hf1.live,hf1.flat,hf1.defers,hf1.marks,hf1.mode,hf1.kind,hf1.bP,hf1.jl⟩
      show CR w1 S1 m (env.at x) ((tK fr.tmps o.dst z).getD x undef)
      rw[wR (by rw[hf.n];exact hdok)]
      by_cases hdx:o.dst=some x
      ·rw[if_pos hdx]
       rw[hdx] at hsd
       exact AL hsd hc
      ·rw[if_neg hdx]
       refine hf1.env x fun hh=>hx ?_
       obtain⟨all',bs',l',k',b,p,e1,e2,e3,e4,e5,e6⟩:=hh
       cases e1
       rw[ht] at e2
       cases e2
       rcases List.mem_cons.1 e4 with rfl|e4
       ·rw[ho] at e5;cases e5;exact absurd e6 hdx
       ·exact⟨all,bs,l,kc,b,p,rfl,rfl,e3,e4,e5,e6⟩
     obtain⟨w',S',fr',l',kc',g1,g2,g3,g4,g5,g6,g7,g8⟩:=q9 hP cs hst l hs.wr hf2 rfl hD' hk1
     exact⟨w',S',fr',l',kc',hs.trans g1,g2,hsteps.trans g3,g4,g5,g6,g7,g8⟩
    rcases hg with ⟨hg,hsd⟩|⟨hg,tv,v,hev,hv,hsd⟩
    ·exact main (.refl hW) (gm.2 ⟨#[],rfl,bw.2 rfl⟩) hsd (.one (ub hf.mode ht ho (hwant hg)))
    ·obtain⟨w1,S1,z,hs,hc,hsteps⟩:=ED hP hW hf.mode ht ho (hwant hg) hop hev hv cs
     exact main hs hc hsd hsteps
end
end Go.Ev
namespace Go.Ev
theorem gI:∀{l:List Nat} {n:Nat},rf l n=true↔n∈l
 | [],n=>by simp[rf]
 | i::l,n=>by
   rw[rf]
   by_cases h:i=n
   ·subst h;rw[bG.2 rfl];simp
   ·rw[bE.2 h,gI,List.mem_cons]
    exact⟨.inr,fun h'=>h'.elim (fun e=>absurd e.symm h) id⟩
theorem uu:∀{l:List Nat},nodupB l=true→l.Nodup
 | [],_=>List.nodup_nil
 | i::l,h=>by
   rw[nodupB,Bool.and_eq_true,Bool.not_eq_true'] at h
   refine List.nodup_cons.2 ⟨fun hm=>?_,uu h.2⟩
   rw[gI.2 hm] at h
   cases h.1
theorem vm{gK:List (FuncId×aH)}{os:Array Oper}{ms is:List Nat}(h:gk gK os=some (ms,is)) :
  ms=eU os.toList []∧fJ 0 os.toList=true∧is.Nodup∧(∀i∈is,i<os.size)∧∀i,i<os.size→i∈is:=by
 unfold gk at h
 simp only at h
 split at h
 ·rename_i hc
  cases h
  rw[Bool.and_eq_true,Bool.and_eq_true,Bool.and_eq_true] at hc
  obtain⟨h1,h2,h3,h4⟩:=hc
  refine⟨rfl,h1,uu h2,fun i hi=>Nat.le_of_ble_eq_true (List.all_eq_true.1 h3 i hi),fun i hi=>gI.1 (List.all_eq_true.1 h4 i (List.mem_range.2 hi))⟩
 ·cases h
theorem o4(v:AV):fK v v:=by cases v<;>simp[fK]
theorem wQ{v:AV}{b:Bool}(h:fK v (.bool false b)):fK v (.bool true b):=by
 cases v<;>simp[fK] at h ⊢
 exact h
section
variable {P:Program} {R:Type} {E:ed R} {w0:World} {I0:Nat→Prop} {f0:FuncId} {Fin:R→Value→World→Prop} {Q:R→Prop}
variable {w:World} {S:St} {m:Mem} {fr:Frame} {fs:List aO} {frs cs:List Frame}
variable {fn:FuncId} {nn:Nat} {env:Env} {marks:List Nat} {bP:Option Nat} {k:List a_} {n:Nat}
theorem Aw{G:iH→Prop}{all:Array Oper}{bs:List Nat}{o:Oper}{yes no:Env→Tr R}(h:Tr.Ok Q G (xI all bs env o yes no))(hs:∀d∈cn all o,∀c v,env.at d=.bool c v→d≤65535) :
  ∃env':Env,qm env env' (cn all o)∧((∀x,env'.at x=env.at x)∨∀d∈cn all o,lb all bs d=true)∧((cX all env' o true∧Tr.Ok Q G (yes env'))∨(cX all env' o false∧Tr.Ok Q G (no env'))):=by
 unfold xI at h
 cases hk:gi all env o with
 | some t=>
   rw[hk] at h
   refine⟨env,fun _=>.inl rfl,.inl fun _=>rfl,?_⟩
   cases t with
   | true=>exact .inl ⟨gy hk,h⟩
   | false=>exact .inr ⟨gy hk,h⟩
 | none=>
   rw[hk] at h
   simp only at h
   split at h
   ·rename_i d hd
    cases hn:lb all bs d with
    | false=>rw[hn] at h;exact h.elim
    | true=>
      rw[hn] at h
      obtain⟨env',h1,h2⟩:=rh h hs
      exact⟨env',h1,.inr fun x hx=>by rw[hd] at hx;rw[List.mem_singleton.1 hx];exact hn,h2⟩
   ·exact h.elim
theorem cX.congr{all:Array Oper}{env':Env}{o:Oper}{t:Bool}(h:cX all env o t)(he:∀x∈cn all o,env'.at x=env.at x):cX all env' o t:=by
 unfold cX at h ⊢
 unfold cn at he
 cases hg:o.guard with
 | none=>rw[hg] at h;exact h
 | some q=>
   obtain⟨j,want⟩:=q
   rw[hg] at h he
   simp only at h he ⊢
   obtain⟨p,d,hp,hd,h⟩:=h
   rw[hp] at he
   simp only[hd] at he
   refine⟨p,d,hp,hd,?_⟩
   rw[he d List.mem_cons_self]
   exact h
theorem rZ{env':Env}{x:Operand}(h:∀t,x=.tmp t→env'.at t=env.at t):eT env' x=eT env x:=by
 cases x with
 | tmp t=>exact h t rfl
 | const v=>rfl
 | global g=>rfl
 | func f=>rfl
theorem s8.congr{all:Array Oper}{env':Env}{b:Nat}(h:s8 E env m all b)(he:∀o,all[b]? = some o→(∀x∈readsOf all o,env'.at x=env.at x)∧∀v d,o.dst=some d→fK v (env.at d)→fK v (env'.at d)):s8 E env' m all b:=by
 obtain⟨o,ho,h⟩:=h
 obtain⟨h1,h2⟩:=he o ho
 have hd:∀v,jC env o.dst v→jC env' o.dst v:=fun v hv=>by
  cases hod:o.dst with
  | none=>trivial
  | some d=>rw[hod] at hv;exact h2 v d hod hv
 refine⟨o,ho,?_⟩
 rcases h with ⟨hg,hs⟩|⟨hg,tv,v,hev,hv,hs⟩
 ·exact .inl ⟨hg.congr fun x hx=>h1 x (fD hx),hd _ hs⟩
 ·refine .inr ⟨hg.congr fun x hx=>h1 x (fD hx),tv,v,?_,hv,hd _ hs⟩
  rw[←hev]
  exact oh fun x hx=>rZ fun t e=>h1 t (by subst e;exact jG hx)
theorem qI(hP:Fits P E Fin w0 I0){id:Nat}{os:Array Oper}{ms is:List Nat}(hd:gk E.gK os=some (ms,is))
  (hg:Good P E w0 I0 f0 Fin Q {frames:=⟨fn,nn,env,.dq os ms is []::k,marks,bP⟩::fs,mem:=m})
  (hW:WR w0 w S m) (hI:∀b,S.I b→I0 b∨w0.heap.size≤b) (hf:FR w S m ⟨fn,nn,env,.code (.region id os true)::k,marks,bP⟩ fr) (hfs:rq w S m fs frs) (hB:pg f0 (⟨fn,nn,env,.code (.region id os true)::k,marks,bP⟩::fs)) :
  Ends P f0 Fin Q fr frs cs w:=by
 obtain⟨it,kc,ht,h1,h2⟩:=hf.todo.cons_inv
 have h1:it=.code (.region id os true):=h1
 subst h1
 have hnh:∀y,¬Hid ⟨fn,nn,env,.code (.region id os true)::k,marks,bP⟩ fr y:=fun y=>fw fun a ha=>by cases ha;rfl
 obtain⟨g1,g2,g3,g4,g5⟩:=vm hd
 have hstep:=yq (P:=P) (cs:=frs++cs) (w:=w) hf.mode ht
 rw[hP.mixed] at hstep
 obtain⟨hL,hall⟩:=uR g2 (w.tape w.drawn (.order fr.fn id))
 have hs:=Step.drew hW
 have hf1:=hf.mono hs.out
 refine .step hstep (hg (fun b hb=>absurd hb List.not_mem_nil) S _ _ cs _ hs.wr hI ⟨_,_,rfl,?_,hfs.mono hs.out⟩ (hB.swap rfl))
 refine⟨hf1.fn,hf1.n,hf1.small,fun x _=>hf1.env x (fun hh=>hnh x hh),.mk (a:=.dq os ms is []) ⟨_,rfl,?_⟩ (bD.mono hs.out hf.live.tail h2),.mk trivial hf1.live.tail,hf1.flat,hf1.defers,hf1.marks,hf1.mode,hf1.kind,hf1.bP,hf1.jl⟩
 exact⟨g1,g2,hL,by rw[List.append_nil];exact g3,fun i hi=>hall i (g4 i hi),fun i hi=>.inl (g5 i (hL.lt i hi)),fun _ h=>absurd h List.not_mem_nil,fun _ h=>absurd h List.not_mem_nil,fun _ h=>absurd h List.not_mem_nil,fun _ h=>absurd h List.not_mem_nil,
  fun _ h=>absurd h List.not_mem_nil,fun _ h=>absurd h List.not_mem_nil⟩
theorem xh(hP:Fits P E Fin w0 I0)(hcan:∀ks f fs m,(∀a∈f.todo.head?,a.rv=false)→Good P E w0 I0 f0 Fin Q (canon ks {frames:=f::fs,mem:=m})→Good P E w0 I0 f0 Fin Q {frames:=f::fs,mem:=m})
  (ih:∀c,Tr.Ok Q (Good P E w0 I0 f0 Fin Q) (run ai E n c)→Good P E w0 I0 f0 Fin Q c) {id:Nat} {os:Array Oper}
  (h:Tr.Ok Q (Good P E w0 I0 f0 Fin Q) (run ai E (n+1) {frames:=⟨fn,nn,env,.code (.region id os true)::k,marks,bP⟩::fs,mem:=m}))
  (hst:iY E {frames:=⟨fn,nn,env,.code (.region id os true)::k,marks,bP⟩::fs,mem:=m})
  (hW:WR w0 w S m) (hI:∀b,S.I b→I0 b∨w0.heap.size≤b) (hf:FR w S m ⟨fn,nn,env,.code (.region id os true)::k,marks,bP⟩ fr) (hfs:rq w S m fs frs) (hB:pg f0 (⟨fn,nn,env,.code (.region id os true)::k,marks,bP⟩::fs)) :
  Ends P f0 Fin Q fr frs cs w:=by
 simp only[run] at h
 cases hcut:og E.mh fn (some id) with
 | some ks=>rw[hcut] at h;exact hcan ks _ _ _ (fun a ha=>by cases ha;rfl) h hst S fr frs cs w hW hI ⟨fr,frs,rfl,hf,hfs⟩ hB
 | none=>
   rw[hcut] at h
   simp only at h
   cases hd:gk E.gK os with
   | none=>rw[hd] at h;exact h.elim
   | some q=>
     obtain⟨ms,is⟩:=q
     rw[hd] at h
     simp only at h
     exact qI hP hd (ih _ h) hW hI hf hfs hB
theorem zA(hP:Fits P E Fin w0 I0)(ih:∀c,Tr.Ok Q (Good P E w0 I0 f0 Fin Q) (run ai E n c)→Good P E w0 I0 f0 Fin Q c){all:Array Oper}{ms bs:List Nat}
  (h:Tr.Ok Q (Good P E w0 I0 f0 Fin Q) (run ai E (n+1) {frames:=⟨fn,nn,env,.dq all ms [] bs::k,marks,bP⟩::fs,mem:=m}))
  (hst:∀b∈bs,s8 E env m all b)
  (hW:WR w0 w S m) (hI:∀b,S.I b→I0 b∨w0.heap.size≤b) (hf:FR w S m ⟨fn,nn,env,.dq all ms [] bs::k,marks,bP⟩ fr) (hfs:rq w S m fs frs) (hB:pg f0 (⟨fn,nn,env,.dq all ms [] bs::k,marks,bP⟩::fs)) :
  Ends P f0 Fin Q fr frs cs w:=by
 obtain⟨it,kc,ht,h1,h2⟩:=hf.todo.cons_inv
 obtain⟨l,rfl,hD⟩:∃l:List Nat,it=.inRegion all l∧cY nn all ms [] bs l:=h1
 simp only[run] at h
 obtain⟨w',S',fr',l',kc',hs,hf',hsteps,ht',hD',hk',hhead,_⟩:=q9 hP (frs++cs) hst l hW hf ht hD h2
 cases l' with
 | cons i l'=>exact absurd (hhead i rfl) List.not_mem_nil
 | nil=>
   refine .steps (hsteps.trans (.one (qE hf'.mode ht'))) (ih _ h (dw fun a ha=>hf.flat a (List.mem_of_mem_head? ha)) S' _ _ cs _ hs.wr (fun b hb=>(hs.grows b hb).elim (hI b) .inr) ⟨_,_,rfl,hf'.next ?_ hk' hf'.live.tail (fun a ha=>hf.flat a (List.mem_of_mem_tail ha)),hfs.mono hs.out⟩ (hB.swap rfl))
   rintro x ⟨all',bs',l',k',b,p,e1,e2,e3,e4,e5,e6⟩
   rw[ht'] at e2
   cases e2
   exact absurd e4 List.not_mem_nil
theorem l6{all:Array Oper}{bs:List Nat}{d b:Nat}{o:Oper}(h:lb all bs d=true)(hb:b∈bs)(ho:all[b]? = some o):d ∉ readsOf all o:=by
 have:=List.all_eq_true.1 h b hb
 rw[ho] at this
 simp only[Bool.not_eq_true'] at this
 intro hm
 rw[gI.2 hm] at this
 cases this
theorem nY{all:Array Oper}{bs:List Nat}{d b:Nat}{o:Oper}(h:yr all bs d=true)(hb:b∈bs)(ho:all[b]? = some o):o.dst≠some d:=by
 have:=List.all_eq_true.1 h b hb
 rw[ho] at this
 simp only[Bool.not_eq_true'] at this
 intro e
 rw[e] at this
 simp only[isDst,bG.2] at this
 cases this
theorem jj{all:Array Oper}{bs:List Nat}{o:Oper}{d:Nat}(h:jh all bs o.dst=true)(hd:o.dst=some d):lb all bs d=true∧yr all bs d=true:=by
 rw[hd] at h
 simpa [jh] using h
theorem wF{all:Array Oper}{o:Oper}{d:Nat}(h:qP all o=true)(hd:o.dst=some d):d ∉ readsOf all o:=by
 unfold qP at h
 rw[hd] at h
 simp only[Bool.not_eq_true'] at h
 intro hm
 rw[gI.2 hm] at h
 cases h
theorem yT{all:Array Oper}{mk:Nat}{bs:List Nat}{o:Oper}(h:BQ all mk bs o=true){b:Nat}(hb:b∈bs){p:Oper}{d:Nat}(hp:all[b]? = some p)(hd:p.dst=some d)(hr:d∈readsOf all o):mk.testBit b=true:=by
 have:=List.all_eq_true.1 h b hb
 rw[hp] at this
 simp only[hd,gI.2 hr] at this
 simpa using this
theorem cY.add{all:Array Oper}{ms rest bs l:List Nat}{i:Nat}{o:Oper}(h:cY nn all ms (i::rest) bs l)(ho:all[i]? = some o)(hd:gf nn o.dst=true)(hord:BQ all (ms.getD i 0) bs o=true)(hg:mX (ms.getD i 0) o=true)
  (hfr:jh all bs o.dst=true) (hown:qP all o=true):cY nn all ms rest (i::bs) l:=by
 have hnd:=h.nodup
 rw[List.cons_append] at hnd
 have hn:=List.nodup_cons.1 hnd
 refine⟨h.I7,h.vM,h.lin,?_,fun j hj=>h.sub j (List.mem_cons_of_mem _ hj),fun j hj=>?_,fun j hj=>?_,?_,?_,?_,?_,?_⟩
 ·exact(List.perm_middle.nodup_iff).2 hnd
 ·rcases h.IL j hj with hm|hm
  ·rcases List.mem_cons.1 hm with rfl|hm
   ·exact .inr List.mem_cons_self
   ·exact .inl hm
  ·exact .inr (List.mem_cons_of_mem _ hm)
 ·rcases List.mem_cons.1 hj with rfl|hj
  ·exact(Array.getElem?_eq_some_iff.1 ho).1
  ·exact h.lt j hj
 ·intro a ha b hb hne oa p d hoa hp hpd hr
  rcases List.mem_cons.1 ha with rfl|ha'
  ·rcases List.mem_cons.1 hb with rfl|hb'
   ·exact absurd rfl hne
   ·rw[ho] at hoa;cases hoa
    exact yT hord hb' hp hpd hr
  ·rcases List.mem_cons.1 hb with rfl|hb'
   ·rw[ho] at hp;cases hp
    exact absurd hr (l6 (jj hfr hpd).1 ha' hoa)
   ·exact h.read a ha' b hb' hne oa p d hoa hp hpd hr
 ·intro a ha b hb hne oa p d hoa hp hpd
  rcases List.mem_cons.1 ha with rfl|ha'
  ·rcases List.mem_cons.1 hb with rfl|hb'
   ·exact absurd rfl hne
   ·rw[ho] at hoa;cases hoa
    intro e
    exact nY (jj hfr e).2 hb' hp hpd
  ·rcases List.mem_cons.1 hb with rfl|hb'
   ·rw[ho] at hp;cases hp
    exact nY (jj hfr hpd).2 ha' hoa
   ·exact h.dst a ha' b hb' hne oa p d hoa hp hpd
 ·intro a ha oa d hoa hd
  rcases List.mem_cons.1 ha with rfl|ha
  ·rw[ho] at hoa;cases hoa;exact wF hown hd
  ·exact h.own a ha oa d hoa hd
 ·intro a ha oa hoa
  rcases List.mem_cons.1 ha with rfl|ha
  ·rw[ho] at hoa;cases hoa;exact hg
  ·exact h.Ko a ha oa hoa
 ·intro a ha oa hoa
  rcases List.mem_cons.1 ha with rfl|ha
  ·rw[ho] at hoa;cases hoa;exact hd
  ·exact h.HZ a ha oa hoa
theorem cY.cut{all:Array Oper}{ms rest bs l:List Nat}{i:Nat}(h:cY nn all ms rest bs (i::l)):cY nn all ms rest (ja (ms.getD i 0) bs) (i::l):=by
 have hsub:∀b∈ja (ms.getD i 0) bs,b∈bs:=fun b hb=>(List.mem_filter.1 hb).1
 refine⟨h.I7,h.vM,h.lin,?_,h.sub,fun j hj=>?_,fun j hj=>h.lt j (hsub j hj),fun a ha b hb=>h.read a (hsub a ha) b (hsub b hb),fun a ha b hb=>h.dst a (hsub a ha) b (hsub b hb),fun a ha=>h.own a (hsub a ha),fun a ha=>h.Ko a (hsub a ha),fun a ha=>h.HZ a (hsub a ha)⟩
 ·exact h.nodup.sublist (List.Sublist.append_left List.filter_sublist rest)
 ·rcases h.IL j hj with hm|hm
  ·exact .inl hm
  ·refine .inr (List.mem_filter.2 ⟨hm,?_⟩)
   cases hb:(ms.getD i 0).testBit j with
   | false=>rfl
   | true=>exact absurd hj (h.done hb)
end
end Go.Ev
namespace Go.Ev
section
variable {P:Program} {R:Type} {E:ed R} {w0:World} {I0:Nat→Prop} {f0:FuncId} {Fin:R→Value→World→Prop} {Q:R→Prop}
variable {w:World} {S:St} {m:Mem} {fr:Frame} {fs:List aO} {frs cs:List Frame}
variable {fn:FuncId} {nn:Nat} {env:Env} {marks:List Nat} {bP:Option Nat} {k:List a_} {n:Nat}
theorem Bs(ih:∀c,Tr.Ok Q (Good P E w0 I0 f0 Fin Q) (run ai E n c)→Good P E w0 I0 f0 Fin Q c){all:Array Oper}{ms rest bs l:List Nat}{i:Nat}{o:Oper}{kc:List Item}{v:AV}
  (h:Tr.Ok Q (Good P E w0 I0 f0 Fin Q) (run ai E n {frames:=⟨fn,nn,env.fj o.dst v,.dq all ms rest (i::bs)::k,marks,bP⟩::fs,mem:=m}))
  (ho:all[i]? = some o) (hdok:gf nn o.dst=true) (hord:BQ all (ms.getD i 0) bs o=true) (hg:mX (ms.getD i 0) o=true) (hfr:jh all bs o.dst=true) (hown:qP all o=true)
  (hst:∀b∈bs,s8 E env m all b) (hi:(cX all env o false∧v=.oX [])∨(cX all env o true∧∃tv,DX ai E m (eT env) o=some tv∧tv.Is v))
  (hW:WR w0 w S m) (hI:∀b,S.I b→I0 b∨w0.heap.size≤b) (hf:FR w S m ⟨fn,nn,env,.dq all ms (i::rest) bs::k,marks,bP⟩ fr) (hfs:rq w S m fs frs) (hB:pg f0 (⟨fn,nn,env,.dq all ms (i::rest) bs::k,marks,bP⟩::fs))
  (ht:fr.todo=.inRegion all l::kc) (hD:cY nn all ms (i::rest) bs l) (hk:bD nn S k kc):Ends P f0 Fin Q fr frs cs w:=by
 have hsm:nn≤65535:=hf.small
 have hput:∀x,o.dst≠some x→(env.fj o.dst v).at x=env.at x:=fun x hx=>by rw[Env.u6 hdok hsm,if_neg hx]
 have hself:∀x,o.dst=some x→(env.fj o.dst v).at x=v:=fun x hx=>by rw[Env.u6 hdok hsm,if_pos hx]
 have hreads:∀x∈readsOf all o,(env.fj o.dst v).at x=env.at x:=fun x hx=>hput x fun e=>wF hown e hx
 have hsd:jC (env.fj o.dst v) o.dst v:=by
  cases hd:o.dst with
  | none=>trivial
  | some d=>show fK v ((env.fj (some d) v).at d);rw[←hd,hself d hd];exact o4 v
 refine ih _ h (fun b hb=>?_) S fr frs cs w hW hI ⟨fr,frs,rfl,?_,hfs⟩ (hB.swap rfl)
 ·rcases List.mem_cons.1 hb with rfl|hb'
  ·refine⟨o,ho,?_⟩
   rcases hi with ⟨h1,rfl⟩|⟨h1,tv,h2,h3⟩
   ·exact .inl ⟨h1.congr fun x hx=>hreads x (fD hx),hsd⟩
   ·refine .inr ⟨h1.congr fun x hx=>hreads x (fD hx),tv,v,?_,h3,hsd⟩
    rw[←h2]
    exact oh fun x hx=>rZ fun t e=>hreads t (by subst e;exact jG hx)
  ·refine(hst b hb').congr fun p hp=>⟨fun x hx=>hput x fun e=>l6 (jj hfr e).1 hb' hp hx,fun u d hd hs=>?_⟩
   rw[hput d fun e=>nY (jj hfr e).2 hb' hp hd]
   exact hs
 ·have hil:i∈l:=hD.sub i List.mem_cons_self
  refine⟨hf.fn,hf.n,hf.small,fun x hx=>?_,by rw[ht];exact .mk (a:=.dq all ms rest (i::bs)) ⟨l,rfl,hD.add ho hdok hord hg hfr hown⟩ hk,.mk trivial hf.live.tail,hf.flat,hf.defers,hf.marks,hf.mode,hf.kind,hf.bP,hf.jl⟩
  have hne:o.dst≠some x:=fun e=>hx ⟨all,i::bs,l,kc,i,o,rfl,ht,List.mem_cons_self,hil,ho,e⟩
  show CR w S m ((env.fj o.dst v).at x) (fr.tmps.getD x undef)
  rw[hput x hne]
  refine hf.env x fun hh=>hx ?_
  obtain⟨all',bs',l',k',b,p,e1,e2,e3,e4,e5,e6⟩:=hh
  cases e1
  exact⟨all,i::bs,l',k',b,p,rfl,e2,List.mem_cons_of_mem _ e3,e4,e5,e6⟩
theorem Bn(hP:Fits P E Fin w0 I0)(ih:∀c,Tr.Ok Q (Good P E w0 I0 f0 Fin Q) (run ai E n c)→Good P E w0 I0 f0 Fin Q c){all:Array Oper}{ms rest bs:List Nat}{i:Nat}
  (h:Tr.Ok Q (Good P E w0 I0 f0 Fin Q) (run ai E (n+1) {frames:=⟨fn,nn,env,.dq all ms (i::rest) bs::k,marks,bP⟩::fs,mem:=m}))
  (hst:∀b∈bs,s8 E env m all b)
  (hW:WR w0 w S m) (hI:∀b,S.I b→I0 b∨w0.heap.size≤b) (hf:FR w S m ⟨fn,nn,env,.dq all ms (i::rest) bs::k,marks,bP⟩ fr) (hfs:rq w S m fs frs) (hB:pg f0 (⟨fn,nn,env,.dq all ms (i::rest) bs::k,marks,bP⟩::fs)) :
  Ends P f0 Fin Q fr frs cs w:=by
 obtain⟨it,kc,ht,h1,h2⟩:=hf.todo.cons_inv
 obtain⟨l,rfl,hD⟩:∃l:List Nat,it=.inRegion all l∧cY nn all ms (i::rest) bs l:=h1
 have hsm:nn≤65535:=hf.small
 simp only[run] at h
 cases ho:all[i]? with
 | none=>rw[ho] at h;exact h.elim
 | some o=>
   rw[ho] at h
   simp only at h
   cases hck:gf nn o.dst&&(BQ all (ms.getD i 0) bs o&&mX (ms.getD i 0) o) with
   | false=>rw[hck] at h;exact h.elim
   | true=>
     rw[hck] at h
     simp only at h
     rw[Bool.and_eq_true,Bool.and_eq_true] at hck
     obtain⟨hdok,hord,hgok⟩:=hck
     have hsmall:∀d∈cn all o,∀c v,env.at d=.bool c v→d≤65535:=fun d _ c v e=>by
      by_cases hh:Hid ⟨fn,nn,env,.dq all ms (i::rest) bs::k,marks,bP⟩ fr d
      ·obtain⟨all',bs',l',k',b,p,e1,e2,e3,e4,e5,e6⟩:=hh
       cases e1
       have:=hD.HZ b e3 p e5
       rw[e6] at this
       have:d<nn:=Nat.le_of_ble_eq_true this
       omega
      ·have:=BX hf hh e
       omega
     obtain⟨env',hre,hnr,h⟩:=Aw h hsmall
     have hst':∀b∈bs,s8 E env' m all b:=fun b hb=>(hst b hb).congr fun p hp=>by
      rcases hnr with heq|hnr
      ·exact⟨fun x _=>heq x,fun v d _ hs=>by rw[heq d];exact hs⟩
      ·refine⟨fun x hx=>?_,fun v d _ hs=>?_⟩
       ·rcases hre x with e|⟨hxg,_⟩
        ·exact e
        ·exact absurd hx (l6 (hnr x hxg) hb hp)
       ·rcases hre d with e|⟨_,b',e1,e2⟩
        ·rw[e];exact hs
        ·rw[e2];rw[e1] at hs;exact wQ hs
     have hf':=hf.Ck (D:=cn all o) hre
     rcases h with ⟨hg,h⟩|⟨hg,h⟩
     ·-- wanted
      have eff:Tr.Ok Q (Good P E w0 I0 f0 Fin Q) (match rest.all (fun j=>(ms.getD j 0).testBit i)&&jh all (ja (ms.getD i 0) bs) o.dst with
            | false=>.bad 178 o.pos
            | true=>
              match iR ai E (eT env') m o with
              | some tv=>tv.bind o.pos fun v=>lG ai E (env'.fj o.dst v) m all (ja (ms.getD i 0) bs) (run ai E n {frames:=⟨fn,nn,env'.fj o.dst v,.dq all ms rest (ja (ms.getD i 0) bs)::k,marks,bP⟩::fs,mem:=m})
              | none=>match o.op with
                | .call {callee:=.value x,args,.. }=>match eT env' x with
                  | .fn g first caps=>match look E.gK g with
                    | some s=>(jy ai s m (first++(args.toList.map (eT env')++caps))).bind o.pos fun p=>lG ai E (env'.fj o.dst p.1) p.2 all (ja (ms.getD i 0) bs) (run ai E n {frames:=⟨fn,nn,env'.fj o.dst p.1,.dq all ms rest (ja (ms.getD i 0) bs)::k,marks,bP⟩::fs,mem:=p.2})
                    | none=>match look E.ki g with
                      | none=>.bad 163 o.pos
                      | some G=>match fY g G (first++(args.toList.map (eT env')++caps)) with
                        | none=>.bad 164 o.pos
                        | some h=>run ai E n {frames:=h::⟨fn,nn,env',.jL all ms i rest (ja (ms.getD i 0) bs)::k,marks,bP⟩::fs,mem:=m}
                  | .yield l=>match m.at l with
                     | .loop r=>match Nat.beq r.params.length (args.toList.map (eT env')).length&&r.params.all (fun p=>Nat.blt p r.n) with
                       | true=>run ai E n {frames:={fn:=r.fn,n:=r.n,env:=lX r.params (args.toList.map (eT env')) r.env,todo:=[.code r.assign,.beginRound,.code r.body],marks:=[],bP:=some l}::⟨fn,nn,env',.jL all ms i rest (ja (ms.getD i 0) bs)::k,marks,bP⟩::fs,mem:=m}
                       | false=>.bad 165 o.pos
                     | _=>.bad 166 o.pos
                  | _=>.bad 167 o.pos
                | _=>(kz ai E fn (eT env') m o).bind o.pos fun p=>lG ai E (env'.fj o.dst p.1) p.2 all (ja (ms.getD i 0) bs) (run ai E n {frames:=⟨fn,nn,env'.fj o.dst p.1,.dq all ms rest (ja (ms.getD i 0) bs)::k,marks,bP⟩::fs,mem:=p.2}))→Ends P f0 Fin Q fr frs cs w:=by
       intro h
       cases hck2:rest.all (fun j=>(ms.getD j 0).testBit i)&&jh all (ja (ms.getD i 0) bs) o.dst with
       | false=>rw[hck2] at h;exact h.elim
       | true=>
         rw[hck2] at h
         simp only at h
         rw[Bool.and_eq_true] at hck2
         obtain⟨w1,S1,fr1,l1,kc1,hs1,hf1,hsteps1,ht1,hD1,hk1,hhead,hfn1⟩:=q9 hP (frs++cs) hst l hW hf ht hD h2
         have hil:i∈l1:=hD1.sub i List.mem_cons_self
         cases l1 with
         | nil=>exact absurd hil List.not_mem_nil
         | cons j l1=>
           have hji:j=i:=by
            rcases List.mem_cons.1 (hhead j rfl) with e|hj
            ·exact e
            ·exact absurd hil (hD1.done (List.all_eq_true.1 hck2.1 j hj))
           subst hji
           have hjn:j ∉ rest++bs:=(List.nodup_cons.1 (by have:=hD1.nodup;rwa [List.cons_append] at this)).1
           have hjb:j ∉ bs:=fun hm=>hjn (List.mem_append.2 (.inr hm))
           have hf1':=hf1.Ck (D:=cn all o) hre
           have hnh:∀{t:Nat},t∈readsOf all o→¬Hid ⟨fn,nn,env',.dq all ms (j::rest) bs::k,marks,bP⟩ fr1 t:=fun hr=>
            mz hD1 rfl ht1 (fun b hb _ p d hp hd hr=>yT hord hb hp hd hr) (fun hm=>absurd hm hjb) hr
           have hw:Region.wanted o (yielded all fr1.tmps)=true:=il hg fun d hd=>hf1'.env d (hnh (fD hd))
           have hbelow:FR w1 S1 m ⟨fn,nn,env',.jL all ms j rest (ja (ms.getD j 0) bs)::k,marks,bP⟩ fr1:=by
            refine⟨hf1'.fn,hf1'.n,hf1'.small,fun x hx=>hf1'.env x fun hh=>hx ?_,by rw[ht1];exact .mk (a:=.jL all ms j rest (ja (ms.getD j 0) bs)) ⟨l1,rfl,hD1.cut⟩ hk1,.mk trivial hf1'.live.tail,hf1'.flat,hf1'.defers,hf1'.marks,hf1'.mode,hf1'.kind,hf1'.bP,hf1'.jl⟩
            obtain⟨all',bs',l',k',b,p,e1,e2,e3,e4,e5,e6⟩:=hh
            cases e1
            rw[ht1] at e2
            cases e2
            refine⟨all,_,j::l1,kc1,b,p,rfl,ht1,List.mem_filter.2 ⟨e3,?_⟩,e4,e5,e6⟩
            cases hb:(ms.getD j 0).testBit b with
            | false=>rfl
            | true=>exact absurd e4 (hD1.done hb)
           refine .steps hsteps1 (yX (fn:=fn) (ρ:=eT env') (below:=⟨fn,nn,env',.jL all ms j rest (ja (ms.getD j 0) bs)::k,marks,bP⟩) (next:=fun v m=>lG ai E (env'.fj o.dst v) m all (ja (ms.getD j 0) bs) (run ai E n {frames:=⟨fn,nn,env'.fj o.dst v,.dq all ms rest (ja (ms.getD j 0) bs)::k,marks,bP⟩::fs,mem:=m}))
            hP ih hs1.wr (fun b hb=>(hs1.grows b hb).elim (hI b) .inr) (hfs.mono hs1.out) (hB.swap rfl) hf1.mode ht1 ho hw (fun x hx=>nA hf1' x fun t e=>hnh (by subst e;exact jG hx)) hbelow (fun v m' w' S' z hs hc h=>?_) h)
           obtain⟨hst2,h⟩:=mH h
           have hs2:=hs1.trans hs
           exact ih _ h hst2 S' _ _ cs w' hs2.wr (fun b hb=>(hs2.grows b hb).elim (hI b) .inr) ⟨_,_,rfl,pn (hbelow.mono hs.out) ho hdok hc,hfs.mono hs2.out⟩ (hB.swap rfl)
      split at h
      ·rename_i tv hev hfo
       rw[Bool.and_eq_true] at hfo
       obtain⟨v,hv,h⟩:=TV.bind_ok h
       exact Bs ih h ho hdok hord hgok hfo.1 hfo.2 hst' (.inr ⟨hg,tv,hev,hv⟩) hW hI hf' hfs (hB.swap rfl) ht hD h2
      ·exact eff h
     ·-- not wanted
      cases hfo:jh all bs o.dst&&qP all o with
      | false=>rw[hfo] at h;exact h.elim
      | true=>
        rw[hfo] at h
        simp only at h
        rw[Bool.and_eq_true] at hfo
        exact Bs ih h ho hdok hord hgok hfo.1 hfo.2 hst' (.inl ⟨hg,rfl⟩) hW hI hf' hfs (hB.swap rfl) ht hD h2
end
end Go.Ev
namespace Go.Ev
theorem kX:∀{l:List Nat} {id k:Nat},id∈l→∃j,idxOf l id k=k+j∧l[j]? = some id∧j<l.length
 | i::l,id,k,h=>by
   rw[idxOf]
   by_cases hi:i=id
   ·subst hi;rw[bG.2 rfl];exact⟨0,rfl,rfl,Nat.succ_pos _⟩
   ·rw[bE.2 hi]
    obtain⟨j,h1,h2,h3⟩:=kX (k:=k+1) ((List.mem_cons.1 h).resolve_left (fun e=>hi e.symm))
    exact⟨j+1,by simp only;rw[h1];omega,by simpa using h2,by simpa using h3⟩
theorem uA:∀{l:List Nat} {id k:Nat},id ∉ l→idxOf l id k=k+l.length
 | [],id,k,_=>rfl
 | i::l,id,k,h=>by
   rw[idxOf,bE.2 fun e=>h (by subst e;exact List.mem_cons_self)]
   simp only
   rw[uA fun hm=>h (List.mem_cons_of_mem _ hm),List.length_cons]
   omega
theorem lh:∀{r acc:List Nat},acc.Nodup→(jg acc r).Nodup∧(∀i∈acc,i∈jg acc r)∧∀i∈r,i∈jg acc r
 | [],acc,h=>⟨h,fun _ h=>h,fun _ h=>absurd h List.not_mem_nil⟩
 | j::r,acc,h=>by
   rw[jg]
   cases hm:rf acc j with
   | true=>
     simp only
     obtain⟨h1,h2,h3⟩:=lh (r:=r) h
     refine⟨h1,h2,fun i hi=>?_⟩
     rcases List.mem_cons.1 hi with rfl|hi
     ·exact h2 _ (gI.1 hm)
     ·exact h3 i hi
   | false=>
     simp only
     have hn:j ∉ acc:=fun h=>by rw[gI.2 h] at hm;cases hm
     obtain⟨h1,h2,h3⟩:=lh (r:=r) (acc:=acc ++ [j]) (List.nodup_append.2 ⟨h,by simp,fun a ha b hb=>by rintro rfl;rw[List.mem_singleton.1 hb] at ha;exact hn ha⟩)
     refine⟨h1,fun i hi=>h2 i (List.mem_append.2 (.inl hi)),fun i hi=>?_⟩
     rcases List.mem_cons.1 hi with rfl|hi
     ·exact h2 _ (List.mem_append.2 (.inr (List.mem_singleton.2 rfl)))
     ·exact h3 i hi
theorem pH:∀{f:Nat} {m:Mem} {acc:List Nat} {p:Nat},acc.Nodup→(iB f m acc p).Nodup∧∀i∈acc,i∈iB f m acc p
 | 0,m,acc,p,h=>⟨h,fun _ h=>h⟩
 | f+1,m,acc,p,h=>by
   rw[iB]
   cases acc[p]? with
   | none=>exact⟨h,fun _ h=>h⟩
   | some id=>
     simp only
     obtain⟨h1,h2,_⟩:=lh (r:=xu (m.at id)) h
     obtain⟨h3,h4⟩:=pH (f:=f) (m:=m) (p:=p+1) h1
     exact⟨h3,fun i hi=>h4 i (h2 i hi)⟩
theorem lV{l:List Nat}:∀{cs:List AV},(gQ l cs).length=cs.length
 | []=>by rw[gQ]
 | a::cs=>by rw[gQ,List.length_cons,List.length_cons,lV]
def St.ren(S:St)(l:List Nat):St:={σ:=fun i=>S.σ (l.getD i 0),δ:=fun i=>S.δ (l.getD i 0),I:=S.I}
def Mem.ren(m:Mem)(l:List Nat):Mem:=(l.map fun id=>gU l (m.at id)) ++ [.dead]
section
variable {w0 w:World} {S:St} {m:Mem} {l:List Nat}
theorem oD{j id:Nat}(h:l[j]? = some id):(m.ren l).at j=gU l (m.at id):=by
 have hj:j<l.length:=(List.getElem?_eq_some_iff.1 h).1
 rw[Mem.ren,Mem.at,List.getD_eq_getElem?_getD,List.getElem?_append_left (by rw[List.length_map];exact hj),List.getElem?_map,h]
 rfl
theorem rG:(m.ren l).at l.length=.dead:=by
 rw[Mem.ren,Mem.at,List.getD_eq_getElem?_getD,List.getElem?_append_right (by rw[List.length_map];exact Nat.le_refl _),List.length_map,Nat.sub_self]
 rfl
theorem AO{j:Nat}(h:l.length<j):(m.ren l).at j=.bad:=by
 rw[Mem.ren,Mem.at,List.getD_eq_getElem?_getD,List.getElem?_eq_none (by rw[List.length_append,List.length_map];simp;omega)]
 rfl
theorem nZ(j:Nat):(∃id,l[j]? = some id∧(m.ren l).at j=gU l (m.at id)∧(S.ren l).σ j=S.σ id∧(S.ren l).δ j=S.δ id)∨(m.ren l).at j=.dead∨(m.ren l).at j=.bad:=by
 rcases Nat.lt_trichotomy j l.length with h|h|h
 ·have e:=List.getElem?_eq_getElem h
  refine .inl ⟨l[j],e,oD e,?_,?_⟩<;>simp[St.ren,List.getD_eq_getElem?_getD,e]
 ·subst h;exact .inr (.inl rG)
 ·exact .inr (.inr (AO h))
theorem oz(id:Nat):(id∈l∧(m.ren l).at (idxOf l id 0)=gU l (m.at id)∧(S.ren l).σ (idxOf l id 0)=S.σ id∧(S.ren l).δ (idxOf l id 0)=S.δ id)∨(m.ren l).at (idxOf l id 0)=.dead:=by
 by_cases h:id∈l
 ·obtain⟨j,h1,h2,h3⟩:=kX (k:=0) h
  rw[Nat.zero_add] at h1
  rw[h1]
  refine .inl ⟨h,oD h2,?_,?_⟩<;>simp[St.ren,List.getD_eq_getElem?_getD,h2]
 ·rw[uA h,Nat.zero_add]
  exact .inr rG
mutual
theorem yD:∀{a:AV} {v:Value},CR w S m a v→CR w (S.ren l) (m.ren l) (dK l a) v
 | .undef,v,_=>by rw[dK];exact cJ
 | .int k c n,v,h=>by rw[dK];exact bg.2 (bg.1 h)
 | .bool c b,v,h=>by rw[dK];exact bR.2 (bR.1 h)
 | .str c s,v,h=>by rw[dK];exact dH.2 (dH.1 h)
 | .sl t x,v,h=>by rw[dK,CR];rw[CR] at h;exact h
 | .du b,v,h=>by rw[dK];exact dG.2 (dG.1 h)
 | .kt t x off,v,h=>by rw[dK,CR];rw[CR] at h;exact h
 | .cy,v,h=>by rw[dK];exact eH.2 (eH.1 h)
 | .gZ,v,h=>by rw[dK];exact fM.2 (fM.1 h)
 | .own id,v,h=>by
   rw[dK,CR]
   rw[CR] at h
   rcases oz (S:=S) (m:=m) (l:=l) id with ⟨_,h1,h2,h3⟩|h1
   ·rw[h1,h2,h3]
    cases hb:m.at id<;>rw[hb] at h<;>(try exact h.elim)<;>exact h
   ·rw[h1];trivial
 | .dU id sz c lo len,v,h=>by
   rw[dK,CR]
   rw[CR] at h
   rcases oz (S:=S) (m:=m) (l:=l) id with ⟨_,h1,h2,h3⟩|h1
   ·rw[h1,h2,h3]
    cases hb:m.at id<;>rw[hb] at h<;>(try exact h.elim)<;>(try exact h)
    obtain⟨l0,n,cap,a,e1,e2,e3,e4,e5⟩:=h
    exact⟨l0,n,cap,a,e1,e2,e3,by rw[lV];exact e4,e5⟩
   ·rw[h1];trivial
 | .ptr id off,v,h=>by
   rw[dK,CR]
   rw[CR] at h
   rcases oz (S:=S) (m:=m) (l:=l) id with ⟨_,h1,h2,h3⟩|h1
   ·rw[h1,h2]
    cases hb:m.at id<;>rw[hb] at h<;>(try exact h.elim)<;>exact h
   ·rw[h1];trivial
 | .jb id i off,v,h=>by
   rw[dK,CR]
   rw[CR] at h
   rcases oz (S:=S) (m:=m) (l:=l) id with ⟨_,h1,h2,h3⟩|h1
   ·rw[h1,h2,h3]
    cases hb:m.at id<;>rw[hb] at h<;>(try exact h.elim)<;>exact h
   ·rw[h1];trivial
 | .lD id off n t i,v,h=>by
   rw[dK,CR]
   rw[CR] at h
   rcases oz (S:=S) (m:=m) (l:=l) id with ⟨_,h1,h2,h3⟩|h1
   ·rw[h1,h2]
    cases hb:m.at id<;>rw[hb] at h<;>(try exact h.elim)<;>exact h
   ·rw[h1];trivial
 | .yield id,v,h=>by
   rw[dK,CR]
   rw[CR] at h
   rcases oz (S:=S) (m:=m) (l:=l) id with ⟨_,h1,h2,h3⟩|h1
   ·rw[h1,h2]
    cases hb:m.at id<;>rw[hb] at h<;>(try exact h.elim)<;>exact h
   ·rw[h1];trivial
 | .fn f a c,v,h=>by
   rw[dK]
   obtain⟨us,vs,e,h1,h2⟩:=kL.1 h
   exact kL.2 ⟨us,vs,e,lv h1,lv h2⟩
 | .agg cs,v,h=>by
   rw[dK]
   obtain⟨us,e,h1⟩:=iA.1 h
   exact iA.2 ⟨us,e,lv h1⟩
 | .oX cs,v,h=>by
   rw[dK]
   obtain⟨us,e,h1⟩:=gm.1 h
   exact gm.2 ⟨us,e,lv h1⟩
theorem lv:∀{cs:List AV} {us:List Value},bi w S m cs us→bi w (S.ren l) (m.ren l) (gQ l cs) us
 | [],us,h=>by rw[gQ];exact bw.2 (bw.1 h)
 | a::cs,us,h=>by
   rw[gQ]
   obtain⟨v,r,e,h1,h2⟩:=bT.1 h
   exact bT.2 ⟨v,r,e,yD h1,lv h2⟩
end
theorem oN:∀{e:PT AV} {i:Nat},(mR l e).get i=(e.get i).map (dK l)
 | .leaf,i=>by rw[mR,PT.iq];rfl
 | .node a v b,i=>by
   show(PT.node (mR l a) (match v with|some x=>some (dK l x)|none=>none) (mR l b)).get i=_
   rw[PT.fh,PT.fh]
   by_cases h0:i=0
   ·rw[if_pos h0,if_pos h0];cases v<;>rfl
   ·rw[if_neg h0,if_neg h0]
    by_cases h1:i%2=1
    ·rw[if_pos h1,if_pos h1,oN]
    ·rw[if_neg h1,if_neg h1,oN]
theorem DJ{e:Env}{i:Nat}:Env.at (mR l e) i=dK l (e.at i):=by
 rw[Env.at,Env.at,oN]
 cases PT.get e i<;>first|rfl|(simp only[Option.map_none];rw[dK])
theorem EA{id:Nat}(hb:mr w S m id (m.at id)){j:Nat}(hσ:(S.ren l).σ j=S.σ id)(hδ:(S.ren l).δ j=S.δ id):mr w (S.ren l) (m.ren l) j (gU l (m.at id)):=by
 cases hm:m.at id<;>rw[hm] at hb<;>simp only[gU]
 case bad=>trivial
 case dead=>trivial
 case w6=>trivial
 case qe=>exact(show w.heap[(S.ren l).σ j]? = _ by rw[hσ];exact hb)
 case flat fz cs=>
  obtain⟨us,T,fr,h1,h2,h3⟩:=hb
  exact⟨us,T,fr,by rw[hσ];exact h1,h2,lv h3⟩
 case arr fz t x=>
  obtain⟨h0,us,T,fr,h1,h2,h3,h4⟩:=hb
  exact⟨h0,us,T,fr,by rw[hσ];exact h1,h2,by rw[hδ];exact h3,by rw[hδ];exact h4⟩
 case loop r=>
  obtain⟨L,h1,h2,h3,h4,h5,h6,h7,h8,h9⟩:=hb
  exact⟨L,by rw[hσ];exact h1,h2,h3,h4,h5,h6,h7,h8,fun i=>by
   show CR w (S.ren l) (m.ren l) (Env.at (mR l r.env) i) _
   rw[DJ];exact yD (h9 i)⟩
theorem wi{b:gV}:(gU l b).bu=b.bu:=by cases b<;>rfl
theorem uE{b:gV}:(gU l b).iD=b.iD:=by cases b<;>rfl
theorem jK{b:gV}:(gU l b).dz=b.dz:=by cases b<;>rfl
theorem F8(hW:WR w0 w S m)(hn:l.Nodup):WR w0 w (S.ren l) (m.ren l):=by
 have live:∀j,((m.ren l).at j).bu=true→∃id,l[j]? = some id∧(m.ren l).at j=gU l (m.at id)∧(S.ren l).σ j=S.σ id∧(m.at id).bu=true:=fun j h=>by
  rcases nZ (S:=S) (m:=m) (l:=l) j with ⟨id,h1,h2,h3,_⟩|h1|h1
  ·rw[h2,wi] at h;exact⟨id,h1,h2,h3,h⟩
  ·rw[h1] at h;cases h
  ·rw[h1] at h;cases h
 refine⟨hW.os,hW.tape,hW.output,hW.size,hW.base,hW.k6,fun j=>?_,fun j j' h h' e=>?_,fun j h=>?_,fun j h h'=>?_,fun j h=>?_⟩
 ·rcases nZ (S:=S) (m:=m) (l:=l) j with ⟨id,h1,h2,h3,h4⟩|h1|h1
  ·rw[h2];exact EA (hW.box id) h3 h4
  ·rw[h1];trivial
  ·rw[h1];trivial
 ·obtain⟨id,h1,h2,h3,h4⟩:=live j h
  obtain⟨id',g1,g2,g3,g4⟩:=live j' h'
  have:=hW.inj id id' h4 g4 (by rw[←h3,←g3];exact e)
  subst this
  obtain⟨a1,a2⟩:=List.getElem?_eq_some_iff.1 h1
  obtain⟨b1,b2⟩:=List.getElem?_eq_some_iff.1 g1
  exact(List.getElem_inj hn).1 (a2.trans b2.symm)
 ·obtain⟨id,h1,h2,h3,h4⟩:=live j h
  rw[h3];exact hW.lo id h4
 ·obtain⟨id,h1,h2,h3,h4⟩:=live j h
  rw[h3]
  rw[h2,uE] at h'
  exact hW.ot id h4 h'
 ·rcases nZ (S:=S) (m:=m) (l:=l) j with ⟨id,h1,h2,h3,h4⟩|h1|h1
  ·rw[h3]
   rw[h2,uE] at h
   exact hW.u5 id h
  ·rw[h1] at h;cases h
  ·rw[h1] at h;cases h
theorem lm{id:Nat}(h:id∈l):(m.ren l).at (idxOf l id 0)=gU l (m.at id):=by
 obtain⟨j,h1,h2,h3⟩:=kX (k:=0) h
 rw[Nat.zero_add] at h1
 rw[h1]
 exact oD h2
theorem nh{id:Nat}(h:id∈l):(S.ren l).σ (idxOf l id 0)=S.σ id:=by
 obtain⟨j,h1,h2,h3⟩:=kX (k:=0) h
 rw[Nat.zero_add] at h1
 rw[h1]
 simp[St.ren,List.getD_eq_getElem?_getD,h2]
theorem xf{n:Nat}:∀{k:List a_} {kc:List Item},(∀i∈k.flatMap gn,i∈l)→bD n S k kc→bD n (S.ren l) (k.map (iQ l)) kc
 | [],kc,_,h=>h
 | a::k,kc,hl,h=>by
   obtain⟨it,kc1,rfl,h1,h2⟩:=h.cons_inv
   refine .mk ?_ (xf (fun i hi=>hl i (by rw[List.flatMap_cons];exact List.mem_append.2 (.inr hi))) h2)
   have hid:∀i∈gn a,i∈l:=fun i hi=>hl i (by rw[List.flatMap_cons];exact List.mem_append.2 (.inl hi))
   cases a<;>try exact h1
   case fy id=>
    have h1:it=.inRangeFunc (S.σ id):=h1
    show it=.inRangeFunc ((S.ren l).σ (idxOf l id 0))
    rw[(nh (hid id (List.mem_singleton.2 rfl)))];exact h1
   case fG id=>
    have h1:it=.endRangeFunc (S.σ id):=h1
    show it=.endRangeFunc ((S.ren l).σ (idxOf l id 0))
    rw[(nh (hid id (List.mem_singleton.2 rfl)))];exact h1
theorem pU{a:a_}:(iQ l a).rv=a.rv:=by cases a<;>rfl
theorem s7{a:a_}:(iQ l a).drawn=a.drawn:=by cases a<;>rfl
theorem AS{k:List a_}(hl:∀i∈k.flatMap gn,i∈l)(h:aY m k):aY (m.ren l) (k.map (iQ l)):=by
 intro b hb
 obtain⟨a,ha,rfl⟩:=List.mem_map.1 hb
 have h1:=h a ha
 have hid:∀i∈gn a,i∈l:=fun i hi=>hl i (List.mem_flatMap.2 ⟨a,ha,hi⟩)
 cases a<;>(try trivial)
 case fy id=>
  show((m.ren l).at (idxOf l id 0)).dz=true
  rw[(lm (hid id (List.mem_singleton.2 rfl))),jK];exact h1
 case fG id=>
  show((m.ren l).at (idxOf l id 0)).dz=true
  rw[(lm (hid id (List.mem_singleton.2 rfl))),jK];exact h1
theorem mf{e:Env}{v:Nat→Value}{H:Nat→Prop}(h:∀i,¬H i→CR w S m (e.at i) (v i)):∀{ks:List Nat} {i:Nat},¬H i→CR w (S.ren l) (m.ren l) ((jI l e ks).at i) (v i)
 | [],i,_=>by rw[jI,Env.yQ];exact cJ
 | j::ks,i,hi=>by
   rw[jI]
   cases hj:Nat.ble j 65535 with
   | false=>exact mf h hi
   | true=>
     simp only
     rw[Env.oE (Nat.le_of_ble_eq_true hj)]
     by_cases e:i=j
     ·subst e;rw[if_pos rfl];exact yD (h i hi)
     ·rw[if_neg e];exact mf h hi
theorem G3{f:aO}{fr:Frame}{ks:List Nat}(hf:FR w S m f fr)(hm:∀i∈f.marks,i∈l)(hr:∀i,f.bP=some i→i∈l)(ht:∀i∈f.todo.flatMap gn,i∈l) :
  FR w (S.ren l) (m.ren l) {f with env:=jI l f.env ks,todo:=f.todo.map (iQ l),marks:=f.marks.map (idxOf l · 0),bP:=f.bP.map (idxOf l · 0)} fr:=by
 refine⟨hf.fn,hf.n,hf.small,fun i hi=>mf (H:=fun i=>Hid f fr i) hf.env (fun hh=>hi ?_),xf ht hf.todo,AS ht hf.live,fun a ha=>?_,?_,fun d hd=>?_,hf.mode,hf.kind,?_,fun i hi=>?_⟩
 ·obtain⟨all,bs,l',k',b,p,e1,e2⟩:=hh
  refine⟨all,bs,l',k',b,p,?_,e2⟩
  rw[←e1]
  cases f.todo with
  | nil=>rfl
  | cons a k=>exact s7
 ·have ha:a∈(f.todo.map (iQ l)).tail:=ha
  rw[←List.map_tail] at ha
  obtain⟨b,hb,rfl⟩:=List.mem_map.1 ha
  rw[pU];exact hf.flat b hb
 ·rw[hf.defers,List.map_map]
  exact List.map_congr_left fun d hd=>by simp only[Function.comp];rw[(nh (hm d hd))]
 ·obtain⟨d',hd',rfl⟩:=List.mem_map.1 hd
  rw[(lm (hm d' hd')),jK];exact hf.marks d' hd'
 ·rw[hf.bP]
  cases hr':f.bP with
  | none=>rfl
  | some i=>simp only[Option.map_some];rw[(nh (hr i hr'))]
 ·cases hr':f.bP with
  | none=>rw[hr'] at hi;cases hi
  | some j=>
    rw[hr'] at hi
    cases hi
    rw[(lm (hr j hr')),jK];exact hf.jl j hr'
theorem yK:∀{fs:List aO} {frs:List Frame} {ks:List (List Nat)},(∀i∈iT ks fs,i∈l)→rq w S m fs frs→rq w (S.ren l) (m.ren l) (dV l ks fs) frs
 | [],frs,ks,_,h=>by rw[dV];exact h
 | f::fs,frs,ks,hl,h=>by
   obtain⟨fr,r,rfl,h1,h2⟩:=h
   rw[dV]
   have hl':∀i,i∈f.marks++((match f.bP with|some l=>[l]|none=>[])++(f.todo.flatMap gn++iT ks.tail fs))→i∈l:=fun i hi=>hl i (by rw[iT];exact List.mem_append.2 (.inr hi))
   refine⟨fr,r,rfl,G3 h1 (fun i hi=>hl' i (List.mem_append.2 (.inl hi))) (fun i hi=>hl' i (List.mem_append.2 (.inr (List.mem_append.2 (.inl ?_))))) (fun i hi=>hl' i (List.mem_append.2 (.inr (List.mem_append.2 (.inr (List.mem_append.2 (.inl hi))))))),
    yK (fun i hi=>hl' i (List.mem_append.2 (.inr (List.mem_append.2 (.inr (List.mem_append.2 (.inr hi))))))) h2⟩
   rw[hi];exact List.mem_singleton.2 rfl
theorem zt{f0:FuncId}:∀{fs:List aO} {ks:List (List Nat)},pg f0 fs→pg f0 (dV l ks fs)
 | [],ks,h=>h.elim
 | [f],ks,h=>h
 | f::g::r,ks,h=>by
   rw[dV,dV]
   have:=zt (fs:=g::r) (ks:=ks.tail) h
   rw[dV] at this
   exact this
theorem rN{P:Program}{R:Type}{E:ed R}{I0:Nat→Prop}{f0:FuncId}{Fin:R→Value→World→Prop}{Q:R→Prop}(ks:List (List Nat))(f:aO)(fs:List aO)(m:Mem)(hd:∀a∈f.todo.head?,a.rv=false)
  (h:Good P E w0 I0 f0 Fin Q (canon ks {frames:=f::fs,mem:=m})):Good P E w0 I0 f0 Fin Q {frames:=f::fs,mem:=m}:=by
 intro _ S fr frs cs w hW hI hf hB
 obtain⟨h1,h2,h3⟩:=lh (acc:=[]) (r:=iT ks (f::fs)) List.nodup_nil
 obtain⟨h4,h5⟩:=pH (f:=m.length+1) (m:=m) (p:=0) h1
 refine h ?_ (S.ren (iB (m.length+1) m (jg [] (iT ks (f::fs))) 0)) fr frs cs w (F8 hW h4) hI (yK (fun i hi=>h5 i (h3 i hi)) hf) (zt hB)
 unfold iY canon
 simp only[dV]
 split
 ·rename_i all ms rest bs k he
  cases ht:f.todo with
  | nil=>rw[ht] at he;cases he
  | cons a k'=>
    rw[ht] at he
    have hda:=hd a (by rw[ht];rfl)
    simp only[List.map_cons,List.cons.injEq] at he
    have:(iQ (iB (m.length+1) m (jg [] (iT ks (f::fs))) 0) a).rv=true:=by rw[he.1];rfl
    rw[pU,hda] at this
    cases this
 ·trivial
end
end Go.Ev
namespace Go.Ev
section
variable {P:Program} {R:Type} {E:ed R} {w0:World} {I0:Nat→Prop} {f0:FuncId} {Fin:R→Value→World→Prop} {Q:R→Prop}
theorem uC(hP:Fits P E Fin w0 I0){n:Nat}(ih:∀c,Tr.Ok Q (Good P E w0 I0 f0 Fin Q) (run ai E n c)→Good P E w0 I0 f0 Fin Q c)
  {w:World} {S:St} {m:Mem} {fr:Frame} {fs:List aO} {frs cs:List Frame} {f:aO} {jump:Option Code}
  (h:Tr.Ok Q (Good P E w0 I0 f0 Fin Q) (match f.bP with
    | none=>match gh f.marks m with
      | none=>.bad 139 ""
      | some m=>match look E.ki f.fn with
        | none=>.bad 141 ""
        | some F=>match eO ai E f.env m F.results.toList with
          | none=>.bad 142 ""
          | some vs=>match fs with
            | []=>match E.fin (dQ vs) m with
              | some y=>.ret y
              | none=>.bad 143 ""
            | g::gs=>match finish g (dQ vs) with
              | some g=>jB ai E g m (run ai E n {frames:=g::gs,mem:=m})
              | none=>.bad 144 ""
    | some l=>match m.at l with
      | .loop r=>match fs with
        | g::gs=>match finish g (.bool true (t_ jump)) with
          | some g=>jB ai E g (m.set l (.loop {r with state:=rT jump,pending:=jump})) (run ai E n {frames:=g::gs,mem:=m.set l (.loop {r with state:=rT jump,pending:=jump})})
          | none=>.bad 145 ""
        | []=>.bad 146 ""
      | _=>.bad 147 ""))
  (hnh:∀x,¬Hid f fr x) (hret:f.bP=none→step P (lone fr (frs++cs) w)=.next (lone {fr with mode:=.returning} (frs++cs) w))
  (ht:f.bP≠none→(fr.todo=[]∧jump=none)∨(∃k,fr.todo=.code .ret::k∧jump=some .ret)∨(∃id k,fr.todo=.code (.exit id)::k∧exitTo id k=none∧jump=some (.exit id))∨(∃id k,fr.todo=.code (.goto id)::k∧gotoIn id k=none∧jump=some (.goto id)))
  (hW:WR w0 w S m) (hI:∀b,S.I b→I0 b∨w0.heap.size≤b) (hf:FR w S m f fr) (hfs:rq w S m fs frs) (hB:pg f0 (f::fs)) :
  Ends P f0 Fin Q fr frs cs w:=by
 cases hr:f.bP with
 | none=>
   rw[hr] at h
   exact wv hP ih h hnh (hret hr) hW hI hf hfs hB
 | some l=>
   rw[hr] at h
   exact kM ih hr h (ht (by rw[hr];intro e;cases e)) hW hI hf hfs hB
theorem oM(hP:Fits P E Fin w0 I0):∀(n:Nat) (c:iH),Tr.Ok Q (Good P E w0 I0 f0 Fin Q) (run ai E n c)→Good P E w0 I0 f0 Fin Q c
 | 0,c,h=>by rw[run] at h;exact h
 | n+1,c,h=>by
   have ih:=oM hP n
   obtain⟨frames,m⟩:=c
   intro hst S fr frs cs w hW hI hF hB
   cases frames with
   | nil=>exact hB.elim
   | cons f fs=>
     obtain⟨fr',frs',e,hf,hfs⟩:=hF
     cases e
     obtain⟨fn,nn,env,todo,marks,bP⟩:=f
     cases todo with
     | nil=>
       have ht:fr.todo=[]:=hf.todo
       refine uC (jump:=none) hP ih ?_ (fun x=>fw fun a ha=>by cases ha) (fun hr=>D6 hf.mode (by rw[hf.bP,hr];rfl) ht) (fun _=>.inl ⟨ht,rfl⟩) hW hI hf hfs hB
       simp only[run] at h
       exact h
     | cons i k=>
       obtain⟨it,kc,ht,h1,h2⟩:=hf.todo.cons_inv
       have plain:=fun hi=>zI (rN (P:=P) (E:=E) (I0:=I0) (f0:=f0) (Fin:=Fin) (Q:=Q)) ih (i:=i) (k:=k) hi h hst hW hI hf hfs hB (cs:=cs)
       have hnh:i.rv=false→∀x,¬Hid ⟨fn,nn,env,i::k,marks,bP⟩ fr x:=fun hne x=>fw fun a ha=>by cases ha;exact hne
       cases i with
       | inBlock id=>exact plain trivial
       | inLoop b=>exact plain trivial
       | inScope b=>exact plain trivial
       | fy l=>simp only[run] at h;exact h.elim
       | jL all ms i rest bs=>simp only[run] at h;exact h.elim
       | fG l=>exact zC ih h hW hI hf hfs hB
       | beginRound=>exact z8 ih h hW hI hf hfs hB
       | ops all rest=>
         cases rest with
         | nil=>exact plain trivial
         | cons o rest=>exact Eh hP ih h hW hI hf hfs hB
       | dq all ms rest bs=>
         cases rest with
         | nil=>exact zA hP ih h hst hW hI hf hfs hB
         | cons i rest=>exact Bn hP ih h hst hW hI hf hfs hB
       | code x=>
         have h1:it=.code x:=h1
         subst h1
         cases x with
         | skip=>exact plain trivial
         | label l=>exact plain trivial
         | seq a b=>exact plain trivial
         | cond x a b=>exact plain trivial
         | block id b=>exact plain trivial
         | loop b=>exact plain trivial
         | scope b=>exact plain trivial
         | refuse why=>simp only[run] at h;exact h.elim
         | region id os draw=>
           cases draw with
           | false=>exact plain trivial
           | true=>exact xh hP (rN (P:=P) (E:=E) (I0:=I0) (f0:=f0) (Fin:=Fin) (Q:=Q)) ih h hst hW hI hf hfs hB
         | rangeFunc x ps a b=>exact s5 hP ih h hW hI hf hfs hB
         | ret=>
           refine uC (jump:=some .ret) hP ih ?_ (hnh rfl) (fun hr=>Ec hf.mode (by rw[hf.bP,hr];rfl) ht) (fun _=>.inr (.inl ⟨kc,ht,rfl⟩)) hW hI hf hfs hB
           simp only[run] at h
           exact h
         | exit id=>
           simp only[run] at h
           cases he:dT id k with
           | some k'=>
             rw[he] at h
             obtain⟨kc',e1,e2,e3,e4⟩:=nI (m:=m) h2 he
             exact df hW hI hf hfs hB (hnh rfl) (EO hf.mode ht e1) e2 (e3 hf.live.tail) (fun a ha=>hf.flat a (e4 a ha)) (ih _ h)
           | none=>
             rw[he] at h
             simp only at h
             have e1:=kp h2 he
             cases bP with
             | none=>exact h.elim
             | some l=>simp only at h;exact kM (f:=⟨fn,nn,env,.code (.exit id)::k,marks,some l⟩) (jump:=some (.exit id)) ih rfl h (.inr (.inr (.inl ⟨id,kc,ht,e1,rfl⟩))) hW hI hf hfs hB
         | goto id=>
           simp only[run] at h
           cases he:dX id k with
           | some k'=>
             rw[he] at h
             obtain⟨kc',e1,e2,e3,e4⟩:=mY (m:=m) h2 he
             exact df hW hI hf hfs hB (hnh rfl) (Eu hf.mode ht e1) e2 (e3 hf.live.tail) (fun a ha=>(e4 a ha).elim (hf.flat a) fun h=>h) (ih _ h)
           | none=>
             rw[he] at h
             simp only at h
             have e1:=kT h2 he
             cases bP with
             | none=>exact h.elim
             | some l=>simp only at h;exact kM (f:=⟨fn,nn,env,.code (.goto id)::k,marks,some l⟩) (jump:=some (.goto id)) ih rfl h (.inr (.inr (.inr ⟨id,kc,ht,e1,rfl⟩))) hW hI hf hfs hB
end
end Go.Ev
namespace Go.Ev
mutual
def Ty.has:(t:Ty)→t.T→Prop
 | .int k,x=>k.has x
 | .bool,_=>True
 | .str,x=>(show List UInt8 from x).length≤b_
 | .slice t,x=>(show List t.T from x).length≤b_∧∀y∈(show List t.T from x),Ty.has t y
 | .arr n t,x=>(show List t.T from x).length=n∧∀y∈(show List t.T from x),Ty.has t y
 | .struct ts,x=>Ty.cr ts x
def Ty.cr:(ts:List Ty)→Ty.Ts ts→Prop
 | [],_=>True
 | [t],x=>Ty.has t x
 | t::t2::ts,x=>Ty.has t (Prod.fst (α:=t.T) (β:=Ty.Ts (t2::ts)) x)∧Ty.cr (t2::ts) (Prod.snd (α:=t.T) (β:=Ty.Ts (t2::ts)) x)
end
section
variable {w:World} {I:Nat→Prop}
mutual
theorem aG.has:∀(t:Ty) {cs:List Value} {x:t.T},aG w I t cs x→t.has x
 | .int k,cs,x,h=>by rw[Ty.has];exact(kQ.1 h).2
 | .bool,cs,x,h=>by rw[Ty.has];trivial
 | .str,cs,x,h=>by rw[Ty.has];exact(nS.1 h).2
 | .slice t,cs,x,h=>by
   rw[Ty.has]
   obtain⟨a,cap,h1,h2,h3,h4,h5⟩:=bS.1 h
   refine⟨h3,fun y hy=>?_⟩
   obtain⟨i,hi⟩:=List.getElem?_of_mem hy
   obtain⟨b,off,us,_,_,_,_,hr⟩:=h5 i y hi
   exact aG.has t hr
 | .arr n t,cs,x,h=>by
   rw[Ty.has]
   obtain⟨h1,h2,h3⟩:=nT.1 h
   refine⟨h1,fun y hy=>?_⟩
   obtain⟨i,hi⟩:=List.getElem?_of_mem hy
   exact aG.has t (h3 i y hi)
 | .struct ts,cs,x,h=>by rw[Ty.has];exact bL.has ts (kE.1 h)
theorem bL.has:∀(ts:List Ty) {cs:List Value} {x:Ty.Ts ts},bL w I ts cs x→Ty.cr ts x
 | [],cs,x,h=>by rw[Ty.cr];trivial
 | [t],cs,x,h=>by rw[Ty.cr];exact aG.has t (ox.1 h)
 | t::t2::ts,cs,x,h=>by
   rw[Ty.cr]
   rw[bL] at h
   obtain⟨us,vs,_,h1,h2⟩:=h
   exact⟨aG.has t h1,bL.has (t2::ts) h2⟩
end
theorem gL.has{t:Ty}{v:Value}{x:t.T}(h:gL w I t v x):t.has x:=by
 unfold gL at h
 split at h
 ·obtain⟨us,_,h⟩:=h;exact h.has
 ·exact h.has
theorem fU.has:∀{ts:List Ty} {vs:List Value} {x:Ty.Ts ts},fU w I ts vs x→Ty.cr ts x
 | [],vs,x,h=>by rw[Ty.cr];trivial
 | [t],vs,x,h=>by
   rw[Ty.cr]
   rw[fU] at h
   obtain⟨v,_,h⟩:=h
   exact h.has
 | t::t2::ts,vs,x,h=>by
   rw[Ty.cr]
   rw[fU] at h
   obtain⟨v,r,_,h1,h2⟩:=h
   exact⟨h1.has,h2.has⟩
end
theorem wC{os:Array Oper}:(List.range os.size).map (fun i=>os[i]?)=os.toList.map some:=by
 apply List.ext_getElem?
 intro j
 have e:os.toList[j]? = os[j]? :=Array.getElem?_toList
 rw[List.getElem?_map,List.getElem?_map,e]
 by_cases hj:j<os.size
 ·rw[List.getElem?_range hj,Option.map_some,Array.getElem?_eq_getElem hj];rfl
 ·rw[List.getElem?_eq_none (by simpa using hj),Array.getElem?_eq_none (by omega)];rfl
structure Closed{R:Type}(E:ed R)(Q:R→Prop)(G:iH→Prop):Prop where
 go:∀(n:Nat) (c:iH),Tr.Ok Q G (run ai E n (advance E.gK c))→G c
section
variable {P:Program} {R:Type} {E:ed R} {w0:World} {I0:Nat→Prop} {f0:FuncId} {Fin:R→Value→World→Prop} {Q:R→Prop}
theorem vo(hP:Fits P E Fin w0 I0){c:iH}(hg:Good P E w0 I0 f0 Fin Q (advance E.gK c)):Good P E w0 I0 f0 Fin Q c:=by
 obtain⟨frames,m⟩:=c
 cases frames with
 | nil=>exact hg
 | cons f fs=>
   obtain⟨fn,nn,env,todo,marks,bP⟩:=f
   cases todo with
   | nil=>exact hg
   | cons i k=>
     cases i with
     | inLoop b=>
       intro _ S fr frs cs w hW hI hF hB
       obtain⟨fr',frs',e,hf,hfs⟩:=hF
       cases e
       obtain⟨it,kc,ht,h1,h2⟩:=hf.todo.cons_inv
       have h1:it=.inLoop b∨it=.code (.loop b):=h1
       have hst:step P (lone fr (frs++cs) w)=.next (lone {fr with todo:=.code b :: .inLoop b::kc} (frs++cs) w):=by
        rcases h1 with rfl|rfl
        ·exact tM hf.mode ht
        ·exact zn hf.mode ht
       refine df hW hI hf hfs hB (fun x=>fw fun a ha=>by cases ha;rfl) hst h2.inLoop.code (.mk trivial (.mk trivial hf.live.tail)) (fun a ha=>?_) hg
       rcases List.mem_cons.1 ha with rfl|ha
       ·rfl
       ·rcases List.mem_cons.1 ha with rfl|ha
        ·rfl
        ·exact hf.flat a ha
     | code x=>
       cases x with
       | region id os draw=>
         cases draw with
         | false=>
           intro _ S fr frs cs w hW hI hF hB
           obtain⟨fr',frs',e,hf,hfs⟩:=hF
           cases e
           obtain⟨it,kc,ht,h1,h2⟩:=hf.todo.cons_inv
           have h1:it=.code (.region id os false):=h1
           subst h1
           refine df hW hI hf hfs hB (fun x=>fw fun a ha=>by cases ha;rfl) (uf hf.mode ht) (.mk (a:=.ops os os.toList) ⟨_,rfl,wC⟩ h2) (.mk trivial hf.live.tail) (fun a ha=>?_) hg
           rcases List.mem_cons.1 ha with rfl|ha
           ·rfl
           ·exact hf.flat a ha
         | true=>
           simp only[advance] at hg
           cases hd:gk E.gK os with
           | none=>rw[hd] at hg;exact hg
           | some q=>
             obtain⟨ms,is⟩:=q
             rw[hd] at hg
             intro _ S fr frs cs w hW hI hF hB
             obtain⟨fr',frs',e,hf,hfs⟩:=hF
             cases e
             exact qI hP hd hg hW hI hf hfs hB
       | _=>exact hg
     | _=>exact hg
theorem wu(hP:Fits P E Fin w0 I0):Closed E Q (Good P E w0 I0 f0 Fin Q):=
 ⟨fun n c h=>vo hP (oM hP n _ h)⟩
def IF(w0:World)(I0:Nat→Prop)(res:List Ty)(y:Ty.Ts res)(v:Value)(w':World):Prop:=
 w'.os=w0.os∧w'.tape=w0.tape∧w'.output=w0.output∧w0.heap.size≤w'.heap.size∧(∀b,b<w0.heap.size→w'.heap[b]? = w0.heap[b]?)∧
  ∃I',(∀b,I' b→I0 b∨(w0.heap.size≤b∧b<w'.heap.size))∧uU w' I' res v y
theorem yJ{S:St}{w:World}{m:Mem}{av:AV}{res:List Ty}{y:Ty.Ts res}{v:Value}(hW:WR w0 w S m)(hI:∀b,S.I b→I0 b∨w0.heap.size≤b)(h:BB ai res av m=some y)(hc:CR w S m av v):IF w0 I0 res y v w:=by
 have main:∀(vs:List AV) (us:List Value),gq res vs=true→bi w S m vs us→(match fL ai res m (vs.flatMap AV.cells) with
   | none=>none
   | some (_,cs)=>match oy res cs with
     | some (y, [])=>some y
     | _=>none)=some y→∃I',(∀b,I' b→I0 b∨(w0.heap.size≤b∧b<w.heap.size))∧fU w I' res us y:=by
  intro vs us hok hcs h
  obtain⟨L,hL,hrep⟩:=rH hok hcs
  cases hf:fL ai res m (vs.flatMap AV.cells) with
  | none=>rw[hf] at h;cases h
  | some q=>
    obtain⟨m1,cs1⟩:=q
    rw[hf] at h
    simp only at h
    obtain⟨S1,s1,hc1⟩:=kJ hW hf hL
    cases htd:oy res cs1 with
    | none=>rw[htd] at h;cases h
    | some q=>
      obtain⟨x,r⟩:=q
      rw[htd] at h
      cases r with
      | cons _ _=>cases h
      | nil=>
        cases h
        obtain⟨u1,u2,e,hx,hr⟩:=mV res htd hc1
        have hu2:=bw.1 hr
        rw[hu2,List.append_nil] at e
        rw[←e] at hx
        refine⟨S1.I,fun b hb=>?_,hrep _ y hx⟩
        rcases s1.grows b hb with h|h
        ·rcases hI b h with h|h
         ·exact .inl h
         ·exact .inr ⟨h,s1.wr.k6 b hb⟩
        ·exact .inr ⟨h,s1.wr.k6 b hb⟩
 refine⟨hW.os,hW.tape,hW.output,hW.size,hW.base,?_⟩
 unfold BB at h
 match res,y,h,main with
 | [],y,h1,main=>
   obtain⟨vs,rfl⟩:∃vs,av=.oX vs:=by cases av<;>first|exact⟨_,rfl⟩|(exact absurd h1 (fun e=>by cases e))
   obtain⟨us,rfl,hcs⟩:=gm.1 hc
   simp only at h1
   cases hok:gq [] vs with
   | false=>rw[hok] at h1;cases h1
   | true=>
     rw[hok] at h1
     obtain⟨I',k1,k2⟩:=main vs us.toList hok hcs h1
     rw[fU] at k2
     exact⟨I',k1,by rw[uU,Array.toList_eq_nil_iff.1 k2]⟩
 | [t],y,h1,main=>
   simp only at h1
   cases hok:gq [t] [av] with
   | false=>rw[hok] at h1;cases h1
   | true=>
     rw[hok] at h1
     obtain⟨I',k1,k2⟩:=main [av] [v] hok (bT.2 ⟨v, [],rfl,hc,bw.2 rfl⟩) h1
     rw[fU] at k2
     obtain⟨v',e,k2⟩:=k2
     cases e
     exact⟨I',k1,by rw[uU];exact k2⟩
 | t::t2::ts,y,h1,main=>
   obtain⟨vs,rfl⟩:∃vs,av=.oX vs:=by cases av<;>first|exact⟨_,rfl⟩|(exact absurd h1 (fun e=>by cases e))
   obtain⟨us,rfl,hcs⟩:=gm.1 hc
   simp only at h1
   cases hok:gq (t::t2::ts) vs with
   | false=>rw[hok] at h1;cases h1
   | true=>
     rw[hok] at h1
     obtain⟨I',k1,k2⟩:=main vs us.toList hok hcs h1
     exact⟨I',k1,by rw[uU];exact⟨us,rfl,k2⟩⟩
structure Base{R:Type}(P:Program)(E:ed R):Prop where
 ti:ek P E.ti
 ki:∀g F,look E.ki g=some F→P.funcs[g]? = some F∧(F.name == "runtime.NumGoroutine")=false
 gK:∀g s,look E.gK g=some s→s.Sound P g
 mixed:P.follows .mixedOrders=true
theorem C9{w:World}{I:Nat→Prop}(hI:∀b,I b→b<w.heap.size):WR w w {σ:=fun _=>0,δ:=fun _=>0,I:=I} []:=
 ⟨rfl,rfl,rfl,Nat.le_refl _,fun _ _=>rfl,hI,fun _=>trivial,fun _ _ h=>(by cases h),fun _ h=>(by cases h),fun _ h=>(by cases h),fun _ h=>(by cases h)⟩
theorem uT{g:FuncId}{F:Func}{s:aH}{E:ed (Ty.Ts s.res)}(hE:Base P E)(hfin:E.fin=BB ai s.res)(hg:look E.ki g=some F)(hb:F.body.isSome=true)(n:Nat)
  (h:∀x,s.pre x=true→Ty.cr s.args x→∃h0,fY g F (iV ai s.args x)=some h0∧∀G,Closed E (fun y=>y=s.fn x) G→Tr.Ok (fun y=>y=s.fn x) G (run ai E n {frames:=[h0],mem:=[]})):s.Sound P g:=by
 obtain⟨hF,hn⟩:=hE.ki g F hg
 refine⟨fun w I x aa hI hrep hpre cs=>?_,F,hF,hb,hn⟩
 obtain⟨h0,hen,hok⟩:=h x hpre hrep.has
 have hP:Fits P E (IF w I s.res) w I:=⟨hE.ti,hE.ki,hE.gK,hE.mixed,fun S w' m av y v hW hI' hf hc=>yJ hW hI' (by rw[←hfin];exact hf) hc⟩
 have hgood:=oM hP (Q:=fun y=>y=s.fn x) (f0:=g) n _ (hok _ (wu hP))
 have hW:=C9 hI
 obtain⟨hfr,_,hnd⟩:=jD hF hen (qB (S:={σ:=fun _=>0,δ:=fun _=>0,I:=I}) (m:=[]) (fun b hb=>hb) hrep)
 have hB:pg g [h0]:=by
  unfold fY at hen
  cases hbb:F.body with
  | none=>rw[hbb] at hen;cases hen
  | some b=>
    rw[hbb] at hen
    simp only at hen
    split at hen
    ·cases hen;exact(rfl:g=g)
    ·cases hen
 obtain⟨y,v,w',fr',hy,hfi,hsteps,hfn,hleave⟩:=hgood (dw hnd) _ _ [] cs w hW (fun b hb=>.inl hb) ⟨_,_,rfl,hfr,rfl⟩ hB
 obtain⟨g1,g2,g3,g4,g5,I',g6,g7⟩:=hfi
 exact⟨.returned v,w',fr',⟨v,rfl,g1,g2,g3,g4,g5,I',g6,by rw[←hy];exact g7⟩,hsteps,hfn,hleave⟩
end
end Go.Ev
namespace Go.Ev
inductive LT (R Y:Type) where
 | ret (r:R)
 | more (y:Y)
 | br (b:Bool) (t e:LT R Y)
 | need (b:Bool) (t:LT R Y)
 | eqs (p:Prop) (t:LT R Y)
 | bad (n:Nat) (pos:String)
def LT.tr{R Y:Type}(cfg:Y→iH):LT R Y→Tr R
 | .ret r=>.ret r
 | .more y=>.more (cfg y)
 | .br b t e=>.br b (t.tr cfg) (e.tr cfg)
 | .need b t=>.need b (t.tr cfg)
 | .eqs p t=>.eqs p (t.tr cfg)
 | .bad n s=>.bad n s
def Tr.full{R:Type}:Tr R→Tr R
 | .br b t e=>.br b t.full e.full
 | .need b t=>.need b t.full
 | .eqs p t=>.eqs p t.full
 | .same l r t=>.eqs (fK l r) t.full
 | t=>t
def AV.alike:AV→AV→Bool
 | .bool c _,.bool d _=>c==d
 | .int _ c _,.int _ d _=>c==d
 | _,_=>true
def Tr.vv{R:Type}:Tr R→Tr R
 | .br b t e=>.br b t.vv e.vv
 | .need b t=>.need b t.vv
 | .eqs p t=>.eqs p t.vv
 | .same l r t=>match l.alike r with
   | true=>t.vv
   | false=>.eqs (fK l r) t.vv
 | t=>t
def Tr.lefts{R:Type}:Tr R→List AV→List AV
 | .br _ t e,k=>t.lefts (e.lefts k)
 | .need _ t,k=>t.lefts k
 | .eqs _ t,k=>t.lefts k
 | .same l r t,k=>match l.alike r with
   | true=>l::t.lefts k
   | false=>t.lefts k
 | _,k=>k
def Tr.jN{R:Type}:Tr R→List AV→List AV
 | .br _ t e,k=>t.jN (e.jN k)
 | .need _ t,k=>t.jN k
 | .eqs _ t,k=>t.jN k
 | .same l r t,k=>match l.alike r with
   | true=>r::t.jN k
   | false=>t.jN k
 | _,k=>k
theorem Tr.lg{R:Type}{Q:R→Prop}{G:iH→Prop}:∀{t:Tr R},Tr.Ok Q G t.full→Tr.Ok Q G t
 | .ret _,h | .more _,h | .bad _ _,h=>h
 | .br _ t e,h=>⟨fun k=>Tr.lg (t:=t) (h.1 k),fun k=>Tr.lg (t:=e) (h.2 k)⟩
 | .need _ t,h=>⟨h.1,Tr.lg (t:=t) h.2⟩
 | .eqs _ t,h=>⟨h.1,Tr.lg (t:=t) h.2⟩
 | .same _ _ t,h=>⟨h.1,Tr.lg (t:=t) h.2⟩
theorem Tr.jF{R:Type}{Q:R→Prop}{G:iH→Prop}:∀{t:Tr R} {k k':List AV},t.lefts k=t.jN k'→k=k'∧(Tr.Ok Q G t.vv→Tr.Ok Q G t)
 | .ret _,_,_,h | .more _,_,_,h | .bad _ _,_,_,h=>⟨h,fun x=>x⟩
 | .br _ t e,_,_,h=>by
   obtain⟨h1,h2⟩:=Tr.jF (t:=t) h
   obtain⟨h3,h4⟩:=Tr.jF (t:=e) h1
   exact⟨h3,fun x=>⟨fun k=>h2 (x.1 k),fun k=>h4 (x.2 k)⟩⟩
 | .need _ t,_,_,h=>by
   obtain⟨h1,h2⟩:=Tr.jF (t:=t) h
   exact⟨h1,fun x=>⟨x.1,h2 x.2⟩⟩
 | .eqs _ t,_,_,h=>by
   obtain⟨h1,h2⟩:=Tr.jF (t:=t) h
   exact⟨h1,fun x=>⟨x.1,h2 x.2⟩⟩
 | .same l r t,_,_,h=>by
   simp only[Tr.lefts,Tr.jN] at h
   simp only[Tr.vv]
   cases ha:l.alike r with
   | true=>
     rw[ha] at h
     simp only[List.cons.injEq] at h
     obtain⟨h1,h2⟩:=Tr.jF (t:=t) h.2
     exact⟨h1,fun x=>⟨h.1▸o4 l,h2 x⟩⟩
   | false=>
     rw[ha] at h
     obtain⟨h1,h2⟩:=Tr.jF (t:=t) h
     exact⟨h1,fun x=>⟨x.1,h2 x.2⟩⟩
@[reducible] def Tr.Is {R:Type} (q:Bool) (t u:Tr R):Prop:=match q with
 | true=>t.vv=u∧t.lefts []=t.jN []
 | false=>t.full=u
theorem zf{R:Type}{t u:Tr R}(h:t.full=u):Tr.Is false t u:=h
theorem Tr.Is.ok{R:Type}{q:Bool}{Q:R→Prop}{G:iH→Prop}{t u:Tr R}(h:Tr.Is q t u)(hu:Tr.Ok Q G u):Tr.Ok Q G t:=by
 cases q with
 | true=>exact(Tr.jF h.2).2 (h.1▸hu)
 | false=>exact Tr.lg (show Tr.Ok Q G t.full from(show t.full=u from h)▸hu)
inductive aA {R Y:Type} (step:Y→LT R Y):LT R Y→R→Prop where
 | ret (r:R):aA step (.ret r) r
 | more {y:Y} {r:R} (h:aA step (step y) r):aA step (.more y) r
 | br {b:Bool} {t e:LT R Y} {r:R} (h:aA step (bif b then t else e) r):aA step (.br b t e) r
 | need {b:Bool} {t:LT R Y} {r:R} (hb:b=true) (h:aA step t r):aA step (.need b t) r
 | eqs {p:Prop} {t:LT R Y} {r:R} (hp:p) (h:aA step t r):aA step (.eqs p t) r
section
variable {R Y:Type} {step:Y→LT R Y} {r:R}
theorem eG{r':R}:aA step (.ret r') r↔r'=r:=⟨fun h=>by cases h;rfl,fun h=>by rw[h];exact .ret r⟩
theorem ao{y:Y}:aA step (.more y) r↔aA step (step y) r:=⟨fun h=>by cases h;assumption,.more⟩
theorem nv{b:Bool}{t e:LT R Y}:aA step (.br b t e) r↔aA step (bif b then t else e) r:=⟨fun h=>by cases h;assumption,.br⟩
theorem af{b:Bool}{t:LT R Y}:aA step (.need b t) r↔b=true∧aA step t r:=⟨fun h=>by cases h;exact⟨by assumption,by assumption⟩,fun h=>.need h.1 h.2⟩
theorem e_{p:Prop}{t:LT R Y}:aA step (.eqs p t) r↔p∧aA step t r:=⟨fun h=>by cases h;exact⟨by assumption,by assumption⟩,fun h=>.eqs h.1 h.2⟩
theorem aj{b:Bool}{t e:LT R Y}(hb:b=true):aA step (.br b t e) r↔aA step t r:=by rw[nv,hb];rfl
theorem ah{b:Bool}{t e:LT R Y}(hb:b=false):aA step (.br b t e) r↔aA step e r:=by rw[nv,hb];rfl
end
theorem Et{R Y:Type}{E:ed R}{Q:R→Prop}{G:iH→Prop}{cfg:Y→iH}{step:Y→LT R Y}{q:Bool}(hstep:∀y,∃n,Tr.Is q (run ai E n (advance E.gK (cfg y))) ((step y).tr cfg))(hG:Closed E Q G){t:LT R Y}{r:R}(h:aA step t r)(hr:Q r):Tr.Ok Q G (t.tr cfg):=by
 induction h with
 | ret r=>exact hr
 | more h ih=>
   rename_i y _
   obtain⟨n,hn⟩:=hstep y
   exact hG.go n _ (hn.ok (ih hr))
 | br h ih=>
   rename_i b t e _
   cases b with
   | true=>exact⟨fun _=>ih hr,fun h=>(by cases h)⟩
   | false=>exact⟨fun h=>(by cases h),fun _=>ih hr⟩
 | need hb h ih=>exact⟨hb,ih hr⟩
 | eqs hp h ih=>exact⟨hp,ih hr⟩
structure Walk(P:Program)(g:FuncId)(args res:List Ty)(Y:Type) where
 start:Ty.Ts args→LT (Ty.Ts res) Y
 step:Y→LT (Ty.Ts res) Y
structure Walk.Ok{P:Program}{g:FuncId}{args res:List Ty}{Y:Type}(W:Walk P g args res Y):Prop where
 sound:∀(pre:Ty.Ts args→Bool) (fn:Ty.Ts args→Ty.Ts res),(∀x,pre x=true→Ty.cr args x→aA W.step (W.start x) (fn x))→aH.Sound P g ⟨args,res,pre,fn⟩
theorem mF:∀{ts:List Ty} {x:Ty.Ts ts},(iV ai ts x).length=ts.length
 | [],_=>rfl
 | [_],_=>rfl
 | t::t2::ts,x=>by
   rw[iV,List.length_cons,mF];rfl
theorem v8{g:FuncId}{F:Func}{aa:List AV}(hb:F.body.isSome=true)(h1:aa.length≤F.ntmps)(h2:F.ntmps≤65535):∃h0,fY g F aa=some h0:=by
 unfold fY
 cases hF:F.body with
 | none=>rw[hF] at hb;cases hb
 | some b=>
   simp only[Nat.ble_eq_true_of_le h1,Nat.ble_eq_true_of_le h2]
   exact⟨_,rfl⟩
theorem EZ{P:Program}{g:FuncId}{F:Func}{args res:List Ty}{Y:Type}{E:ed (Ty.Ts res)}(hE:Base P E)(hfin:E.fin=BB ai res)(hg:look E.ki g=some F)(hb:F.body.isSome=true)
  (hl:(Nat.ble args.length F.ntmps&&Nat.ble F.ntmps 65535)=true) (W:Walk P g args res Y) (cfg:Y→iH) {q:Bool} (n:Nat) (hstart:∀x,Tr.Is q (run ai E n (qM g F (iV ai args x))) ((W.start x).tr cfg))
  (hstep:∀y,∃n,Tr.Is q (run ai E n (advance E.gK (cfg y))) ((W.step y).tr cfg)):W.Ok:=
 ⟨fun pre fn hr=>uT (s:=⟨args,res,pre,fn⟩) hE hfin hg hb n fun x hp hx=>by
  rw[Bool.and_eq_true] at hl
  obtain⟨h0,hen⟩:=v8 (g:=g) (aa:=iV ai args x) hb (by rw[mF];exact Nat.le_of_ble_eq_true hl.1) (Nat.le_of_ble_eq_true hl.2)
  refine⟨h0,hen,fun G hG=>?_⟩
  have h:=hstart x
  rw[qM,hen] at h
  exact h.ok (Et hstep hG (hr x hp hx) rfl)⟩
theorem Eo{P:Program}:∀g F,look ([]:List (FuncId×Func)) g=some F→P.funcs[g]? = some F∧(F.name == "runtime.NumGoroutine")=false:=fun _ _ h=>by cases h
theorem Bh{P:Program}{f:FuncId}{F:Func}{l:List (FuncId×Func)}(h1:P.funcs[f]? = some F)(h2:(F.name == "runtime.NumGoroutine")=false)(h:∀g F,look l g=some F→P.funcs[g]? = some F∧(F.name == "runtime.NumGoroutine")=false) :
  ∀g G,look ((f,F)::l) g=some G→P.funcs[g]? = some G∧(G.name == "runtime.NumGoroutine")=false:=fun g G hg=>by
 rw[look] at hg
 by_cases e:f=g
 ·subst e;rw[bG.2 rfl] at hg;cases hg;exact⟨h1,h2⟩
 ·rw[bE.2 e] at hg;exact h g G hg
theorem D5{P:Program}:∀g s,look ([]:List (FuncId×aH)) g=some s→s.Sound P g:=fun _ _ h=>by cases h
theorem Bg{P:Program}{f:FuncId}{s:aH}{l:List (FuncId×aH)}(h1:s.Sound P f)(h:∀g s,look l g=some s→s.Sound P g):∀g s',look ((f,s)::l) g=some s'→s'.Sound P g:=fun g s' hg=>by
 rw[look] at hg
 by_cases e:f=g
 ·subst e;rw[bG.2 rfl] at hg;cases hg;exact h1
 ·rw[bE.2 e] at hg;exact h g s' hg
def tt{α:Type}:α→Bool:=fun _=>true
theorem aH.Sound.congr{P:Program}{g:FuncId}{args res:List Ty}{pre pre':Ty.Ts args→Bool}{fn fn':Ty.Ts args→Ty.Ts res}(h:aH.Sound P g ⟨args,res,pre,fn⟩)
  (he:∀x,pre' x=true→Ty.cr args x→pre x=true∧fn x=fn' x):aH.Sound P g ⟨args,res,pre',fn'⟩:=by
 refine⟨fun w I x aa hI hrep hpre=>?_,h.body⟩
 obtain⟨h1,h2⟩:=he x hpre hrep.has
 have:=h.calls w I x aa hI hrep h1
 simp only at this ⊢
 rw[h2] at this
 exact this
def IC(ti:PT TI)(A:cH)(res:List Ty)(ki:List (FuncId×Func))(gK:List (FuncId×aH))(stops mh:List Stop):ed (Ty.Ts res):=⟨ti,ki,gK,stops,mh, [],BB A res⟩
def tQ(P:Program)(l:List (FuncId×Func)):Prop:=∀g F,look l g=some F→P.funcs[g]? = some F∧(F.name == "runtime.NumGoroutine")=false
def tT(P:Program)(l:List (FuncId×aH)):Prop:=∀g s,look l g=some s→s.Sound P g
theorem fz{P:Program}:tQ P []:=Eo
theorem fc{P:Program}{f:FuncId}{F:Func}{l:List (FuncId×Func)}(h1:P.funcs[f]? = some F)(h:tQ P l)(h2:(F.name == "runtime.NumGoroutine")=false:=by kernel_rfl):tQ P ((f,F)::l):=Bh h1 h2 h
theorem sz{P:Program}:tT P []:=D5
theorem sc{P:Program}{f:FuncId}{s:aH}{l:List (FuncId×aH)}(h1:s.Sound P f)(h:tT P l):tT P ((f,s)::l):=Bg h1 h
section
variable {P:Program} {ti:PT TI} (ht:ek P ti) (hm:P.follows .mixedOrders=true) {g:FuncId} {F:Func} {args res:List Ty} {ki:List (FuncId×Func)} {gK:List (FuncId×aH)} {pre:Ty.Ts args→Bool} {fn:Ty.Ts args→Ty.Ts res}
include ht hm
theorem aX(q:Bool){Y:Type}(n:Nat)(stops mh:List Stop)(start:cH→Ty.Ts args→LT (Ty.Ts res) Y)(step:cH→Y→LT (Ty.Ts res) Y)(cfg:Y→iH)(hf:tQ P ((g,F)::ki))(hs:tT P gK)
  (hstep:∀A y,∃n,Tr.Is q (run A (IC ti A res ((g,F)::ki) gK stops mh) n (advance gK (cfg y))) ((step A y).tr cfg))
  (hr:∀x,pre x=true→Ty.cr args x→aA (step ai) (start ai x) (fn x))
  (hb:F.body.isSome=true:=by kernel_rfl) (hl:(Nat.ble args.length F.ntmps&&Nat.ble F.ntmps 65535)=true:=by kernel_rfl)
  (h0:∀A x,Tr.Is q (run A (IC ti A res ((g,F)::ki) gK stops mh) n (qM g F (iV A args x))) ((start A x).tr cfg):=by intro A x;first|exact⟨by kernel_rfl,by kernel_rfl⟩|(show Tr.full _=_;kernel_rfl)):aH.Sound P g ⟨args,res,pre,fn⟩:=
 (EZ (E:=IC ti ai res ((g,F)::ki) gK stops mh) ⟨ht,hf,hs,hm⟩ rfl (show look ((g,F)::ki) g=some F by rw[look,bG.2 rfl]) hb hl ⟨start ai,step ai⟩ cfg n (h0 ai) (hstep ai)).sound pre fn hr
theorem gj(q:Bool)(n:Nat)(mh:List Stop)(start:cH→Ty.Ts args→LT (Ty.Ts res) Empty)(hf:tQ P ((g,F)::ki))(hs:tT P gK)
  (hr:∀x,pre x=true→Ty.cr args x→aA Empty.elim (start ai x) (fn x))
  (hb:F.body.isSome=true:=by kernel_rfl) (hl:(Nat.ble args.length F.ntmps&&Nat.ble F.ntmps 65535)=true:=by kernel_rfl)
  (h0:∀A x,Tr.Is q (run A (IC ti A res ((g,F)::ki) gK [] mh) n (qM g F (iV A args x))) ((start A x).tr Empty.elim):=by intro A x;first|exact⟨by kernel_rfl,by kernel_rfl⟩|(show Tr.full _=_;kernel_rfl)):aH.Sound P g ⟨args,res,pre,fn⟩:=
 aX ht hm q n [] mh start (fun _=>Empty.elim) Empty.elim hf hs (fun _ y=>y.elim) hr hb hl h0
end
end Go.Ev
namespace Go.Ev
def xS:AV→Value→Bool
 | .undef,_=>true
 | .int k _ n,.int k' n'=>eF k k'&&(decide (n=0)&&decide (n'=0))
 | .bool _ b,.bool b'=>b==b'
 | .str _ s,.string s'=>s.isEmpty&&s'.data.toList.isEmpty
 | .du _,.slice none 0 0=>true
 | .cy,.pointer none=>true
 | .gZ,.nilFunc=>true
 | _,_=>false
def mI:List AV→List Value→Bool
 | [], []=>true
 | a::r,v::vs=>xS a v&&mI r vs
 | _,_=>false
theorem xc(k:IntKind):k.has 0:=by cases k<;>exact⟨by decide,by decide⟩
section
variable {w:World} {S:St} {m:Mem} {P:Program}
theorem jA{s:ByteArray}(h:s.data.toList.isEmpty=true):s=⟨#[]⟩:=by
 obtain⟨⟨l⟩⟩:=s
 cases l with
 | nil=>rfl
 | cons _ _=>cases h
theorem zR{a:AV}{v:Value}(h:xS a v=true):CR w S m a v:=by
 unfold xS at h
 split at h
 ·exact cJ
 ·simp only[Bool.and_eq_true,decide_eq_true_eq] at h
  obtain⟨h1,rfl,rfl⟩:=h
  rw[eQ h1]
  exact bg.2 ⟨rfl,xc _⟩
 ·rw[beq_iff_eq] at h;exact bR.2 (by rw[h])
 ·rw[Bool.and_eq_true] at h
  rename_i s s'
  cases s with
  | cons _ _=>cases h.1
  | nil=>exact dH.2 ⟨by rw[jA h.2],Nat.zero_le _⟩
 ·exact dG.2 ⟨none,rfl,fun _=>rfl⟩
 ·exact eH.2 rfl
 ·exact fM.2 rfl
 ·cases h
theorem mD:∀{as:List AV} {vs:List Value},mI as vs=true→bi w S m as vs
 | [], [],_=>bw.2 rfl
 | a::r,v::vs,h=>by
   rw[mI,Bool.and_eq_true] at h
   exact bT.2 ⟨v,vs,rfl,zR h.1,mD h.2⟩
 | [],_::_,h=>by cases h
 | _::_, [],h=>by cases h
mutual
def Ty.zeros:Ty→List Value
 | .int k=>[.int k 0]
 | .bool=>[.bool false]
 | .str=>[.string ⟨#[]⟩]
 | .slice _=>[.slice none 0 0]
 | .arr n t=>(List.replicate n t.zeros).flatten
 | .struct ts=>Ty.n_ ts
def Ty.n_:List Ty→List Value
 | []=>[]
 | t::ts=>t.zeros++Ty.n_ ts
end
mutual
theorem Ty.kW{I:Nat→Prop}:∀(t:Ty),aG w I t t.zeros t.om
 | .int k=>kQ.2 ⟨rfl,xc k⟩
 | .bool=>nV.2 rfl
 | .str=>nS.2 ⟨rfl,Nat.zero_le _⟩
 | .slice t=>bS.2 ⟨none,0,rfl,Nat.le_refl _,Nat.zero_le _,fun _=>rfl,fun i y h=>by cases h⟩
 | .arr n t=>by
   have ih:=Ty.kW (I:=I) t
   refine nT.2 ⟨List.length_replicate,?_,fun i y h=>?_⟩
   ·show((List.replicate n t.zeros).flatten).length=_
    rw[List.length_flatten,List.map_replicate,List.sum_replicate_nat,ih.length]
   ·have h:(List.replicate n t.om)[i]? = some y:=h
    obtain⟨h1,h2⟩:=List.getElem?_eq_some_iff.1 h
    rw[List.length_replicate] at h1
    rw[List.getElem_replicate] at h2
    subst h2
    have:=gS (l:=t.zeros) ih.length h1
    show aG w I t ((((List.replicate n t.zeros).flatten).drop (i*t.size)).take t.size) _
    rw[this];exact ih
 | .struct ts=>kE.2 (Ty.r7 ts)
theorem Ty.r7{I:Nat→Prop}:∀(ts:List Ty),bL w I ts (Ty.n_ ts) (Ty.dC ts)
 | []=>lk.2 rfl
 | [t]=>ox.2 (by
   have:Ty.n_ [t]=t.zeros:=by simp only[Ty.n_,List.append_nil]
   rw[this];exact Ty.kW t)
 | t::t2::ts=>l9.2 ⟨t.zeros,Ty.n_ (t2::ts),rfl,Ty.kW t,Ty.r7 (t2::ts)⟩
end
def Ce:Value→Value→Bool
 | .int k n,.int k' n'=>eF k k'&&decide (n=n')
 | .bool b,.bool b'=>b==b'
 | .string s,.string s'=>s.data.toList.isEmpty&&s'.data.toList.isEmpty
 | .slice none 0 0,.slice none 0 0=>true
 | _,_=>false
def vI:List Value→List Value→Bool
 | [], []=>true
 | a::r,v::vs=>Ce a v&&vI r vs
 | _,_=>false
theorem AR{a b:Value}(h:Ce a b=true):a=b:=by
 unfold Ce at h
 split at h
 ·simp only[Bool.and_eq_true,decide_eq_true_eq] at h;rw[eQ h.1,h.2]
 ·rw[beq_iff_eq] at h;rw[h]
 ·rw[Bool.and_eq_true] at h;rw[jA h.1,jA h.2]
 ·rfl
 ·cases h
theorem ul:∀{a b:List Value},vI a b=true→a=b
 | [], [],_=>rfl
 | a::r,v::vs,h=>by
   rw[vI,Bool.and_eq_true] at h
   rw[AR h.1,ul h.2]
 | [],_::_,h=>by cases h
 | _::_, [],h=>by cases h
def jw(P:Program)(t:TypeId):Option Bool:=
 match P.underlying t with
 | some (.struct _)=>some true
 | some (.array _ _)=>some true
 | some _=>some false
 | none=>none
theorem nF{t:TypeId}{b:Bool}(h:jw P t=some b)(w:World):(isAgg t).run P w=.ok b w:=by
 unfold jw at h
 cases hu:P.underlying t with
 | none=>rw[hu] at h;cases h
 | some d=>
   rw[hu] at h
   unfold isAgg
   rw[Sem.run_bind,run_underlying hu]
   cases d<;>cases h<;>rfl
def rp(a:Option Bool)(b:Bool):Bool:=match a with|some c=>c==b|none=>false
theorem nX{a:Option Bool}{b:Bool}(h:rp a b=true):a=some b:=by
 cases a with
 | none=>cases h
 | some c=>rw[rp,beq_iff_eq] at h;rw[h]
def fieldsB(P:Program):List Field→List (Nat×Nat×Bool)→Bool
 | [], []=>true
 | f::F,(off,sz,ag)::fs=>Nat.beq f.offset off&&(rp (jw P f.type) ag&&((match P.info? f.type with|some j=>Nat.beq j.size sz|none=>false)&&fieldsB P F fs))
 | _,_=>false
theorem qZ:∀{F:List Field} {fs:List (Nat×Nat×Bool)},fieldsB P F fs=true→F.length=fs.length∧∀(i off sz:Nat) (ag:Bool),fs[i]? = some (off,sz,ag)→
   ∃f j,F[i]? = some f∧f.offset=off∧P.info? f.type=some j∧j.size=sz∧∀w,(isAgg f.type).run P w=.ok ag w
 | [], [],_=>⟨rfl,fun i off sz ag h=>by cases h⟩
 | [],_::_,h=>by cases h
 | _::_, [],h=>by cases h
 | f::F,(off,sz,ag)::fs,h=>by
   simp only[fieldsB,Bool.and_eq_true] at h
   obtain⟨h1,h2,h3,h4⟩:=h
   obtain⟨g1,g2⟩:=qZ h4
   refine⟨by rw[List.length_cons,List.length_cons,g1],fun i off' sz' ag' hi=>?_⟩
   cases i with
   | zero=>
     cases hi
     cases hj:P.info? f.type with
     | none=>rw[hj] at h3;cases h3
     | some j=>
       rw[hj] at h3
       exact⟨f,j,rfl,Nat.eq_of_beq_eq_true h1,hj,Nat.eq_of_beq_eq_true h3,nF (nX h2)⟩
   | succ i=>exact g2 i off' sz' ag' (by simpa using hi)
def CF(P:Program)(T:TypeId):TK→Bool
 | .bool=>match P.underlying T with|some .bool=>true|_=>false
 | .int k=>match P.underlying T with|some (.int k')=>eF k' k|_=>false
 | .str=>match P.underlying T with|some .string=>true|_=>false
 | .slice e=>match P.underlying T with|some (.slice e')=>Nat.beq e' e|_=>false
 | .arr n e=>match P.underlying T with|some (.array n' e')=>Nat.beq n' n&&Nat.beq e' e|_=>false
 | .ptr e=>match P.underlying T with|some (.pointer e')=>Nat.beq e' e|_=>false
 | .func=>match P.underlying T with|some (.func _ _ _)=>true|_=>false
 | .struct fs=>match P.underlying T with|some (.struct F)=>fieldsB P F.toList fs|_=>false
 | .other=>true
theorem A4{T:TypeId}{k:TK}(h:CF P T k=true):kindOk P T k:=by
 cases k<;>simp only[CF] at h<;>simp only[kindOk]
 case bool=>split at h<;>first|assumption|cases h
 case int k=>
  split at h
  ·rename_i k' hu;rw[hu,eQ h]
  ·cases h
 case str=>split at h<;>first|assumption|cases h
 case slice e=>
  split at h
  ·rename_i e' hu;rw[hu,Nat.eq_of_beq_eq_true h]
  ·cases h
 case arr n e=>
  split at h
  ·rename_i n' e' hu;rw[Bool.and_eq_true] at h;rw[hu,Nat.eq_of_beq_eq_true h.1,Nat.eq_of_beq_eq_true h.2]
  ·cases h
 case struct fs=>
  split at h
  ·rename_i F hu
   obtain⟨h1,h2⟩:=qZ h
   exact⟨F,hu,by rw[←h1,Array.length_toList],fun i off sz ag hi=>by
    obtain⟨f,j,e,r⟩:=h2 i off sz ag hi
    exact⟨f,j,by rw[←Array.getElem?_toList];exact e,r⟩⟩
  ·cases h
 case ptr e=>
  split at h
  ·rename_i e' hu;rw[hu,Nat.eq_of_beq_eq_true h]
  ·cases h
 case func=>
  split at h
  ·rename_i a b c hu;exact⟨a,b,c,hu⟩
  ·cases h
def zH(P:Program)(eq:TypeId→List AV→Bool)(z:List AV):Nat→List Field→Option Nat
 | off, []=>some off
 | off,f::fs=>match decide (f.name≠ "_")&&(Nat.beq f.offset off&&eq f.type ((z.drop off).take (P.cellsOf f.type))) with
   | true=>zH P eq z (off+P.cellsOf f.type) fs
   | false=>none
def Fx(a:Option Nat)(b:Nat):Bool:=match a with|some c=>Nat.beq c b|none=>false
theorem Bq{a:Option Nat}{b:Nat}(h:Fx a b=true):a=some b:=by
 cases a with
 | none=>cases h
 | some c=>rw[Nat.eq_of_beq_eq_true h]
def DN(P:Program):Nat→TypeId→List AV→Bool
 | 0,_,_=>false
 | d+1,t,z=>match P.underlying t with
   | some .bool=>Nat.beq (P.cellsOf t) 1&&(match z with | [.bool _ _]=>true|_=>false)
   | some (.int _)=>Nat.beq (P.cellsOf t) 1&&(match z with | [.int _ _ _]=>true|_=>false)
   | some .string=>Nat.beq (P.cellsOf t) 1&&(match z with | [.str _ _]=>true|_=>false)
   | some (.struct fs)=>!P.stoodInHeld t&&(Fx (zH P (DN P d) z 0 fs.toList) (P.cellsOf t)&&Nat.beq z.length (P.cellsOf t))
   | _=>false
theorem lS:∀{a b:List AV},eD a b=true→a.length=b.length
 | [], [],_=>rfl
 | a::as,b::bs,h=>by
   rw[eD,Bool.and_eq_true] at h
   rw[List.length_cons,List.length_cons,lS h.2]
 | [],_::_,h=>by cases h
 | _::_, [],h=>by cases h
theorem oY:∀{a b:List AV} (n:Nat),eD a b=true→eD (a.drop n) (b.drop n)=true
 | _,_,0,h=>h
 | [], [],n+1,_=>rfl
 | a::as,b::bs,n+1,h=>by
   rw[eD,Bool.and_eq_true] at h
   exact oY n h.2
 | [],_::_,_+1,h=>by cases h
 | _::_, [],_+1,h=>by cases h
theorem pK:∀{a b:List AV} (n:Nat),eD a b=true→eD (a.take n) (b.take n)=true
 | _,_,0,_=>rfl
 | [], [],n+1,_=>rfl
 | a::as,b::bs,n+1,h=>by
   rw[eD,Bool.and_eq_true] at h
   rw[List.take_succ_cons,List.take_succ_cons,eD,Bool.and_eq_true]
   exact⟨h.1,pK n h.2⟩
 | [],_::_,_+1,h=>by cases h
 | _::_, [],_+1,h=>by cases h
theorem lL:∀{a b x y:List AV} {c:Bool} {g:cH→Bool},a.length=b.length→bp (a++x) (b++y)=some (c,g)→
  ∃c1 g1 c2 g2,bp a b=some (c1,g1)∧bp x y=some (c2,g2)∧g ai=(g1 ai&&g2 ai)
 | [], [],x,y,c,g,_,h=>⟨true,fun _=>true,c,g,by simp[bp],h,rfl⟩
 | [],_::_,_,_,_,_,h,_=>by cases h
 | _::_, [],_,_,_,_,h,_=>by cases h
 | a::as,b::bs,x,y,c,g,hl,h=>by
   have hl:as.length=bs.length:=by simpa using hl
   have split:∀(c':Bool) (e:cH→Bool),(match bp (as++x) (bs++y) with|none=>none|some (c2,g)=>some (c'&&c2,fun A=>A.and (e A) (g A)))=some (c,g)→
     (∀q:Option (Bool×(cH→Bool)),bp as bs=q→bp (a::as) (b::bs)=(match q with|none=>none|some (c2,g)=>some (c'&&c2,fun A=>A.and (e A) (g A))))→
     ∃c1 g1 c2 g2,bp (a::as) (b::bs)=some (c1,g1)∧bp x y=some (c2,g2)∧g ai=(g1 ai&&g2 ai):=by
    intro c' e h hk
    cases hq:bp (as++x) (bs++y) with
    | none=>rw[hq] at h;cases h
    | some q=>
      obtain⟨c2,g2⟩:=q
      rw[hq] at h
      cases h
      obtain⟨c1,g1,c3,g3,h1,h2,h3⟩:=lL hl hq
      refine⟨_,_,c3,g3,hk _ h1,h2,?_⟩
      show ai.and (e ai) (g2 ai)=(ai.and (e ai) (g1 ai)&&g3 ai)
      rw[h3]
      show(e ai&&(g1 ai&&g3 ai))=((e ai&&g1 ai)&&g3 ai)
      rw[Bool.and_assoc]
   cases a<;>cases b<;>simp only[List.cons_append,bp] at h<;>try (cases h;done)
   case int.int k c1 n1 k' c2 n2=>
    cases hk:eF k k' with
    | false=>rw[hk] at h;cases h
    | true=>
      rw[hk] at h
      exact split (c1&&c2) (fun A=>A.c .eql n1 n2) h (fun q hq=>by simp only[bp,hk,hq];cases q<;>rfl)
   case bool.bool c1 n1 c2 n2=>exact split (c1&&c2) (fun A=>A.q n1 n2) h (fun q hq=>by simp only[bp,hq];cases q<;>rfl)
   case str.str c1 n1 c2 n2=>exact split (c1&&c2) (fun A=>A.z .eql n1 n2) h (fun q hq=>by simp only[bp,hq];cases q<;>rfl)
def Dy(P:Program)(t:TypeId)(us:List Value)(v:Value):Prop:=(jw P t=some true∧v=.agg us.toArray)∨(jw P t=some false∧us=[v])
theorem sM{t:TypeId}{us:Array Value}{off:Nat}{b:Bool}(hb:jw P t=some b)(h1:b=false→P.cellsOf t=1)(hi:∃j,P.info? t=some j)(hl:off+P.cellsOf t≤us.size)(w:World) :
  ∃v,(part t us off).run P w=.ok v w∧Dy P t ((us.toList.drop off).take (P.cellsOf t)) v:=by
 obtain⟨j,hj⟩:=hi
 have hc:P.cellsOf t=j.size:=by simp[Program.cellsOf,hj]
 have hs:(sizeOf t).run P w=.ok (P.cellsOf t) w:=by simp[sizeOf,typeInfo,hj,hc]
 cases b with
 | true=>
   refine⟨.agg (us.extract off (off+P.cellsOf t)),by simp[part,Sem.run_bind,nF hb,hs],.inl ⟨hb,?_⟩⟩
   congr 1
   apply Array.toList_inj.1
   rw[Array.toList_extract,List.extract_eq_take_drop,show off+P.cellsOf t-off=P.cellsOf t from by omega]
 | false=>
   have h1:=h1 rfl
   rw[h1] at hl ⊢
   have hlt:off<us.size:=by omega
   refine⟨us[off],by simp[part,Sem.run_bind,nF hb,Array.getElem?_eq_getElem hlt],.inr ⟨hb,?_⟩⟩
   have hlt':off<us.toList.length:=by simpa using hlt
   rw[List.drop_eq_getElem_cons hlt',List.take_succ_cons,List.take_zero]
   simp
theorem info_of_underlying{t:TypeId}{d:TypeDesc}(h:P.underlying t=some d):∃j,P.info? t=some j:=by
 unfold Program.underlying at h
 cases hi:P.info? t with
 | none=>rw[hi] at h;cases h
 | some j=>exact⟨j,rfl⟩
theorem A5{d:Nat}{t:TypeId}{z:List AV}(h:DN P d t z=true):(∃j,P.info? t=some j)∧((jw P t=some false∧P.cellsOf t=1)∨jw P t=some true):=by
 cases d with
 | zero=>cases h
 | succ d=>
   unfold DN at h
   cases hu:P.underlying t with
   | none=>rw[hu] at h;cases h
   | some q=>
     refine⟨info_of_underlying hu,?_⟩
     rw[hu] at h
     cases q<;>simp only at h<;>try (cases h;done)
     case struct fs=>exact .inr (by simp[jw,hu])
     all_goals
      rw[Bool.and_eq_true] at h
      exact .inl ⟨by simp[jw,hu],Nat.eq_of_beq_eq_true h.1⟩
theorem uv:∀(d:Nat) {D:Nat} {t:TypeId} {z xs ys:List AV} {us vs:List Value} {u v:Value} {c:Bool} {g:cH→Bool} {w:World},d≤D→DN P d t z=true→eD xs z=true→xs.length=P.cellsOf t→ys.length=P.cellsOf t→bp xs ys=some (c,g)→
  bi w S m xs us→bi w S m ys vs→Dy P t us u→Dy P t vs v→(Op.equalIn D t u v).run P w=.ok (g ai) w
 | 0,_,_,_,_,_,_,_,_,_,_,_,_,_,h,_,_,_,_,_,_,_,_=>by cases h
 | d+1,0,_,_,_,_,_,_,_,_,_,_,_,hD,_,_,_,_,_,_,_,_,_=>by omega
 | d+1,D+1,t,z,xs,ys,us,vs,u,v,c,g,w,hD,h,hz,hx,hy,he,hxs,hys,hu,hv=>by
   unfold DN at h
   cases hut:P.underlying t with
   | none=>rw[hut] at h;cases h
   | some q=>
     rw[hut] at h
     -- a type of one cell
     have one:jw P t=some false→P.cellsOf t=1→∃a b,xs=[a]∧ys=[b]∧CR w S m a u∧CR w S m b v:=by
      intro ha h1
      rw[h1] at hx hy
      obtain⟨a,rfl⟩:=List.length_eq_one_iff.1 hx
      obtain⟨b,rfl⟩:=List.length_eq_one_iff.1 hy
      rcases hu with ⟨h',_⟩|⟨_,rfl⟩
      ·rw[ha] at h';cases h'
      ·rcases hv with ⟨h',_⟩|⟨_,rfl⟩
       ·rw[ha] at h';cases h'
       ·obtain⟨_,_,e,h1,_⟩:=bT.1 hxs
        obtain⟨_,_,e',h1',_⟩:=bT.1 hys
        cases e;cases e'
        exact⟨a,b,rfl,rfl,h1,h1'⟩
     cases q<;>simp only at h<;>try (cases h;done)
     case bool=>
      rw[Bool.and_eq_true] at h
      obtain⟨a,b,rfl,rfl,ha,hb⟩:=one (by simp[jw,hut]) (Nat.eq_of_beq_eq_true h.1)
      have h2:=h.2
      split at h2
      ·cases a<;>simp[eD,y1] at hz
       cases b<;>simp[bp] at he
       obtain⟨_,rfl⟩:=he
       rw[bR.1 ha,bR.1 hb,run_equalIn_bool' w D t _ _ hut]
       simp[ai]
      ·cases h2
     case int k0=>
      rw[Bool.and_eq_true] at h
      obtain⟨a,b,rfl,rfl,ha,hb⟩:=one (by simp[jw,hut]) (Nat.eq_of_beq_eq_true h.1)
      have h2:=h.2
      split at h2
      ·cases a<;>simp[eD,y1] at hz
       cases b<;>simp[bp] at he
       rename_i k c1 n1 k' c2 n2
       cases hk:eF k k' with
       | false=>rw[hk] at he;cases he
       | true=>
         rw[hk] at he
         have hkk:=eQ hk
         subst hkk
         simp only[Option.some.injEq,Prod.mk.injEq] at he
         obtain⟨_,rfl⟩:=he
         rw[(bg.1 ha).1,(bg.1 hb).1,run_equalIn_int w D t _ k0 _ _ hut]
         simp[ai,lF]
      ·cases h2
     case string=>
      rw[Bool.and_eq_true] at h
      obtain⟨a,b,rfl,rfl,ha,hb⟩:=one (by simp[jw,hut]) (Nat.eq_of_beq_eq_true h.1)
      have h2:=h.2
      split at h2
      ·cases a<;>simp[eD,y1] at hz
       cases b<;>simp[bp] at he
       obtain⟨_,rfl⟩:=he
       rw[(dH.1 ha).1,(dH.1 hb).1,run_equalIn_string w D t _ _ hut]
       simp[ai,Ct,ByteArray.toList_eq]
      ·cases h2
     case struct fs=>
      rw[Bool.and_eq_true,Bool.not_eq_true',Bool.and_eq_true] at h
      obtain⟨hst,hfs,_⟩:=h
      have hfs:=Bq hfs
      have hag:jw P t=some true:=by simp[jw,hut]
      have hu:u=.agg us.toArray:=by
       rcases hu with ⟨_,e⟩|⟨h',_⟩
       ·exact e
       ·rw[hag] at h';cases h'
      have hv:v=.agg vs.toArray:=by
       rcases hv with ⟨_,e⟩|⟨h',_⟩
       ·exact e
       ·rw[hag] at h';cases h'
      subst hu;subst hv
      have hfo:P.fieldsOf t=fs:=by simp[Program.fieldsOf,hut]
      rw[run_equalIn_struct w D t _ _ (by rw[hfo];exact hut) hst,hfo]
      -- field by field
      have key:∀(F:List Field) (off:Nat) (g:cH→Bool) (c:Bool),zH P (DN P d) z off F=some (P.cellsOf t)→off≤P.cellsOf t→bp (xs.drop off) (ys.drop off)=some (c,g)→(Op.eqFields D us.toArray vs.toArray F).run P w=.ok (g ai) w:=by
       intro F
       induction F with
       | nil=>
         intro off g c hF _ he
         cases hF
         rw[List.drop_of_length_le (by omega),List.drop_of_length_le (by omega)] at he
         simp only[bp,Option.some.injEq,Prod.mk.injEq] at he
         obtain⟨_,rfl⟩:=he
         simp[Op.eqFields]
       | cons f F ihF=>
         intro off g c hF hoff he
         rw[zH] at hF
         cases hck:decide (f.name≠ "_")&&(Nat.beq f.offset off&&DN P d f.type ((z.drop off).take (P.cellsOf f.type))) with
         | false=>rw[hck] at hF;cases hF
         | true=>
           rw[hck] at hF
           simp only at hF
           rw[Bool.and_eq_true,Bool.and_eq_true,decide_eq_true_eq] at hck
           obtain⟨hname,hfo,heq⟩:=hck
           have hfo:=Nat.eq_of_beq_eq_true hfo
           have hle:off+P.cellsOf f.type≤P.cellsOf t:=by
            have mono:∀(F:List Field) (a b:Nat),zH P (DN P d) z a F=some b→a≤b:=by
             intro F
             induction F with
             | nil=>intro a b h;cases h;exact Nat.le_refl _
             | cons f F ih=>
               intro a b h
               rw[zH] at h
               split at h
               ·exact Nat.le_trans (Nat.le_add_right _ _) (ih _ _ h)
               ·cases h
            exact mono F _ _ hF
           obtain⟨hinf,hone⟩:=A5 heq
           obtain⟨bb,hbb,hb1⟩:∃bb,jw P f.type=some bb∧(bb=false→P.cellsOf f.type=1):=by
            rcases hone with ⟨h1,h2⟩|h1
            ·exact⟨false,h1,fun _=>h2⟩
            ·exact⟨true,h1,fun h=>by cases h⟩
           have hul:us.length=P.cellsOf t:=by rw[hxs.length,hx]
           have hvl:vs.length=P.cellsOf t:=by rw[hys.length,hy]
           obtain⟨a,ha,hav⟩:=sM (us:=us.toArray) (off:=off) hbb hb1 hinf (by rw[List.size_toArray,hul];exact hle) w
           obtain⟨b,hb,hbv⟩:=sM (us:=vs.toArray) (off:=off) hbb hb1 hinf (by rw[List.size_toArray,hvl];exact hle) w
           have ex:xs.drop off=(xs.drop off).take (P.cellsOf f.type)++xs.drop (off+P.cellsOf f.type):=by rw[←List.drop_drop,List.take_append_drop]
           have ey:ys.drop off=(ys.drop off).take (P.cellsOf f.type)++ys.drop (off+P.cellsOf f.type):=by rw[←List.drop_drop,List.take_append_drop]
           have lx:((xs.drop off).take (P.cellsOf f.type)).length=P.cellsOf f.type:=by rw[List.length_take,List.length_drop];omega
           have ly:((ys.drop off).take (P.cellsOf f.type)).length=P.cellsOf f.type:=by rw[List.length_take,List.length_drop];omega
           rw[ex,ey] at he
           obtain⟨c1,g1,c2,g2,e1,e2,e3⟩:=lL (by rw[lx,ly]) he
           have r1:=uv d (D:=D) (by omega) heq (pK _ (oY _ hz)) lx ly e1 ((hxs.drop off).take _) ((hys.drop off).take _) hav hbv
           have r2:=ihF (off+P.cellsOf f.type) g2 c2 hF hle e2
           simp only[Op.eqFields,if_pos hname,Sem.run_bind,hfo,ha,Result.andThen_ok,hb,r1]
           rw[e3]
           cases hg1:g1 ai with
           | true=>simp only[Bool.not_true,Bool.false_eq_true,if_false,Bool.true_and];exact r2
           | false=>simp
      exact key fs.toList 0 g c hfs (Nat.zero_le _) (by simpa using he)
def BZ(P:Program)(T:TypeId)(z:List AV):Bool:=
 DN P 50 T z&&(rp (jw P T) true&&(Nat.beq (P.cellsOf T) z.length && !P.eqGuardType P.depth T))
theorem A8{T:TypeId}{z:List AV}(h:BZ P T z=true):J3 P T z:=by
 simp only[BZ,Bool.and_eq_true,Bool.not_eq_true'] at h
 obtain⟨h1,h2,h3,h4⟩:=h
 have h2:=nX h2
 have h3:=Nat.eq_of_beq_eq_true h3
 intro w S m xs ys us vs c g hk he hx hy
 have hl:=lS hk
 have hly:∀{xs ys:List AV} {c:Bool} {g:cH→Bool},bp xs ys=some (c,g)→ys.length=xs.length:=by
  intro xs
  induction xs with
  | nil=>intro ys c g h;cases ys with
    | nil=>rfl
    | cons b _=>cases b<;>simp[bp] at h
  | cons a xs ih=>
    intro ys c g h
    cases ys with
    | nil=>cases a<;>simp[bp] at h
    | cons b ys=>
      have:∃c g,bp xs ys=some (c,g):=by
       cases hq:bp xs ys with
       | some q=>exact⟨q.1,q.2,rfl⟩
       | none=>
         cases a<;>cases b<;>simp only[bp,hq] at h<;>(try (cases h;done))
         split at h<;>cases h
      obtain⟨c',g',h'⟩:=this
      rw[List.length_cons,List.length_cons,ih h']
 refine⟨?_,fun op x y=>?_⟩
 ·exact uv (m:=m) (S:=S) 50 (D:=Op.maxDepth) (by decide) h1 hk (by omega) (by rw[hly he];omega) he hx hy (.inl ⟨h2,rfl⟩) (.inl ⟨h2,rfl⟩)
 ·cases op<;>simp[eqGuard,Sem.run_bind,run_program,h4]
def MW(P:Program)(T:TypeId)(ti:TI):Bool:=
 (match P.info? T with
   | none=>false
   | some i=>Nat.beq i.size ti.size&&(Nat.beq i.bytes ti.bytes&&(match i.zero with
     | none=>false
     | some z=>mI ti.zero z.cells.toList&&(match ti.ty with
       | none=>true
       | some t=>vI z.cells.toList t.zeros&&(Nat.beq t.size ti.size&&(t.isAgg==ti.agg)))))) &&
 (CF P T ti.kind&&(rp (jw P T) ti.agg&&(Nat.beq ti.zero.length ti.size&&(!(ti.eq&&ti.agg)||BZ P T ti.zero))))
theorem Gw{T:TypeId}{ti:TI}(h:MW P T ti=true):qb P T ti:=by
 simp only[MW,Bool.and_eq_true] at h
 obtain⟨h1,h2,h3,h4,h5⟩:=h
 cases hi:P.info? T with
 | none=>rw[hi] at h1;cases h1
 | some i=>
   rw[hi] at h1
   simp only[Bool.and_eq_true] at h1
   obtain⟨g1,g2,g3⟩:=h1
   cases hz:i.zero with
   | none=>rw[hz] at g3;cases g3
   | some z=>
     rw[hz] at g3
     simp only[Bool.and_eq_true] at g3
     obtain⟨g3,g4⟩:=g3
     have hty:∀t,ti.ty=some t→z.cells.toList=t.zeros∧t.size=ti.size∧t.isAgg=ti.agg:=fun t ht=>by
      rw[ht] at g4
      simp only[Bool.and_eq_true,beq_iff_eq] at g4
      exact⟨ul g4.1,Nat.eq_of_beq_eq_true g4.2.1,g4.2.2⟩
     refine⟨⟨i,z,hi,Nat.eq_of_beq_eq_true g1,Nat.eq_of_beq_eq_true g2,hz,fun w S m=>mD g3,fun t ht w I=>?_⟩,A4 h2,nF (nX h3),Nat.eq_of_beq_eq_true h4,fun t ht=>(hty t ht).2,fun he ha=>?_⟩
     ·rw[(hty t ht).1];exact Ty.kW t
     ·rw[he,ha] at h5
      exact A8 (by simpa using h5)
def C5(P:Program):Nat→Nat→Nat→PT TI→Bool
 | 0,_,_,t=>match t with | .leaf=>true|_=>false
 | _+1,_,_,.leaf=>true
 | f+1,a,s,.node l v r=>(match v with|some ti=>MW P a ti|none=>true)&&(C5 P f (a+s) (2*s) l&&C5 P f (a+2*s) (2*s) r)
theorem uV:∀{f a s:Nat} {t:PT TI},C5 P f a s t=true→∀n ti,t.get n=some ti→qb P (a+s*n) ti
 | 0,a,s,.leaf,_,n,ti,hg=>by rw[PT.iq] at hg;cases hg
 | 0,a,s,.node _ _ _,h,_,_,_=>by cases h
 | f+1,a,s,.leaf,_,n,ti,hg=>by rw[PT.iq] at hg;cases hg
 | f+1,a,s,.node l v r,h,n,ti,hg=>by
   simp only[C5,Bool.and_eq_true] at h
   rw[PT.fh] at hg
   split at hg
   ·rename_i hn
    subst hn
    rw[hg] at h
    exact Gw h.1
   ·rename_i hn
    split at hg
    ·rename_i h1
     have:=uV h.2.1 _ _ hg
     have e:a+s+2*s*(n/2)=a+s*n:=by
      have:n=2*(n/2)+1:=by omega
      conv=>rhs;rw[this]
      rw[Nat.mul_add,Nat.mul_one,Nat.mul_comm 2 s,Nat.mul_assoc,Nat.add_assoc,Nat.add_comm s]
     rw[e] at this;exact this
    ·rename_i h1
     have:=uV h.2.2 _ _ hg
     have e:a+2*s+2*s*(n/2-1)=a+s*n:=by
      have:n=2*(n/2-1)+2:=by omega
      conv=>rhs;rw[this]
      rw[Nat.mul_add,Nat.mul_comm 2 s,Nat.mul_assoc,Nat.add_assoc,Nat.add_comm (s*2)]
     rw[e] at this;exact this
theorem G_{t:PT TI}(h:C5 P 30 0 1 t=true):ek P t:=fun T ti hg=>by
 have:=uV h T ti hg
 rwa [Nat.zero_add,Nat.one_mul] at this
end
end Go.Ev
namespace Go.Ev
def gz(P:Program)(ty:TypeId→Option Ty):Nat→List Field→Option (List Ty×Nat)
 | off, []=>some ([],off)
 | off,f::fs=>match ty f.type with
   | none=>none
   | some t=>match Nat.beq f.offset off&&Nat.beq (P.cellsOf f.type) t.size with
     | false=>none
     | true=>match gz P ty (off+t.size) fs with
       | none=>none
       | some (ts,n)=>some (t::ts,n)
def pZ(P:Program):Nat→TypeId→Option Ty
 | 0,_=>none
 | d+1,t=>match P.underlying t with
   | some .bool=>some .bool
   | some (.int k)=>some (.int k)
   | some .string=>some .str
   | some (.slice e)=>match pZ P d e with
     | none=>none
     | some ty=>match Nat.beq (P.cellsOf e) ty.size&&(Nat.blt 0 ty.size&&Nat.blt 0 (P.bytesOf e)) with
       | true=>some (.slice ty)
       | false=>none
   | some (.struct fs)=>match gz P (pZ P d) 0 fs.toList with
     | none=>none
     | some (ts,n)=>match Nat.beq (P.cellsOf t) n with
       | true=>some (.struct ts)
       | false=>none
   | _=>none
def tV(P:Program):List TypeId→Option (List Ty)
 | []=>some []
 | t::ts=>match pZ P 60 t with
   | none=>none
   | some ty=>match tV P ts with
     | none=>none
     | some tA=>some (ty::tA)
section
variable {H:Type} {enc:TypeId×Value→H} {P:Program} {w:World} {base:Nat} {spare:Nat→Bool} {held:Bool}
theorem nD{ty:TypeId→Option Ty}:∀{fs:List Field} {off n:Nat} {ts:List Ty},gz P ty off fs=some (ts,n)→n=off+Ty.pq ts
 | [],off,n,ts,h=>by cases h;rfl
 | f::fs,off,n,ts,h=>by
   rw[gz] at h
   cases ht:ty f.type with
   | none=>rw[ht] at h;cases h
   | some t=>
     rw[ht] at h
     simp only at h
     split at h
     ·cases h
     ·cases hr:gz P ty (off+t.size) fs with
      | none=>rw[hr] at h;cases h
      | some q=>
        obtain⟨ts',n'⟩:=q
        rw[hr] at h
        cases h
        rw[nD hr,Ty.pq,Nat.add_assoc]
theorem uz{a:Addr}{n:Nat}{us:List Value}(h:w.cells? base a n=some us):us.length=n∧(0<n→a.spot=none∧a.block<w.heap.size)∧(a.spot=none→dJ w a.block a.off us):=by
 unfold World.cells? at h
 split at h
 ·have hl:us.length=n:=by simpa using mapM_some_length h
  have hg:∀i,i<n→w.cell? (a.add i)=us[i]? :=fun i hi=>by
   have:=mapM_some_get h i i (by simp[hi])
   exact this
  refine⟨hl,fun hn=>?_,fun hs j u hu=>?_⟩
  ·have h0:=hg 0 hn
   rw[List.getElem?_eq_getElem (by omega)] at h0
   have e:a.add 0=a:=by simp[Addr.add]
   rw[e] at h0
   unfold World.cell? at h0
   split at h0
   ·rename_i c _ _ hb
    split at h0
    ·cases h0
    ·rename_i hsp
     exact⟨by simpa using hsp,(Array.getElem?_eq_some_iff.1 hb).1⟩
   ·cases h0
  ·have hj:j<n:=by rw[←hl];exact(List.getElem?_eq_some_iff.1 hu).1
   have:=hg j hj
   rw[hu] at this
   rw[←this]
   congr 1
   obtain⟨b,o,sp⟩:=a
   have hs:sp=none:=hs
   subst hs
   exact(Addr.add_lit b o j).symm
 ·cases h
theorem oV{α:Type}{p:Nat→α→Prop}:∀(n:Nat),(∀i,i<n→∃x,p i x)→∃l:List α,l.length=n∧∀i x,l[i]? = some x→p i x
 | 0,_=>⟨[],rfl,fun i x h=>by simp at h⟩
 | n+1,h=>by
   obtain⟨l,h1,h2⟩:=oV n fun i hi=>h i (by omega)
   obtain⟨x,hx⟩:=h n (by omega)
   refine⟨l ++ [x],by simp[h1],fun i y hy=>?_⟩
   rcases Nat.lt_trichotomy i l.length with hi|hi|hi
   ·rw[List.getElem?_append_left hi] at hy;exact h2 i y hy
   ·subst hi
    rw[List.getElem?_append_right (Nat.le_refl _),Nat.sub_self] at hy
    cases hy
    rw[h1];exact hx
   ·rw[List.getElem?_eq_none (by simp;omega)] at hy;cases hy
theorem pV{P:Program}{e:TypeId}:∀{l:List (DataW H)} {d:DataW H},d∈l→∀n∈d.weights P e,n∈DataW.weightsAll P e l
 | x::l,d,hd,n,hn=>by
   rw[DataW.weightsAll]
   rcases List.mem_cons.1 hd with rfl|hd
   ·exact List.mem_append.2 (.inl hn)
   ·exact List.mem_append.2 (.inr (pV hd n hn))
theorem nR{P:Program}:∀{ts:List TypeId} {l:List (DataW H)} {i:Nat} {t:TypeId} {d:DataW H},ts[i]? = some t→l[i]? = some d→∀n∈d.weights P t,n∈DataW.weightsEach P ts l
 | [],_,i,t,d,h,_,_,_=>by simp at h
 | _::_, [],i,t,d,_,h,_,_=>by simp at h
 | t0::ts,d0::l,i,t,d,h1,h2,n,hn=>by
   rw[DataW.weightsEach]
   cases i with
   | zero=>cases h1;cases h2;exact List.mem_append.2 (.inl hn)
   | succ i=>exact List.mem_append.2 (.inr (nR (i:=i) (by simpa using h1) (by simpa using h2) n hn))
theorem sF{ty:TypeId→Option Ty}{cs:List Value}{rd:Field→Option (DataW H×List MemPlace)}{I:Nat→Prop} :
  ∀{fs:List Field} {off n:Nat} {ts:List Ty},gz P ty off fs=some (ts,n)→n≤cs.length→
  (∀(i:Nat) (f:Field) (t:Ty),fs[i]? = some f→ty f.type=some t→P.cellsOf f.type=t.size→∃x,aG w I t ((cs.drop f.offset).take (P.cellsOf f.type)) x)→∃x,bL w I ts ((cs.drop off).take (n-off)) x
 | [],off,n,ts,h,_,_=>by
   cases h
   exact⟨(),lk.2 (by rw[Nat.sub_self,List.take_zero])⟩
 | f::fs,off,n,ts,h,hn,hx=>by
   have hsz:=nD h
   rw[gz] at h
   cases ht:ty f.type with
   | none=>rw[ht] at h;cases h
   | some t=>
     rw[ht] at h
     simp only at h
     cases hck:Nat.beq f.offset off&&Nat.beq (P.cellsOf f.type) t.size with
     | false=>rw[hck] at h;cases h
     | true=>
       rw[hck] at h
       simp only at h
       rw[Bool.and_eq_true] at hck
       have ho:=Nat.eq_of_beq_eq_true hck.1
       have hc:=Nat.eq_of_beq_eq_true hck.2
       cases hr:gz P ty (off+t.size) fs with
       | none=>rw[hr] at h;cases h
       | some q=>
         obtain⟨ts',n'⟩:=q
         rw[hr] at h
         cases h
         obtain⟨x,h1⟩:=hx 0 f t rfl ht hc
         obtain⟨y,h2⟩:=sF (rd:=rd) hr hn fun i g t' hg=>hx (i+1) g t' (by simpa using hg)
         rw[ho,hc] at h1
         rw[Ty.pq] at hsz
         have e:(cs.drop off).take (n-off)=(cs.drop off).take t.size++(cs.drop (off+t.size)).take (n-(off+t.size)):=by
          rw[show n-off=t.size+(n-(off+t.size)) from by omega,List.take_add,List.drop_drop]
         rw[e]
         cases ts' with
         | nil=>
           have h3:=lk.1 h2
           rw[h3,List.append_nil]
           exact⟨x,ox.2 h1⟩
         | cons t2 ts'=>exact⟨(x,y),l9.2 ⟨_,_,rfl,h1,h2⟩⟩
theorem Ae{k:IntKind}{n:Int}(h:(Lit.int k n).wf=true):k.has n:=by
 simp only[Lit.wf,Bool.and_eq_true,decide_eq_true_eq] at h
 exact⟨h.1,h.2⟩
theorem qS:∀(d:Nat) {t:TypeId} {ty:Ty} {fuel:Nat} {cs:List Value} {r:DataW H×List MemPlace},pZ P d t=some ty→DataW.trod enc P w base spare held fuel t cs=some r→(∀n∈r.1.weights P t,n≤reachBytes)→
  ∃x,aG w (fun b=>b<w.heap.size) ty cs x
 | 0,_,_,_,_,_,h,_,_=>by cases h
 | d+1,t,ty,fuel,cs,r,h,htr,hwt=>by
   rw[pZ] at h
   cases hu:P.underlying t with
   | none=>rw[hu] at h;cases h
   | some q=>
     rw[hu] at h
     cases q<;>simp only at h<;>try (cases h;done)
     case bool=>
      cases h
      obtain⟨b,rfl,_⟩:=DataW.trod_bool hu htr
      exact⟨b,nV.2 rfl⟩
     case int k=>
      cases h
      obtain⟨n,rfl,_,hw⟩:=DataW.trod_int hu htr
      exact⟨n,kQ.2 ⟨rfl,Ae hw⟩⟩
     case string=>
      cases h
      obtain⟨s,rfl,hr,_⟩:=DataW.trod_string hu htr
      refine⟨s.data.toList,nS.2 ⟨by simp,?_⟩⟩
      have:=hwt s.data.toList.length (by rw[hr];simp[DataW.weights])
      exact Nat.le_trans this (by decide)
     case slice e=>
      cases hte:pZ P d e with
      | none=>rw[hte] at h;cases h
      | some ty'=>
        rw[hte] at h
        simp only at h
        split at h
        ·rename_i hck
         cases h
         rw[Bool.and_eq_true,Bool.and_eq_true] at hck
         have hce:=Nat.eq_of_beq_eq_true hck.1
         have hpos:0<ty'.size:=Nat.le_of_ble_eq_true hck.2.1
         have hbytes:0<P.bytesOf e:=Nat.le_of_ble_eq_true hck.2.2
         rcases DataW.trod_slice hu htr with ⟨rfl,_⟩|⟨a,len,cap,elems,rest,n,rfl,rfl,hr,_,hlc,_,hel,hget,_,_⟩
         ·exact⟨[],bS.2 ⟨none,0,rfl,Nat.le_refl _,Nat.zero_le _,fun _=>rfl,fun i y h=>by cases h⟩⟩
         ·have hw0:(elems.length+rest.length)*P.bytesOf e≤reachBytes:=hwt _ (by rw[hr];simp[DataW.weights,hu])
          have hlen:len≤b_:=by
           have h1:len*1≤(elems.length+rest.length)*P.bytesOf e:=Nat.mul_le_mul (by omega) hbytes
           have h2:reachBytes≤b_:=by decide
           omega
          have each:∀i,i<len→∃x,∃us,a.spot=none∧a.block<w.heap.size∧us.length=ty'.size∧dJ w a.block (a.off+i*ty'.size) us∧aG w (fun b=>b<w.heap.size) ty' us x:=by
           intro i hi
           have hg:=hget i hi
           rw[List.getElem?_eq_getElem (by omega)] at hg
           obtain⟨us,hcs,hrd⟩:=Option.bind_eq_some_iff.1 hg
           obtain⟨c1,c2,c3⟩:=uz hcs
           rw[hce] at c1 c2 c3
           obtain⟨hsp,hblk⟩:=c2 hpos
           -- the first element's address has no spot
           have hspa:a.spot=none:=by
            have hg0:=hget 0 (by omega)
            rw[List.getElem?_eq_getElem (by omega)] at hg0
            obtain⟨us0,hcs0,_⟩:=Option.bind_eq_some_iff.1 hg0
            rw[Nat.zero_mul] at hcs0
            have e0:a.add 0=a:=by simp[Addr.add]
            rw[e0] at hcs0
            exact((uz hcs0).2.1 (by rw[hce];exact hpos)).1
           have hadd:a.add (i*ty'.size)=⟨a.block,a.off+i*ty'.size,none⟩:=by
            obtain⟨b,o,sp⟩:=a
            have hs:sp=none:=hspa
            subst hs
            exact Addr.add_lit b o _
           rw[hadd] at c3 hblk
           obtain⟨x,hx⟩:=qS d hte hrd fun n hn=>hwt n (by
            rw[hr]
            simp only[DataW.weights,hu]
            refine List.mem_cons_of_mem _ (List.mem_append.2 (.inl (pV (List.mem_map.2 ⟨elems[i],List.getElem_mem _,rfl⟩) n hn))))
           exact⟨x,us,hspa,hblk,c1,c3 rfl,hx⟩
          obtain⟨xs,hxl,hxs⟩:=oV len each
          refine⟨xs,bS.2 ⟨some a,cap,by rw[hxl],by omega,by omega,fun h=>(by cases h),fun i y hy=>?_⟩⟩
          obtain⟨us,g1,g2,g3,g4,g5⟩:=hxs i y hy
          refine⟨a.block,a.off,us,?_,g2,g3,g4,g5⟩
          obtain⟨b,o,sp⟩:=a
          have hs:sp=none:=g1
          rw[hs]
        ·cases h
     case struct fs=>
      cases hf:gz P (pZ P d) 0 fs.toList with
      | none=>rw[hf] at h;cases h
      | some q=>
        obtain⟨ts,n⟩:=q
        rw[hf] at h
        simp only at h
        split at h
        ·rename_i hck
         cases h
         have hn:=Nat.eq_of_beq_eq_true hck
         obtain⟨xs,m,rfl,hr,hlen,hxl,hx⟩:=DataW.trod_struct hu htr
         obtain⟨y,hy⟩:=sF (w:=w) (cs:=cs) (I:=fun b=>b<w.heap.size) (rd:=fun _=>(none:Option (DataW H×List MemPlace))) hf (by omega) fun i f t' hi hty hc=>by
          have hi':fs[i]? = some f:=by rw[←Array.getElem?_toList];exact hi
          have hlt:i<xs.length:=by rw[hxl];exact(Array.getElem?_eq_some_iff.1 hi').1
          have:=hx i f hi'
          rw[List.getElem?_eq_getElem hlt] at this
          refine qS d hty this fun n hn=>hwt n ?_
          rw[hr]
          simp only[DataW.weights,hu]
          exact nR (i:=i) (by simp[hi']) (by simp[List.getElem?_eq_getElem hlt]) n hn
         rw[List.drop_zero,Nat.sub_zero,List.take_of_length_le (by omega)] at hy
         exact⟨y,kE.2 hy⟩
        ·cases h
theorem xC{r:Reach}{b0 d:Nat}{t:TypeId}{ty:Ty}{v:Value}{x:ty.T}(ht:pZ P d t=some ty)(hok:Value.okWide P w r b0 t v)(hx:aG w (fun b=>b<w.heap.size) ty v.cells.toList x):gL w (fun b=>b<w.heap.size) ty v x:=by
 cases d with
 | zero=>cases ht
 | succ d=>
   rw[pZ] at ht
   unfold Value.okWide at hok
   cases hu:P.underlying t with
   | none=>rw[hu] at ht;cases ht
   | some q=>
     rw[hu] at ht hok
     have flat:ty.isAgg=false→Cell.okWide P w r b0 t v→gL w (fun b=>b<w.heap.size) ty v x:=by
      intro ha hc
      rw[gL,if_neg (by rw[ha];decide)]
      have:v.cells.toList=[v]:=by
       cases v<;>(try rfl)
       unfold Cell.okWide Cell.ok at hc
       rw[hu] at hc
       cases q<;>simp at hc
      rw[this] at hx
      exact hx
     cases q<;>simp only at ht hok<;>try (cases ht;done)
     case bool=>cases ht;exact flat rfl hok
     case int k=>cases ht;exact flat rfl hok
     case string=>cases ht;exact flat rfl hok
     case slice e=>
      have:ty.isAgg=false:=by
       cases hte:pZ P d e with
       | none=>rw[hte] at ht;cases ht
       | some ty'=>
         rw[hte] at ht
         simp only at ht
         split at ht
         ·cases ht;rfl
         ·cases ht
      exact flat this hok
     case struct fs=>
      obtain⟨cs,rfl,_,_⟩:=hok
      have:ty.isAgg=true:=by
       cases hf:gz P (pZ P d) 0 fs.toList with
       | none=>rw[hf] at ht;cases ht
       | some q=>
         rw[hf] at ht
         simp only at ht
         split at ht
         ·cases ht;rfl
         ·cases ht
      rw[gL,if_pos this]
      exact⟨cs,rfl,hx⟩
theorem mB{r:Reach}{b0:Nat}:∀{ts:List TypeId} {tA:List Ty} {vs:List Value} {ds:List (DataW H)} {ps:List MemPlace},tV P ts=some tA→DataW.TrodAll enc P w base spare held ts vs ds ps→
  (∀(j:Nat) t v,ts[j]? = some t→vs[j]? = some v→Value.okWide P w r b0 t v)→(∀n∈DataW.weightsEach P ts ds,n≤reachBytes)→∃x,fU w (fun b=>b<w.heap.size) tA vs x
 | [],tA, [], [],ps,h,_,_,_=>by cases h;exact⟨(),rfl⟩
 | t::ts,tA,v::vs,d::ds,ps,h,htr,hok,hwt=>by
   rw[tV] at h
   cases hty:pZ P 60 t with
   | none=>rw[hty] at h;cases h
   | some ty=>
     rw[hty] at h
     simp only at h
     cases hts:tV P ts with
     | none=>rw[hts] at h;cases h
     | some tys'=>
       rw[hts] at h
       cases h
       obtain⟨p,q,⟨fuel,h1⟩,h2,_⟩:=htr
       rw[DataW.weightsEach] at hwt
       obtain⟨x,hx⟩:=qS 60 hty h1 fun n hn=>hwt n (List.mem_append.2 (.inl hn))
       have hx':=xC hty (hok 0 t v rfl rfl) hx
       obtain⟨y,hy⟩:=mB hts h2 (fun j t v ht hv=>hok (j+1) t v (by simpa using ht) (by simpa using hv)) fun n hn=>hwt n (List.mem_append.2 (.inr hn))
       cases tys' with
       | nil=>
         have hy:vs=[]:=hy
         subst hy
         exact⟨x,v,rfl,hx'⟩
       | cons t2 tys'=>exact⟨(x,y),v,vs,rfl,hx',hy⟩
 | [],_,_::_,_,_,_,h,_,_=>by exact h.elim
 | [],_, [],_::_,_,_,h,_,_=>by exact h.elim
 | _::_,_, [],_,_,_,h,_,_=>by exact h.elim
 | _::_,_,_::_, [],_,_,h,_,_=>by exact h.elim
open Go.RowKit
theorem lU(hl:laidOutB P=true){W W':World}(hb:Below W.heap.size W W'){sp:Nat→Bool}:∀{ts:List TypeId} {vs:List Value} {ds:List (DataW H)} {ps:List MemPlace},(∀t∈ts,P.readableRec t=true∧t<P.types.size)→
  DataW.TrodAll enc P W 0 (fun _=>true) true ts vs ds ps→(∀p∈ps,p.block<W.heap.size)→(∀p∈ps,sp p.block=true)→DataW.TrodAll enc P W' 0 sp true ts vs ds ps
 | [], [], [],ps,_,h,_,_=>h
 | t::ts,v::vs,d::ds,ps,hts,h,hlt,hsp=>by
   obtain⟨p,q,h1,h2,rfl⟩:=h
   refine⟨p,q,WideElems.Trod_stays hl (hts t List.mem_cons_self).1 (hts t List.mem_cons_self).2 h1 (fun x hx=>hb.same (hlt x (List.mem_append.2 (.inl hx)))) (fun x hx=>hsp x (List.mem_append.2 (.inl hx))),?_,rfl⟩
   exact lU hl hb (fun t ht=>hts t (List.mem_cons_of_mem _ ht)) h2 (fun x hx=>hlt x (List.mem_append.2 (.inr hx))) (fun x hx=>hsp x (List.mem_append.2 (.inr hx)))
 | [],_::_,_,_,_,h,_,_=>by exact h.elim
 | [], [],_::_,_,_,h,_,_=>by exact h.elim
 | _::_, [],_,_,_,h,_,_=>by exact h.elim
 | _::_,_::_, [],_,_,h,_,_=>by exact h.elim
theorem trodAll_length:∀{ts:List TypeId} {vs:List Value} {ds:List (DataW H)} {ps:List MemPlace},DataW.TrodAll enc P w base spare held ts vs ds ps→ds.length=ts.length
 | [], [], [],_,_=>rfl
 | t::ts,v::vs,d::ds,ps,h=>by
   obtain⟨p,q,_,h2,_⟩:=h
   rw[List.length_cons,List.length_cons,trodAll_length h2]
 | [],_::_,_,_,h=>by exact h.elim
 | [], [],_::_,_,h=>by exact h.elim
 | _::_, [],_,_,h=>by exact h.elim
 | _::_,_::_, [],_,h=>by exact h.elim
theorem AQ{f:Func}{s:ChangeSpec}{apart fresh handsOn again:Bool}{W W':World}{args:Array Value}{ds gs:List (DataW H)}{before:List MemPlace}{tb:TypeId}(hvars:s.vars=[])
  (hfn:∀(H:Type) (ds:List (DataW H)),ds.length=f.params.size→s.fn H ds={results:=[.lit (.bool true)],args:=ds}) (hres:f.resultTypes=#[tb]) (htb:P.underlying tb=some .bool)
  (hl:laidOutB P=true) (hts:∀t∈f.params.toList,P.readableRec t=true∧t<P.types.size)
  (hW:DataW.Whole enc P f.params.toList s.vars apart W args.toList ds gs before) (hb:Below W.heap.size W W'):s.post enc P f apart fresh handsOn again W args (.bool true) W':=by
 have hlt:=hW.lt
 have hW0:=hW
 obtain⟨p,q,hA,hV,rfl,hz,hnd⟩:=hW
 rw[hvars] at hV
 have hgs:gs=[]∧q=[]:=by
  cases gs with
  | nil=>exact⟨rfl,hV⟩
  | cons _ _=>exact hV.elim
 obtain⟨rfl,rfl⟩:=hgs
 rw[List.append_nil] at hlt hz hnd hW0
 have hlen:=trodAll_length hA
 have hf:=hfn H (ds ++ []) (by rw[List.append_nil,hlen,Array.length_toList])
 have hf':=hf
 rw[List.append_nil] at hf'
 have hstay:∀sp:Nat→Bool,(∀x∈p,sp x.block=true)→DataW.TrodAll enc P W' 0 sp true f.params.toList args.toList ds p:=fun sp hsp=>lU hl hb hts hA hlt hsp
 have hresl:((Value.bool true).resultList f.resultTypes.size)=[.bool true]:=by rw[hres];rfl
 have hr:∀(b:Nat) (sp:Nat→Bool) (hd:Bool),DataW.TrodAll enc P W' b sp hd f.resultTypes.toList ((Value.bool true).resultList f.resultTypes.size) (s.fn H (ds ++ [])).results []:=fun b sp hd=>by
  rw[hresl,hres,hf]
  exact⟨[], [],shut_bool htb true,rfl,rfl⟩
 have hold:∀x∈p,(fun b=>decide (b<W.heap.size)) x.block=true:=fun x hx=>by simpa using hlt x hx
 refine⟨ds, [],p, [],p, [],hW0,hr _ _ _,?_,?_,World.keptBut_mono (fun x hx=>⟨hx,.inr (.inl hx)⟩) (hb.frame (· ∈p)),fun _=>⟨fun j t r hj hv=>?_,?_⟩⟩
 ·rw[hf,List.append_nil];exact hstay _ hold
 ·rw[hvars,hf];rfl
 ·exact ok_one hres rfl (okWide_bool_mk htb true) j t r hj hv
 ·have h1:DataW.TrodAll enc P W' 0 (fun _=>true) true (f.resultTypes.toList++f.params.toList) ((Value.bool true).resultList f.resultTypes.size++args.toList) (.lit (.bool true)::ds) p:=by
   rw[hresl,hres]
   exact⟨[],p,shut_bool htb true,hstay _ (fun _ _=>rfl),rfl⟩
  refine⟨.lit (.bool true)::ds, [],p,⟨p, [],h1,by rw[hvars];rfl,by rw[List.append_nil],fun b off hp=>?_,hnd⟩,fun x hx _=>hx⟩
  rw[hb.frozen (hlt _ hp)]
  exact hz b off hp
theorem z6{f:FuncId}{tA:List Ty}{pre:Ty.Ts tA→Bool}{fn:Ty.Ts tA→Bool}(hs:aH.Sound P f ⟨tA, [.bool],pre,fn⟩)(htrue:∀x,Ty.cr tA x→pre x=true∧fn x=true){F:Func}(htys:tV P F.params.toList=some tA)
  {r:Reach} {b0:Nat} {W:World} {args:Array Value} {ds:List (DataW H)} {ps:List MemPlace} (hA:DataW.TrodAll enc P W base spare held F.params.toList args.toList ds ps)
  (hval:∀(j:Nat) t v,F.params[j]? = some t→args[j]? = some v→Value.okWide P W r b0 t v) (hwt:∀n∈DataW.weightsEach P F.params.toList ds,n≤reachBytes) :
  Calls P f args W fun e W'=>e=.returned (.bool true)∧Below W.heap.size W W':=by
 obtain⟨x,hx⟩:=mB htys hA (fun j t v ht hv=>hval j t v (by rw[←Array.getElem?_toList];exact ht) (by rw[←Array.getElem?_toList];exact hv)) hwt
 obtain⟨h1,h2⟩:=htrue x hx.has
 refine(hs.calls W _ x args (fun b hb=>hb) hx h1).mono ?_
 rintro e W' ⟨v,rfl,g1,g2,g3,g4,g5,I',_,g7⟩
 have g7:gL W' I' .bool v (fn x):=g7
 have g7:[v]=[Value.bool (fn x)]:=g7
 cases g7
 refine⟨by rw[h2],⟨g1,g2,g3,g4,g5⟩⟩
theorem xZ{C:Checked}{os:Os}{f:FuncId}{F:Func}{s:ChangeSpec}{conds:List PathCond}{apart fresh handsOn again:Bool}{a:Assume}{tb:TypeId}{tA:List Ty}{pre:Ty.Ts tA→Bool}{fn:Ty.Ts tA→Bool}
  (own:ownKnob C.prog.godebug=none) (started:os.Started) (noInit:C.prog.inits.idxOf? f=none) (hF:C.prog.funcs[f]? = some F)
  (witness:∃(w:World) (tape:Tape) (i:Input),w.os=os∧(w.forCall tape i).Shaped C.prog∧i.vars=[]∧Input.okWide C.prog (w.forCall tape i) .any w.heap.size f i∧
    s.pre6 enc C.prog F conds apart (w.forCall tape i).memory i.args∧a.holds C.prog (lone (Frame.enter C.prog f i.args .normal) [] (w.forCall tape i)))
  (hs:aH.Sound C.prog f ⟨tA, [.bool],pre,fn⟩) (htrue:∀x,Ty.cr tA x→pre x=true∧fn x=true) (htys:tV C.prog F.params.toList=some tA) (hvars:s.vars=[])
  (hfn:∀(H:Type) (ds:List (DataW H)),ds.length=F.params.size→s.fn H ds={results:=[.lit (.bool true)],args:=ds}) (hres:F.resultTypes=#[tb]) (htb:C.prog.underlying tb=some .bool)
  (hl:laidOutB C.prog=true) (hts:F.params.toList.all (fun t=>C.prog.readableRec t&&decide (t<C.prog.types.size))=true) :
  ReturnsInHanded a C os f .any (s.pre6 enc C.prog F conds apart) (s.post enc C.prog F apart fresh handsOn again):=by
 refine returnsInHanded_of_change_sized own started noInit hF witness ?_
 intro W b0 args ds gs before hval hW _ hsz _
 have hW':=hW
 obtain⟨p,q,hA,hV,_,_,_⟩:=hW
 rw[hvars] at hV
 have hgs:gs=[]:=by
  cases gs with
  | nil=>rfl
  | cons _ _=>exact hV.elim
 subst hgs
 have hwt:∀n∈DataW.weightsEach C.prog F.params.toList ds,n≤reachBytes:=by
  have e:s.plain.varTypes C.prog=[]:=by simp[DataSpec.varTypes,ChangeSpec.plain,hvars]
  rw[e,List.append_nil,List.append_nil] at hsz
  intro n hn
  have:=List.all_eq_true.1 hsz n hn
  simpa using this
 refine(z6 hs htrue htys hA hval hwt).mono ?_
 rintro e W' ⟨rfl,hb⟩
 refine⟨_,rfl,AQ hvars hfn hres htb hl (fun t ht=>?_) hW' hb⟩
 have:=List.all_eq_true.1 hts t ht
 simpa using this
end
end Go.Ev
namespace Go.Ev
def LT.val{R Y:Type}(d:R):LT R Y→R
 | .ret r=>r
 | .more _=>d
 | .br b t e=>bif b then t.val d else e.val d
 | .need _ t=>t.val d
 | .eqs _ t=>t.val d
 | .bad _ _=>d
def LT.pre{R Y:Type}:LT R Y→Bool
 | .ret _=>true
 | .more _=>false
 | .br b t e=>bif b then t.pre else e.pre
 | .need b t=>b&&t.pre
 | .eqs _ t=>t.pre
 | .bad _ _=>false
def LT.Gk{R Y:Type}:LT R Y→Prop
 | .ret _=>True
 | .more _=>True
 | .br _ t e=>t.Gk∧e.Gk
 | .need _ t=>t.Gk
 | .eqs p t=>p∧t.Gk
 | .bad _ _=>True
theorem LT.runs{R Y:Type}{d:R}{step:Y→LT R Y}:∀{t:LT R Y},t.Gk→t.pre=true→aA step t (t.val d)
 | .ret r,_,_=>.ret r
 | .more _,_,h=>by cases h
 | .br b t e,h1,h2=>by
   cases b with
   | true=>exact .br (LT.runs h1.1 h2)
   | false=>exact .br (LT.runs h1.2 h2)
 | .need b t,h1,h2=>by
   rw[LT.pre,Bool.and_eq_true] at h2
   exact .need h2.1 (LT.runs h1 h2.2)
 | .eqs p t,h1,h2=>.eqs h1.1 (LT.runs h1.2 h2)
 | .bad _ _,_,h=>by cases h
def LT.all{R Y:Type}(p:R→Prop):LT R Y→Prop
 | .ret r=>p r
 | .more _=>True
 | .br _ t e=>t.all p∧e.all p
 | .need _ t=>t.all p
 | .eqs _ t=>t.all p
 | .bad _ _=>True
theorem LT.g_{R Y:Type}{d:R}{p:R→Prop}(hd:p d):∀{t:LT R Y},t.all p→p (t.val d)
 | .ret r,h=>h
 | .more _,_=>hd
 | .br b t e,h=>by
   cases b with
   | true=>exact LT.g_ (t:=t) hd h.1
   | false=>exact LT.g_ (t:=e) hd h.2
 | .need b t,h=>LT.g_ (t:=t) hd h
 | .eqs _ t,h=>LT.g_ (t:=t) hd h
 | .bad _ _,_=>hd
section
variable {a b:Int} {k:IntKind}
theorem aM:ai.c .eql a b=(a==b):=rfl
theorem aI:ai.c .neq a b=(a != b):=rfl
theorem al:ai.c .lss a b=decide (a<b):=rfl
theorem ax:ai.c .leq a b=decide (a≤b):=rfl
theorem au:ai.c .gtr a b=decide (b<a):=rfl
theorem ay:ai.c .geq a b=decide (b≤a):=rfl
theorem aD{x y:Bool}:ai.and x y=(x&&y):=rfl
theorem bM{x:Bool}:ai.not x=!x:=rfl
theorem fv{x y:Bool}:ai.q x y=(x==y):=rfl
theorem ap{α β:Type}{f:α→β}{x:α}:ai.k f x=f x:=rfl
theorem cu:ai.b .add k a b=k.wrap (a+b):=rfl
theorem bC:ai.b .sub k a b=k.wrap (a-b):=rfl
theorem EY:ai.b .quo k a b=k.wrap (a.tdiv b):=rfl
theorem vG:ai.b .rem k a b=a.tmod b:=rfl
theorem aZ:ai.v k a=k.wrap a:=rfl
theorem CK:ai.mn a b=if b<a then b else a:=rfl
theorem mK{α:Type}{x:List α}:ai.s x a b=(x.take b.toNat).drop a.toNat:=rfl
theorem nQ{α:Type}{v:α}:ai.r a v=List.replicate a.toNat v:=rfl
theorem qy{α:Type}{x y:List α}:ai.spl x a y=x.take a.toNat++y++x.drop (a.toNat+y.length):=rfl
theorem ji(h1:-9223372036854775808≤a)(h2:a≤9223372036854775807):IntKind.i64.wrap a=a:=IntWalk.i64_in a ⟨h1,h2⟩
theorem w8(h1:0≤a)(h2:a≤255):IntKind.u8.wrap a=a:=IntWalk.u8_in a ⟨h1,h2⟩
theorem zG(h1:0≤a)(h2:a≤18446744073709551615):IntKind.u64.wrap a=a:=IntWalk.u64_in a ⟨h1,h2⟩
end
theorem pu{n:Int}:IntKind.i64.has n↔ -9223372036854775808≤n∧n≤9223372036854775807:=Iff.rfl
theorem xm{n:Int}:IntKind.u8.has n↔0≤n∧n≤255:=Iff.rfl
theorem ff{b x y:Bool}:(bif b then x else y)=true↔(b=true→x=true)∧(b=false→y=true):=by cases b<;>cases x<;>cases y<;>decide
theorem mm{α:Type}{b:Bool}{x y r:α}:(bif b then x else y)=r↔(b=true∧x=r)∨(b=false∧y=r):=by cases b<;>simp
theorem fo{α:Type}{x:α}:tt x=true:=rfl
def LT.vX{R Y:Type}:LT R Y→Bool
 | .br _ t e=>t.vX&&e.vX
 | .need _ t=>t.vX
 | .eqs _ _=>false
 | _=>true
theorem LT.mJ{R Y:Type}:∀{t:LT R Y},t.vX=true→t.Gk
 | .ret _,_=>trivial
 | .more _,_=>trivial
 | .br _ t e,h=>by
   rw[LT.vX,Bool.and_eq_true] at h
   exact⟨LT.mJ h.1,LT.mJ h.2⟩
 | .need _ t,h=>LT.mJ (t:=t) h
 | .bad _ _,_=>trivial
section
variable {P:Program} {ti:PT TI} (ht:ek P ti) (hm:P.follows .mixedOrders=true) {g:FuncId} {F:Func} {args res:List Ty} {ki:List (FuncId×Func)} {gK:List (FuncId×aH)} {pre:Ty.Ts args→Bool} {fn:Ty.Ts args→Ty.Ts res}
include ht hm
theorem aV(q:Bool)(n:Nat)(mh:List Stop)(start:cH→Ty.Ts args→LT (Ty.Ts res) Empty)(hf:tQ P ((g,F)::ki))(hs:tT P gK)
  (hr:∀x,pre x=true→Ty.cr args x→(start ai x).pre=true)
  (heq:∀x,(start ai x).Gk:=by intro x;exact LT.mJ (by kernel_rfl))
  (hb:F.body.isSome=true:=by kernel_rfl) (hl:(Nat.ble args.length F.ntmps&&Nat.ble F.ntmps 65535)=true:=by kernel_rfl)
  (h0:∀A x,Tr.Is q (run A (IC ti A res ((g,F)::ki) gK [] mh) n (qM g F (iV A args x))) ((start A x).tr Empty.elim):=by intro A x;first|exact⟨by kernel_rfl,by kernel_rfl⟩|(show Tr.full _=_;kernel_rfl))
  (hfn:∀x,fn x=(start ai x).val (Ty.dC res):=by intro x;kernel_rfl):aH.Sound P g ⟨args,res,pre,fn⟩:=
 gj ht hm q n mh start hf hs (fun x hp h=>hfn x▸LT.runs (heq x) (hr x hp h)) hb hl h0
end
def vi(x:Int):AV:=.int .i64 false x
def vb(x:Bool):AV:=.bool false x
def dc(t:Ty)(x:t.T):List AV:=dx ai t x
def en(l:List (Nat×AV)):Env:=l.foldl (fun e p=>e.put p.1 p.2) .leaf
def cw(F:Func)(l:List Nat):Code:=Code.Db (Cj F) l
def ow(F:Func)(l:List Nat):Array Oper:=opsOf (Code.Db (Cj F) l)
abbrev yI:Ty:=.int .i64
abbrev yU:Ty:=.int .u8
abbrev yB:Ty:=.slice yU
abbrev Kt:Ty:=.slice yI
end Go.Ev
