/-
  PROVED: the evaluator: regions that draw their order, the theorem on the whole, contracts of functions, and from a contract to a law. Conditions: the type table, the functions and the contracts fit the program.
-/
import Derived.Test.YtjceiokllpmnkaaGreatEvB
import Derived.KernelRfl
import Derived.Laws.StructEq
import Derived.WalkKit
import Derived.ProofKit
import Derived.OpenShut
import Derived.SizedLaws
import Derived.Carry
import Derived.IntWalk
set_option linter.unusedVariables false
set_option linter.unusedSimpArgs false
set_option linter.unusedSectionVars false
namespace Go.Ev
section
variable {P:Program} {R:Type} {E:dE R} {w0:World} {I0:Nat→Prop} {f0:FuncId} {Fin:R→Value→World→Prop} {Q:R→Prop}
variable {w:World} {S:St} {m:Mem} {fr:Frame} {fs:List aH} {frs cs:List Frame}
variable {n:Nat}
theorem vc:∀{ps:List Nat} {aa:List AV} {us:List Value} {env:Env} {tmps:Array Value} {nn:Nat},bF w S m aa us→ps.length=aa.length→(∀p∈ps,p<nn)→tmps.size=nn→nn≤65535→(∀i,CR w S m (env.at i) (tmps.getD i undef))→
  ((ps.zip us).foldl (fun tmps (t,a)=>tmps.setIfInBounds t a) tmps).size=nn∧∀i,CR w S m ((l6 ps aa env).at i) (((ps.zip us).foldl (fun tmps (t,a)=>tmps.setIfInBounds t a) tmps).getD i undef)
 | [],aa,us,env,tmps,nn,_,_,_,hs,_,he=>by
   simp only[List.zip_nil_left,List.foldl_nil,l6]
   exact⟨hs,he⟩
 | p::ps, [],us,env,tmps,nn,_,hl,_,_,_,_=>by simp at hl
 | p::ps,a::aa,us,env,tmps,nn,hc,hl,hp,hs,hn,he=>by
   obtain⟨u,r,rfl,h1,h2⟩:=bY.1 hc
   simp only[List.zip_cons_cons,List.foldl_cons,l6]
   have hpn:=hp p List.mem_cons_self
   refine vc (nn:=nn) h2 (by simpa using hl) (fun q hq=>hp q (List.mem_cons_of_mem _ hq)) (by simp[hs]) hn fun i=>?_
   rw[Env.nJ (by omega)]
   simp only[Array.getD_eq_getD_getElem?,Array.getElem?_setIfInBounds]
   by_cases hi:i=p
   ·subst hi;simp[hs,hpn,h1]
   ·rw[if_neg hi,if_neg (Ne.symm hi),←Array.getD_eq_getD_getElem?];exact he i
theorem rR{α β γ:Type}(f:γ→α×β→γ)(x:γ)(a:Array α)(b:Array β):(a.zip b).foldl f x=(a.toList.zip b.toList).foldl f x:=by
 rw[←Array.foldl_toList,Array.toList_zip]
theorem uD{ρ:Operand→Value}{x:Operand}{args:Array Operand}{ats:Array TypeId}{t:TypeId}{l:Nat}{r:Loop}(hx:ρ x=.func (.yield l) #[] #[])(h:w.heap[l]? = some (.loop r))(hs:args.size=r.params.size) :
  (do let d ←resolve ρ {callee:=.value x,args:=args,argTypes:=ats} t;invoke d.target d.args:Sem Next).run P w =
    .ok (.round l r.fn ((r.params.zip (args.map ρ)).foldl (fun tmps (t,a)=>tmps.setIfInBounds t a) r.tmps) r.assign r.body) w:=by
 simp only[resolve,hx,Deferred.ofValue,Sem.run_bind,Sem.run_pure,Result.andThen_ok,invoke,Array.empty_append]
 exact run_yield h (by simpa using hs)
theorem vS{ρa:Operand→AV}{ρc:Operand→Value}(hρ:∀x,CR w S m (ρa x) (ρc x))(l:Array Operand):bF w S m (l.toList.map ρa) (l.map ρc).toList:=by
 rw[Array.toList_map];exact rz hρ l.toList
theorem Az(hP:Fits P E Fin w0 I0)(ih:∀c,Tr.Ok Q (Good P E w0 I0 f0 Fin Q) (run ai E n c)→Good P E w0 I0 f0 Fin Q c)
  {all:Array Oper} {i:Nat} {l:List Nat} {kc:List Item} {o:Oper} {ρ:Operand→AV} {fn:FuncId} {below:aH} {next:AV→Mem→Tr R}
  (hW:WR w0 w S m) (hI:∀b,S.I b→I0 b∨w0.heap.size≤b) (hfs:r9 w S m fs frs) (hB:qA f0 (below::fs)) (hm:fr.mode=.run)
  (ht:fr.todo=.inRegion all (i::l)::kc) (ho:all[i]? = some o) (hw:Region.wanted o (yielded all fr.tmps)=true)
  (hρ:∀x∈o.op.operands.toList,CR w S m (ρ x) (fr.eval x)) (hbelow:FR w S m below fr)
  (hnext:∀v m' w' S' z,Step w0 w S m w' S' m'→CR w' S' m' v z→Tr.Ok Q (Good P E w0 I0 f0 Fin Q) (next v m')→Ends P f0 Fin Q (fr.finish z) frs cs w')
  (h:Tr.Ok Q (Good P E w0 I0 f0 Fin Q) (match fG ai E ρ m o with
        | some tv=>tv.bind o.pos fun v=>next v m
        | none=>match o.op with
          | .call {callee:=.value x,args,.. }=>match ρ x with
            | .fn g first caps=>match look E.eH g with
              | some s=>(jd ai s m (first++(args.toList.map ρ++caps))).bind o.pos fun p=>next p.1 p.2
              | none=>match look E.Av g with
               | some s=>(jI ai s m (first++(args.toList.map ρ++caps))).bind o.pos fun p=>next p.1 p.2
               | none=>match look E.jo g with
                | none=>.bad 163 o.pos
                | some G=>match fO g G (first++(args.toList.map ρ++caps)) with
                  | none=>.bad 164 o.pos
                  | some h=>run ai E n {frames:=h::below::fs,mem:=m}
            | .yield l=>match m.at l with
               | .loop r=>match Nat.beq r.params.length (args.toList.map ρ).length&&r.params.all (fun p=>Nat.blt p r.n) with
                 | true=>run ai E n {frames:={fn:=r.fn,n:=r.n,env:=l6 r.params (args.toList.map ρ) r.env,todo:=[.code r.assign,.beginRound,.code r.body],marks:=[],aU:=some l}::below::fs,mem:=m}
                 | false=>.bad 165 o.pos
               | _=>.bad 166 o.pos
            | _=>.bad 167 o.pos
          | _=>(kz ai E fn ρ m o).bind o.pos fun p=>next p.1 p.2)):Ends P f0 Fin Q fr frs cs w:=by
 classical
 -- operands that are not named mean nothing
 let ρ':Operand→AV:=fun x=>if x∈o.op.operands.toList then ρ x else .undef
 have hρ':∀x,CR w S m (ρ' x) (fr.eval x):=fun x=>by
  by_cases hx:x∈o.op.operands.toList
  ·simp only[ρ',if_pos hx];exact hρ x hx
  ·simp only[ρ',if_neg hx];exact du
 have hsame:∀x∈o.op.operands.toList,ρ x=ρ' x:=fun x hx=>by simp only[ρ',if_pos hx]
 rw[qM hsame,yx hsame] at h
 cases hev:fG ai E ρ' m o with
 | some tv=>
   rw[hev] at h
   simp only at h
   obtain⟨v,hv,h⟩:=TV.bind_ok h
   obtain⟨z,hz,hc⟩:=qC hP.ti hW hρ' hev hv
   have hd:∀c,o.op≠.defer c:=fun c e=>by simp[fG,e] at hev
   exact .step (Ah hm ht ho hw hd hz) (hnext v m w S z (.refl hW) hc h)
 | none=>
   rw[hev] at h
   simp only at h
   have other:Tr.Ok Q (Good P E w0 I0 f0 Fin Q) ((kz ai E fn ρ' m o).bind o.pos fun p=>next p.1 p.2)→Ends P f0 Fin Q fr frs cs w:=by
    intro h
    obtain⟨⟨v,m'⟩,hv,h⟩:=TV.bind_ok h
    obtain⟨nx,z,w',S',hrun,hnx,hs,hc⟩:=xS hP.ti hW hρ' hv
    have hd:∀c,o.op≠.defer c:=fun c e=>by simp[kz,e,TV.Is] at hv
    rcases hnx with rfl|⟨rfl,rfl⟩
    ·exact .step (Ah hm ht ho hw hd hrun) (hnext v m' w' S' z hs hc h)
    ·exact .step (Kz hm ht ho hw hd hrun) (hnext _ m' w' S' undef hs du h)
   split at h
   ·rename_i x args ats xL
    have hd:∀c,o.op≠.defer c:=fun c e=>by rw[xL] at e;cases e
    have hx:CR w S m (ρ x) (fr.eval x):=hρ x (by rw[xL];simp[Op.operands,Call.operands])
    have hargs:bF w S m (args.toList.map ρ) (args.map fr.eval).toList:=by
     have e:args.toList.map ρ=args.toList.map ρ':=kv fun y hy=>hsame y (by rw[xL];simp only[Op.operands,Call.operands];simp at hy ⊢;exact .inr hy)
     rw[e];exact vS hρ' args
    have hexec:∀nx,(do let d ←resolve fr.eval {callee:=.value x,args:=args,argTypes:=ats} o.type;invoke d.target d.args:Sem Next).run P w=.ok nx w→(execOp fr.eval o).run P w=.ok nx w:=fun nx he=>by
     simp only[execOp,xL];exact he
    cases hv:ρ x<;>rw[hv] at h hx<;>(try simp only at h)<;>try exact h.elim
    ·rename_i g first caps
     obtain⟨us,vs,hxe,hus,hvs⟩:=mr.1 hx
     have hall:bF w S m (first++(args.toList.map ρ++caps)) (us++args.map fr.eval++vs).toList:=by
      rw[Array.append_assoc,Array.toList_append,Array.toList_append]
      exact hus.append (hargs.append hvs)
     cases hsp:look E.eH g with
     | some s=>
       rw[hsp] at h
       simp only at h
       obtain⟨⟨v,m'⟩,hv,h⟩:=TV.bind_ok h
       obtain⟨F,hF,hb,hn⟩:=(hP.eH g s hsp).body
       obtain⟨w',S',z,fr',hs,hc,hsteps,hleave⟩:=oO (hP.eH g s hsp) hW hall hv (fr::(frs++cs))
       have hstep:=wR (cs:=frs++cs) hm ht ho hw hd (hexec _ (fX hxe hF hn hb w))
       exact .steps ((Steps.head hstep hsteps).trans (.one (step_leave_returned hleave))) (hnext v m' w' S' z hs hc h)
     | none=>
       rw[hsp] at h
       simp only at h
       cases hpp:look E.Av g with
       | some s=>
         rw[hpp] at h
         simp only at h
         obtain⟨⟨v,m'⟩,hv,h⟩:=TV.bind_ok h
         obtain⟨F,hF,hb,hn⟩:=(hP.Av g s hpp).body
         obtain⟨w',S',z,fr',hs,hc,hsteps,hleave⟩:=uU (hP.Av g s hpp) hW hall hv (fr::(frs++cs))
         have hstep:=wR (cs:=frs++cs) hm ht ho hw hd (hexec _ (fX hxe hF hn hb w))
         exact .steps ((Steps.head hstep hsteps).trans (.one (step_leave_returned hleave))) (hnext v m' w' S' z hs hc h)
       | none=>
       rw[hpp] at h
       simp only at h
       cases hG:look E.jo g with
       | none=>rw[hG] at h;exact h.elim
       | some G=>
         rw[hG] at h
         simp only at h
         cases hen:fO g G (first++(args.toList.map ρ++caps)) with
         | none=>rw[hen] at h;exact h.elim
         | some h'=>
           rw[hen] at h
           simp only at h
           obtain⟨hGf,hGn⟩:=hP.jo _ _ hG
           obtain⟨hfr,hbody,hnh'⟩:=k_ hGf hen hall
           have hstep:=wR (cs:=frs++cs) hm ht ho hw hd (hexec _ (fX hxe hGf hGn hbody w))
           exact .step (frs2:=fr::frs) hstep (ih _ h (dZ hnh') S _ _ cs w hW hI ⟨_,_,rfl,hfr,_,_,rfl,hbelow,hfs⟩ hB)
    ·rename_i lp
     cases hml:m.at lp<;>rw[hml] at h<;>(try simp only at h)<;>try exact h.elim
     rename_i r
     have hxe:fr.eval x=.func (.yield (S.σ lp)) #[] #[]:=by
      rw[CR,hml] at hx;exact hx
     cases hok:Nat.beq r.params.length (args.toList.map ρ).length&&r.params.all (fun p=>Nat.blt p r.n) with
     | false=>rw[hok] at h;exact h.elim
     | true=>
       rw[hok] at h
       simp only at h
       rw[Bool.and_eq_true] at hok
       obtain⟨hlen,hlt⟩:=hok
       have hlen:=Nat.eq_of_beq_eq_true hlen
       have hlt:∀p∈r.params,p<r.n:=fun p hp=>by
        have:=List.all_eq_true.1 hlt p hp
        exact Nat.le_of_ble_eq_true this
       have hb:=hW.box lp
       rw[hml] at hb
       obtain⟨L,g1,g2,g3,g4,g5,g6,g7,⟨g8,g9⟩,g10⟩:=hb
       have hsz:args.size=L.params.size:=by
        have h1:L.params.size=r.params.length:=by rw[g5,List.size_toArray]
        rw[List.length_map,Array.length_toList] at hlen
        omega
       have hstep:=Ku (P:=P) (cs:=frs++cs) hm ht ho hw hd (hexec _ (uD hxe g1 hsz))
       have hput:=vc hargs hlen hlt g8 g9 g10
       rw[rR,g4,g5,g6,g7] at hstep
       refine .step (frs2:=fr::frs) hstep (ih _ h (dZ fun a ha=>by cases ha;rfl) S _ _ cs w hW hI ⟨_,_,rfl,?_,_,_,rfl,hbelow,hfs⟩ hB)
       refine⟨rfl,hput.1,g9,fun y _=>hput.2 y,bQ.code (.mk (a:=.beginRound) rfl (bQ.code rfl)),?_,fun a ha=>?_,rfl,fun d hd=>absurd hd List.not_mem_nil,rfl,rfl,rfl,fun q hq=>by cases hq;rw[hml];rfl⟩
       ·exact .mk trivial (.mk trivial (.mk trivial fun a ha=>absurd ha List.not_mem_nil))
       ·simp only[List.tail_cons,List.mem_cons,List.not_mem_nil,or_false] at ha
        rcases ha with rfl|rfl<;>rfl
   ·exact other h
end
end Go.Ev
namespace Go.Ev
section
variable {P:Program} {R:Type} {E:dE R} {w0:World} {I0:Nat→Prop} {f0:FuncId} {Fin:R→Value→World→Prop} {Q:R→Prop}
variable {w:World} {S:St} {m:Mem} {fr:Frame} {fs:List aH} {frs cs:List Frame}
variable {fn:FuncId} {nn:Nat} {env:Env} {marks:List Nat} {aU:Option Nat} {k:List aR} {n:Nat}
def rH(env env':Env)(D:List Nat):Prop:=∀x,env'.at x=env.at x∨(x∈D∧∃v,env.at x=.bool false v∧env'.at x=.bool true v)
theorem rH.CR{env':Env}{D:List Nat}(h:rH env env' D){x:Nat}{v:Value}(hc:CR w S m (env.at x) v):CR w S m (env'.at x) v:=by
 rcases h x with e|⟨_,b,e1,e2⟩
 ·rw[e];exact hc
 ·rw[e1] at hc;rw[e2];exact cu.2 (cu.1 hc)
theorem FR.Br{env':Env}{D:List Nat}{todo:List aR}(h:rH env env' D)(hf:FR w S m ⟨fn,nn,env,todo,marks,aU⟩ fr):FR w S m ⟨fn,nn,env',todo,marks,aU⟩ fr:=
 ⟨hf.fn,hf.n,hf.small,fun i hi=>h.CR (hf.env i hi),hf.todo,hf.live,hf.flat,hf.defers,hf.marks,hf.mode,hf.kind,hf.aU,hf.jR⟩
theorem FH{todo:List aR}(hf:FR w S m ⟨fn,nn,env,todo,marks,aU⟩ fr){d:Nat}{c v:Bool}(hnh:¬Hid ⟨fn,nn,env,todo,marks,aU⟩ fr d)(h:env.at d=.bool c v):d<nn:=by
 have hc:=hf.env d hnh
 rw[show(aH.env ⟨fn,nn,env,todo,marks,aU⟩).at d=.bool c v from h] at hc
 have hc:=cu.1 hc
 rcases Nat.lt_or_ge d nn with h'|h'
 ·exact h'
 ·rw[Array.getD_eq_getD_getElem?,Array.getElem?_eq_none (by rw[hf.n];exact h')] at hc;cases hc
theorem He(hP:Fits P E Fin w0 I0)(ih:∀c,Tr.Ok Q (Good P E w0 I0 f0 Fin Q) (run ai E n c)→Good P E w0 I0 f0 Fin Q c){all:Array Oper}{o:Oper}{rest:List Oper}
  (h:Tr.Ok Q (Good P E w0 I0 f0 Fin Q) (run ai E (n+1) {frames:=⟨fn,nn,env,.ops all (o::rest)::k,marks,aU⟩::fs,mem:=m}))
  (hW:WR w0 w S m) (hI:∀b,S.I b→I0 b∨w0.heap.size≤b) (hf:FR w S m ⟨fn,nn,env,.ops all (o::rest)::k,marks,aU⟩ fr) (hfs:r9 w S m fs frs) (hB:qA f0 (⟨fn,nn,env,.ops all (o::rest)::k,marks,aU⟩::fs)) :
  Ends P f0 Fin Q fr frs cs w:=by
 have hnh:∀{env:Env} y,¬Hid ⟨fn,nn,env,.ops all (o::rest)::k,marks,aU⟩ fr y:=fun y=>fZ fun a ha=>by cases ha;rfl
 obtain⟨it,kc,ht,h1,h2⟩:=hf.todo.cons_inv
 obtain⟨l,rfl,hl⟩:∃l:List Nat,it=.inRegion all l∧l.map (fun i=>all[i]?)=(o::rest).map some:=h1
 cases l with
 | nil=>cases hl
 | cons i l=>
   simp only[List.map_cons,List.cons.injEq] at hl
   simp only[run] at h
   cases hd:gp nn o.dst with
   | false=>rw[hd] at h;exact h.elim
   | true=>
     rw[hd] at h
     simp only at h
     obtain⟨env',hre,h⟩:=tH h fun d _ c v e=>by have:=FH hf (hnh d) e;have:nn≤65535:=hf.small;omega
     have hf':=hf.Br (D:=da all o) hre
     have hw:∀{t:Bool},dD all env' o t→Region.wanted o (yielded all fr.tmps)=t:=fun hg=>jh hg fun d _=>hf'.env d (hnh d)
     have goes:∀{v:AV} {m':Mem} {w':World} {S':St} {z:Value},Step w0 w S m w' S' m'→CR w' S' m' v z→
       Tr.Ok Q (Good P E w0 I0 f0 Fin Q) (run ai E n {frames:=⟨fn,nn,env'.dG o.dst v,.ops all rest::k,marks,aU⟩::fs,mem:=m'})→Ends P f0 Fin Q (fr.finish z) frs cs w':=fun hs hc h=>
      ih _ h (dZ fun a ha=>by cases ha;rfl) _ _ _ cs _ hs.wr (fun b hb=>(hs.grows b hb).elim (hI b) .inr) ⟨_,_,rfl,sT (hf'.mono hs.out) hd hc,hfs.mono hs.out⟩ (hB.swap rfl)
     rcases h with ⟨hg,h⟩|⟨hg,h⟩
     ·exact Az (fn:=fn) (ρ:=dd env') (below:=⟨fn,nn,env',.ops all (o::rest)::k,marks,aU⟩) (next:=fun v m=>run ai E n {frames:=⟨fn,nn,env'.dG o.dst v,.ops all rest::k,marks,aU⟩::fs,mem:=m})
       hP ih hW hI hfs (hB.swap rfl) hf.mode ht hl.1 (hw hg) (fun x _=>nY hf' x fun t _=>hnh t) hf' (fun v m' w' S' z hs hc h=>goes hs hc h) h
     ·exact .step (vt hf.mode ht hl.1 (hw hg)) (goes (.refl hW) (ib.2 ⟨#[],rfl,bu.2 rfl⟩) h)
end
end Go.Ev
namespace Go.Ev
theorem vU(e:Edge):Region.binds .any e=jv e:=by
 obtain⟨on,g⟩:=e
 cases g<;>rfl
theorem mg:∀{os:List Oper} {k i:Nat} {o:Oper},gJ k os=true→os[i]? = some o→∀e∈o.after.toList,jv e=true→e.on<k+i
 | [],k,i,o,_,h=>by simp at h
 | p::os,k,i,o,he,h=>by
   rw[gJ,Bool.and_eq_true] at he
   cases i with
   | zero=>
     cases h
     intro e hm hb
     have:=List.all_eq_true.1 he.1 e hm
     rw[hb] at this
     simp at this
     omega
   | succ i=>
     intro e hm hb
     have:=mg he.2 (by simpa using h) e hm hb
     omega
theorem jO{all:Array Oper}{i j:Nat}:j∈gf all i↔∃o e,all[i]? = some o∧e∈o.after.toList∧jv e=true∧e.on=j:=by
 unfold gf
 cases h:all[i]? with
 | none=>simp
 | some o=>simp[and_assoc]
theorem pred_lt{all:Array Oper}(h:gJ 0 all.toList=true){i j:Nat}(hj:j∈gf all i):j<i:=by
 obtain⟨o,e,h1,h2,h3,rfl⟩:=jO.1 hj
 have:=mg h (by rw[Array.getElem?_toList];exact h1) e h2 h3
 omega
structure Lj(all:Array Oper)(acc:List Nat):Prop where
 nodup:acc.Nodup
 lt:∀i∈acc,i<all.size
 Jv:∀i∈acc,∀j∈gf all i,j∈acc
 pw:acc.Pairwise fun i j=>i ∉ gf all j
theorem Lj.lin{all:Array Oper}{acc:List Nat}(h:Lj all acc)(he:gJ 0 all.toList=true)(hc:∀i,i<all.size→i∈acc):DZ all acc.reverse∧∀i,i<all.size→i∈acc.reverse:=
 ⟨⟨List.pairwise_reverse.2 (h.nodup.imp Ne.symm),fun i hi=>h.lt i (List.mem_reverse.1 hi),List.pairwise_reverse.2 h.pw,fun i _ hp=>Nat.lt_irrefl _ (pred_lt he hp),
  fun k hk hn=>absurd (List.mem_reverse.2 (hc k hk)) hn⟩,fun i hi=>List.mem_reverse.2 (hc i hi)⟩
theorem ve{all:Array Oper}{listed:Array Bool}{acc:List Nat}(hl:listed.size=all.size)(hm:∀i,i<all.size→(listed.getD i false=true↔i∈acc))(hlt:∀i∈acc,i<all.size){i:Nat}(hi:i<all.size) :
  (!listed.getD i true&&((all[i]?).map (·.after.all fun e=>!Region.binds .any e||listed.getD e.on false)).getD false)=true↔i ∉ acc∧∀j∈gf all i,j∈acc:=by
 have h1:listed.getD i true=listed.getD i false:=by
  simp only[Array.getD_eq_getD_getElem?,Array.getElem?_eq_getElem (by omega:i<listed.size),Option.getD_some]
 have h2:∀j,listed.getD j false=true↔j∈acc:=fun j=>by
  by_cases hj:j<all.size
  ·exact hm j hj
  ·rw[Array.getD_eq_getD_getElem?,Array.getElem?_eq_none (by omega)]
   exact⟨fun h=>(by cases h),fun h=>absurd (hlt j h) hj⟩
 rw[h1,Bool.and_eq_true,Bool.not_eq_true',Array.getElem?_eq_getElem hi]
 simp only[Option.map_some,Option.getD_some,Array.all_eq_true',Bool.or_eq_true,Bool.not_eq_true']
 constructor
 ·rintro ⟨h3,h4⟩
  refine⟨fun h=>(by rw[(h2 i).2 h] at h3;cases h3),fun j hj=>?_⟩
  obtain⟨o,e,e1,e2,e3,rfl⟩:=jO.1 hj
  rw[Array.getElem?_eq_getElem hi] at e1
  cases e1
  rcases h4 e (by simpa using e2) with h5|h5
  ·rw[vU,e3] at h5;cases h5
  ·exact(h2 _).1 h5
 ·rintro ⟨h3,h4⟩
  refine⟨?_,fun e he=>?_⟩
  ·cases h:listed.getD i false with
   | false=>rfl
   | true=>exact absurd ((h2 i).1 h) h3
  ·cases hb:Region.binds .any e with
   | false=>exact .inl rfl
   | true=>exact .inr ((h2 _).2 (h4 _ (jO.2 ⟨_,e,Array.getElem?_eq_getElem hi,by simpa using he,by rw[←vU];exact hb,rfl⟩)))
theorem ou{all:Array Oper}(he:gJ 0 all.toList=true):∀(fuel t:Nat) (listed:Array Bool) (acc:List Nat),listed.size=all.size→(∀i,i<all.size→(listed.getD i false=true↔i∈acc))→Lj all acc→
  ((List.range all.size).filter fun i=>decide (i ∉ acc)).length≤fuel→DZ all (Region.linearise.go .any all fuel t listed acc)∧∀i,i<all.size→i∈Region.linearise.go .any all fuel t listed acc
 | 0,t,listed,acc,hl,hm,hP,hf=>by
   rw[Region.linearise.go]
   refine hP.lin he fun i hi=>?_
   have:(List.range all.size).filter (fun i=>decide (i ∉ acc))=[]:=List.length_eq_zero_iff.1 (by omega)
   have:=List.filter_eq_nil_iff.1 this i (List.mem_range.2 hi)
   simpa using this
 | fuel+1,t,listed,acc,hl,hm,hP,hf=>by
   rw[Region.linearise.go]
   split
   ·rename_i i hi
    have hmem:=List.mem_of_getElem? hi
    obtain⟨h1,h2⟩:=List.mem_filter.1 hmem
    have hin:=List.mem_range.1 h1
    obtain⟨h3,h4⟩:=(ve hl hm hP.lt hin).1 h2
    refine ou he fuel _ _ _ (by simp[hl]) (fun j hj=>?_) ⟨List.nodup_cons.2 ⟨h3,hP.nodup⟩,fun j hj=>?_,fun j hj k hk=>?_,List.pairwise_cons.2 ⟨fun j hj hp=>h3 (hP.Jv j hj i hp),hP.pw⟩⟩ ?_
    ·simp only[Array.getD_eq_getD_getElem?,Array.getElem?_setIfInBounds]
     by_cases hji:i=j
     ·subst hji;simp[hl,hin]
     ·rw[if_neg hji,←Array.getD_eq_getD_getElem?,hm j hj,List.mem_cons]
      exact⟨.inr,fun h=>h.elim (fun e=>absurd e.symm hji) id⟩
    ·rcases List.mem_cons.1 hj with rfl|hj
     ·exact hin
     ·exact hP.lt j hj
    ·rcases List.mem_cons.1 hj with rfl|hj
     ·exact List.mem_cons_of_mem _ (h4 k hk)
     ·exact List.mem_cons_of_mem _ (hP.Jv j hj k hk)
    ·have e:(List.range all.size).filter (fun j=>decide (j ∉ i::acc))=((List.range all.size).filter fun j=>decide (j ∉ acc)).filter fun j=>decide (j≠i):=by
      rw[List.filter_filter]
      refine List.filter_congr fun j _=>?_
      simp[List.mem_cons,not_or]
     rw[e]
     have:(((List.range all.size).filter fun j=>decide (j ∉ acc)).filter fun j=>decide (j≠i)).length<((List.range all.size).filter fun j=>decide (j ∉ acc)).length:=
      List.length_filter_lt_length_iff_exists.2 ⟨i,List.mem_filter.2 ⟨h1,by simpa using h3⟩,by simp⟩
     omega
   ·rename_i hn
    refine hP.lin he fun i hi=>?_
    -- the least that is not listed could go
    have key:∀i,i<all.size→i∈acc:=fun i=>by
     induction i using Nat.strongRecOn with
     | ind i ihi=>
       intro hi
       by_cases hia:i∈acc
       ·exact hia
       ·have hr:=(ve hl hm hP.lt hi).2 ⟨hia,fun j hj=>ihi j (pred_lt he hj) (by have:=pred_lt he hj;omega)⟩
        have hmem:=List.mem_filter (p:=fun i=>!listed.getD i true&&((all[i]?).map (·.after.all fun e=>!Region.binds .any e||listed.getD e.on false)).getD false) |>.2 ⟨List.mem_range.2 hi,hr⟩
        have hpos:=List.length_pos_of_mem hmem
        exact absurd (List.getElem?_eq_none_iff.1 hn) (by have:=Nat.mod_lt t hpos;omega)
    exact key i hi
theorem wT{all:Array Oper}(he:gJ 0 all.toList=true)(t:Nat):DZ all (Region.schedule true all t)∧∀i,i<all.size→i∈Region.schedule true all t:=by
 unfold Region.schedule
 rw[Bool.true_or,if_pos rfl]
 unfold Region.linearise
 refine ou he _ _ _ _ (by simp) (fun i hi=>?_) ⟨List.nodup_nil,fun _ h=>absurd h List.not_mem_nil,fun _ h=>absurd h List.not_mem_nil,.nil⟩ ?_
 ·simp[Array.getD_eq_getD_getElem?,hi]
 ·have:=List.length_filter_le (fun i=>decide (i ∉ ([]:List Nat))) (List.range all.size)
  rw[List.length_range] at this
  exact this
theorem nv{ms:List Nat}{b:Nat}:∀{es:List Edge},(fN ms es).testBit b=true→∃e∈es,jv e=true∧(b=e.on∨(ms.getD e.on 0).testBit b=true)
 | [],h=>by simp[fN] at h
 | e::es,h=>by
   simp only[fN] at h
   cases hb:jv e with
   | false=>
     rw[hb] at h
     obtain⟨e',h1,h2⟩:=nv h
     exact⟨e',List.mem_cons_of_mem _ h1,h2⟩
   | true=>
     rw[hb] at h
     simp only[Nat.testBit_or,Bool.or_eq_true] at h
     rcases h with (h|h)|h
     ·exact⟨e,List.mem_cons_self,hb,.inl (by
       rw[Nat.testBit_two_pow] at h
       simpa [eq_comm] using h)⟩
     ·exact⟨e,List.mem_cons_self,hb,.inr h⟩
     ·obtain⟨e',h1,h2⟩:=nv h
      exact⟨e',List.mem_cons_of_mem _ h1,h2⟩
theorem lJ:∀{os:List Oper} {ms:List Nat} {j:Nat},j<ms.length→(fH os ms).getD j 0=ms.getD j 0
 | [],ms,j,_=>by rw[fH]
 | o::os,ms,j,h=>by
   rw[fH,lJ (by simp;omega)]
   rw[List.getD_eq_getElem?_getD,List.getD_eq_getElem?_getD,List.getElem?_append_left h]
theorem qy:∀{os:List Oper} {ms:List Nat} {i:Nat} {o:Oper},os[i]? = some o→(∀e∈o.after.toList,jv e=true→e.on<ms.length+i)→(fH os ms).getD (ms.length+i) 0=fN (fH os ms) o.after.toList
 | [],ms,i,o,h,_=>by simp at h
 | p::os,ms,i,o,h,he=>by
   rw[fH]
   have hlen:(ms ++ [fN ms p.after.toList]).length=ms.length+1:=by simp
   cases i with
   | zero=>
     cases h
     rw[Nat.add_zero,lJ (by omega)]
     have:(ms ++ [fN ms p.after.toList]).getD ms.length 0=fN ms p.after.toList:=by
      rw[List.getD_eq_getElem?_getD,List.getElem?_append_right (Nat.le_refl _),Nat.sub_self];rfl
     rw[this]
     have hpre:∀j,j<ms.length→(fH os (ms ++ [fN ms p.after.toList])).getD j 0=ms.getD j 0:=fun j hj=>by
      rw[lJ (by omega),List.getD_eq_getElem?_getD,List.getD_eq_getElem?_getD,List.getElem?_append_left hj]
     have key:∀es:List Edge,(∀e∈es,jv e=true→e.on<ms.length)→fN ms es=fN (fH os (ms ++ [fN ms p.after.toList])) es:=fun es=>by
      induction es with
      | nil=>intro _;rfl
      | cons e es ih=>
        intro hh
        simp only[fN]
        rw[ih fun e' h'=>hh e' (List.mem_cons_of_mem _ h')]
        cases hb:jv e with
        | false=>rfl
        | true=>simp only;rw[hpre _ (hh e List.mem_cons_self hb)]
     exact key _ he
   | succ i=>
     have:=qy (os:=os) (ms:=ms ++ [fN ms p.after.toList]) (i:=i) (o:=o) (by simpa using h) (fun e hm hb=>by have:=he e hm hb;omega)
     rw[hlen] at this
     rw[←this]
     congr 1
     omega
theorem BP{all:Array Oper}{l:List Nat}(he:gJ 0 all.toList=true)(hL:DZ all l):∀{i b:Nat},i<all.size→(∀j∈gf all i,j ∉ l)→((fH all.toList []).getD i 0).testBit b=true→b ∉ l:=by
 intro i
 induction i using Nat.strongRecOn with
 | ind i ihi=>
   intro b hi hp hb
   obtain⟨o,ho⟩:∃o,all[i]? = some o:=⟨_,Array.getElem?_eq_getElem hi⟩
   have ho':all.toList[i]? = some o:=by rw[Array.getElem?_toList];exact ho
   have hedge:=mg he ho'
   have:=qy (ms:=[]) ho' (fun e hm h=>by have:=hedge e hm h;simpa using this)
   rw[List.length_nil,Nat.zero_add] at this
   rw[this] at hb
   obtain⟨e,h1,h2,h3⟩:=nv hb
   have hj:e.on∈gf all i:=jO.2 ⟨o,e,ho,h1,h2,rfl⟩
   have hlt:=pred_lt he hj
   rcases h3 with rfl|h3
   ·exact hp _ hj
   ·exact ihi e.on hlt (by omega) (hL.closed e.on (by omega) (hp _ hj)) h3
theorem DZ.CF{all:Array Oper}{i:Nat}{l:List Nat}(h:DZ all (i::l)):∀j∈gf all i,j ∉ i::l:=fun j hj hm=>by
 rcases List.mem_cons.1 hm with rfl|hm
 ·exact h.self j List.mem_cons_self hj
 ·exact(List.pairwise_cons.1 h.pw).1 j hm hj
theorem dq.done{n:Nat}{all:Array Oper}{ms rest bs l:List Nat}{i b:Nat}(h:dq n all ms rest bs (i::l))(hb:(ms.getD i 0).testBit b=true):b ∉ i::l:=by
 exact h.Mk [] i l rfl b hb
theorem FV{all:Array Oper}{l:List Nat}(he:gJ 0 all.toList=true)(hL:DZ all l):sO (fH all.toList []) l:=fun l1 i l2 e b hb=>by
 subst e
 have hL2:DZ all (i::l2):=by
  clear hb
  induction l1 with
  | nil=>exact hL
  | cons x l1 ih=>exact ih hL.tail
 exact BP he hL2 (hL2.lt i List.mem_cons_self) hL2.CF hb
end Go.Ev
namespace Go.Ev
section
variable {P:Program} {R:Type} {E:dE R} {w0:World} {I0:Nat→Prop} {f0:FuncId} {Fin:R→Value→World→Prop} {Q:R→Prop}
variable {w:World} {S:St} {m:Mem} {fr:Frame} {fs:List aH} {frs cs:List Frame}
variable {fn:FuncId} {nn:Nat} {env:Env} {marks:List Nat} {aU:Option Nat} {k:List aR} {n:Nat}
theorem By{a b:AV}{z:Value}(h:fP a b)(hc:CR w S m a z):CR w S m b z:=by
 unfold fP at h
 split at h
 ·subst h;exact cu.2 (cu.1 hc)
 ·obtain⟨rfl,rfl⟩:=h;exact bC.2 (bC.1 hc)
 ·subst h;exact hc
theorem wG{A:bK}{s:aG}{aa:List AV}{v:AV}{m':Mem}(hp:i7 (aa.flatMap AV.cells)=true)(h:(jd A s m aa).Is (v,m')):m'=m:=by
 unfold jd at h
 cases hok:gk s.args aa with
 | false=>rw[hok] at h;exact h.elim
 | true=>
   rw[hok,rL hp] at h
   simp only at h
   cases htd:nF s.args (aa.flatMap AV.cells) with
   | none=>rw[htd] at h;exact h.elim
   | some q=>
     obtain⟨x,r⟩:=q
     rw[htd] at h
     cases r with
     | cons _ _=>exact h.elim
     | nil=>obtain⟨_,h⟩:=h;cases h;rfl
theorem Hm(hP:Fits P E Fin w0 I0){all:Array Oper}{i:Nat}{l:List Nat}{kc:List Item}{o:Oper}{ρ:Operand→AV}{tv:TV AV}{v:AV}(hW:WR w0 w S m)(hm:fr.mode=.run)
  (ht:fr.todo=.inRegion all (i::l)::kc) (ho:all[i]? = some o) (hw:Region.wanted o (yielded all fr.tmps)=true) (hρ:∀x∈o.op.operands.toList,CR w S m (ρ x) (fr.eval x))
  (h:FZ ai E m ρ o=some tv) (hv:tv.Is v) (cs:List Frame):∃w' S' z,Step w0 w S m w' S' m∧CR w' S' m v z∧Steps P (lone fr cs w) (lone (fr.finish z) cs w'):=by
 classical
 let ρ':Operand→AV:=fun x=>if x∈o.op.operands.toList then ρ x else .undef
 have hρ':∀x,CR w S m (ρ' x) (fr.eval x):=fun x=>by
  by_cases hx:x∈o.op.operands.toList
  ·simp only[ρ',if_pos hx];exact hρ x hx
  ·simp only[ρ',if_neg hx];exact du
 have hsame:∀x∈o.op.operands.toList,ρ x=ρ' x:=fun x hx=>by simp only[ρ',if_pos hx]
 rw[qe hsame] at h
 unfold FZ at h
 cases hev:fG ai E ρ' m o with
 | some tv'=>
   rw[hev] at h
   cases h
   obtain⟨z,hz,hc⟩:=qC hP.ti hW hρ' hev hv
   have hd:∀c,o.op≠.defer c:=fun c e=>by simp[fG,e] at hev
   exact⟨w,S,z,.refl hW,hc,.one (Ah hm ht ho hw hd hz)⟩
 | none=>
   rw[hev] at h
   simp only at h
   unfold mG at h
   cases xL:o.op<;>rw[xL] at h<;>(try simp only at h)<;>try (cases h;done)
   rename_i c
   obtain⟨callee,args,ats⟩:=c
   cases callee<;>simp only at h<;>try (cases h;done)
   rename_i x
   have hd:∀c,o.op≠.defer c:=fun c e=>by rw[xL] at e;cases e
   have hx:=hρ' x
   have hargs:bF w S m (args.toList.map ρ') (args.map fr.eval).toList:=vS hρ' args
   have hexec:∀nx,(do let d ←resolve fr.eval {callee:=.value x,args:=args,argTypes:=ats} o.type;invoke d.target d.args:Sem Next).run P w=.ok nx w→(execOp fr.eval o).run P w=.ok nx w:=fun nx he=>by
    simp only[execOp,xL];exact he
   cases hvx:ρ' x<;>rw[hvx] at h hx<;>(try simp only at h)<;>try (cases h;done)
   rename_i g first caps
   obtain⟨us,vs,hxe,hus,hvs⟩:=mr.1 hx
   have hall:bF w S m (first++(args.toList.map ρ'++caps)) (us++args.map fr.eval++vs).toList:=by
    rw[Array.append_assoc,Array.toList_append,Array.toList_append]
    exact hus.append (hargs.append hvs)
   cases hsp:look E.eH g with
   | none=>rw[hsp] at h;cases h
   | some s=>
     rw[hsp] at h
     simp only at h
     cases hpl:i7 ((first++(args.toList.map ρ'++caps)).flatMap AV.cells) with
     | false=>rw[hpl] at h;cases h
     | true=>
       rw[hpl] at h
       cases h
       obtain⟨⟨v',m'⟩,hv1,rfl⟩:=TV.sP hv
       obtain rfl:=wG hpl hv1
       obtain⟨F,hF,hb,hn⟩:=(hP.eH g s hsp).body
       obtain⟨w',S',z,fr',hs,hc,hsteps,hleave⟩:=oO (hP.eH g s hsp) hW hall hv1 (fr::cs)
       have hstep:=wR (cs:=cs) hm ht ho hw hd (hexec _ (fX hxe hF hn hb w))
       exact⟨w',S',z,hs,hc,(Steps.head hstep hsteps).trans (.one (step_leave_returned hleave))⟩
theorem nE{t:Nat}:∀{l:List Operand},Operand.tmp t∈l→t∈tmpsOf l
 | x::l,h=>by
   rcases List.mem_cons.1 h with rfl|h'
   ·exact List.mem_cons_self
   ·cases x<;>simp only[tmpsOf]
    ·exact List.mem_cons_of_mem _ (nE h')
    all_goals exact nE h'
theorem lb{all:Array Oper}{o:Oper}{t:Nat}(h:Operand.tmp t∈o.op.operands.toList):t∈readsOf all o:=List.mem_append.2 (.inl (nE h))
theorem gq{all:Array Oper}{o:Oper}{t:Nat}(h:t∈da all o):t∈readsOf all o:=List.mem_append.2 (.inr h)
theorem oF{all:Array Oper}{ms rest bs l:List Nat}{i:Nat}{kc:List Item}{o:Oper}{f:aH}(hD:dq nn all ms rest bs (i::l))(hf:f.todo.head?.bind aR.drawn=some (all,bs))(ht:fr.todo=.inRegion all (i::l)::kc)
  (hro:∀b∈bs,i≠b→∀p d,all[b]? = some p→p.dst=some d→d∈readsOf all o→(ms.getD i 0).testBit b=true) (hown:i∈bs→∀d,∀p,all[i]? = some p→p.dst=some d→d ∉ readsOf all o) {t:Nat} (hr:t∈readsOf all o):¬Hid f fr t:=by
 rintro ⟨all',bs',l',k',b,p,e1,e2,e3,e4,e5,e6⟩
 rw[hf] at e1
 cases e1
 rw[ht] at e2
 cases e2
 by_cases hib:i=b
 ·subst hib;exact hown e3 t p e5 e6 hr
 ·exact hD.done (hro b e3 hib p t e5 e6 hr) e4
theorem dq.drop{all:Array Oper}{ms rest bs l:List Nat}{i:Nat}(h:dq nn all ms rest bs (i::l))(hi:i ∉ rest):dq nn all ms rest bs l:=by
 refine⟨h.Mk.tail,(List.nodup_cons.1 h.Lc).2,h.nodup,fun j hj=>?_,fun j hj=>h.Mp j (List.mem_cons_of_mem _ hj),h.lt,h.read,h.dst,h.own,h.T8,h.L6⟩
 rcases List.mem_cons.1 (h.sub j hj) with rfl|hm
 ·exact absurd hj hi
 ·exact hm
theorem pn(hP:Fits P E Fin w0 I0){all:Array Oper}{ms rest bs:List Nat}(cs:List Frame)(hst:∀b∈bs,uJ E env m all b):∀(l:List Nat) {w:World} {S:St} {fr:Frame} {kc:List Item},WR w0 w S m→FR w S m ⟨fn,nn,env,.cK all ms rest bs::k,marks,aU⟩ fr→
  fr.todo=.inRegion all l::kc→dq nn all ms rest bs l→bQ nn S k kc→
  ∃w' S' fr' l' kc',Step w0 w S m w' S' m∧FR w' S' m ⟨fn,nn,env,.cK all ms rest bs::k,marks,aU⟩ fr'∧Steps P (lone fr cs w) (lone fr' cs w')∧fr'.todo=.inRegion all l'::kc'∧dq nn all ms rest bs l'∧bQ nn S' k kc'∧(∀i,l'.head? = some i→i∈rest)∧fr'.fn=fr.fn
 | [],w,S,fr,kc,hW,hf,ht,hD,hk=>⟨w,S,fr, [],kc,.refl hW,hf,.refl _ _,ht,hD,hk,fun i h=>(by cases h),rfl⟩
 | i::l,w,S,fr,kc,hW,hf,ht,hD,hk=>by
   by_cases hir:i∈rest
   ·exact⟨w,S,fr,i::l,kc,.refl hW,hf,.refl _ _,ht,hD,hk,fun j h=>(by cases h;exact hir),rfl⟩
   ·have hib:i∈bs:=(hD.Mp i List.mem_cons_self).resolve_left hir
    obtain⟨o,ho,hg⟩:=hst i hib
    have hnh:∀{t:Nat},t∈readsOf all o→¬Hid ⟨fn,nn,env,.cK all ms rest bs::k,marks,aU⟩ fr t:=fun hr=>
     oF hD rfl ht (fun b hb hne p d hp hd hr=>hD.read i hib b hb hne o p d ho hp hd hr) (fun _ d p hp hd=>by rw[ho] at hp;cases hp;exact hD.own i hib o d ho hd) hr
    have xL:∀x∈o.op.operands.toList,CR w S m (dd env x) (fr.eval x):=fun x hx=>nY hf x fun t e=>hnh (by subst e;exact lb hx)
    have hwant:∀{t:Bool},dD all env o t→Region.wanted o (yielded all fr.tmps)=t:=fun hg=>jh hg fun d hd=>hf.env d (hnh (gq hd))
    have hdok:=hD.L6 i hib o ho
    -- one operation,then on
    have main:∀{w1:World} {S1:St} {v:AV} {z:Value},Step w0 w S m w1 S1 m→CR w1 S1 m v z→kH env o.dst v→Steps P (lone fr cs w) (lone (fr.finish z) cs w1)→
      ∃w' S' fr' l' kc',Step w0 w S m w' S' m∧FR w' S' m ⟨fn,nn,env,.cK all ms rest bs::k,marks,aU⟩ fr'∧Steps P (lone fr cs w) (lone fr' cs w')∧fr'.todo=.inRegion all l'::kc'∧dq nn all ms rest bs l'∧bQ nn S' k kc'∧(∀i,l'.head? = some i→i∈rest)∧fr'.fn=fr.fn:=by
     intro w1 S1 v z hs hc hsd hsteps
     have hD':=hD.drop hir
     have hf1:=hf.mono hs.out
     have hk1:=bQ.mono hs.out hf.live.tail hk
     have hfin:=jY (z:=z) ht ho
     rw[hfin] at hsteps
     have hf2:FR w1 S1 m ⟨fn,nn,env,.cK all ms rest bs::k,marks,aU⟩ {fr with tmps:=uW fr.tmps o.dst z,todo:=.inRegion all l::kc}:=by
      refine⟨hf1.fn,pI.trans hf1.n,hf1.small,fun x hx=>?_,.mk (a:=.cK all ms rest bs) ⟨l,rfl,hD'⟩ hk1,hf1.live,hf1.flat,hf1.defers,hf1.marks,hf1.mode,hf1.kind,hf1.aU,hf1.jR⟩
      show CR w1 S1 m (env.at x) ((uW fr.tmps o.dst z).getD x undef)
      rw[xN (by rw[hf.n];exact hdok)]
      by_cases hdx:o.dst=some x
      ·rw[if_pos hdx]
       rw[hdx] at hsd
       exact By hsd hc
      ·rw[if_neg hdx]
       refine hf1.env x fun hh=>hx ?_
       obtain⟨all',bs',l',k',b,p,e1,e2,e3,e4,e5,e6⟩:=hh
       cases e1
       rw[ht] at e2
       cases e2
       rcases List.mem_cons.1 e4 with rfl|e4
       ·rw[ho] at e5;cases e5;exact absurd e6 hdx
       ·exact⟨all,bs,l,kc,b,p,rfl,rfl,e3,e4,e5,e6⟩
     obtain⟨w',S',fr',l',kc',g1,g2,g3,g4,g5,g6,g7,g8⟩:=pn hP cs hst l hs.wr hf2 rfl hD' hk1
     exact⟨w',S',fr',l',kc',hs.trans g1,g2,hsteps.trans g3,g4,g5,g6,g7,g8⟩
    rcases hg with ⟨hg,hsd⟩|⟨hg,tv,v,hev,hv,hsd⟩
    ·exact main (.refl hW) (ib.2 ⟨#[],rfl,bu.2 rfl⟩) hsd (.one (vt hf.mode ht ho (hwant hg)))
    ·obtain⟨w1,S1,z,hs,hc,hsteps⟩:=Hm hP hW hf.mode ht ho (hwant hg) xL hev hv cs
     exact main hs hc hsd hsteps
end
end Go.Ev
namespace Go.Ev
theorem fA:∀{l:List Nat} {n:Nat},nz l n=true↔n∈l
 | [],n=>by simp[nz]
 | i::l,n=>by
   rw[nz]
   by_cases h:i=n
   ·subst h;rw[bH.2 rfl];simp
   ·rw[bL.2 h,fA,List.mem_cons]
    exact⟨.inr,fun h'=>h'.elim (fun e=>absurd e.symm h) id⟩
theorem pO:∀{l:List Nat},nodupB l=true→l.Nodup
 | [],_=>List.nodup_nil
 | i::l,h=>by
   rw[nodupB,Bool.and_eq_true,Bool.not_eq_true'] at h
   refine List.nodup_cons.2 ⟨fun hm=>?_,pO h.2⟩
   rw[fA.2 hm] at h
   cases h.1
theorem xv{eH:List (FuncId×aG)}{os:Array Oper}{ms is:List Nat}(h:gw eH os=some (ms,is)) :
  ms=fH os.toList []∧gJ 0 os.toList=true∧is.Nodup∧(∀i∈is,i<os.size)∧∀i,i<os.size→i∈is:=by
 unfold gw at h
 simp only at h
 split at h
 ·rename_i hc
  cases h
  rw[Bool.and_eq_true,Bool.and_eq_true,Bool.and_eq_true] at hc
  obtain⟨h1,h2,h3,h4⟩:=hc
  refine⟨rfl,h1,pO h2,fun i hi=>Nat.le_of_ble_eq_true (List.all_eq_true.1 h3 i hi),fun i hi=>fA.1 (List.all_eq_true.1 h4 i (List.mem_range.2 hi))⟩
 ·cases h
theorem mf(v:AV):fP v v:=by cases v<;>simp[fP]
theorem yw{v:AV}{b:Bool}(h:fP v (.bool false b)):fP v (.bool true b):=by
 cases v<;>simp[fP] at h ⊢
 exact h
section
variable {P:Program} {R:Type} {E:dE R} {w0:World} {I0:Nat→Prop} {f0:FuncId} {Fin:R→Value→World→Prop} {Q:R→Prop}
variable {w:World} {S:St} {m:Mem} {fr:Frame} {fs:List aH} {frs cs:List Frame}
variable {fn:FuncId} {nn:Nat} {env:Env} {marks:List Nat} {aU:Option Nat} {k:List aR} {n:Nat}
theorem BJ{G:ei→Prop}{all:Array Oper}{bs:List Nat}{o:Oper}{yes no:Env→Tr R}(h:Tr.Ok Q G (xb all bs env o yes no))(hs:∀d∈da all o,∀c v,env.at d=.bool c v→d≤65535) :
  ∃env':Env,rH env env' (da all o)∧((∀x,env'.at x=env.at x)∨∀d∈da all o,mB all bs d=true)∧((dD all env' o true∧Tr.Ok Q G (yes env'))∨(dD all env' o false∧Tr.Ok Q G (no env'))):=by
 unfold xb at h
 cases hk:gg all env o with
 | some t=>
   rw[hk] at h
   refine⟨env,fun _=>.inl rfl,.inl fun _=>rfl,?_⟩
   cases t with
   | true=>exact .inl ⟨im hk,h⟩
   | false=>exact .inr ⟨im hk,h⟩
 | none=>
   rw[hk] at h
   simp only at h
   split at h
   ·rename_i d hd
    cases hn:mB all bs d with
    | false=>rw[hn] at h;exact h.elim
    | true=>
      rw[hn] at h
      obtain⟨env',h1,h2⟩:=tH h hs
      exact⟨env',h1,.inr fun x hx=>by rw[hd] at hx;rw[List.mem_singleton.1 hx];exact hn,h2⟩
   ·exact h.elim
theorem dD.congr{all:Array Oper}{env':Env}{o:Oper}{t:Bool}(h:dD all env o t)(he:∀x∈da all o,env'.at x=env.at x):dD all env' o t:=by
 unfold dD at h ⊢
 unfold da at he
 cases hg:o.guard with
 | none=>rw[hg] at h;exact h
 | some q=>
   obtain⟨j,want⟩:=q
   rw[hg] at h he
   simp only at h he ⊢
   obtain⟨p,d,hp,hd,h⟩:=h
   rw[hp] at he
   simp only[hd] at he
   refine⟨p,d,hp,hd,?_⟩
   rw[he d List.mem_cons_self]
   exact h
theorem tM{env':Env}{x:Operand}(h:∀t,x=.tmp t→env'.at t=env.at t):dd env' x=dd env x:=by
 cases x with
 | tmp t=>exact h t rfl
 | const v=>rfl
 | global g=>rfl
 | func f=>rfl
theorem uJ.congr{all:Array Oper}{env':Env}{b:Nat}(h:uJ E env m all b)(he:∀o,all[b]? = some o→(∀x∈readsOf all o,env'.at x=env.at x)∧∀v d,o.dst=some d→fP v (env.at d)→fP v (env'.at d)):uJ E env' m all b:=by
 obtain⟨o,ho,h⟩:=h
 obtain⟨h1,h2⟩:=he o ho
 have hd:∀v,kH env o.dst v→kH env' o.dst v:=fun v hv=>by
  cases hod:o.dst with
  | none=>trivial
  | some d=>rw[hod] at hv;exact h2 v d hod hv
 refine⟨o,ho,?_⟩
 rcases h with ⟨hg,hs⟩|⟨hg,tv,v,hev,hv,hs⟩
 ·exact .inl ⟨hg.congr fun x hx=>h1 x (gq hx),hd _ hs⟩
 ·refine .inr ⟨hg.congr fun x hx=>h1 x (gq hx),tv,v,?_,hv,hd _ hs⟩
  rw[←hev]
  exact qe fun x hx=>tM fun t e=>h1 t (by subst e;exact lb hx)
theorem rI(hP:Fits P E Fin w0 I0){id:Nat}{os:Array Oper}{ms is:List Nat}(hd:gw E.eH os=some (ms,is))
  (hg:Good P E w0 I0 f0 Fin Q {frames:=⟨fn,nn,env,.cK os ms is []::k,marks,aU⟩::fs,mem:=m})
  (hW:WR w0 w S m) (hI:∀b,S.I b→I0 b∨w0.heap.size≤b) (hf:FR w S m ⟨fn,nn,env,.code (.region id os true)::k,marks,aU⟩ fr) (hfs:r9 w S m fs frs) (hB:qA f0 (⟨fn,nn,env,.code (.region id os true)::k,marks,aU⟩::fs)) :
  Ends P f0 Fin Q fr frs cs w:=by
 obtain⟨it,kc,ht,h1,h2⟩:=hf.todo.cons_inv
 have h1:it=.code (.region id os true):=h1
 subst h1
 have hnh:∀y,¬Hid ⟨fn,nn,env,.code (.region id os true)::k,marks,aU⟩ fr y:=fun y=>fZ fun a ha=>by cases ha;rfl
 obtain⟨g1,g2,g3,g4,g5⟩:=xv hd
 have hstep:=zA (P:=P) (cs:=frs++cs) (w:=w) hf.mode ht
 rw[hP.mixed] at hstep
 obtain⟨hL,hall⟩:=wT g2 (w.tape w.drawn (.order fr.fn id))
 have hs:=Step.drew hW
 have hf1:=hf.mono hs.out
 refine .step hstep (hg (fun b hb=>absurd hb List.not_mem_nil) S _ _ cs _ hs.wr hI ⟨_,_,rfl,?_,hfs.mono hs.out⟩ (hB.swap rfl))
 refine⟨hf1.fn,hf1.n,hf1.small,fun x _=>hf1.env x (fun hh=>hnh x hh),.mk (a:=.cK os ms is []) ⟨_,rfl,?_⟩ (bQ.mono hs.out hf.live.tail h2),.mk trivial hf1.live.tail,hf1.flat,hf1.defers,hf1.marks,hf1.mode,hf1.kind,hf1.aU,hf1.jR⟩
 exact⟨g1▸FV g2 hL,hL.nodup,by rw[List.append_nil];exact g3,fun i hi=>hall i (g4 i hi),fun i hi=>.inl (g5 i (hL.lt i hi)),fun _ h=>absurd h List.not_mem_nil,fun _ h=>absurd h List.not_mem_nil,fun _ h=>absurd h List.not_mem_nil,fun _ h=>absurd h List.not_mem_nil,
  fun _ h=>absurd h List.not_mem_nil,fun _ h=>absurd h List.not_mem_nil⟩
theorem y7(hP:Fits P E Fin w0 I0)(hcan:∀ks f fs m,(∀a∈f.todo.head?,a.s8=false)→Good P E w0 I0 f0 Fin Q (canon ks {frames:=f::fs,mem:=m})→Good P E w0 I0 f0 Fin Q {frames:=f::fs,mem:=m})
  (ih:∀c,Tr.Ok Q (Good P E w0 I0 f0 Fin Q) (run ai E n c)→Good P E w0 I0 f0 Fin Q c) {id:Nat} {os:Array Oper}
  (h:Tr.Ok Q (Good P E w0 I0 f0 Fin Q) (run ai E (n+1) {frames:=⟨fn,nn,env,.code (.region id os true)::k,marks,aU⟩::fs,mem:=m}))
  (hst:jJ E {frames:=⟨fn,nn,env,.code (.region id os true)::k,marks,aU⟩::fs,mem:=m})
  (hW:WR w0 w S m) (hI:∀b,S.I b→I0 b∨w0.heap.size≤b) (hf:FR w S m ⟨fn,nn,env,.code (.region id os true)::k,marks,aU⟩ fr) (hfs:r9 w S m fs frs) (hB:qA f0 (⟨fn,nn,env,.code (.region id os true)::k,marks,aU⟩::fs)) :
  Ends P f0 Fin Q fr frs cs w:=by
 simp only[run] at h
 cases hcut:mm E.jf fn (some id) with
 | some ks=>rw[hcut] at h;exact hcan ks _ _ _ (fun a ha=>by cases ha;rfl) h hst S fr frs cs w hW hI ⟨fr,frs,rfl,hf,hfs⟩ hB
 | none=>
   rw[hcut] at h
   simp only at h
   cases hd:gw E.eH os with
   | none=>rw[hd] at h;exact h.elim
   | some q=>
     obtain⟨ms,is⟩:=q
     rw[hd] at h
     simp only at h
     exact rI hP hd (ih _ h) hW hI hf hfs hB
theorem BU(hP:Fits P E Fin w0 I0)(ih:∀c,Tr.Ok Q (Good P E w0 I0 f0 Fin Q) (run ai E n c)→Good P E w0 I0 f0 Fin Q c){all:Array Oper}{ms bs:List Nat}
  (h:Tr.Ok Q (Good P E w0 I0 f0 Fin Q) (run ai E (n+1) {frames:=⟨fn,nn,env,.cK all ms [] bs::k,marks,aU⟩::fs,mem:=m}))
  (hst:∀b∈bs,uJ E env m all b)
  (hW:WR w0 w S m) (hI:∀b,S.I b→I0 b∨w0.heap.size≤b) (hf:FR w S m ⟨fn,nn,env,.cK all ms [] bs::k,marks,aU⟩ fr) (hfs:r9 w S m fs frs) (hB:qA f0 (⟨fn,nn,env,.cK all ms [] bs::k,marks,aU⟩::fs)) :
  Ends P f0 Fin Q fr frs cs w:=by
 obtain⟨it,kc,ht,h1,h2⟩:=hf.todo.cons_inv
 obtain⟨l,rfl,hD⟩:∃l:List Nat,it=.inRegion all l∧dq nn all ms [] bs l:=h1
 simp only[run] at h
 obtain⟨w',S',fr',l',kc',hs,hf',hsteps,ht',hD',hk',hhead,_⟩:=pn hP (frs++cs) hst l hW hf ht hD h2
 cases l' with
 | cons i l'=>exact absurd (hhead i rfl) List.not_mem_nil
 | nil=>
   refine .steps (hsteps.trans (.one (sG hf'.mode ht'))) (ih _ h (dZ fun a ha=>hf.flat a (List.mem_of_mem_head? ha)) S' _ _ cs _ hs.wr (fun b hb=>(hs.grows b hb).elim (hI b) .inr) ⟨_,_,rfl,hf'.next ?_ hk' hf'.live.tail (fun a ha=>hf.flat a (List.mem_of_mem_tail ha)),hfs.mono hs.out⟩ (hB.swap rfl))
   rintro x ⟨all',bs',l',k',b,p,e1,e2,e3,e4,e5,e6⟩
   rw[ht'] at e2
   cases e2
   exact absurd e4 List.not_mem_nil
theorem nA{all:Array Oper}{bs:List Nat}{d b:Nat}{o:Oper}(h:mB all bs d=true)(hb:b∈bs)(ho:all[b]? = some o):d ∉ readsOf all o:=by
 have:=List.all_eq_true.1 h b hb
 rw[ho] at this
 simp only[Bool.not_eq_true'] at this
 intro hm
 rw[fA.2 hm] at this
 cases this
theorem pH{all:Array Oper}{bs:List Nat}{d b:Nat}{o:Oper}(h:zC all bs d=true)(hb:b∈bs)(ho:all[b]? = some o):o.dst≠some d:=by
 have:=List.all_eq_true.1 h b hb
 rw[ho] at this
 simp only[Bool.not_eq_true'] at this
 intro e
 rw[e] at this
 simp only[isDst,bH.2] at this
 cases this
theorem kB{all:Array Oper}{bs:List Nat}{o:Oper}{d:Nat}(h:ig all bs o.dst=true)(hd:o.dst=some d):mB all bs d=true∧zC all bs d=true:=by
 rw[hd] at h
 simpa [ig] using h
theorem yn{all:Array Oper}{o:Oper}{d:Nat}(h:nW all o=true)(hd:o.dst=some d):d ∉ readsOf all o:=by
 unfold nW at h
 rw[hd] at h
 simp only[Bool.not_eq_true'] at h
 intro hm
 rw[fA.2 hm] at h
 cases h
theorem AX{all:Array Oper}{mk:Nat}{bs:List Nat}{o:Oper}(h:BN all mk bs o=true){b:Nat}(hb:b∈bs){p:Oper}{d:Nat}(hp:all[b]? = some p)(hd:p.dst=some d)(hr:d∈readsOf all o):mk.testBit b=true:=by
 have:=List.all_eq_true.1 h b hb
 rw[hp] at this
 simp only[hd,fA.2 hr] at this
 simpa using this
theorem dq.add{all:Array Oper}{ms rest bs l:List Nat}{i:Nat}{o:Oper}(h:dq nn all ms (i::rest) bs l)(ho:all[i]? = some o)(hd:gp nn o.dst=true)(hord:BN all (ms.getD i 0) bs o=true)(hg:lh (ms.getD i 0) o=true)
  (hfr:ig all bs o.dst=true) (hown:nW all o=true):dq nn all ms rest (i::bs) l:=by
 have hnd:=h.nodup
 rw[List.cons_append] at hnd
 have hn:=List.nodup_cons.1 hnd
 refine⟨h.Mk,h.Lc,?_,fun j hj=>h.sub j (List.mem_cons_of_mem _ hj),fun j hj=>?_,fun j hj=>?_,?_,?_,?_,?_,?_⟩
 ·exact(List.perm_middle.nodup_iff).2 hnd
 ·rcases h.Mp j hj with hm|hm
  ·rcases List.mem_cons.1 hm with rfl|hm
   ·exact .inr List.mem_cons_self
   ·exact .inl hm
  ·exact .inr (List.mem_cons_of_mem _ hm)
 ·rcases List.mem_cons.1 hj with rfl|hj
  ·exact(Array.getElem?_eq_some_iff.1 ho).1
  ·exact h.lt j hj
 ·intro a ha b hb hne oa p d hoa hp hpd hr
  rcases List.mem_cons.1 ha with rfl|ha'
  ·rcases List.mem_cons.1 hb with rfl|hb'
   ·exact absurd rfl hne
   ·rw[ho] at hoa;cases hoa
    exact AX hord hb' hp hpd hr
  ·rcases List.mem_cons.1 hb with rfl|hb'
   ·rw[ho] at hp;cases hp
    exact absurd hr (nA (kB hfr hpd).1 ha' hoa)
   ·exact h.read a ha' b hb' hne oa p d hoa hp hpd hr
 ·intro a ha b hb hne oa p d hoa hp hpd
  rcases List.mem_cons.1 ha with rfl|ha'
  ·rcases List.mem_cons.1 hb with rfl|hb'
   ·exact absurd rfl hne
   ·rw[ho] at hoa;cases hoa
    intro e
    exact pH (kB hfr e).2 hb' hp hpd
  ·rcases List.mem_cons.1 hb with rfl|hb'
   ·rw[ho] at hp;cases hp
    exact pH (kB hfr hpd).2 ha' hoa
   ·exact h.dst a ha' b hb' hne oa p d hoa hp hpd
 ·intro a ha oa d hoa hd
  rcases List.mem_cons.1 ha with rfl|ha
  ·rw[ho] at hoa;cases hoa;exact yn hown hd
  ·exact h.own a ha oa d hoa hd
 ·intro a ha oa hoa
  rcases List.mem_cons.1 ha with rfl|ha
  ·rw[ho] at hoa;cases hoa;exact hg
  ·exact h.T8 a ha oa hoa
 ·intro a ha oa hoa
  rcases List.mem_cons.1 ha with rfl|ha
  ·rw[ho] at hoa;cases hoa;exact hd
  ·exact h.L6 a ha oa hoa
theorem nH{j:Nat}{rest:List Nat}:∀{ms:List Nat} {k i b:Nat},(((j3 j rest k ms).getD i 0).testBit b=true→(ms.getD i 0).testBit b=true∨(b=j∧k+i∈rest∧k+i≠j))∧((ms.getD i 0).testBit b=true→((j3 j rest k ms).getD i 0).testBit b=true)
 | [],k,i,b=>by rw[j3];exact⟨.inl,id⟩
 | m::ms,k,0,b=>by
   rw[j3]
   simp only[List.getD_cons_zero]
   cases hc:nz rest k && !Nat.beq k j with
   | false=>exact⟨.inl,id⟩
   | true=>
     rw[Bool.and_eq_true,Bool.not_eq_true'] at hc
     refine⟨fun h=>?_,fun h=>?_⟩
     ·rw[Nat.testBit_or,Bool.or_eq_true] at h
      rcases h with h|h
      ·exact .inl h
      ·refine .inr ⟨?_,fA.1 hc.1,fun e=>?_⟩
       ·rw[Nat.testBit_two_pow] at h;exact(of_decide_eq_true h).symm
       ·rw[Nat.add_zero] at e
        rw[bH.2 e] at hc;cases hc.2
     ·show(m ||| 2^j).testBit b=true
      rw[Nat.testBit_or,h];rfl
 | m::ms,k,i+1,b=>by
   rw[j3]
   simp only[List.getD_cons_succ]
   have:=nH (j:=j) (rest:=rest) (ms:=ms) (k:=k+1) (i:=i) (b:=b)
   rw[show k+(i+1)=k+1+i by omega]
   exact this
theorem pU{j x:Nat}:∀{l:List Nat},(x∈ko l j→x∈l)∧(x∈l→x=j∨x∈ko l j)
 | []=>by rw[ko];exact⟨id,fun h=>.inr h⟩
 | i::l=>by
   have ih:=pU (j:=j) (x:=x) (l:=l)
   rw[ko]
   by_cases e:i=j
   ·rw[bH.2 e]
    exact⟨List.mem_cons_of_mem _,fun h=>(List.mem_cons.1 h).elim (fun h=>.inl (h.trans e)) .inr⟩
   ·rw[bL.2 e]
    refine⟨fun h=>?_,fun h=>?_⟩
    ·rcases List.mem_cons.1 h with rfl|h
     ·exact List.mem_cons_self
     ·exact List.mem_cons_of_mem _ (ih.1 h)
    ·rcases List.mem_cons.1 h with rfl|h
     ·exact .inr List.mem_cons_self
     ·exact(ih.2 h).imp id (List.mem_cons_of_mem _)
theorem dq.next{eH:List (FuncId×aG)}{all:Array Oper}{ms rest bs l ms' is:List Nat}{j:Nat}(h:dq nn all ms rest bs (j::l))(hj:j∈rest)(hn:vx eH all ms rest j=some (ms',is)) :
  dq nn all ms' is bs (j::l):=by
 unfold vx at hn
 simp only at hn
 split at hn
 case h_2=>cases hn
 rename_i hc
 cases hn
 rw[Bool.and_eq_true,Bool.and_eq_true] at hc
 obtain⟨h1,h2,h3⟩:=hc
 have hin:∀x,x∈j::eager eH all (j3 j rest 0 ms) (ko rest j).length (A1 (ko rest j)) (ko rest j)→x∈rest:=fun x hx=>by
  rcases List.mem_cons.1 hx with rfl|hx
  ·exact hj
  ·exact pU.1 (fA.1 (List.all_eq_true.1 h2 x hx))
 have hout:∀x,x∈rest→x∈j::eager eH all (j3 j rest 0 ms) (ko rest j).length (A1 (ko rest j)) (ko rest j):=fun x hx=>by
  rcases (pU (j:=j)).2 hx with rfl|hx
  ·exact List.mem_cons_self
  ·exact List.mem_cons_of_mem _ (fA.1 (List.all_eq_true.1 h3 x hx))
 have hup:∀i b,(ms.getD i 0).testBit b=true→((j3 j rest 0 ms).getD i 0).testBit b=true:=fun i b=>nH.2
 have hnd:=List.nodup_append.1 h.nodup
 refine⟨fun l1 i l2 e b hb=>?_,h.Lc,?_,fun x hx=>h.sub x (hin x hx),fun x hx=>(h.Mp x hx).imp (hout x) id,h.lt,fun i hi b hb hne o p d ho hp hd hr=>hup _ _ (h.read i hi b hb hne o p d ho hp hd hr),h.dst,h.own,fun i hi o ho=>?_,h.L6⟩
 ·rcases nH.1 hb with hb|⟨rfl,_,hne⟩
  ·exact h.Mk l1 i l2 e b hb
  ·rw[Nat.zero_add] at hne
   cases l1 with
   | nil=>cases e;exact absurd rfl hne
   | cons x l1=>
     cases e
     intro hm
     exact(List.nodup_cons.1 h.Lc).1 (List.mem_append.2 (.inr hm))
 ·refine List.nodup_append.2 ⟨pO h1,hnd.2.1,fun a ha b hb=>hnd.2.2 a (hin a ha) b hb⟩
 ·have:=h.T8 i hi o ho
  unfold lh at this ⊢
  split
  ·rfl
  ·rename_i q1 q2 hq
   rw[hq] at this
   exact hup _ _ this
theorem yg{G:ei→Prop}{K:Nat→Tr R}:∀{l:List Nat},Tr.Ok Q G (vP K l)→∀j∈l,Tr.Ok Q G (K j)
 | [],_,_,h=>absurd h List.not_mem_nil
 | [i],h,j,hj=>by rw[List.mem_singleton.1 hj];exact h
 | i::i2::l,h,j,hj=>by
   obtain⟨h1,h2⟩:Tr.Ok Q G (K i)∧Tr.Ok Q G (vP K (i2::l)):=h
   rcases List.mem_cons.1 hj with rfl|hj
   ·exact h1
   ·exact yg h2 j hj
theorem dq.cut{all:Array Oper}{ms rest bs l:List Nat}{i:Nat}(h:dq nn all ms rest bs (i::l)):dq nn all ms rest (iY (ms.getD i 0) bs) (i::l):=by
 have hsub:∀b∈iY (ms.getD i 0) bs,b∈bs:=fun b hb=>(List.mem_filter.1 hb).1
 refine⟨h.Mk,h.Lc,?_,h.sub,fun j hj=>?_,fun j hj=>h.lt j (hsub j hj),fun a ha b hb=>h.read a (hsub a ha) b (hsub b hb),fun a ha b hb=>h.dst a (hsub a ha) b (hsub b hb),fun a ha=>h.own a (hsub a ha),fun a ha=>h.T8 a (hsub a ha),fun a ha=>h.L6 a (hsub a ha)⟩
 ·exact h.nodup.sublist (List.Sublist.append_left List.filter_sublist rest)
 ·rcases h.Mp j hj with hm|hm
  ·exact .inl hm
  ·refine .inr (List.mem_filter.2 ⟨hm,?_⟩)
   cases hb:(ms.getD i 0).testBit j with
   | false=>rfl
   | true=>exact absurd hj (h.done hb)
end
end Go.Ev
namespace Go.Ev
section
variable {P:Program} {R:Type} {E:dE R} {w0:World} {I0:Nat→Prop} {f0:FuncId} {Fin:R→Value→World→Prop} {Q:R→Prop}
variable {w:World} {S:St} {m:Mem} {fr:Frame} {fs:List aH} {frs cs:List Frame}
variable {fn:FuncId} {nn:Nat} {env:Env} {marks:List Nat} {aU:Option Nat} {k:List aR} {n:Nat}
theorem EB(ih:∀c,Tr.Ok Q (Good P E w0 I0 f0 Fin Q) (run ai E n c)→Good P E w0 I0 f0 Fin Q c){all:Array Oper}{ms rest bs l:List Nat}{i:Nat}{o:Oper}{kc:List Item}{v:AV}
  (h:Tr.Ok Q (Good P E w0 I0 f0 Fin Q) (run ai E n {frames:=⟨fn,nn,env.dG o.dst v,.cK all ms rest (i::bs)::k,marks,aU⟩::fs,mem:=m}))
  (ho:all[i]? = some o) (hdok:gp nn o.dst=true) (hord:BN all (ms.getD i 0) bs o=true) (hg:lh (ms.getD i 0) o=true) (hfr:ig all bs o.dst=true) (hown:nW all o=true)
  (hst:∀b∈bs,uJ E env m all b) (hi:(dD all env o false∧v=.mC [])∨(dD all env o true∧∃tv,FZ ai E m (dd env) o=some tv∧tv.Is v))
  (hW:WR w0 w S m) (hI:∀b,S.I b→I0 b∨w0.heap.size≤b) (hf:FR w S m ⟨fn,nn,env,.cK all ms (i::rest) bs::k,marks,aU⟩ fr) (hfs:r9 w S m fs frs) (hB:qA f0 (⟨fn,nn,env,.cK all ms (i::rest) bs::k,marks,aU⟩::fs))
  (ht:fr.todo=.inRegion all l::kc) (hD:dq nn all ms (i::rest) bs l) (hk:bQ nn S k kc):Ends P f0 Fin Q fr frs cs w:=by
 have hsm:nn≤65535:=hf.small
 have hput:∀x,o.dst≠some x→(env.dG o.dst v).at x=env.at x:=fun x hx=>by rw[Env.wB hdok hsm,if_neg hx]
 have hself:∀x,o.dst=some x→(env.dG o.dst v).at x=v:=fun x hx=>by rw[Env.wB hdok hsm,if_pos hx]
 have hreads:∀x∈readsOf all o,(env.dG o.dst v).at x=env.at x:=fun x hx=>hput x fun e=>yn hown e hx
 have hsd:kH (env.dG o.dst v) o.dst v:=by
  cases hd:o.dst with
  | none=>trivial
  | some d=>show fP v ((env.dG (some d) v).at d);rw[←hd,hself d hd];exact mf v
 refine ih _ h (fun b hb=>?_) S fr frs cs w hW hI ⟨fr,frs,rfl,?_,hfs⟩ (hB.swap rfl)
 ·rcases List.mem_cons.1 hb with rfl|hb'
  ·refine⟨o,ho,?_⟩
   rcases hi with ⟨h1,rfl⟩|⟨h1,tv,h2,h3⟩
   ·exact .inl ⟨h1.congr fun x hx=>hreads x (gq hx),hsd⟩
   ·refine .inr ⟨h1.congr fun x hx=>hreads x (gq hx),tv,v,?_,h3,hsd⟩
    rw[←h2]
    exact qe fun x hx=>tM fun t e=>hreads t (by subst e;exact lb hx)
  ·refine(hst b hb').congr fun p hp=>⟨fun x hx=>hput x fun e=>nA (kB hfr e).1 hb' hp hx,fun u d hd hs=>?_⟩
   rw[hput d fun e=>pH (kB hfr e).2 hb' hp hd]
   exact hs
 ·have hil:i∈l:=hD.sub i List.mem_cons_self
  refine⟨hf.fn,hf.n,hf.small,fun x hx=>?_,by rw[ht];exact .mk (a:=.cK all ms rest (i::bs)) ⟨l,rfl,hD.add ho hdok hord hg hfr hown⟩ hk,.mk trivial hf.live.tail,hf.flat,hf.defers,hf.marks,hf.mode,hf.kind,hf.aU,hf.jR⟩
  have hne:o.dst≠some x:=fun e=>hx ⟨all,i::bs,l,kc,i,o,rfl,ht,List.mem_cons_self,hil,ho,e⟩
  show CR w S m ((env.dG o.dst v).at x) (fr.tmps.getD x undef)
  rw[hput x hne]
  refine hf.env x fun hh=>hx ?_
  obtain⟨all',bs',l',k',b,p,e1,e2,e3,e4,e5,e6⟩:=hh
  cases e1
  exact⟨all,i::bs,l',k',b,p,rfl,e2,List.mem_cons_of_mem _ e3,e4,e5,e6⟩
theorem EC(hP:Fits P E Fin w0 I0)(ih:∀c,Tr.Ok Q (Good P E w0 I0 f0 Fin Q) (run ai E n c)→Good P E w0 I0 f0 Fin Q c){all:Array Oper}{ms rest bs:List Nat}{i:Nat}
  (h:Tr.Ok Q (Good P E w0 I0 f0 Fin Q) (run ai E (n+1) {frames:=⟨fn,nn,env,.cK all ms (i::rest) bs::k,marks,aU⟩::fs,mem:=m}))
  (hst:∀b∈bs,uJ E env m all b)
  (hW:WR w0 w S m) (hI:∀b,S.I b→I0 b∨w0.heap.size≤b) (hf:FR w S m ⟨fn,nn,env,.cK all ms (i::rest) bs::k,marks,aU⟩ fr) (hfs:r9 w S m fs frs) (hB:qA f0 (⟨fn,nn,env,.cK all ms (i::rest) bs::k,marks,aU⟩::fs)) :
  Ends P f0 Fin Q fr frs cs w:=by
 obtain⟨it,kc,ht,h1,h2⟩:=hf.todo.cons_inv
 obtain⟨l,rfl,hD⟩:∃l:List Nat,it=.inRegion all l∧dq nn all ms (i::rest) bs l:=h1
 have hsm:nn≤65535:=hf.small
 simp only[run] at h
 cases ho:all[i]? with
 | none=>rw[ho] at h;exact h.elim
 | some o=>
   rw[ho] at h
   simp only at h
   cases hck:gp nn o.dst&&(BN all (ms.getD i 0) bs o&&lh (ms.getD i 0) o) with
   | false=>rw[hck] at h;exact h.elim
   | true=>
     rw[hck] at h
     simp only at h
     rw[Bool.and_eq_true,Bool.and_eq_true] at hck
     obtain⟨hdok,hord,hgok⟩:=hck
     have hsmall:∀d∈da all o,∀c v,env.at d=.bool c v→d≤65535:=fun d _ c v e=>by
      by_cases hh:Hid ⟨fn,nn,env,.cK all ms (i::rest) bs::k,marks,aU⟩ fr d
      ·obtain⟨all',bs',l',k',b,p,e1,e2,e3,e4,e5,e6⟩:=hh
       cases e1
       have:=hD.L6 b e3 p e5
       rw[e6] at this
       have:d<nn:=Nat.le_of_ble_eq_true this
       omega
      ·have:=FH hf hh e
       omega
     obtain⟨env',hre,hnr,h⟩:=BJ h hsmall
     have hst':∀b∈bs,uJ E env' m all b:=fun b hb=>(hst b hb).congr fun p hp=>by
      rcases hnr with heq|hnr
      ·exact⟨fun x _=>heq x,fun v d _ hs=>by rw[heq d];exact hs⟩
      ·refine⟨fun x hx=>?_,fun v d _ hs=>?_⟩
       ·rcases hre x with e|⟨hxg,_⟩
        ·exact e
        ·exact absurd hx (nA (hnr x hxg) hb hp)
       ·rcases hre d with e|⟨_,b',e1,e2⟩
        ·rw[e];exact hs
        ·rw[e2];rw[e1] at hs;exact yw hs
     have hf':=hf.Br (D:=da all o) hre
     rcases h with ⟨hg,h⟩|⟨hg,h⟩
     ·-- wanted
      have eff:Tr.Ok Q (Good P E w0 I0 f0 Fin Q) (match rest.all (fun j=>(ms.getD j 0).testBit i) with
           | false=>vP (fun j=>match vx E.eH all ms (i::rest) j with
              | some (ms',is)=>run ai E n {frames:=⟨fn,nn,env',.cK all ms' is bs::k,marks,aU⟩::fs,mem:=m}
              | none=>.bad 180 o.pos) ((i::rest).filter (wE ms (i::rest)))
           | true=>match ig all (iY (ms.getD i 0) bs) o.dst with
            | false=>.bad 178 o.pos
            | true=>
              match fG ai E (dd env') m o with
              | some tv=>tv.bind o.pos fun v=>gT ai E (env'.dG o.dst v) m all (iY (ms.getD i 0) bs) (run ai E n {frames:=⟨fn,nn,env'.dG o.dst v,.cK all ms rest (iY (ms.getD i 0) bs)::k,marks,aU⟩::fs,mem:=m})
              | none=>match o.op with
                | .call {callee:=.value x,args,.. }=>match dd env' x with
                  | .fn g first caps=>match look E.eH g with
                    | some s=>(jd ai s m (first++(args.toList.map (dd env')++caps))).bind o.pos fun p=>gT ai E (env'.dG o.dst p.1) p.2 all (iY (ms.getD i 0) bs) (run ai E n {frames:=⟨fn,nn,env'.dG o.dst p.1,.cK all ms rest (iY (ms.getD i 0) bs)::k,marks,aU⟩::fs,mem:=p.2})
                    | none=>match look E.Av g with
                     | some s=>(jI ai s m (first++(args.toList.map (dd env')++caps))).bind o.pos fun p=>gT ai E (env'.dG o.dst p.1) p.2 all (iY (ms.getD i 0) bs) (run ai E n {frames:=⟨fn,nn,env'.dG o.dst p.1,.cK all ms rest (iY (ms.getD i 0) bs)::k,marks,aU⟩::fs,mem:=p.2})
                     | none=>match look E.jo g with
                      | none=>.bad 163 o.pos
                      | some G=>match fO g G (first++(args.toList.map (dd env')++caps)) with
                        | none=>.bad 164 o.pos
                        | some h=>run ai E n {frames:=h::⟨fn,nn,env',.iW all ms i rest (iY (ms.getD i 0) bs)::k,marks,aU⟩::fs,mem:=m}
                  | .yield l=>match m.at l with
                     | .loop r=>match Nat.beq r.params.length (args.toList.map (dd env')).length&&r.params.all (fun p=>Nat.blt p r.n) with
                       | true=>run ai E n {frames:={fn:=r.fn,n:=r.n,env:=l6 r.params (args.toList.map (dd env')) r.env,todo:=[.code r.assign,.beginRound,.code r.body],marks:=[],aU:=some l}::⟨fn,nn,env',.iW all ms i rest (iY (ms.getD i 0) bs)::k,marks,aU⟩::fs,mem:=m}
                       | false=>.bad 165 o.pos
                     | _=>.bad 166 o.pos
                  | _=>.bad 167 o.pos
                | _=>(kz ai E fn (dd env') m o).bind o.pos fun p=>gT ai E (env'.dG o.dst p.1) p.2 all (iY (ms.getD i 0) bs) (run ai E n {frames:=⟨fn,nn,env'.dG o.dst p.1,.cK all ms rest (iY (ms.getD i 0) bs)::k,marks,aU⟩::fs,mem:=p.2}))→Ends P f0 Fin Q fr frs cs w:=by
       intro h
       cases hck1:rest.all (fun j=>(ms.getD j 0).testBit i) with
       | false=>
         rw[hck1] at h
         simp only at h
         obtain⟨w1,S1,fr1,l1,kc1,hs1,hf1,hsteps1,ht1,hD1,hk1,hhead,hfn1⟩:=pn hP (frs++cs) hst l hW hf ht hD h2
         have hil:i∈l1:=hD1.sub i List.mem_cons_self
         cases l1 with
         | nil=>exact absurd hil List.not_mem_nil
         | cons j l1=>
           have hj:=hhead j rfl
           have hrd:wE ms (i::rest) j=true:=List.all_eq_true.2 fun b hb=>by
            rw[Bool.not_eq_true']
            cases hbt:(ms.getD j 0).testBit b with
            | false=>rfl
            | true=>exact absurd (hD1.sub b hb) (hD1.done hbt)
           have h:=yg h j (List.mem_filter.2 ⟨hj,hrd⟩)
           cases hnx:vx E.eH all ms (i::rest) j with
           | none=>rw[hnx] at h;exact h.elim
           | some q=>
             obtain⟨ms',is⟩:=q
             rw[hnx] at h
             have hf1':=hf1.Br (D:=da all o) hre
             refine .steps hsteps1 (ih _ h hst' S1 _ _ cs w1 hs1.wr (fun b hb=>(hs1.grows b hb).elim (hI b) .inr) ⟨_,_,rfl,?_,hfs.mono hs1.out⟩ (hB.swap rfl))
             refine⟨hf1'.fn,hf1'.n,hf1'.small,fun x hx=>hf1'.env x fun hh=>hx ?_,by rw[ht1];exact .mk (a:=.cK all ms' is bs) ⟨_,rfl,hD1.next hj hnx⟩ hk1,.mk trivial hf1'.live.tail,hf1'.flat,hf1'.defers,hf1'.marks,hf1'.mode,hf1'.kind,hf1'.aU,hf1'.jR⟩
             obtain⟨all',bs',l',k',b,p,e1,e2,e3,e4,e5,e6⟩:=hh
             cases e1
             exact⟨all,bs,l',k',b,p,rfl,e2,e3,e4,e5,e6⟩
       | true=>
        rw[hck1] at h
        simp only at h
        cases hck2:ig all (iY (ms.getD i 0) bs) o.dst with
        | false=>rw[hck2] at h;exact h.elim
        | true=>
         rw[hck2] at h
         simp only at h
         obtain⟨w1,S1,fr1,l1,kc1,hs1,hf1,hsteps1,ht1,hD1,hk1,hhead,hfn1⟩:=pn hP (frs++cs) hst l hW hf ht hD h2
         have hil:i∈l1:=hD1.sub i List.mem_cons_self
         cases l1 with
         | nil=>exact absurd hil List.not_mem_nil
         | cons j l1=>
           have hji:j=i:=by
            rcases List.mem_cons.1 (hhead j rfl) with e|hj
            ·exact e
            ·exact absurd hil (hD1.done (List.all_eq_true.1 hck1 j hj))
           subst hji
           have hjn:j ∉ rest++bs:=(List.nodup_cons.1 (by have:=hD1.nodup;rwa [List.cons_append] at this)).1
           have hjb:j ∉ bs:=fun hm=>hjn (List.mem_append.2 (.inr hm))
           have hf1':=hf1.Br (D:=da all o) hre
           have hnh:∀{t:Nat},t∈readsOf all o→¬Hid ⟨fn,nn,env',.cK all ms (j::rest) bs::k,marks,aU⟩ fr1 t:=fun hr=>
            oF hD1 rfl ht1 (fun b hb _ p d hp hd hr=>AX hord hb hp hd hr) (fun hm=>absurd hm hjb) hr
           have hw:Region.wanted o (yielded all fr1.tmps)=true:=jh hg fun d hd=>hf1'.env d (hnh (gq hd))
           have hbelow:FR w1 S1 m ⟨fn,nn,env',.iW all ms j rest (iY (ms.getD j 0) bs)::k,marks,aU⟩ fr1:=by
            refine⟨hf1'.fn,hf1'.n,hf1'.small,fun x hx=>hf1'.env x fun hh=>hx ?_,by rw[ht1];exact .mk (a:=.iW all ms j rest (iY (ms.getD j 0) bs)) ⟨l1,rfl,hD1.cut⟩ hk1,.mk trivial hf1'.live.tail,hf1'.flat,hf1'.defers,hf1'.marks,hf1'.mode,hf1'.kind,hf1'.aU,hf1'.jR⟩
            obtain⟨all',bs',l',k',b,p,e1,e2,e3,e4,e5,e6⟩:=hh
            cases e1
            rw[ht1] at e2
            cases e2
            refine⟨all,_,j::l1,kc1,b,p,rfl,ht1,List.mem_filter.2 ⟨e3,?_⟩,e4,e5,e6⟩
            cases hb:(ms.getD j 0).testBit b with
            | false=>rfl
            | true=>exact absurd e4 (hD1.done hb)
           refine .steps hsteps1 (Az (fn:=fn) (ρ:=dd env') (below:=⟨fn,nn,env',.iW all ms j rest (iY (ms.getD j 0) bs)::k,marks,aU⟩) (next:=fun v m=>gT ai E (env'.dG o.dst v) m all (iY (ms.getD j 0) bs) (run ai E n {frames:=⟨fn,nn,env'.dG o.dst v,.cK all ms rest (iY (ms.getD j 0) bs)::k,marks,aU⟩::fs,mem:=m}))
            hP ih hs1.wr (fun b hb=>(hs1.grows b hb).elim (hI b) .inr) (hfs.mono hs1.out) (hB.swap rfl) hf1.mode ht1 ho hw (fun x hx=>nY hf1' x fun t e=>hnh (by subst e;exact lb hx)) hbelow (fun v m' w' S' z hs hc h=>?_) h)
           obtain⟨hst2,h⟩:=oM h
           have hs2:=hs1.trans hs
           exact ih _ h hst2 S' _ _ cs w' hs2.wr (fun b hb=>(hs2.grows b hb).elim (hI b) .inr) ⟨_,_,rfl,qt (hbelow.mono hs.out) ho hdok hc,hfs.mono hs2.out⟩ (hB.swap rfl)
      split at h
      ·rename_i tv hev hfo
       rw[Bool.and_eq_true] at hfo
       obtain⟨v,hv,h⟩:=TV.bind_ok h
       exact EB ih h ho hdok hord hgok hfo.1 hfo.2 hst' (.inr ⟨hg,tv,hev,hv⟩) hW hI hf' hfs (hB.swap rfl) ht hD h2
      ·exact eff h
     ·-- not wanted
      cases hfo:ig all bs o.dst&&nW all o with
      | false=>rw[hfo] at h;exact h.elim
      | true=>
        rw[hfo] at h
        simp only at h
        rw[Bool.and_eq_true] at hfo
        exact EB ih h ho hdok hord hgok hfo.1 hfo.2 hst' (.inl ⟨hg,rfl⟩) hW hI hf' hfs (hB.swap rfl) ht hD h2
end
end Go.Ev
namespace Go.Ev
theorem mF:∀{l:List Nat} {id k:Nat},id∈l→∃j,idxOf l id k=k+j∧l[j]? = some id∧j<l.length
 | i::l,id,k,h=>by
   rw[idxOf]
   by_cases hi:i=id
   ·subst hi;rw[bH.2 rfl];exact⟨0,rfl,rfl,Nat.succ_pos _⟩
   ·rw[bL.2 hi]
    obtain⟨j,h1,h2,h3⟩:=mF (k:=k+1) ((List.mem_cons.1 h).resolve_left (fun e=>hi e.symm))
    exact⟨j+1,by simp only;rw[h1];omega,by simpa using h2,by simpa using h3⟩
theorem vG:∀{l:List Nat} {id k:Nat},id ∉ l→idxOf l id k=k+l.length
 | [],id,k,_=>rfl
 | i::l,id,k,h=>by
   rw[idxOf,bL.2 fun e=>h (by subst e;exact List.mem_cons_self)]
   simp only
   rw[vG fun hm=>h (List.mem_cons_of_mem _ hm),List.length_cons]
   omega
theorem mH:∀{r acc:List Nat},acc.Nodup→(j5 acc r).Nodup∧(∀i∈acc,i∈j5 acc r)∧∀i∈r,i∈j5 acc r
 | [],acc,h=>⟨h,fun _ h=>h,fun _ h=>absurd h List.not_mem_nil⟩
 | j::r,acc,h=>by
   rw[j5]
   cases hm:nz acc j with
   | true=>
     simp only
     obtain⟨h1,h2,h3⟩:=mH (r:=r) h
     refine⟨h1,h2,fun i hi=>?_⟩
     rcases List.mem_cons.1 hi with rfl|hi
     ·exact h2 _ (fA.1 hm)
     ·exact h3 i hi
   | false=>
     simp only
     have hn:j ∉ acc:=fun h=>by rw[fA.2 h] at hm;cases hm
     obtain⟨h1,h2,h3⟩:=mH (r:=r) (acc:=acc ++ [j]) (List.nodup_append.2 ⟨h,by simp,fun a ha b hb=>by rintro rfl;rw[List.mem_singleton.1 hb] at ha;exact hn ha⟩)
     refine⟨h1,fun i hi=>h2 i (List.mem_append.2 (.inl hi)),fun i hi=>?_⟩
     rcases List.mem_cons.1 hi with rfl|hi
     ·exact h2 _ (List.mem_append.2 (.inr (List.mem_singleton.2 rfl)))
     ·exact h3 i hi
theorem qG:∀{f:Nat} {m:Mem} {acc:List Nat} {p:Nat},acc.Nodup→(jj f m acc p).Nodup∧∀i∈acc,i∈jj f m acc p
 | 0,m,acc,p,h=>⟨h,fun _ h=>h⟩
 | f+1,m,acc,p,h=>by
   rw[jj]
   cases acc[p]? with
   | none=>exact⟨h,fun _ h=>h⟩
   | some id=>
     simp only
     obtain⟨h1,h2,_⟩:=mH (r:=y2 (m.at id)) h
     obtain⟨h3,h4⟩:=qG (f:=f) (m:=m) (p:=p+1) h1
     exact⟨h3,fun i hi=>h4 i (h2 i hi)⟩
theorem mZ{l:List Nat}:∀{cs:List AV},(iI l cs).length=cs.length
 | []=>by rw[iI]
 | a::cs=>by rw[iI,List.length_cons,List.length_cons,mZ]
def St.ren(S:St)(l:List Nat):St:={σ:=fun i=>S.σ (l.getD i 0),δ:=fun i=>S.δ (l.getD i 0),I:=S.I}
def Mem.ren(m:Mem)(l:List Nat):Mem:=(l.map fun id=>iN l (m.at id)) ++ [.dead]
section
variable {w0 w:World} {S:St} {m:Mem} {l:List Nat}
theorem p9{j id:Nat}(h:l[j]? = some id):(m.ren l).at j=iN l (m.at id):=by
 have hj:j<l.length:=(List.getElem?_eq_some_iff.1 h).1
 rw[Mem.ren,Mem.at,List.getD_eq_getElem?_getD,List.getElem?_append_left (by rw[List.length_map];exact hj),List.getElem?_map,h]
 rfl
theorem sj:(m.ren l).at l.length=.dead:=by
 rw[Mem.ren,Mem.at,List.getD_eq_getElem?_getD,List.getElem?_append_right (by rw[List.length_map];exact Nat.le_refl _),List.length_map,Nat.sub_self]
 rfl
theorem BW{j:Nat}(h:l.length<j):(m.ren l).at j=.bad:=by
 rw[Mem.ren,Mem.at,List.getD_eq_getElem?_getD,List.getElem?_eq_none (by rw[List.length_append,List.length_map];simp;omega)]
 rfl
theorem pT(j:Nat):(∃id,l[j]? = some id∧(m.ren l).at j=iN l (m.at id)∧(S.ren l).σ j=S.σ id∧(S.ren l).δ j=S.δ id)∨(m.ren l).at j=.dead∨(m.ren l).at j=.bad:=by
 rcases Nat.lt_trichotomy j l.length with h|h|h
 ·have e:=List.getElem?_eq_getElem h
  refine .inl ⟨l[j],e,p9 e,?_,?_⟩<;>simp[St.ren,List.getD_eq_getElem?_getD,e]
 ·subst h;exact .inr (.inl sj)
 ·exact .inr (.inr (BW h))
theorem qa(id:Nat):(id∈l∧(m.ren l).at (idxOf l id 0)=iN l (m.at id)∧(S.ren l).σ (idxOf l id 0)=S.σ id∧(S.ren l).δ (idxOf l id 0)=S.δ id)∨(m.ren l).at (idxOf l id 0)=.dead:=by
 by_cases h:id∈l
 ·obtain⟨j,h1,h2,h3⟩:=mF (k:=0) h
  rw[Nat.zero_add] at h1
  rw[h1]
  refine .inl ⟨h,p9 h2,?_,?_⟩<;>simp[St.ren,List.getD_eq_getElem?_getD,h2]
 ·rw[vG h,Nat.zero_add]
  exact .inr sj
mutual
theorem Ab:∀{a:AV} {v:Value},CR w S m a v→CR w (S.ren l) (m.ren l) (eQ l a) v
 | .undef,v,_=>by rw[eQ];exact du
 | .int k c n,v,h=>by rw[eQ];exact bC.2 (bC.1 h)
 | .bool c b,v,h=>by rw[eQ];exact cu.2 (cu.1 h)
 | .str c s,v,h=>by rw[eQ];exact ez.2 (ez.1 h)
 | .sl t x,v,h=>by rw[eQ,CR];rw[CR] at h;exact h
 | .bd b,v,h=>by rw[eQ];exact dX.2 (dX.1 h)
 | .lk t x off,v,h=>by rw[eQ,CR];rw[CR] at h;exact h
 | .bP,v,h=>by rw[eQ];exact fI.2 (fI.1 h)
 | .fE,v,h=>by rw[eQ];exact gM.2 (gM.1 h)
 | .own id,v,h=>by
   rw[eQ,CR]
   rw[CR] at h
   rcases qa (S:=S) (m:=m) (l:=l) id with ⟨_,h1,h2,h3⟩|h1
   ·rw[h1,h2,h3]
    cases hb:m.at id<;>rw[hb] at h<;>(try exact h.elim)<;>exact h
   ·rw[h1];trivial
 | .jD id sz c lo len,v,h=>by
   rw[eQ,CR]
   rw[CR] at h
   rcases qa (S:=S) (m:=m) (l:=l) id with ⟨_,h1,h2,h3⟩|h1
   ·rw[h1,h2,h3]
    cases hb:m.at id<;>rw[hb] at h<;>(try exact h.elim)<;>(try exact h)
    obtain⟨l0,n,cap,a,e1,e2,e3,e4,e5⟩:=h
    exact⟨l0,n,cap,a,e1,e2,e3,by rw[mZ];exact e4,e5⟩
   ·rw[h1];trivial
 | .ptr id off,v,h=>by
   rw[eQ,CR]
   rw[CR] at h
   rcases qa (S:=S) (m:=m) (l:=l) id with ⟨_,h1,h2,h3⟩|h1
   ·rw[h1,h2]
    cases hb:m.at id<;>rw[hb] at h<;>(try exact h.elim)<;>exact h
   ·rw[h1];trivial
 | .gY id i off,v,h=>by
   rw[eQ,CR]
   rw[CR] at h
   rcases qa (S:=S) (m:=m) (l:=l) id with ⟨_,h1,h2,h3⟩|h1
   ·rw[h1,h2,h3]
    cases hb:m.at id<;>rw[hb] at h<;>(try exact h.elim)<;>exact h
   ·rw[h1];trivial
 | .mW id off n t i,v,h=>by
   rw[eQ,CR]
   rw[CR] at h
   rcases qa (S:=S) (m:=m) (l:=l) id with ⟨_,h1,h2,h3⟩|h1
   ·rw[h1,h2]
    cases hb:m.at id<;>rw[hb] at h<;>(try exact h.elim)<;>exact h
   ·rw[h1];trivial
 | .yield id,v,h=>by
   rw[eQ,CR]
   rw[CR] at h
   rcases qa (S:=S) (m:=m) (l:=l) id with ⟨_,h1,h2,h3⟩|h1
   ·rw[h1,h2]
    cases hb:m.at id<;>rw[hb] at h<;>(try exact h.elim)<;>exact h
   ·rw[h1];trivial
 | .fn f a c,v,h=>by
   rw[eQ]
   obtain⟨us,vs,e,h1,h2⟩:=mr.1 h
   exact mr.2 ⟨us,vs,e,mV h1,mV h2⟩
 | .agg cs,v,h=>by
   rw[eQ]
   obtain⟨us,e,h1⟩:=jc.1 h
   exact jc.2 ⟨us,e,mV h1⟩
 | .mC cs,v,h=>by
   rw[eQ]
   obtain⟨us,e,h1⟩:=ib.1 h
   exact ib.2 ⟨us,e,mV h1⟩
theorem mV:∀{cs:List AV} {us:List Value},bF w S m cs us→bF w (S.ren l) (m.ren l) (iI l cs) us
 | [],us,h=>by rw[iI];exact bu.2 (bu.1 h)
 | a::cs,us,h=>by
   rw[iI]
   obtain⟨v,r,e,h1,h2⟩:=bY.1 h
   exact bY.2 ⟨v,r,e,Ab h1,mV h2⟩
end
theorem pL:∀{e:PT AV} {i:Nat},(oW l e).get i=(e.get i).map (eQ l)
 | .leaf,i=>by rw[oW,PT.jB];rfl
 | .node a v b,i=>by
   show(PT.node (oW l a) (match v with|some x=>some (eQ l x)|none=>none) (oW l b)).get i=_
   rw[PT.fT,PT.fT]
   by_cases h0:i=0
   ·rw[if_pos h0,if_pos h0];cases v<;>rfl
   ·rw[if_neg h0,if_neg h0]
    by_cases h1:i%2=1
    ·rw[if_pos h1,if_pos h1,pL]
    ·rw[if_neg h1,if_neg h1,pL]
theorem Ez{e:Env}{i:Nat}:Env.at (oW l e) i=eQ l (e.at i):=by
 rw[Env.at,Env.at,pL]
 cases PT.get e i<;>first|rfl|(simp only[Option.map_none];rw[eQ])
theorem Iu{id:Nat}(hb:nN w S m id (m.at id)){j:Nat}(hσ:(S.ren l).σ j=S.σ id)(hδ:(S.ren l).δ j=S.δ id):nN w (S.ren l) (m.ren l) j (iN l (m.at id)):=by
 cases hm:m.at id<;>rw[hm] at hb<;>simp only[iN]
 case bad=>trivial
 case dead=>trivial
 case yS=>trivial
 case wS=>exact(show w.heap[(S.ren l).σ j]? = _ by rw[hσ];exact hb)
 case flat fz cs=>
  obtain⟨us,T,fr,h1,h2,h3⟩:=hb
  exact⟨us,T,fr,by rw[hσ];exact h1,h2,mV h3⟩
 case arr fz t x=>
  obtain⟨h0,us,T,fr,h1,h2,h3,h4⟩:=hb
  exact⟨h0,us,T,fr,by rw[hσ];exact h1,h2,by rw[hδ];exact h3,by rw[hδ];exact h4⟩
 case loop r=>
  obtain⟨L,h1,h2,h3,h4,h5,h6,h7,h8,h9⟩:=hb
  exact⟨L,by rw[hσ];exact h1,h2,h3,h4,h5,h6,h7,h8,fun i=>by
   show CR w (S.ren l) (m.ren l) (Env.at (oW l r.env) i) _
   rw[Ez];exact Ab (h9 i)⟩
theorem yZ{b:iJ}:(iN l b).bJ=b.bJ:=by cases b<;>rfl
theorem vn{b:iJ}:(iN l b).jA=b.jA:=by cases b<;>rfl
theorem kN{b:iJ}:(iN l b).ed=b.ed:=by cases b<;>rfl
theorem LY(hW:WR w0 w S m)(hn:l.Nodup):WR w0 w (S.ren l) (m.ren l):=by
 have live:∀j,((m.ren l).at j).bJ=true→∃id,l[j]? = some id∧(m.ren l).at j=iN l (m.at id)∧(S.ren l).σ j=S.σ id∧(m.at id).bJ=true:=fun j h=>by
  rcases pT (S:=S) (m:=m) (l:=l) j with ⟨id,h1,h2,h3,_⟩|h1|h1
  ·rw[h2,yZ] at h;exact⟨id,h1,h2,h3,h⟩
  ·rw[h1] at h;cases h
  ·rw[h1] at h;cases h
 refine⟨hW.os,hW.tape,hW.output,hW.size,hW.base,hW.lG,fun j=>?_,fun j j' h h' e=>?_,fun j h=>?_,fun j h h'=>?_,fun j h=>?_⟩
 ·rcases pT (S:=S) (m:=m) (l:=l) j with ⟨id,h1,h2,h3,h4⟩|h1|h1
  ·rw[h2];exact Iu (hW.box id) h3 h4
  ·rw[h1];trivial
  ·rw[h1];trivial
 ·obtain⟨id,h1,h2,h3,h4⟩:=live j h
  obtain⟨id',g1,g2,g3,g4⟩:=live j' h'
  have:=hW.inj id id' h4 g4 (by rw[←h3,←g3];exact e)
  subst this
  obtain⟨a1,a2⟩:=List.getElem?_eq_some_iff.1 h1
  obtain⟨b1,b2⟩:=List.getElem?_eq_some_iff.1 g1
  exact(List.getElem_inj hn).1 (a2.trans b2.symm)
 ·obtain⟨id,h1,h2,h3,h4⟩:=live j h
  rw[h3];exact hW.lo id h4
 ·obtain⟨id,h1,h2,h3,h4⟩:=live j h
  rw[h3]
  rw[h2,vn] at h'
  exact hW.qs id h4 h'
 ·rcases pT (S:=S) (m:=m) (l:=l) j with ⟨id,h1,h2,h3,h4⟩|h1|h1
  ·rw[h3]
   rw[h2,vn] at h
   exact hW.xg id h
  ·rw[h1] at h;cases h
  ·rw[h1] at h;cases h
theorem mT{id:Nat}(h:id∈l):(m.ren l).at (idxOf l id 0)=iN l (m.at id):=by
 obtain⟨j,h1,h2,h3⟩:=mF (k:=0) h
 rw[Nat.zero_add] at h1
 rw[h1]
 exact p9 h2
theorem o_{id:Nat}(h:id∈l):(S.ren l).σ (idxOf l id 0)=S.σ id:=by
 obtain⟨j,h1,h2,h3⟩:=mF (k:=0) h
 rw[Nat.zero_add] at h1
 rw[h1]
 simp[St.ren,List.getD_eq_getElem?_getD,h2]
theorem ye{n:Nat}:∀{k:List aR} {kc:List Item},(∀i∈k.flatMap ik,i∈l)→bQ n S k kc→bQ n (S.ren l) (k.map (jN l)) kc
 | [],kc,_,h=>h
 | a::k,kc,hl,h=>by
   obtain⟨it,kc1,rfl,h1,h2⟩:=h.cons_inv
   refine .mk ?_ (ye (fun i hi=>hl i (by rw[List.flatMap_cons];exact List.mem_append.2 (.inr hi))) h2)
   have hid:∀i∈ik a,i∈l:=fun i hi=>hl i (by rw[List.flatMap_cons];exact List.mem_append.2 (.inl hi))
   cases a<;>try exact h1
   case gI id=>
    have h1:it=.inRangeFunc (S.σ id):=h1
    show it=.inRangeFunc ((S.ren l).σ (idxOf l id 0))
    rw[(o_ (hid id (List.mem_singleton.2 rfl)))];exact h1
   case fS id=>
    have h1:it=.endRangeFunc (S.σ id):=h1
    show it=.endRangeFunc ((S.ren l).σ (idxOf l id 0))
    rw[(o_ (hid id (List.mem_singleton.2 rfl)))];exact h1
theorem qP{a:aR}:(jN l a).s8=a.s8:=by cases a<;>rfl
theorem uo{a:aR}:(jN l a).drawn=a.drawn:=by cases a<;>rfl
theorem Ew{k:List aR}(hl:∀i∈k.flatMap ik,i∈l)(h:bo m k):bo (m.ren l) (k.map (jN l)):=by
 intro b hb
 obtain⟨a,ha,rfl⟩:=List.mem_map.1 hb
 have h1:=h a ha
 have hid:∀i∈ik a,i∈l:=fun i hi=>hl i (List.mem_flatMap.2 ⟨a,ha,hi⟩)
 cases a<;>(try trivial)
 case gI id=>
  show((m.ren l).at (idxOf l id 0)).ed=true
  rw[(mT (hid id (List.mem_singleton.2 rfl))),kN];exact h1
 case fS id=>
  show((m.ren l).at (idxOf l id 0)).ed=true
  rw[(mT (hid id (List.mem_singleton.2 rfl))),kN];exact h1
theorem Ej(e r:Env)(q i:Nat):Env.at (AU e q r) i=Env.at r i∨(i=q∧∃k c n,e.at q=.int k c n∧Env.at (AU e q r) i=.int k c n):=by
 unfold AU
 cases hb:Nat.ble q 65535 with
 | false=>exact .inl rfl
 | true=>
   cases hv:e.at q with
   | int k c n=>
     simp only
     rw[Env.nJ (Nat.le_of_ble_eq_true hb)]
     by_cases h:i=q
     ·rw[if_pos h];exact .inr ⟨h,k,c,n,rfl,rfl⟩
     ·rw[if_neg h];exact .inl rfl
   | _=>exact .inl rfl
theorem nK{e:Env}{v:Nat→Value}{H:Nat→Prop}(h:∀i,¬H i→CR w S m (e.at i) (v i)):∀{ks:List Nat} {i:Nat},¬H i→CR w (S.ren l) (m.ren l) ((jU l e ks).at i) (v i)
 | [],i,_=>by rw[jU,Env.Ay];exact du
 | j::ks,i,hi=>by
   rw[jU]
   cases hj:Nat.ble j 65535 with
   | false=>
     simp only
     rcases Ej e (jU l e ks) (AQ j) i with h1|⟨h1,k,c,n,h2,h3⟩
     ·rw[h1];exact nK h hi
     ·rw[h3]
      subst h1
      have h4:CR w S m (e.at (AQ j)) (v (AQ j)):=h _ hi
      rw[h2] at h4
      exact bC.2 (bC.1 h4)
   | true=>
     simp only
     rw[Env.nJ (Nat.le_of_ble_eq_true hj)]
     by_cases e:i=j
     ·subst e;rw[if_pos rfl];exact Ab (h i hi)
     ·rw[if_neg e];exact nK h hi
theorem LO{f:aH}{fr:Frame}{ks:List Nat}(hf:FR w S m f fr)(hm:∀i∈f.marks,i∈l)(hr:∀i,f.aU=some i→i∈l)(ht:∀i∈f.todo.flatMap ik,i∈l) :
  FR w (S.ren l) (m.ren l) {f with env:=jU l f.env ks,todo:=f.todo.map (jN l),marks:=f.marks.map (idxOf l · 0),aU:=f.aU.map (idxOf l · 0)} fr:=by
 refine⟨hf.fn,hf.n,hf.small,fun i hi=>nK (H:=fun i=>Hid f fr i) hf.env (fun hh=>hi ?_),ye ht hf.todo,Ew ht hf.live,fun a ha=>?_,?_,fun d hd=>?_,hf.mode,hf.kind,?_,fun i hi=>?_⟩
 ·obtain⟨all,bs,l',k',b,p,e1,e2⟩:=hh
  refine⟨all,bs,l',k',b,p,?_,e2⟩
  rw[←e1]
  cases f.todo with
  | nil=>rfl
  | cons a k=>exact uo
 ·have ha:a∈(f.todo.map (jN l)).tail:=ha
  rw[←List.map_tail] at ha
  obtain⟨b,hb,rfl⟩:=List.mem_map.1 ha
  rw[qP];exact hf.flat b hb
 ·rw[hf.defers,List.map_map]
  exact List.map_congr_left fun d hd=>by simp only[Function.comp];rw[(o_ (hm d hd))]
 ·obtain⟨d',hd',rfl⟩:=List.mem_map.1 hd
  rw[(mT (hm d' hd')),kN];exact hf.marks d' hd'
 ·rw[hf.aU]
  cases hr':f.aU with
  | none=>rfl
  | some i=>simp only[Option.map_some];rw[(o_ (hr i hr'))]
 ·cases hr':f.aU with
  | none=>rw[hr'] at hi;cases hi
  | some j=>
    rw[hr'] at hi
    cases hi
    rw[(mT (hr j hr')),kN];exact hf.jR j hr'
theorem Bj:∀{fs:List aH} {frs:List Frame} {ks:List (List Nat)},(∀i∈jW ks fs,i∈l)→r9 w S m fs frs→r9 w (S.ren l) (m.ren l) (fj l ks fs) frs
 | [],frs,ks,_,h=>by rw[fj];exact h
 | f::fs,frs,ks,hl,h=>by
   obtain⟨fr,r,rfl,h1,h2⟩:=h
   rw[fj]
   have hl':∀i,i∈f.marks++((match f.aU with|some l=>[l]|none=>[])++(f.todo.flatMap ik++jW ks.tail fs))→i∈l:=fun i hi=>hl i (by rw[jW];exact List.mem_append.2 (.inr hi))
   refine⟨fr,r,rfl,LO h1 (fun i hi=>hl' i (List.mem_append.2 (.inl hi))) (fun i hi=>hl' i (List.mem_append.2 (.inr (List.mem_append.2 (.inl ?_))))) (fun i hi=>hl' i (List.mem_append.2 (.inr (List.mem_append.2 (.inr (List.mem_append.2 (.inl hi))))))),
    Bj (fun i hi=>hl' i (List.mem_append.2 (.inr (List.mem_append.2 (.inr (List.mem_append.2 (.inr hi))))))) h2⟩
   rw[hi];exact List.mem_singleton.2 rfl
theorem A7{f0:FuncId}:∀{fs:List aH} {ks:List (List Nat)},qA f0 fs→qA f0 (fj l ks fs)
 | [],ks,h=>h.elim
 | [f],ks,h=>h
 | f::g::r,ks,h=>by
   rw[fj,fj]
   have:=A7 (fs:=g::r) (ks:=ks.tail) h
   rw[fj] at this
   exact this
theorem tX{P:Program}{R:Type}{E:dE R}{I0:Nat→Prop}{f0:FuncId}{Fin:R→Value→World→Prop}{Q:R→Prop}(ks:List (List Nat))(f:aH)(fs:List aH)(m:Mem)(hd:∀a∈f.todo.head?,a.s8=false)
  (h:Good P E w0 I0 f0 Fin Q (canon ks {frames:=f::fs,mem:=m})):Good P E w0 I0 f0 Fin Q {frames:=f::fs,mem:=m}:=by
 intro _ S fr frs cs w hW hI hf hB
 obtain⟨h1,h2,h3⟩:=mH (acc:=[]) (r:=jW ks (f::fs)) List.nodup_nil
 obtain⟨h4,h5⟩:=qG (f:=m.length+1) (m:=m) (p:=0) h1
 refine h ?_ (S.ren (jj (m.length+1) m (j5 [] (jW ks (f::fs))) 0)) fr frs cs w (LY hW h4) hI (Bj (fun i hi=>h5 i (h3 i hi)) hf) (A7 hB)
 unfold jJ canon
 simp only[fj]
 split
 ·rename_i all ms rest bs k he
  cases ht:f.todo with
  | nil=>rw[ht] at he;cases he
  | cons a k'=>
    rw[ht] at he
    have hda:=hd a (by rw[ht];rfl)
    simp only[List.map_cons,List.cons.injEq] at he
    have:(jN (jj (m.length+1) m (j5 [] (jW ks (f::fs))) 0) a).s8=true:=by rw[he.1];rfl
    rw[qP,hda] at this
    cases this
 ·trivial
end
end Go.Ev
namespace Go.Ev
section
variable {P:Program} {R:Type} {E:dE R} {w0:World} {I0:Nat→Prop} {f0:FuncId} {Fin:R→Value→World→Prop} {Q:R→Prop}
theorem u9(hP:Fits P E Fin w0 I0){n:Nat}(ih:∀c,Tr.Ok Q (Good P E w0 I0 f0 Fin Q) (run ai E n c)→Good P E w0 I0 f0 Fin Q c)
  {w:World} {S:St} {m:Mem} {fr:Frame} {fs:List aH} {frs cs:List Frame} {f:aH} {jump:Option Code}
  (h:Tr.Ok Q (Good P E w0 I0 f0 Fin Q) (match f.aU with
    | none=>match gx f.marks m with
      | none=>.bad 139 ""
      | some m=>match look E.jo f.fn with
        | none=>.bad 141 ""
        | some F=>match fq ai E f.env m F.results.toList with
          | none=>.bad 142 ""
          | some vs=>match fs with
            | []=>match E.fin (dO vs) m with
              | some y=>.ret y
              | none=>.bad 143 ""
            | g::gs=>match finish g (dO vs) with
              | some g=>kY ai E g m (run ai E n {frames:=g::gs,mem:=m})
              | none=>.bad 144 ""
    | some l=>match m.at l with
      | .loop r=>match fs with
        | g::gs=>match finish g (.bool true (tf jump)) with
          | some g=>kY ai E g (m.set l (.loop {r with state:=qV jump,pending:=jump})) (run ai E n {frames:=g::gs,mem:=m.set l (.loop {r with state:=qV jump,pending:=jump})})
          | none=>.bad 145 ""
        | []=>.bad 146 ""
      | _=>.bad 147 ""))
  (hnh:∀x,¬Hid f fr x) (hret:f.aU=none→step P (lone fr (frs++cs) w)=.next (lone {fr with mode:=.returning} (frs++cs) w))
  (ht:f.aU≠none→(fr.todo=[]∧jump=none)∨(∃k,fr.todo=.code .ret::k∧jump=some .ret)∨(∃id k,fr.todo=.code (.exit id)::k∧exitTo id k=none∧jump=some (.exit id))∨(∃id k,fr.todo=.code (.goto id)::k∧gotoIn id k=none∧jump=some (.goto id)))
  (hW:WR w0 w S m) (hI:∀b,S.I b→I0 b∨w0.heap.size≤b) (hf:FR w S m f fr) (hfs:r9 w S m fs frs) (hB:qA f0 (f::fs)) :
  Ends P f0 Fin Q fr frs cs w:=by
 cases hr:f.aU with
 | none=>
   rw[hr] at h
   exact yN hP ih h hnh (hret hr) hW hI hf hfs hB
 | some l=>
   rw[hr] at h
   exact lN ih hr h (ht (by rw[hr];intro e;cases e)) hW hI hf hfs hB
theorem pR(hP:Fits P E Fin w0 I0):∀(n:Nat) (c:ei),Tr.Ok Q (Good P E w0 I0 f0 Fin Q) (run ai E n c)→Good P E w0 I0 f0 Fin Q c
 | 0,c,h=>by rw[run] at h;exact h
 | n+1,c,h=>by
   have ih:=pR hP n
   obtain⟨frames,m⟩:=c
   intro hst S fr frs cs w hW hI hF hB
   cases frames with
   | nil=>exact hB.elim
   | cons f fs=>
     obtain⟨fr',frs',e,hf,hfs⟩:=hF
     cases e
     obtain⟨fn,nn,env,todo,marks,aU⟩:=f
     cases todo with
     | nil=>
       have ht:fr.todo=[]:=hf.todo
       refine u9 (jump:=none) hP ih ?_ (fun x=>fZ fun a ha=>by cases ha) (fun hr=>Hf hf.mode (by rw[hf.aU,hr];rfl) ht) (fun _=>.inl ⟨ht,rfl⟩) hW hI hf hfs hB
       simp only[run] at h
       exact h
     | cons i k=>
       obtain⟨it,kc,ht,h1,h2⟩:=hf.todo.cons_inv
       have plain:=fun hi=>Ce (tX (P:=P) (E:=E) (I0:=I0) (f0:=f0) (Fin:=Fin) (Q:=Q)) ih (i:=i) (k:=k) hi h hst hW hI hf hfs hB (cs:=cs)
       have hnh:i.s8=false→∀x,¬Hid ⟨fn,nn,env,i::k,marks,aU⟩ fr x:=fun hne x=>fZ fun a ha=>by cases ha;exact hne
       cases i with
       | inBlock id=>exact plain trivial
       | inLoop b=>exact plain trivial
       | inScope b=>exact plain trivial
       | gI l=>simp only[run] at h;exact h.elim
       | iW all ms i rest bs=>simp only[run] at h;exact h.elim
       | fS l=>exact Bu ih h hW hI hf hfs hB
       | beginRound=>exact Cs ih h hW hI hf hfs hB
       | ops all rest=>
         cases rest with
         | nil=>exact plain trivial
         | cons o rest=>exact He hP ih h hW hI hf hfs hB
       | cK all ms rest bs=>
         cases rest with
         | nil=>exact BU hP ih h hst hW hI hf hfs hB
         | cons i rest=>exact EC hP ih h hst hW hI hf hfs hB
       | code x=>
         have h1:it=.code x:=h1
         subst h1
         cases x with
         | skip=>exact plain trivial
         | label l=>exact plain trivial
         | seq a b=>exact plain trivial
         | cond x a b=>exact plain trivial
         | block id b=>exact plain trivial
         | loop b=>exact plain trivial
         | scope b=>exact plain trivial
         | refuse why=>simp only[run] at h;exact h.elim
         | region id os draw=>
           cases draw with
           | false=>exact plain trivial
           | true=>exact y7 hP (tX (P:=P) (E:=E) (I0:=I0) (f0:=f0) (Fin:=Fin) (Q:=Q)) ih h hst hW hI hf hfs hB
         | rangeFunc x ps a b=>exact u5 hP ih h hW hI hf hfs hB
         | ret=>
           refine u9 (jump:=some .ret) hP ih ?_ (hnh rfl) (fun hr=>Ht hf.mode (by rw[hf.aU,hr];rfl) ht) (fun _=>.inr (.inl ⟨kc,ht,rfl⟩)) hW hI hf hfs hB
           simp only[run] at h
           exact h
         | exit id=>
           simp only[run] at h
           cases he:eF id k with
           | some k'=>
             rw[he] at h
             obtain⟨kc',e1,e2,e3,e4⟩:=ob (m:=m) h2 he
             exact dR hW hI hf hfs hB (hnh rfl) (GY hf.mode ht e1) e2 (e3 hf.live.tail) (fun a ha=>hf.flat a (e4 a ha)) (ih _ h)
           | none=>
             rw[he] at h
             simp only at h
             have e1:=mh h2 he
             cases aU with
             | none=>exact h.elim
             | some l=>simp only at h;exact lN (f:=⟨fn,nn,env,.code (.exit id)::k,marks,some l⟩) (jump:=some (.exit id)) ih rfl h (.inr (.inr (.inl ⟨id,kc,ht,e1,rfl⟩))) hW hI hf hfs hB
         | goto id=>
           simp only[run] at h
           cases he:eB id k with
           | some k'=>
             rw[he] at h
             obtain⟨kc',e1,e2,e3,e4⟩:=og (m:=m) h2 he
             exact dR hW hI hf hfs hB (hnh rfl) (Hr hf.mode ht e1) e2 (e3 hf.live.tail) (fun a ha=>(e4 a ha).elim (hf.flat a) fun h=>h) (ih _ h)
           | none=>
             rw[he] at h
             simp only at h
             have e1:=lL h2 he
             cases aU with
             | none=>exact h.elim
             | some l=>simp only at h;exact lN (f:=⟨fn,nn,env,.code (.goto id)::k,marks,some l⟩) (jump:=some (.goto id)) ih rfl h (.inr (.inr (.inr ⟨id,kc,ht,e1,rfl⟩))) hW hI hf hfs hB
end
end Go.Ev
namespace Go.Ev
mutual
def Ty.has:(t:Ty)→t.T→Prop
 | .int k,x=>k.has x
 | .bool,_=>True
 | .str,x=>(show List UInt8 from x).length≤cY
 | .slice t,x=>(show List t.T from x).length≤cY∧∀y∈(show List t.T from x),Ty.has t y
 | .arr n t,x=>(show List t.T from x).length=n∧∀y∈(show List t.T from x),Ty.has t y
 | .struct ts,x=>Ty.dM ts x
 | .any _,_=>True
def Ty.dM:(ts:List Ty)→Ty.Ts ts→Prop
 | [],_=>True
 | [t],x=>Ty.has t x
 | t::t2::ts,x=>Ty.has t (Prod.fst (α:=t.T) (β:=Ty.Ts (t2::ts)) x)∧Ty.dM (t2::ts) (Prod.snd (α:=t.T) (β:=Ty.Ts (t2::ts)) x)
end
section
variable {w:World} {I:Nat→Prop}
mutual
theorem aP.has:∀(t:Ty) {cs:List Value} {x:t.T},aP w I t cs x→t.has x
 | .int k,cs,x,h=>by rw[Ty.has];exact(ju.1 h).2
 | .bool,cs,x,h=>by rw[Ty.has];trivial
 | .str,cs,x,h=>by rw[Ty.has];exact(oc.1 h).2
 | .slice t,cs,x,h=>by
   rw[Ty.has]
   obtain⟨a,cap,h1,h2,h3,h4,h5⟩:=bA.1 h
   refine⟨h3,fun y hy=>?_⟩
   obtain⟨i,hi⟩:=List.getElem?_of_mem hy
   obtain⟨b,off,us,_,_,_,_,hr⟩:=h5 i y hi
   exact aP.has t hr
 | .arr n t,cs,x,h=>by
   rw[Ty.has]
   obtain⟨h1,h2,h3⟩:=nX.1 h
   refine⟨h1,fun y hy=>?_⟩
   obtain⟨i,hi⟩:=List.getElem?_of_mem hy
   exact aP.has t (h3 i y hi)
 | .struct ts,cs,x,h=>by rw[Ty.has];exact cm.has ts (lW.1 h)
 | .any n,cs,x,h=>by rw[Ty.has];trivial
theorem cm.has:∀(ts:List Ty) {cs:List Value} {x:Ty.Ts ts},cm w I ts cs x→Ty.dM ts x
 | [],cs,x,h=>by rw[Ty.dM];trivial
 | [t],cs,x,h=>by rw[Ty.dM];exact aP.has t (pF.1 h)
 | t::t2::ts,cs,x,h=>by
   rw[Ty.dM]
   rw[cm] at h
   obtain⟨us,vs,_,h1,h2⟩:=h
   exact⟨aP.has t h1,cm.has (t2::ts) h2⟩
end
theorem iB.has{t:Ty}{v:Value}{x:t.T}(h:iB w I t v x):t.has x:=by
 unfold iB at h
 split at h
 ·obtain⟨us,_,h⟩:=h;exact h.has
 ·exact h.has
theorem gu.has:∀{ts:List Ty} {vs:List Value} {x:Ty.Ts ts},gu w I ts vs x→Ty.dM ts x
 | [],vs,x,h=>by rw[Ty.dM];trivial
 | [t],vs,x,h=>by
   rw[Ty.dM]
   rw[gu] at h
   obtain⟨v,_,h⟩:=h
   exact h.has
 | t::t2::ts,vs,x,h=>by
   rw[Ty.dM]
   rw[gu] at h
   obtain⟨v,r,_,h1,h2⟩:=h
   exact⟨h1.has,h2.has⟩
end
theorem yb{os:Array Oper}:(List.range os.size).map (fun i=>os[i]?)=os.toList.map some:=by
 apply List.ext_getElem?
 intro j
 have e:os.toList[j]? = os[j]? :=Array.getElem?_toList
 rw[List.getElem?_map,List.getElem?_map,e]
 by_cases hj:j<os.size
 ·rw[List.getElem?_range hj,Option.map_some,Array.getElem?_eq_getElem hj];rfl
 ·rw[List.getElem?_eq_none (by simpa using hj),Array.getElem?_eq_none (by omega)];rfl
structure Closed{R:Type}(E:dE R)(Q:R→Prop)(G:ei→Prop):Prop where
 go:∀(n:Nat) (c:ei),Tr.Ok Q G (run ai E n (advance E.eH c))→G c
section
variable {P:Program} {R:Type} {E:dE R} {w0:World} {I0:Nat→Prop} {f0:FuncId} {Fin:R→Value→World→Prop} {Q:R→Prop}
theorem xE(hP:Fits P E Fin w0 I0){c:ei}(hg:Good P E w0 I0 f0 Fin Q (advance E.eH c)):Good P E w0 I0 f0 Fin Q c:=by
 obtain⟨frames,m⟩:=c
 cases frames with
 | nil=>exact hg
 | cons f fs=>
   obtain⟨fn,nn,env,todo,marks,aU⟩:=f
   cases todo with
   | nil=>exact hg
   | cons i k=>
     cases i with
     | inLoop b=>
       intro _ S fr frs cs w hW hI hF hB
       obtain⟨fr',frs',e,hf,hfs⟩:=hF
       cases e
       obtain⟨it,kc,ht,h1,h2⟩:=hf.todo.cons_inv
       have h1:it=.inLoop b∨it=.code (.loop b):=h1
       have hst:step P (lone fr (frs++cs) w)=.next (lone {fr with todo:=.code b :: .inLoop b::kc} (frs++cs) w):=by
        rcases h1 with rfl|rfl
        ·exact vY hf.mode ht
        ·exact Bl hf.mode ht
       refine dR hW hI hf hfs hB (fun x=>fZ fun a ha=>by cases ha;rfl) hst h2.inLoop.code (.mk trivial (.mk trivial hf.live.tail)) (fun a ha=>?_) hg
       rcases List.mem_cons.1 ha with rfl|ha
       ·rfl
       ·rcases List.mem_cons.1 ha with rfl|ha
        ·rfl
        ·exact hf.flat a ha
     | code x=>
       cases x with
       | region id os draw=>
         cases draw with
         | false=>
           intro _ S fr frs cs w hW hI hF hB
           obtain⟨fr',frs',e,hf,hfs⟩:=hF
           cases e
           obtain⟨it,kc,ht,h1,h2⟩:=hf.todo.cons_inv
           have h1:it=.code (.region id os false):=h1
           subst h1
           refine dR hW hI hf hfs hB (fun x=>fZ fun a ha=>by cases ha;rfl) (v7 hf.mode ht) (.mk (a:=.ops os os.toList) ⟨_,rfl,yb⟩ h2) (.mk trivial hf.live.tail) (fun a ha=>?_) hg
           rcases List.mem_cons.1 ha with rfl|ha
           ·rfl
           ·exact hf.flat a ha
         | true=>
           simp only[advance] at hg
           cases hd:gw E.eH os with
           | none=>rw[hd] at hg;exact hg
           | some q=>
             obtain⟨ms,is⟩:=q
             rw[hd] at hg
             intro _ S fr frs cs w hW hI hF hB
             obtain⟨fr',frs',e,hf,hfs⟩:=hF
             cases e
             exact rI hP hd hg hW hI hf hfs hB
       | _=>exact hg
     | _=>exact hg
theorem yQ(hP:Fits P E Fin w0 I0):Closed E Q (Good P E w0 I0 f0 Fin Q):=
 ⟨fun n c h=>xE hP (pR hP n _ h)⟩
def SP(w0:World)(I0:Nat→Prop)(res:List Ty)(y:Ty.Ts res)(v:Value)(w':World):Prop:=
 w'.os=w0.os∧w'.tape=w0.tape∧w'.output=w0.output∧w0.heap.size≤w'.heap.size∧(∀b,b<w0.heap.size→w'.heap[b]? = w0.heap[b]?)∧
  ∃I',(∀b,I' b→I0 b∨(w0.heap.size≤b∧b<w'.heap.size))∧uK w' I' res v y
theorem Ak{S:St}{w:World}{m:Mem}{av:AV}{res:List Ty}{y:Ty.Ts res}{v:Value}(hW:WR w0 w S m)(hI:∀b,S.I b→I0 b∨w0.heap.size≤b)(h:EE ai res av m=some y)(hc:CR w S m av v):SP w0 I0 res y v w:=by
 have main:∀(vs:List AV) (us:List Value),gk res vs=true→bF w S m vs us→(match fC ai res m (vs.flatMap AV.cells) with
   | none=>none
   | some (_,cs)=>match nF res cs with
     | some (y, [])=>some y
     | _=>none)=some y→∃I',(∀b,I' b→I0 b∨(w0.heap.size≤b∧b<w.heap.size))∧gu w I' res us y:=by
  intro vs us hok hcs h
  obtain⟨L,hL,hrep⟩:=oy hok hcs
  cases hf:fC ai res m (vs.flatMap AV.cells) with
  | none=>rw[hf] at h;cases h
  | some q=>
    obtain⟨m1,cs1⟩:=q
    rw[hf] at h
    simp only at h
    obtain⟨S1,s1,hc1⟩:=ji hW hf hL
    cases htd:nF res cs1 with
    | none=>rw[htd] at h;cases h
    | some q=>
      obtain⟨x,r⟩:=q
      rw[htd] at h
      cases r with
      | cons _ _=>cases h
      | nil=>
        cases h
        obtain⟨u1,u2,e,hx,hr⟩:=l5 res htd hc1
        have hu2:=bu.1 hr
        rw[hu2,List.append_nil] at e
        rw[←e] at hx
        refine⟨S1.I,fun b hb=>?_,hrep _ y hx⟩
        rcases s1.grows b hb with h|h
        ·rcases hI b h with h|h
         ·exact .inl h
         ·exact .inr ⟨h,s1.wr.lG b hb⟩
        ·exact .inr ⟨h,s1.wr.lG b hb⟩
 refine⟨hW.os,hW.tape,hW.output,hW.size,hW.base,?_⟩
 unfold EE at h
 match res,y,h,main with
 | [],y,h1,main=>
   obtain⟨vs,rfl⟩:∃vs,av=.mC vs:=by cases av<;>first|exact⟨_,rfl⟩|(exact absurd h1 (fun e=>by cases e))
   obtain⟨us,rfl,hcs⟩:=ib.1 hc
   simp only at h1
   cases hok:gk [] vs with
   | false=>rw[hok] at h1;cases h1
   | true=>
     rw[hok] at h1
     obtain⟨I',k1,k2⟩:=main vs us.toList hok hcs h1
     rw[gu] at k2
     exact⟨I',k1,by rw[uK,Array.toList_eq_nil_iff.1 k2]⟩
 | [t],y,h1,main=>
   simp only at h1
   cases hok:gk [t] [av] with
   | false=>rw[hok] at h1;cases h1
   | true=>
     rw[hok] at h1
     obtain⟨I',k1,k2⟩:=main [av] [v] hok (bY.2 ⟨v, [],rfl,hc,bu.2 rfl⟩) h1
     rw[gu] at k2
     obtain⟨v',e,k2⟩:=k2
     cases e
     exact⟨I',k1,by rw[uK];exact k2⟩
 | t::t2::ts,y,h1,main=>
   obtain⟨vs,rfl⟩:∃vs,av=.mC vs:=by cases av<;>first|exact⟨_,rfl⟩|(exact absurd h1 (fun e=>by cases e))
   obtain⟨us,rfl,hcs⟩:=ib.1 hc
   simp only at h1
   cases hok:gk (t::t2::ts) vs with
   | false=>rw[hok] at h1;cases h1
   | true=>
     rw[hok] at h1
     obtain⟨I',k1,k2⟩:=main vs us.toList hok hcs h1
     exact⟨I',k1,by rw[uK];exact⟨us,rfl,k2⟩⟩
structure Base{R:Type}(P:Program)(E:dE R):Prop where
 ti:fv P E.ti
 jo:∀g F,look E.jo g=some F→P.funcs[g]? = some F∧(F.name == "runtime.NumGoroutine")=false
 eH:∀g s,look E.eH g=some s→s.Sound P g
 mixed:P.follows .mixedOrders=true
 Av:∀g s,look E.Av g=some s→s.Sound P g
theorem Ea{w:World}{I:Nat→Prop}(hI:∀b,I b→b<w.heap.size):WR w w {σ:=fun _=>0,δ:=fun _=>0,I:=I} []:=
 ⟨rfl,rfl,rfl,Nat.le_refl _,fun _ _=>rfl,hI,fun _=>trivial,fun _ _ h=>(by cases h),fun _ h=>(by cases h),fun _ h=>(by cases h),fun _ h=>(by cases h)⟩
theorem oi{g:FuncId}{F:Func}{s:aG}{E:dE (Ty.Ts s.res)}(hE:Base P E)(hfin:E.fin=EE ai s.res)(hg:look E.jo g=some F)(hb:F.body.isSome=true)(n:Nat)
  (h:∀x,s.pre x=true→Ty.dM s.args x→∃h0,fO g F (jr ai s.args x)=some h0∧∀G,Closed E (fun y=>y=s.fn x) G→Tr.Ok (fun y=>y=s.fn x) G (run ai E n {frames:=[h0],mem:=[]})):s.Sound P g:=by
 obtain⟨hF,hn⟩:=hE.jo g F hg
 refine⟨fun w I x aa hI hrep hpre cs=>?_,F,hF,hb,hn⟩
 obtain⟨h0,hen,hok⟩:=h x hpre hrep.has
 have hP:Fits P E (SP w I s.res) w I:=⟨hE.ti,hE.jo,hE.eH,hE.mixed,fun S w' m av y v hW hI' hf hc=>Ak hW hI' (by rw[←hfin];exact hf) hc,hE.Av⟩
 have hgood:=pR hP (Q:=fun y=>y=s.fn x) (f0:=g) n _ (hok _ (yQ hP))
 have hW:=Ea hI
 obtain⟨hfr,_,hnd⟩:=k_ hF hen (ta (S:={σ:=fun _=>0,δ:=fun _=>0,I:=I}) (m:=[]) (fun b hb=>hb) hrep)
 have hB:qA g [h0]:=by
  unfold fO at hen
  cases hbb:F.body with
  | none=>rw[hbb] at hen;cases hen
  | some b=>
    rw[hbb] at hen
    simp only at hen
    split at hen
    ·cases hen;exact(rfl:g=g)
    ·cases hen
 obtain⟨y,v,w',fr',hy,hfi,hsteps,hfn,hleave⟩:=hgood (dZ hnd) _ _ [] cs w hW (fun b hb=>.inl hb) ⟨_,_,rfl,hfr,rfl⟩ hB
 obtain⟨g1,g2,g3,g4,g5,I',g6,g7⟩:=hfi
 exact⟨.returned v,w',fr',⟨v,rfl,g1,g2,g3,g4,g5,I',g6,by rw[←hy];exact g7⟩,hsteps,hfn,hleave⟩
end
end Go.Ev
namespace Go.Ev
inductive LT (R Y:Type) where
 | ret (r:R)
 | more (y:Y)
 | br (b:Bool) (t e:LT R Y)
 | need (b:Bool) (t:LT R Y)
 | eqs (p:Prop) (t:LT R Y)
 | bad (n:Nat) (pos:String)
def LT.tr{R Y:Type}(cfg:Y→ei):LT R Y→Tr R
 | .ret r=>.ret r
 | .more y=>.more (cfg y)
 | .br b t e=>.br b (t.tr cfg) (e.tr cfg)
 | .need b t=>.need b (t.tr cfg)
 | .eqs p t=>.eqs p (t.tr cfg)
 | .bad n s=>.bad n s
def Tr.full{R:Type}:Tr R→Tr R
 | .br b t e=>.br b t.full e.full
 | .need b t=>.need b t.full
 | .eqs p t=>.eqs p t.full
 | .same l r t=>.eqs (fP l r) t.full
 | .and _ _=>.bad 182 ""
 | t=>t
def AV.alike:AV→AV→Bool
 | .bool c _,.bool d _=>c==d
 | .int _ c _,.int _ d _=>c==d
 | _,_=>true
def Tr.j4{R:Type}:Tr R→Tr R
 | .br b t e=>.br b t.j4 e.j4
 | .need b t=>.need b t.j4
 | .eqs p t=>.eqs p t.j4
 | .same l r t=>match l.alike r with
   | true=>t.j4
   | false=>.eqs (fP l r) t.j4
 | .and a _=>a.j4
 | t=>t
def Tr.jH{R:Type}:Tr R→Tr R
 | .br b t e=>.br b t.jH e.jH
 | .need b t=>.need b t.jH
 | .eqs p t=>.eqs p t.jH
 | .same l r t=>match l.alike r with
   | true=>t.jH
   | false=>.eqs (fP l r) t.jH
 | .and a _=>a.jH
 | t=>t
theorem Tr.jq{R:Type}:∀{t:Tr R},t.jH=t.j4
 | .ret _ | .more _ | .bad _ _=>rfl
 | .br _ t e=>by rw[Tr.jH,Tr.j4,Tr.jq (t:=t),Tr.jq (t:=e)]
 | .need _ t=>by rw[Tr.jH,Tr.j4,Tr.jq (t:=t)]
 | .eqs _ t=>by rw[Tr.jH,Tr.j4,Tr.jq (t:=t)]
 | .same l r t=>by rw[Tr.jH,Tr.j4,Tr.jq (t:=t)]
 | .and a _=>by rw[Tr.jH,Tr.j4,Tr.jq (t:=a)]
def Tr.lefts{R:Type}:Tr R→List (Sum AV (Tr R))→List (Sum AV (Tr R))
 | .br _ t e,k=>t.lefts (e.lefts k)
 | .need _ t,k=>t.lefts k
 | .eqs _ t,k=>t.lefts k
 | .same l r t,k=>match l.alike r with
   | true=>.inl l::t.lefts k
   | false=>t.lefts k
 | .and a b,k=>.inr a.j4::a.lefts (b.lefts k)
 | _,k=>k
def Tr.gj{R:Type}:Tr R→List (Sum AV (Tr R))→List (Sum AV (Tr R))
 | .br _ t e,k=>t.gj (e.gj k)
 | .need _ t,k=>t.gj k
 | .eqs _ t,k=>t.gj k
 | .same l r t,k=>match l.alike r with
   | true=>.inl r::t.gj k
   | false=>t.gj k
 | .and a b,k=>.inr b.jH::a.gj (b.gj k)
 | _,k=>k
theorem Tr.mP{R:Type}{Q:R→Prop}{G:ei→Prop}:∀{t:Tr R},Tr.Ok Q G t.full→Tr.Ok Q G t
 | .ret _,h | .more _,h | .bad _ _,h=>h
 | .br _ t e,h=>⟨fun k=>Tr.mP (t:=t) (h.1 k),fun k=>Tr.mP (t:=e) (h.2 k)⟩
 | .need _ t,h=>⟨h.1,Tr.mP (t:=t) h.2⟩
 | .eqs _ t,h=>⟨h.1,Tr.mP (t:=t) h.2⟩
 | .same _ _ t,h=>⟨h.1,Tr.mP (t:=t) h.2⟩
 | .and _ _,h=>h.elim
theorem Tr.gb{R:Type}{Q:R→Prop}{G:ei→Prop}:∀{t:Tr R} {k k':List (Sum AV (Tr R))},t.lefts k=t.gj k'→k=k'∧(Tr.Ok Q G t.j4→Tr.Ok Q G t)
 | .ret _,_,_,h | .more _,_,_,h | .bad _ _,_,_,h=>⟨h,fun x=>x⟩
 | .br _ t e,_,_,h=>by
   obtain⟨h1,h2⟩:=Tr.gb (t:=t) h
   obtain⟨h3,h4⟩:=Tr.gb (t:=e) h1
   exact⟨h3,fun x=>⟨fun k=>h2 (x.1 k),fun k=>h4 (x.2 k)⟩⟩
 | .need _ t,_,_,h=>by
   obtain⟨h1,h2⟩:=Tr.gb (t:=t) h
   exact⟨h1,fun x=>⟨x.1,h2 x.2⟩⟩
 | .eqs _ t,_,_,h=>by
   obtain⟨h1,h2⟩:=Tr.gb (t:=t) h
   exact⟨h1,fun x=>⟨x.1,h2 x.2⟩⟩
 | .same l r t,_,_,h=>by
   simp only[Tr.lefts,Tr.gj] at h
   simp only[Tr.j4]
   cases ha:l.alike r with
   | true=>
     rw[ha] at h
     simp only[List.cons.injEq,Sum.inl.injEq] at h
     obtain⟨h1,h2⟩:=Tr.gb (t:=t) h.2
     exact⟨h1,fun x=>⟨h.1▸mf l,h2 x⟩⟩
   | false=>
     rw[ha] at h
     obtain⟨h1,h2⟩:=Tr.gb (t:=t) h
     exact⟨h1,fun x=>⟨x.1,h2 x.2⟩⟩
 | .and a b,_,_,h=>by
   simp only[Tr.lefts,Tr.gj,List.cons.injEq,Sum.inr.injEq,Tr.jq] at h
   obtain⟨h1,h2⟩:=Tr.gb (t:=a) h.2
   obtain⟨h3,h4⟩:=Tr.gb (t:=b) h1
   exact⟨h3,fun x=>⟨h2 x,h4 (h.1▸x)⟩⟩
@[reducible] def Tr.Is {R:Type} (q:Bool) (t u:Tr R):Prop:=match q with
 | true=>t.j4=u∧t.lefts []=t.gj []
 | false=>t.full=u
theorem zf{R:Type}{t u:Tr R}(h:t.full=u):Tr.Is false t u:=h
theorem Tr.Is.ok{R:Type}{q:Bool}{Q:R→Prop}{G:ei→Prop}{t u:Tr R}(h:Tr.Is q t u)(hu:Tr.Ok Q G u):Tr.Ok Q G t:=by
 cases q with
 | true=>exact(Tr.gb h.2).2 (h.1▸hu)
 | false=>exact Tr.mP (show Tr.Ok Q G t.full from(show t.full=u from h)▸hu)
inductive aK {R Y:Type} (step:Y→LT R Y):LT R Y→R→Prop where
 | ret (r:R):aK step (.ret r) r
 | more {y:Y} {r:R} (h:aK step (step y) r):aK step (.more y) r
 | br {b:Bool} {t e:LT R Y} {r:R} (h:aK step (bif b then t else e) r):aK step (.br b t e) r
 | need {b:Bool} {t:LT R Y} {r:R} (hb:b=true) (h:aK step t r):aK step (.need b t) r
 | eqs {p:Prop} {t:LT R Y} {r:R} (hp:p) (h:aK step t r):aK step (.eqs p t) r
section
variable {R Y:Type} {step:Y→LT R Y} {r:R}
theorem sK{r':R}:aK step (.ret r') r↔r'=r:=⟨fun h=>by cases h;rfl,fun h=>by rw[h];exact .ret r⟩
theorem ap{y:Y}:aK step (.more y) r↔aK step (step y) r:=⟨fun h=>by cases h;assumption,.more⟩
theorem oQ{b:Bool}{t e:LT R Y}:aK step (.br b t e) r↔aK step (bif b then t else e) r:=⟨fun h=>by cases h;assumption,.br⟩
theorem af{b:Bool}{t:LT R Y}:aK step (.need b t) r↔b=true∧aK step t r:=⟨fun h=>by cases h;exact⟨by assumption,by assumption⟩,fun h=>.need h.1 h.2⟩
theorem aJ{p:Prop}{t:LT R Y}:aK step (.eqs p t) r↔p∧aK step t r:=⟨fun h=>by cases h;exact⟨by assumption,by assumption⟩,fun h=>.eqs h.1 h.2⟩
theorem ak{b:Bool}{t e:LT R Y}(hb:b=true):aK step (.br b t e) r↔aK step t r:=by rw[oQ,hb];rfl
theorem aj{b:Bool}{t e:LT R Y}(hb:b=false):aK step (.br b t e) r↔aK step e r:=by rw[oQ,hb];rfl
end
theorem G8{R Y:Type}{E:dE R}{Q:R→Prop}{G:ei→Prop}{cfg:Y→ei}{step:Y→LT R Y}{q:Bool}(hstep:∀y,∃n,Tr.Is q (run ai E n (advance E.eH (cfg y))) ((step y).tr cfg))(hG:Closed E Q G){t:LT R Y}{r:R}(h:aK step t r)(hr:Q r):Tr.Ok Q G (t.tr cfg):=by
 induction h with
 | ret r=>exact hr
 | more h ih=>
   rename_i y _
   obtain⟨n,hn⟩:=hstep y
   exact hG.go n _ (hn.ok (ih hr))
 | br h ih=>
   rename_i b t e _
   cases b with
   | true=>exact⟨fun _=>ih hr,fun h=>(by cases h)⟩
   | false=>exact⟨fun h=>(by cases h),fun _=>ih hr⟩
 | need hb h ih=>exact⟨hb,ih hr⟩
 | eqs hp h ih=>exact⟨hp,ih hr⟩
structure Walk(P:Program)(g:FuncId)(args res:List Ty)(Y:Type) where
 start:Ty.Ts args→LT (Ty.Ts res) Y
 step:Y→LT (Ty.Ts res) Y
structure Walk.Ok{P:Program}{g:FuncId}{args res:List Ty}{Y:Type}(W:Walk P g args res Y):Prop where
 sound:∀(pre:Ty.Ts args→Bool) (fn:Ty.Ts args→Ty.Ts res),(∀x,pre x=true→Ty.dM args x→aK W.step (W.start x) (fn x))→aG.Sound P g ⟨args,res,pre,fn⟩
theorem nT:∀{ts:List Ty} {x:Ty.Ts ts},(jr ai ts x).length=ts.length
 | [],_=>rfl
 | [_],_=>rfl
 | t::t2::ts,x=>by
   rw[jr,List.length_cons,nT];rfl
theorem qw{g:FuncId}{F:Func}{aa:List AV}(hb:F.body.isSome=true)(h1:aa.length≤F.ntmps)(h2:F.ntmps≤65535):∃h0,fO g F aa=some h0:=by
 unfold fO
 cases hF:F.body with
 | none=>rw[hF] at hb;cases hb
 | some b=>
   simp only[Nat.ble_eq_true_of_le h1,Nat.ble_eq_true_of_le h2]
   exact⟨_,rfl⟩
theorem G1{P:Program}{g:FuncId}{F:Func}{args res:List Ty}{Y:Type}{E:dE (Ty.Ts res)}(hE:Base P E)(hfin:E.fin=EE ai res)(hg:look E.jo g=some F)(hb:F.body.isSome=true)
  (hl:(Nat.ble args.length F.ntmps&&Nat.ble F.ntmps 65535)=true) (W:Walk P g args res Y) (cfg:Y→ei) {q:Bool} (n:Nat) (hstart:∀x,Tr.Is q (run ai E n (jm g F (jr ai args x))) ((W.start x).tr cfg))
  (hstep:∀y,∃n,Tr.Is q (run ai E n (advance E.eH (cfg y))) ((W.step y).tr cfg)):W.Ok:=
 ⟨fun pre fn hr=>oi (s:=⟨args,res,pre,fn⟩) hE hfin hg hb n fun x hp hx=>by
  rw[Bool.and_eq_true] at hl
  obtain⟨h0,hen⟩:=qw (g:=g) (aa:=jr ai args x) hb (by rw[nT];exact Nat.le_of_ble_eq_true hl.1) (Nat.le_of_ble_eq_true hl.2)
  refine⟨h0,hen,fun G hG=>?_⟩
  have h:=hstart x
  rw[jm,hen] at h
  exact h.ok (G8 hstep hG (hr x hp hx) rfl)⟩
theorem G5{P:Program}:∀g F,look ([]:List (FuncId×Func)) g=some F→P.funcs[g]? = some F∧(F.name == "runtime.NumGoroutine")=false:=fun _ _ h=>by cases h
theorem CW{P:Program}{f:FuncId}{F:Func}{l:List (FuncId×Func)}(h1:P.funcs[f]? = some F)(h2:(F.name == "runtime.NumGoroutine")=false)(h:∀g F,look l g=some F→P.funcs[g]? = some F∧(F.name == "runtime.NumGoroutine")=false) :
  ∀g G,look ((f,F)::l) g=some G→P.funcs[g]? = some G∧(G.name == "runtime.NumGoroutine")=false:=fun g G hg=>by
 rw[look] at hg
 by_cases e:f=g
 ·subst e;rw[bH.2 rfl] at hg;cases hg;exact⟨h1,h2⟩
 ·rw[bL.2 e] at hg;exact h g G hg
theorem GI{P:Program}:∀g s,look ([]:List (FuncId×aG)) g=some s→s.Sound P g:=fun _ _ h=>by cases h
theorem ER{P:Program}{f:FuncId}{s:aG}{l:List (FuncId×aG)}(h1:s.Sound P f)(h:∀g s,look l g=some s→s.Sound P g):∀g s',look ((f,s)::l) g=some s'→s'.Sound P g:=fun g s' hg=>by
 rw[look] at hg
 by_cases e:f=g
 ·subst e;rw[bH.2 rfl] at hg;cases hg;exact h1
 ·rw[bL.2 e] at hg;exact h g s' hg
def tt{α:Type}:α→Bool:=fun _=>true
theorem aG.Sound.congr{P:Program}{g:FuncId}{args res:List Ty}{pre pre':Ty.Ts args→Bool}{fn fn':Ty.Ts args→Ty.Ts res}(h:aG.Sound P g ⟨args,res,pre,fn⟩)
  (he:∀x,pre' x=true→Ty.dM args x→pre x=true∧fn x=fn' x):aG.Sound P g ⟨args,res,pre',fn'⟩:=by
 refine⟨fun w I x aa hI hrep hpre=>?_,h.body⟩
 obtain⟨h1,h2⟩:=he x hpre hrep.has
 have:=h.calls w I x aa hI hrep h1
 simp only at this ⊢
 rw[h2] at this
 exact this
def CO(ti:PT TI)(A:bK)(res:List Ty)(jo:List (FuncId×Func))(eH:List (FuncId×aG))(stops jf:List Stop):dE (Ty.Ts res):=⟨ti,jo,eH,stops,jf, [],EE A res, []⟩
def s6(P:Program)(l:List (FuncId×Func)):Prop:=∀g F,look l g=some F→P.funcs[g]? = some F∧(F.name == "runtime.NumGoroutine")=false
def sI(P:Program)(l:List (FuncId×aG)):Prop:=∀g s,look l g=some s→s.Sound P g
theorem fz{P:Program}:s6 P []:=G5
theorem fc{P:Program}{f:FuncId}{F:Func}{l:List (FuncId×Func)}(h1:P.funcs[f]? = some F)(h:s6 P l)(h2:(F.name == "runtime.NumGoroutine")=false:=by kernel_rfl):s6 P ((f,F)::l):=CW h1 h2 h
theorem sz{P:Program}:sI P []:=GI
theorem sc{P:Program}{f:FuncId}{s:aG}{l:List (FuncId×aG)}(h1:s.Sound P f)(h:sI P l):sI P ((f,s)::l):=ER h1 h
section
variable {P:Program} {ti:PT TI} (ht:fv P ti) (hm:P.follows .mixedOrders=true) {g:FuncId} {F:Func} {args res:List Ty} {jo:List (FuncId×Func)} {eH:List (FuncId×aG)} {pre:Ty.Ts args→Bool} {fn:Ty.Ts args→Ty.Ts res}
include ht hm
theorem aQ(q:Bool){Y:Type}(n:Nat)(stops jf:List Stop)(start:bK→Ty.Ts args→LT (Ty.Ts res) Y)(step:bK→Y→LT (Ty.Ts res) Y)(cfg:Y→ei)(hf:s6 P ((g,F)::jo))(hs:sI P eH)
  (hstep:∀A y,∃n,Tr.Is q (run A (CO ti A res ((g,F)::jo) eH stops jf) n (advance eH (cfg y))) ((step A y).tr cfg))
  (hr:∀x,pre x=true→Ty.dM args x→aK (step ai) (start ai x) (fn x))
  (hb:F.body.isSome=true:=by kernel_rfl) (hl:(Nat.ble args.length F.ntmps&&Nat.ble F.ntmps 65535)=true:=by kernel_rfl)
  (h0:∀A x,Tr.Is q (run A (CO ti A res ((g,F)::jo) eH stops jf) n (jm g F (jr A args x))) ((start A x).tr cfg):=by intro A x;first|exact⟨by kernel_rfl,by kernel_rfl⟩|(show Tr.full _=_;kernel_rfl)):aG.Sound P g ⟨args,res,pre,fn⟩:=
 (G1 (E:=CO ti ai res ((g,F)::jo) eH stops jf) ⟨ht,hf,hs,hm,fun _ _ h=>by cases h⟩ rfl (show look ((g,F)::jo) g=some F by rw[look,bH.2 rfl]) hb hl ⟨start ai,step ai⟩ cfg n (h0 ai) (hstep ai)).sound pre fn hr
theorem a_(q:Bool)(n:Nat)(jf:List Stop)(start:bK→Ty.Ts args→LT (Ty.Ts res) Empty)(hf:s6 P ((g,F)::jo))(hs:sI P eH)
  (hr:∀x,pre x=true→Ty.dM args x→aK Empty.elim (start ai x) (fn x))
  (hb:F.body.isSome=true:=by kernel_rfl) (hl:(Nat.ble args.length F.ntmps&&Nat.ble F.ntmps 65535)=true:=by kernel_rfl)
  (h0:∀A x,Tr.Is q (run A (CO ti A res ((g,F)::jo) eH [] jf) n (jm g F (jr A args x))) ((start A x).tr Empty.elim):=by intro A x;first|exact⟨by kernel_rfl,by kernel_rfl⟩|(show Tr.full _=_;kernel_rfl)):aG.Sound P g ⟨args,res,pre,fn⟩:=
 aQ ht hm q n [] jf start (fun _=>Empty.elim) Empty.elim hf hs (fun _ y=>y.elim) hr hb hl h0
end
end Go.Ev
namespace Go.Ev
def zO:AV→Value→Bool
 | .undef,_=>true
 | .int k _ n,.int k' n'=>e_ k k'&&(decide (n=0)&&decide (n'=0))
 | .bool _ b,.bool b'=>b==b'
 | .str _ s,.string s'=>s.isEmpty&&s'.data.toList.isEmpty
 | .bd _,.slice none 0 0=>true
 | .sl _ [],.slice none 0 0=>true
 | .bP,.pointer none=>true
 | .fE,.nilFunc=>true
 | _,_=>false
def oC:List AV→List Value→Bool
 | [], []=>true
 | a::r,v::vs=>zO a v&&oC r vs
 | _,_=>false
theorem yp(k:IntKind):k.has 0:=by cases k<;>exact⟨by decide,by decide⟩
section
variable {w:World} {S:St} {m:Mem} {P:Program}
theorem kW{s:ByteArray}(h:s.data.toList.isEmpty=true):s=⟨#[]⟩:=by
 obtain⟨⟨l⟩⟩:=s
 cases l with
 | nil=>rfl
 | cons _ _=>cases h
theorem B9{a:AV}{v:Value}(h:zO a v=true):CR w S m a v:=by
 unfold zO at h
 split at h
 ·exact du
 ·simp only[Bool.and_eq_true,decide_eq_true_eq] at h
  obtain⟨h1,rfl,rfl⟩:=h
  rw[eD h1]
  exact bC.2 ⟨rfl,yp _⟩
 ·rw[beq_iff_eq] at h;exact cu.2 (by rw[h])
 ·rw[Bool.and_eq_true] at h
  rename_i s s'
  cases s with
  | cons _ _=>cases h.1
  | nil=>exact ez.2 ⟨by rw[kW h.2],Nat.zero_le _⟩
 ·exact dX.2 ⟨none,rfl,fun _=>rfl⟩
 ·exact iz.2 (bA.2 ⟨none,0,rfl,Nat.le_refl _,Nat.zero_le _,fun _=>rfl,fun i y h=>by cases h⟩)
 ·exact fI.2 rfl
 ·exact gM.2 rfl
 ·cases h
theorem oK:∀{as:List AV} {vs:List Value},oC as vs=true→bF w S m as vs
 | [], [],_=>bu.2 rfl
 | a::r,v::vs,h=>by
   rw[oC,Bool.and_eq_true] at h
   exact bY.2 ⟨v,vs,rfl,B9 h.1,oK h.2⟩
 | [],_::_,h=>by cases h
 | _::_, [],h=>by cases h
mutual
def Ty.zeros:Ty→List Value
 | .int k=>[.int k 0]
 | .bool=>[.bool false]
 | .str=>[.string ⟨#[]⟩]
 | .slice _=>[.slice none 0 0]
 | .arr n t=>(List.replicate n t.zeros).flatten
 | .struct ts=>Ty.qp ts
 | .any n=>List.replicate n (.int .i64 0)
def Ty.qp:List Ty→List Value
 | []=>[]
 | t::ts=>t.zeros++Ty.qp ts
end
mutual
theorem Ty.mK{I:Nat→Prop}:∀(t:Ty),aP w I t t.zeros t.gB
 | .int k=>ju.2 ⟨rfl,yp k⟩
 | .bool=>pN.2 rfl
 | .str=>oc.2 ⟨rfl,Nat.zero_le _⟩
 | .slice t=>bA.2 ⟨none,0,rfl,Nat.le_refl _,Nat.zero_le _,fun _=>rfl,fun i y h=>by cases h⟩
 | .arr n t=>by
   have ih:=Ty.mK (I:=I) t
   refine nX.2 ⟨List.length_replicate,?_,fun i y h=>?_⟩
   ·show((List.replicate n t.zeros).flatten).length=_
    rw[List.length_flatten,List.map_replicate,List.sum_replicate_nat,ih.length]
   ·have h:(List.replicate n t.gB)[i]? = some y:=h
    obtain⟨h1,h2⟩:=List.getElem?_eq_some_iff.1 h
    rw[List.length_replicate] at h1
    rw[List.getElem_replicate] at h2
    subst h2
    have:=iL (l:=t.zeros) ih.length h1
    show aP w I t ((((List.replicate n t.zeros).flatten).drop (i*t.size)).take t.size) _
    rw[this];exact ih
 | .struct ts=>lW.2 (Ty.sV ts)
 | .any n=>by rw[aP];exact List.length_replicate
theorem Ty.sV{I:Nat→Prop}:∀(ts:List Ty),cm w I ts (Ty.qp ts) (Ty.cq ts)
 | []=>mU.2 rfl
 | [t]=>pF.2 (by
   have:Ty.qp [t]=t.zeros:=by simp only[Ty.qp,List.append_nil]
   rw[this];exact Ty.mK t)
 | t::t2::ts=>nD.2 ⟨t.zeros,Ty.qp (t2::ts),rfl,Ty.mK t,Ty.sV (t2::ts)⟩
end
def FC:Value→Value→Bool
 | .int k n,.int k' n'=>e_ k k'&&decide (n=n')
 | .bool b,.bool b'=>b==b'
 | .string s,.string s'=>s.data.toList.isEmpty&&s'.data.toList.isEmpty
 | .slice none 0 0,.slice none 0 0=>true
 | _,_=>false
def wo:List Value→List Value→Bool
 | [], []=>true
 | a::r,v::vs=>FC a v&&wo r vs
 | _,_=>false
theorem D7{a b:Value}(h:FC a b=true):a=b:=by
 unfold FC at h
 split at h
 ·simp only[Bool.and_eq_true,decide_eq_true_eq] at h;rw[eD h.1,h.2]
 ·rw[beq_iff_eq] at h;rw[h]
 ·rw[Bool.and_eq_true] at h;rw[kW h.1,kW h.2]
 ·rfl
 ·cases h
theorem vC:∀{a b:List Value},wo a b=true→a=b
 | [], [],_=>rfl
 | a::r,v::vs,h=>by
   rw[wo,Bool.and_eq_true] at h
   rw[D7 h.1,vC h.2]
 | [],_::_,h=>by cases h
 | _::_, [],h=>by cases h
def kR(P:Program)(t:TypeId):Option Bool:=
 match P.underlying t with
 | some (.struct _)=>some true
 | some (.array _ _)=>some true
 | some _=>some false
 | none=>none
theorem o8{t:TypeId}{b:Bool}(h:kR P t=some b)(w:World):(isAgg t).run P w=.ok b w:=by
 unfold kR at h
 cases hu:P.underlying t with
 | none=>rw[hu] at h;cases h
 | some d=>
   rw[hu] at h
   unfold isAgg
   rw[Sem.run_bind,run_underlying hu]
   cases d<;>cases h<;>rfl
def r7(a:Option Bool)(b:Bool):Bool:=match a with|some c=>c==b|none=>false
theorem pG{a:Option Bool}{b:Bool}(h:r7 a b=true):a=some b:=by
 cases a with
 | none=>cases h
 | some c=>rw[r7,beq_iff_eq] at h;rw[h]
def fieldsB(P:Program):List Field→List (Nat×Nat×Bool)→Bool
 | [], []=>true
 | f::F,(off,sz,ag)::fs=>Nat.beq f.offset off&&(r7 (kR P f.type) ag&&((match P.info? f.type with|some j=>Nat.beq j.size sz|none=>false)&&fieldsB P F fs))
 | _,_=>false
theorem r_:∀{F:List Field} {fs:List (Nat×Nat×Bool)},fieldsB P F fs=true→F.length=fs.length∧∀(i off sz:Nat) (ag:Bool),fs[i]? = some (off,sz,ag)→
   ∃f j,F[i]? = some f∧f.offset=off∧P.info? f.type=some j∧j.size=sz∧∀w,(isAgg f.type).run P w=.ok ag w
 | [], [],_=>⟨rfl,fun i off sz ag h=>by cases h⟩
 | [],_::_,h=>by cases h
 | _::_, [],h=>by cases h
 | f::F,(off,sz,ag)::fs,h=>by
   simp only[fieldsB,Bool.and_eq_true] at h
   obtain⟨h1,h2,h3,h4⟩:=h
   obtain⟨g1,g2⟩:=r_ h4
   refine⟨by rw[List.length_cons,List.length_cons,g1],fun i off' sz' ag' hi=>?_⟩
   cases i with
   | zero=>
     cases hi
     cases hj:P.info? f.type with
     | none=>rw[hj] at h3;cases h3
     | some j=>
       rw[hj] at h3
       exact⟨f,j,rfl,Nat.eq_of_beq_eq_true h1,hj,Nat.eq_of_beq_eq_true h3,o8 (pG h2)⟩
   | succ i=>exact g2 i off' sz' ag' (by simpa using hi)
def E5(P:Program)(T:TypeId):TK→Bool
 | .bool=>match P.underlying T with|some .bool=>true|_=>false
 | .int k=>match P.underlying T with|some (.int k')=>e_ k' k|_=>false
 | .str=>match P.underlying T with|some .string=>true|_=>false
 | .slice e=>match P.underlying T with|some (.slice e')=>Nat.beq e' e|_=>false
 | .arr n e=>match P.underlying T with|some (.array n' e')=>Nat.beq n' n&&Nat.beq e' e|_=>false
 | .ptr e=>match P.underlying T with|some (.pointer e')=>Nat.beq e' e|_=>false
 | .func=>match P.underlying T with|some (.func _ _ _)=>true|_=>false
 | .struct fs=>match P.underlying T with|some (.struct F)=>fieldsB P F.toList fs|_=>false
 | .other=>true
theorem Da{T:TypeId}{k:TK}(h:E5 P T k=true):kindOk P T k:=by
 cases k<;>simp only[E5] at h<;>simp only[kindOk]
 case bool=>split at h<;>first|assumption|cases h
 case int k=>
  split at h
  ·rename_i k' hu;rw[hu,eD h]
  ·cases h
 case str=>split at h<;>first|assumption|cases h
 case slice e=>
  split at h
  ·rename_i e' hu;rw[hu,Nat.eq_of_beq_eq_true h]
  ·cases h
 case arr n e=>
  split at h
  ·rename_i n' e' hu;rw[Bool.and_eq_true] at h;rw[hu,Nat.eq_of_beq_eq_true h.1,Nat.eq_of_beq_eq_true h.2]
  ·cases h
 case struct fs=>
  split at h
  ·rename_i F hu
   obtain⟨h1,h2⟩:=r_ h
   exact⟨F,hu,by rw[←h1,Array.length_toList],fun i off sz ag hi=>by
    obtain⟨f,j,e,r⟩:=h2 i off sz ag hi
    exact⟨f,j,by rw[←Array.getElem?_toList];exact e,r⟩⟩
  ·cases h
 case ptr e=>
  split at h
  ·rename_i e' hu;rw[hu,Nat.eq_of_beq_eq_true h]
  ·cases h
 case func=>
  split at h
  ·rename_i a b c hu;exact⟨a,b,c,hu⟩
  ·cases h
def B7(P:Program)(eq:TypeId→List AV→Bool)(z:List AV):Nat→List Field→Option Nat
 | off, []=>some off
 | off,f::fs=>match decide (f.name≠ "_")&&(Nat.beq f.offset off&&eq f.type ((z.drop off).take (P.cellsOf f.type))) with
   | true=>B7 P eq z (off+P.cellsOf f.type) fs
   | false=>none
def Jd(a:Option Nat)(b:Nat):Bool:=match a with|some c=>Nat.beq c b|none=>false
theorem DJ{a:Option Nat}{b:Nat}(h:Jd a b=true):a=some b:=by
 cases a with
 | none=>cases h
 | some c=>rw[Nat.eq_of_beq_eq_true h]
def FX(P:Program):Nat→TypeId→List AV→Bool
 | 0,_,_=>false
 | d+1,t,z=>match P.underlying t with
   | some .bool=>Nat.beq (P.cellsOf t) 1&&(match z with | [.bool _ _]=>true|_=>false)
   | some (.int _)=>Nat.beq (P.cellsOf t) 1&&(match z with | [.int _ _ _]=>true|_=>false)
   | some .string=>Nat.beq (P.cellsOf t) 1&&(match z with | [.str _ _]=>true|_=>false)
   | some (.struct fs)=>!P.stoodInHeld t&&(Jd (B7 P (FX P d) z 0 fs.toList) (P.cellsOf t)&&Nat.beq z.length (P.cellsOf t))
   | _=>false
theorem m_:∀{a b:List AV},fF a b=true→a.length=b.length
 | [], [],_=>rfl
 | a::as,b::bs,h=>by
   rw[fF,Bool.and_eq_true] at h
   rw[List.length_cons,List.length_cons,m_ h.2]
 | [],_::_,h=>by cases h
 | _::_, [],h=>by cases h
theorem qT:∀{a b:List AV} (n:Nat),fF a b=true→fF (a.drop n) (b.drop n)=true
 | _,_,0,h=>h
 | [], [],n+1,_=>rfl
 | a::as,b::bs,n+1,h=>by
   rw[fF,Bool.and_eq_true] at h
   exact qT n h.2
 | [],_::_,_+1,h=>by cases h
 | _::_, [],_+1,h=>by cases h
theorem qx:∀{a b:List AV} (n:Nat),fF a b=true→fF (a.take n) (b.take n)=true
 | _,_,0,_=>rfl
 | [], [],n+1,_=>rfl
 | a::as,b::bs,n+1,h=>by
   rw[fF,Bool.and_eq_true] at h
   rw[List.take_succ_cons,List.take_succ_cons,fF,Bool.and_eq_true]
   exact⟨h.1,qx n h.2⟩
 | [],_::_,_+1,h=>by cases h
 | _::_, [],_+1,h=>by cases h
theorem np:∀{a b x y:List AV} {c:Bool} {g:bK→Bool},a.length=b.length→bI (a++x) (b++y)=some (c,g)→
  ∃c1 g1 c2 g2,bI a b=some (c1,g1)∧bI x y=some (c2,g2)∧g ai=(g1 ai&&g2 ai)
 | [], [],x,y,c,g,_,h=>⟨true,fun _=>true,c,g,by simp[bI],h,rfl⟩
 | [],_::_,_,_,_,_,h,_=>by cases h
 | _::_, [],_,_,_,_,h,_=>by cases h
 | a::as,b::bs,x,y,c,g,hl,h=>by
   have hl:as.length=bs.length:=by simpa using hl
   have split:∀(c':Bool) (e:bK→Bool),(match bI (as++x) (bs++y) with|none=>none|some (c2,g)=>some (c'&&c2,fun A=>A.and (e A) (g A)))=some (c,g)→
     (∀q:Option (Bool×(bK→Bool)),bI as bs=q→bI (a::as) (b::bs)=(match q with|none=>none|some (c2,g)=>some (c'&&c2,fun A=>A.and (e A) (g A))))→
     ∃c1 g1 c2 g2,bI (a::as) (b::bs)=some (c1,g1)∧bI x y=some (c2,g2)∧g ai=(g1 ai&&g2 ai):=by
    intro c' e h hk
    cases hq:bI (as++x) (bs++y) with
    | none=>rw[hq] at h;cases h
    | some q=>
      obtain⟨c2,g2⟩:=q
      rw[hq] at h
      cases h
      obtain⟨c1,g1,c3,g3,h1,h2,h3⟩:=np hl hq
      refine⟨_,_,c3,g3,hk _ h1,h2,?_⟩
      show ai.and (e ai) (g2 ai)=(ai.and (e ai) (g1 ai)&&g3 ai)
      rw[h3]
      show(e ai&&(g1 ai&&g3 ai))=((e ai&&g1 ai)&&g3 ai)
      rw[Bool.and_assoc]
   cases a<;>cases b<;>simp only[List.cons_append,bI] at h<;>try (cases h;done)
   case int.int k c1 n1 k' c2 n2=>
    cases hk:e_ k k' with
    | false=>rw[hk] at h;cases h
    | true=>
      rw[hk] at h
      exact split (c1&&c2) (fun A=>A.c .eql n1 n2) h (fun q hq=>by simp only[bI,hk,hq];cases q<;>rfl)
   case bool.bool c1 n1 c2 n2=>exact split (c1&&c2) (fun A=>A.q n1 n2) h (fun q hq=>by simp only[bI,hq];cases q<;>rfl)
   case str.str c1 n1 c2 n2=>exact split (c1&&c2) (fun A=>A.z .eql n1 n2) h (fun q hq=>by simp only[bI,hq];cases q<;>rfl)
def D9(P:Program)(t:TypeId)(us:List Value)(v:Value):Prop:=(kR P t=some true∧v=.agg us.toArray)∨(kR P t=some false∧us=[v])
theorem tA{t:TypeId}{us:Array Value}{off:Nat}{b:Bool}(hb:kR P t=some b)(h1:b=false→P.cellsOf t=1)(hi:∃j,P.info? t=some j)(hl:off+P.cellsOf t≤us.size)(w:World) :
  ∃v,(part t us off).run P w=.ok v w∧D9 P t ((us.toList.drop off).take (P.cellsOf t)) v:=by
 obtain⟨j,hj⟩:=hi
 have hc:P.cellsOf t=j.size:=by simp[Program.cellsOf,hj]
 have hs:(sizeOf t).run P w=.ok (P.cellsOf t) w:=by simp[sizeOf,typeInfo,hj,hc]
 cases b with
 | true=>
   refine⟨.agg (us.extract off (off+P.cellsOf t)),by simp[part,Sem.run_bind,o8 hb,hs],.inl ⟨hb,?_⟩⟩
   congr 1
   apply Array.toList_inj.1
   rw[Array.toList_extract,List.extract_eq_take_drop,show off+P.cellsOf t-off=P.cellsOf t from by omega]
 | false=>
   have h1:=h1 rfl
   rw[h1] at hl ⊢
   have hlt:off<us.size:=by omega
   refine⟨us[off],by simp[part,Sem.run_bind,o8 hb,Array.getElem?_eq_getElem hlt],.inr ⟨hb,?_⟩⟩
   have hlt':off<us.toList.length:=by simpa using hlt
   rw[List.drop_eq_getElem_cons hlt',List.take_succ_cons,List.take_zero]
   simp
theorem info_of_underlying{t:TypeId}{d:TypeDesc}(h:P.underlying t=some d):∃j,P.info? t=some j:=by
 unfold Program.underlying at h
 cases hi:P.info? t with
 | none=>rw[hi] at h;cases h
 | some j=>exact⟨j,rfl⟩
theorem FB{d:Nat}{t:TypeId}{z:List AV}(h:FX P d t z=true):(∃j,P.info? t=some j)∧((kR P t=some false∧P.cellsOf t=1)∨kR P t=some true):=by
 cases d with
 | zero=>cases h
 | succ d=>
   unfold FX at h
   cases hu:P.underlying t with
   | none=>rw[hu] at h;cases h
   | some q=>
     refine⟨info_of_underlying hu,?_⟩
     rw[hu] at h
     cases q<;>simp only at h<;>try (cases h;done)
     case struct fs=>exact .inr (by simp[kR,hu])
     all_goals
      rw[Bool.and_eq_true] at h
      exact .inl ⟨by simp[kR,hu],Nat.eq_of_beq_eq_true h.1⟩
theorem vo:∀(d:Nat) {D:Nat} {t:TypeId} {z xs ys:List AV} {us vs:List Value} {u v:Value} {c:Bool} {g:bK→Bool} {w:World},d≤D→FX P d t z=true→fF xs z=true→xs.length=P.cellsOf t→ys.length=P.cellsOf t→bI xs ys=some (c,g)→
  bF w S m xs us→bF w S m ys vs→D9 P t us u→D9 P t vs v→(Op.equalIn D t u v).run P w=.ok (g ai) w
 | 0,_,_,_,_,_,_,_,_,_,_,_,_,_,h,_,_,_,_,_,_,_,_=>by cases h
 | d+1,0,_,_,_,_,_,_,_,_,_,_,_,hD,_,_,_,_,_,_,_,_,_=>by omega
 | d+1,D+1,t,z,xs,ys,us,vs,u,v,c,g,w,hD,h,hz,hx,hy,he,hxs,hys,hu,hv=>by
   unfold FX at h
   cases hut:P.underlying t with
   | none=>rw[hut] at h;cases h
   | some q=>
     rw[hut] at h
     -- a type of one cell
     have one:kR P t=some false→P.cellsOf t=1→∃a b,xs=[a]∧ys=[b]∧CR w S m a u∧CR w S m b v:=by
      intro ha h1
      rw[h1] at hx hy
      obtain⟨a,rfl⟩:=List.length_eq_one_iff.1 hx
      obtain⟨b,rfl⟩:=List.length_eq_one_iff.1 hy
      rcases hu with ⟨h',_⟩|⟨_,rfl⟩
      ·rw[ha] at h';cases h'
      ·rcases hv with ⟨h',_⟩|⟨_,rfl⟩
       ·rw[ha] at h';cases h'
       ·obtain⟨_,_,e,h1,_⟩:=bY.1 hxs
        obtain⟨_,_,e',h1',_⟩:=bY.1 hys
        cases e;cases e'
        exact⟨a,b,rfl,rfl,h1,h1'⟩
     cases q<;>simp only at h<;>try (cases h;done)
     case bool=>
      rw[Bool.and_eq_true] at h
      obtain⟨a,b,rfl,rfl,ha,hb⟩:=one (by simp[kR,hut]) (Nat.eq_of_beq_eq_true h.1)
      have h2:=h.2
      split at h2
      ·cases a<;>simp[fF,Bq] at hz
       cases b<;>simp[bI] at he
       obtain⟨_,rfl⟩:=he
       rw[cu.1 ha,cu.1 hb,run_equalIn_bool' w D t _ _ hut]
       simp[ai]
      ·cases h2
     case int k0=>
      rw[Bool.and_eq_true] at h
      obtain⟨a,b,rfl,rfl,ha,hb⟩:=one (by simp[kR,hut]) (Nat.eq_of_beq_eq_true h.1)
      have h2:=h.2
      split at h2
      ·cases a<;>simp[fF,Bq] at hz
       cases b<;>simp[bI] at he
       rename_i k c1 n1 k' c2 n2
       cases hk:e_ k k' with
       | false=>rw[hk] at he;cases he
       | true=>
         rw[hk] at he
         have hkk:=eD hk
         subst hkk
         simp only[Option.some.injEq,Prod.mk.injEq] at he
         obtain⟨_,rfl⟩:=he
         rw[(bC.1 ha).1,(bC.1 hb).1,run_equalIn_int w D t _ k0 _ _ hut]
         simp[ai,lK]
      ·cases h2
     case string=>
      rw[Bool.and_eq_true] at h
      obtain⟨a,b,rfl,rfl,ha,hb⟩:=one (by simp[kR,hut]) (Nat.eq_of_beq_eq_true h.1)
      have h2:=h.2
      split at h2
      ·cases a<;>simp[fF,Bq] at hz
       cases b<;>simp[bI] at he
       obtain⟨_,rfl⟩:=he
       rw[(ez.1 ha).1,(ez.1 hb).1,run_equalIn_string w D t _ _ hut]
       simp[ai,Fu,ByteArray.toList_eq]
      ·cases h2
     case struct fs=>
      rw[Bool.and_eq_true,Bool.not_eq_true',Bool.and_eq_true] at h
      obtain⟨hst,hfs,_⟩:=h
      have hfs:=DJ hfs
      have hag:kR P t=some true:=by simp[kR,hut]
      have hu:u=.agg us.toArray:=by
       rcases hu with ⟨_,e⟩|⟨h',_⟩
       ·exact e
       ·rw[hag] at h';cases h'
      have hv:v=.agg vs.toArray:=by
       rcases hv with ⟨_,e⟩|⟨h',_⟩
       ·exact e
       ·rw[hag] at h';cases h'
      subst hu;subst hv
      have hfo:P.fieldsOf t=fs:=by simp[Program.fieldsOf,hut]
      rw[run_equalIn_struct w D t _ _ (by rw[hfo];exact hut) hst,hfo]
      -- field by field
      have key:∀(F:List Field) (off:Nat) (g:bK→Bool) (c:Bool),B7 P (FX P d) z off F=some (P.cellsOf t)→off≤P.cellsOf t→bI (xs.drop off) (ys.drop off)=some (c,g)→(Op.eqFields D us.toArray vs.toArray F).run P w=.ok (g ai) w:=by
       intro F
       induction F with
       | nil=>
         intro off g c hF _ he
         cases hF
         rw[List.drop_of_length_le (by omega),List.drop_of_length_le (by omega)] at he
         simp only[bI,Option.some.injEq,Prod.mk.injEq] at he
         obtain⟨_,rfl⟩:=he
         simp[Op.eqFields]
       | cons f F ihF=>
         intro off g c hF hoff he
         rw[B7] at hF
         cases hck:decide (f.name≠ "_")&&(Nat.beq f.offset off&&FX P d f.type ((z.drop off).take (P.cellsOf f.type))) with
         | false=>rw[hck] at hF;cases hF
         | true=>
           rw[hck] at hF
           simp only at hF
           rw[Bool.and_eq_true,Bool.and_eq_true,decide_eq_true_eq] at hck
           obtain⟨hname,hfo,heq⟩:=hck
           have hfo:=Nat.eq_of_beq_eq_true hfo
           have hle:off+P.cellsOf f.type≤P.cellsOf t:=by
            have mono:∀(F:List Field) (a b:Nat),B7 P (FX P d) z a F=some b→a≤b:=by
             intro F
             induction F with
             | nil=>intro a b h;cases h;exact Nat.le_refl _
             | cons f F ih=>
               intro a b h
               rw[B7] at h
               split at h
               ·exact Nat.le_trans (Nat.le_add_right _ _) (ih _ _ h)
               ·cases h
            exact mono F _ _ hF
           obtain⟨hinf,hone⟩:=FB heq
           obtain⟨bb,hbb,hb1⟩:∃bb,kR P f.type=some bb∧(bb=false→P.cellsOf f.type=1):=by
            rcases hone with ⟨h1,h2⟩|h1
            ·exact⟨false,h1,fun _=>h2⟩
            ·exact⟨true,h1,fun h=>by cases h⟩
           have hul:us.length=P.cellsOf t:=by rw[hxs.length,hx]
           have hvl:vs.length=P.cellsOf t:=by rw[hys.length,hy]
           obtain⟨a,ha,hav⟩:=tA (us:=us.toArray) (off:=off) hbb hb1 hinf (by rw[List.size_toArray,hul];exact hle) w
           obtain⟨b,hb,hbv⟩:=tA (us:=vs.toArray) (off:=off) hbb hb1 hinf (by rw[List.size_toArray,hvl];exact hle) w
           have ex:xs.drop off=(xs.drop off).take (P.cellsOf f.type)++xs.drop (off+P.cellsOf f.type):=by rw[←List.drop_drop,List.take_append_drop]
           have ey:ys.drop off=(ys.drop off).take (P.cellsOf f.type)++ys.drop (off+P.cellsOf f.type):=by rw[←List.drop_drop,List.take_append_drop]
           have lx:((xs.drop off).take (P.cellsOf f.type)).length=P.cellsOf f.type:=by rw[List.length_take,List.length_drop];omega
           have ly:((ys.drop off).take (P.cellsOf f.type)).length=P.cellsOf f.type:=by rw[List.length_take,List.length_drop];omega
           rw[ex,ey] at he
           obtain⟨c1,g1,c2,g2,e1,e2,e3⟩:=np (by rw[lx,ly]) he
           have r1:=vo d (D:=D) (by omega) heq (qx _ (qT _ hz)) lx ly e1 ((hxs.drop off).take _) ((hys.drop off).take _) hav hbv
           have r2:=ihF (off+P.cellsOf f.type) g2 c2 hF hle e2
           simp only[Op.eqFields,if_pos hname,Sem.run_bind,hfo,ha,Result.andThen_ok,hb,r1]
           rw[e3]
           cases hg1:g1 ai with
           | true=>simp only[Bool.not_true,Bool.false_eq_true,if_false,Bool.true_and];exact r2
           | false=>simp
      exact key fs.toList 0 g c hfs (Nat.zero_le _) (by simpa using he)
def FM(P:Program)(T:TypeId)(z:List AV):Bool:=
 FX P 50 T z&&(r7 (kR P T) true&&(Nat.beq (P.cellsOf T) z.length && !P.eqGuardType P.depth T))
theorem Fc{T:TypeId}{z:List AV}(h:FM P T z=true):Ob P T z:=by
 simp only[FM,Bool.and_eq_true,Bool.not_eq_true'] at h
 obtain⟨h1,h2,h3,h4⟩:=h
 have h2:=pG h2
 have h3:=Nat.eq_of_beq_eq_true h3
 intro w S m xs ys us vs c g hk he hx hy
 have hl:=m_ hk
 have hly:∀{xs ys:List AV} {c:Bool} {g:bK→Bool},bI xs ys=some (c,g)→ys.length=xs.length:=by
  intro xs
  induction xs with
  | nil=>intro ys c g h;cases ys with
    | nil=>rfl
    | cons b _=>cases b<;>simp[bI] at h
  | cons a xs ih=>
    intro ys c g h
    cases ys with
    | nil=>cases a<;>simp[bI] at h
    | cons b ys=>
      have:∃c g,bI xs ys=some (c,g):=by
       cases hq:bI xs ys with
       | some q=>exact⟨q.1,q.2,rfl⟩
       | none=>
         cases a<;>cases b<;>simp only[bI,hq] at h<;>(try (cases h;done))
         split at h<;>cases h
      obtain⟨c',g',h'⟩:=this
      rw[List.length_cons,List.length_cons,ih h']
 refine⟨?_,fun op x y=>?_⟩
 ·exact vo (m:=m) (S:=S) 50 (D:=Op.maxDepth) (by decide) h1 hk (by omega) (by rw[hly he];omega) he hx hy (.inl ⟨h2,rfl⟩) (.inl ⟨h2,rfl⟩)
 ·cases op<;>simp[eqGuard,Sem.run_bind,run_program,h4]
def WQ(P:Program)(T:TypeId)(ti:TI):Bool:=
 (match P.info? T with
   | none=>false
   | some i=>Nat.beq i.size ti.size&&(Nat.beq i.bytes ti.bytes&&(match i.zero with
     | none=>false
     | some z=>oC ti.zero z.cells.toList&&(match ti.ty with
       | none=>true
       | some t=>wo z.cells.toList t.zeros&&(Nat.beq t.size ti.size&&((t.isAgg==ti.agg)&&t.kt)))))) &&
 (E5 P T ti.kind&&(r7 (kR P T) ti.agg&&(Nat.beq ti.zero.length ti.size&&(!(ti.eq&&ti.agg)||FM P T ti.zero))))
theorem Ln{T:TypeId}{ti:TI}(h:WQ P T ti=true):rc P T ti:=by
 simp only[WQ,Bool.and_eq_true] at h
 obtain⟨h1,h2,h3,h4,h5⟩:=h
 cases hi:P.info? T with
 | none=>rw[hi] at h1;cases h1
 | some i=>
   rw[hi] at h1
   simp only[Bool.and_eq_true] at h1
   obtain⟨g1,g2,g3⟩:=h1
   cases hz:i.zero with
   | none=>rw[hz] at g3;cases g3
   | some z=>
     rw[hz] at g3
     simp only[Bool.and_eq_true] at g3
     obtain⟨g3,g4⟩:=g3
     have hty:∀t,ti.ty=some t→z.cells.toList=t.zeros∧(t.size=ti.size∧t.isAgg=ti.agg)∧t.kt=true:=fun t ht=>by
      rw[ht] at g4
      simp only[Bool.and_eq_true,beq_iff_eq] at g4
      exact⟨vC g4.1,⟨Nat.eq_of_beq_eq_true g4.2.1,g4.2.2.1⟩,g4.2.2.2⟩
     refine⟨⟨i,z,hi,Nat.eq_of_beq_eq_true g1,Nat.eq_of_beq_eq_true g2,hz,fun w S m=>oK g3,fun t ht w I=>?_⟩,Da h2,o8 (pG h3),Nat.eq_of_beq_eq_true h4,fun t ht=>(hty t ht).2.1,fun he ha=>?_,fun t ht=>(hty t ht).2.2⟩
     ·rw[(hty t ht).1];exact Ty.mK t
     ·rw[he,ha] at h5
      exact Fc (by simpa using h5)
def FI(P:Program):Nat→Nat→Nat→PT TI→Bool
 | 0,_,_,t=>match t with | .leaf=>true|_=>false
 | _+1,_,_,.leaf=>true
 | f+1,a,s,.node l v r=>(match v with|some ti=>WQ P a ti|none=>true)&&(FI P f (a+s) (2*s) l&&FI P f (a+2*s) (2*s) r)
theorem xk:∀{f a s:Nat} {t:PT TI},FI P f a s t=true→∀n ti,t.get n=some ti→rc P (a+s*n) ti
 | 0,a,s,.leaf,_,n,ti,hg=>by rw[PT.jB] at hg;cases hg
 | 0,a,s,.node _ _ _,h,_,_,_=>by cases h
 | f+1,a,s,.leaf,_,n,ti,hg=>by rw[PT.jB] at hg;cases hg
 | f+1,a,s,.node l v r,h,n,ti,hg=>by
   simp only[FI,Bool.and_eq_true] at h
   rw[PT.fT] at hg
   split at hg
   ·rename_i hn
    subst hn
    rw[hg] at h
    exact Ln h.1
   ·rename_i hn
    split at hg
    ·rename_i h1
     have:=xk h.2.1 _ _ hg
     have e:a+s+2*s*(n/2)=a+s*n:=by
      have:n=2*(n/2)+1:=by omega
      conv=>rhs;rw[this]
      rw[Nat.mul_add,Nat.mul_one,Nat.mul_comm 2 s,Nat.mul_assoc,Nat.add_assoc,Nat.add_comm s]
     rw[e] at this;exact this
    ·rename_i h1
     have:=xk h.2.2 _ _ hg
     have e:a+2*s+2*s*(n/2-1)=a+s*n:=by
      have:n=2*(n/2-1)+2:=by omega
      conv=>rhs;rw[this]
      rw[Nat.mul_add,Nat.mul_comm 2 s,Nat.mul_assoc,Nat.add_assoc,Nat.add_comm (s*2)]
     rw[e] at this;exact this
theorem K1{t:PT TI}(h:FI P 30 0 1 t=true):fv P t:=fun T ti hg=>by
 have:=xk h T ti hg
 rwa [Nat.zero_add,Nat.one_mul] at this
end
end Go.Ev
namespace Go.Ev
def ir(P:Program)(ty:TypeId→Option Ty):Nat→List Field→Option (List Ty×Nat)
 | off, []=>some ([],off)
 | off,f::fs=>match ty f.type with
   | none=>none
   | some t=>match Nat.beq f.offset off&&Nat.beq (P.cellsOf f.type) t.size with
     | false=>none
     | true=>match ir P ty (off+t.size) fs with
       | none=>none
       | some (ts,n)=>some (t::ts,n)
def qZ(P:Program):Nat→TypeId→Option Ty
 | 0,_=>none
 | d+1,t=>match P.underlying t with
   | some .bool=>some .bool
   | some (.int k)=>some (.int k)
   | some .string=>some .str
   | some (.slice e)=>match qZ P d e with
     | none=>none
     | some ty=>match Nat.beq (P.cellsOf e) ty.size&&(Nat.blt 0 ty.size&&Nat.blt 0 (P.bytesOf e)) with
       | true=>some (.slice ty)
       | false=>none
   | some (.struct fs)=>match ir P (qZ P d) 0 fs.toList with
     | none=>none
     | some (ts,n)=>match Nat.beq (P.cellsOf t) n with
       | true=>some (.struct ts)
       | false=>none
   | _=>none
def vl(P:Program):List TypeId→Option (List Ty)
 | []=>some []
 | t::ts=>match qZ P 60 t with
   | none=>none
   | some ty=>match vl P ts with
     | none=>none
     | some tZ=>some (ty::tZ)
section
variable {H:Type} {enc:TypeId×Value→H} {P:Program} {w:World} {base:Nat} {spare:Nat→Bool} {held:Bool}
theorem o9{ty:TypeId→Option Ty}:∀{fs:List Field} {off n:Nat} {ts:List Ty},ir P ty off fs=some (ts,n)→n=off+Ty.qH ts
 | [],off,n,ts,h=>by cases h;rfl
 | f::fs,off,n,ts,h=>by
   rw[ir] at h
   cases ht:ty f.type with
   | none=>rw[ht] at h;cases h
   | some t=>
     rw[ht] at h
     simp only at h
     split at h
     ·cases h
     ·cases hr:ir P ty (off+t.size) fs with
      | none=>rw[hr] at h;cases h
      | some q=>
        obtain⟨ts',n'⟩:=q
        rw[hr] at h
        cases h
        rw[o9 hr,Ty.qH,Nat.add_assoc]
theorem vI{a:Addr}{n:Nat}{us:List Value}(h:w.cells? base a n=some us):us.length=n∧(0<n→a.spot=none∧a.block<w.heap.size)∧(a.spot=none→eT w a.block a.off us):=by
 unfold World.cells? at h
 split at h
 ·have hl:us.length=n:=by simpa using mapM_some_length h
  have hg:∀i,i<n→w.cell? (a.add i)=us[i]? :=fun i hi=>by
   have:=mapM_some_get h i i (by simp[hi])
   exact this
  refine⟨hl,fun hn=>?_,fun hs j u hu=>?_⟩
  ·have h0:=hg 0 hn
   rw[List.getElem?_eq_getElem (by omega)] at h0
   have e:a.add 0=a:=by simp[Addr.add]
   rw[e] at h0
   unfold World.cell? at h0
   split at h0
   ·rename_i c _ _ hb
    split at h0
    ·cases h0
    ·rename_i hsp
     exact⟨by simpa using hsp,(Array.getElem?_eq_some_iff.1 hb).1⟩
   ·cases h0
  ·have hj:j<n:=by rw[←hl];exact(List.getElem?_eq_some_iff.1 hu).1
   have:=hg j hj
   rw[hu] at this
   rw[←this]
   congr 1
   obtain⟨b,o,sp⟩:=a
   have hs:sp=none:=hs
   subst hs
   exact(Addr.add_lit b o j).symm
 ·cases h
theorem qU{α:Type}{p:Nat→α→Prop}:∀(n:Nat),(∀i,i<n→∃x,p i x)→∃l:List α,l.length=n∧∀i x,l[i]? = some x→p i x
 | 0,_=>⟨[],rfl,fun i x h=>by simp at h⟩
 | n+1,h=>by
   obtain⟨l,h1,h2⟩:=qU n fun i hi=>h i (by omega)
   obtain⟨x,hx⟩:=h n (by omega)
   refine⟨l ++ [x],by simp[h1],fun i y hy=>?_⟩
   rcases Nat.lt_trichotomy i l.length with hi|hi|hi
   ·rw[List.getElem?_append_left hi] at hy;exact h2 i y hy
   ·subst hi
    rw[List.getElem?_append_right (Nat.le_refl _),Nat.sub_self] at hy
    cases hy
    rw[h1];exact hx
   ·rw[List.getElem?_eq_none (by simp;omega)] at hy;cases hy
theorem qO{P:Program}{e:TypeId}:∀{l:List (DataW H)} {d:DataW H},d∈l→∀n∈d.weights P e,n∈DataW.weightsAll P e l
 | x::l,d,hd,n,hn=>by
   rw[DataW.weightsAll]
   rcases List.mem_cons.1 hd with rfl|hd
   ·exact List.mem_append.2 (.inl hn)
   ·exact List.mem_append.2 (.inr (qO hd n hn))
theorem oz{P:Program}:∀{ts:List TypeId} {l:List (DataW H)} {i:Nat} {t:TypeId} {d:DataW H},ts[i]? = some t→l[i]? = some d→∀n∈d.weights P t,n∈DataW.weightsEach P ts l
 | [],_,i,t,d,h,_,_,_=>by simp at h
 | _::_, [],i,t,d,_,h,_,_=>by simp at h
 | t0::ts,d0::l,i,t,d,h1,h2,n,hn=>by
   rw[DataW.weightsEach]
   cases i with
   | zero=>cases h1;cases h2;exact List.mem_append.2 (.inl hn)
   | succ i=>exact List.mem_append.2 (.inr (oz (i:=i) (by simpa using h1) (by simpa using h2) n hn))
theorem rX{ty:TypeId→Option Ty}{cs:List Value}{rd:Field→Option (DataW H×List MemPlace)}{I:Nat→Prop} :
  ∀{fs:List Field} {off n:Nat} {ts:List Ty},ir P ty off fs=some (ts,n)→n≤cs.length→
  (∀(i:Nat) (f:Field) (t:Ty),fs[i]? = some f→ty f.type=some t→P.cellsOf f.type=t.size→∃x,aP w I t ((cs.drop f.offset).take (P.cellsOf f.type)) x)→∃x,cm w I ts ((cs.drop off).take (n-off)) x
 | [],off,n,ts,h,_,_=>by
   cases h
   exact⟨(),mU.2 (by rw[Nat.sub_self,List.take_zero])⟩
 | f::fs,off,n,ts,h,hn,hx=>by
   have hsz:=o9 h
   rw[ir] at h
   cases ht:ty f.type with
   | none=>rw[ht] at h;cases h
   | some t=>
     rw[ht] at h
     simp only at h
     cases hck:Nat.beq f.offset off&&Nat.beq (P.cellsOf f.type) t.size with
     | false=>rw[hck] at h;cases h
     | true=>
       rw[hck] at h
       simp only at h
       rw[Bool.and_eq_true] at hck
       have ho:=Nat.eq_of_beq_eq_true hck.1
       have hc:=Nat.eq_of_beq_eq_true hck.2
       cases hr:ir P ty (off+t.size) fs with
       | none=>rw[hr] at h;cases h
       | some q=>
         obtain⟨ts',n'⟩:=q
         rw[hr] at h
         cases h
         obtain⟨x,h1⟩:=hx 0 f t rfl ht hc
         obtain⟨y,h2⟩:=rX (rd:=rd) hr hn fun i g t' hg=>hx (i+1) g t' (by simpa using hg)
         rw[ho,hc] at h1
         rw[Ty.qH] at hsz
         have e:(cs.drop off).take (n-off)=(cs.drop off).take t.size++(cs.drop (off+t.size)).take (n-(off+t.size)):=by
          rw[show n-off=t.size+(n-(off+t.size)) from by omega,List.take_add,List.drop_drop]
         rw[e]
         cases ts' with
         | nil=>
           have h3:=mU.1 h2
           rw[h3,List.append_nil]
           exact⟨x,pF.2 h1⟩
         | cons t2 ts'=>exact⟨(x,y),nD.2 ⟨_,_,rfl,h1,h2⟩⟩
theorem BA{k:IntKind}{n:Int}(h:(Lit.int k n).wf=true):k.has n:=by
 simp only[Lit.wf,Bool.and_eq_true,decide_eq_true_eq] at h
 exact⟨h.1,h.2⟩
theorem tg:∀(d:Nat) {t:TypeId} {ty:Ty} {fuel:Nat} {cs:List Value} {r:DataW H×List MemPlace},qZ P d t=some ty→DataW.trod enc P w base spare held fuel t cs=some r→(∀n∈r.1.weights P t,n≤reachBytes)→
  ∃x,aP w (fun b=>b<w.heap.size) ty cs x
 | 0,_,_,_,_,_,h,_,_=>by cases h
 | d+1,t,ty,fuel,cs,r,h,htr,hwt=>by
   rw[qZ] at h
   cases hu:P.underlying t with
   | none=>rw[hu] at h;cases h
   | some q=>
     rw[hu] at h
     cases q<;>simp only at h<;>try (cases h;done)
     case bool=>
      cases h
      obtain⟨b,rfl,_⟩:=DataW.trod_bool hu htr
      exact⟨b,pN.2 rfl⟩
     case int k=>
      cases h
      obtain⟨n,rfl,_,hw⟩:=DataW.trod_int hu htr
      exact⟨n,ju.2 ⟨rfl,BA hw⟩⟩
     case string=>
      cases h
      obtain⟨s,rfl,hr,_⟩:=DataW.trod_string hu htr
      refine⟨s.data.toList,oc.2 ⟨by simp,?_⟩⟩
      have:=hwt s.data.toList.length (by rw[hr];simp[DataW.weights])
      exact Nat.le_trans this (by decide)
     case slice e=>
      cases hte:qZ P d e with
      | none=>rw[hte] at h;cases h
      | some ty'=>
        rw[hte] at h
        simp only at h
        split at h
        ·rename_i hck
         cases h
         rw[Bool.and_eq_true,Bool.and_eq_true] at hck
         have hce:=Nat.eq_of_beq_eq_true hck.1
         have hpos:0<ty'.size:=Nat.le_of_ble_eq_true hck.2.1
         have hbytes:0<P.bytesOf e:=Nat.le_of_ble_eq_true hck.2.2
         rcases DataW.trod_slice hu htr with ⟨rfl,_⟩|⟨a,len,cap,elems,rest,n,rfl,rfl,hr,_,hlc,_,hel,hget,_,_⟩
         ·exact⟨[],bA.2 ⟨none,0,rfl,Nat.le_refl _,Nat.zero_le _,fun _=>rfl,fun i y h=>by cases h⟩⟩
         ·have hw0:(elems.length+rest.length)*P.bytesOf e≤reachBytes:=hwt _ (by rw[hr];simp[DataW.weights,hu])
          have hlen:len≤cY:=by
           have h1:len*1≤(elems.length+rest.length)*P.bytesOf e:=Nat.mul_le_mul (by omega) hbytes
           have h2:reachBytes≤cY:=by decide
           omega
          have each:∀i,i<len→∃x,∃us,a.spot=none∧a.block<w.heap.size∧us.length=ty'.size∧eT w a.block (a.off+i*ty'.size) us∧aP w (fun b=>b<w.heap.size) ty' us x:=by
           intro i hi
           have hg:=hget i hi
           rw[List.getElem?_eq_getElem (by omega)] at hg
           obtain⟨us,hcs,hrd⟩:=Option.bind_eq_some_iff.1 hg
           obtain⟨c1,c2,c3⟩:=vI hcs
           rw[hce] at c1 c2 c3
           obtain⟨hsp,hblk⟩:=c2 hpos
           -- the first element's address has no spot
           have hspa:a.spot=none:=by
            have hg0:=hget 0 (by omega)
            rw[List.getElem?_eq_getElem (by omega)] at hg0
            obtain⟨us0,hcs0,_⟩:=Option.bind_eq_some_iff.1 hg0
            rw[Nat.zero_mul] at hcs0
            have e0:a.add 0=a:=by simp[Addr.add]
            rw[e0] at hcs0
            exact((vI hcs0).2.1 (by rw[hce];exact hpos)).1
           have hadd:a.add (i*ty'.size)=⟨a.block,a.off+i*ty'.size,none⟩:=by
            obtain⟨b,o,sp⟩:=a
            have hs:sp=none:=hspa
            subst hs
            exact Addr.add_lit b o _
           rw[hadd] at c3 hblk
           obtain⟨x,hx⟩:=tg d hte hrd fun n hn=>hwt n (by
            rw[hr]
            simp only[DataW.weights,hu]
            refine List.mem_cons_of_mem _ (List.mem_append.2 (.inl (qO (List.mem_map.2 ⟨elems[i],List.getElem_mem _,rfl⟩) n hn))))
           exact⟨x,us,hspa,hblk,c1,c3 rfl,hx⟩
          obtain⟨xs,hxl,hxs⟩:=qU len each
          refine⟨xs,bA.2 ⟨some a,cap,by rw[hxl],by omega,by omega,fun h=>(by cases h),fun i y hy=>?_⟩⟩
          obtain⟨us,g1,g2,g3,g4,g5⟩:=hxs i y hy
          refine⟨a.block,a.off,us,?_,g2,g3,g4,g5⟩
          obtain⟨b,o,sp⟩:=a
          have hs:sp=none:=g1
          rw[hs]
        ·cases h
     case struct fs=>
      cases hf:ir P (qZ P d) 0 fs.toList with
      | none=>rw[hf] at h;cases h
      | some q=>
        obtain⟨ts,n⟩:=q
        rw[hf] at h
        simp only at h
        split at h
        ·rename_i hck
         cases h
         have hn:=Nat.eq_of_beq_eq_true hck
         obtain⟨xs,m,rfl,hr,hlen,hxl,hx⟩:=DataW.trod_struct hu htr
         obtain⟨y,hy⟩:=rX (w:=w) (cs:=cs) (I:=fun b=>b<w.heap.size) (rd:=fun _=>(none:Option (DataW H×List MemPlace))) hf (by omega) fun i f t' hi hty hc=>by
          have hi':fs[i]? = some f:=by rw[←Array.getElem?_toList];exact hi
          have hlt:i<xs.length:=by rw[hxl];exact(Array.getElem?_eq_some_iff.1 hi').1
          have:=hx i f hi'
          rw[List.getElem?_eq_getElem hlt] at this
          refine tg d hty this fun n hn=>hwt n ?_
          rw[hr]
          simp only[DataW.weights,hu]
          exact oz (i:=i) (by simp[hi']) (by simp[List.getElem?_eq_getElem hlt]) n hn
         rw[List.drop_zero,Nat.sub_zero,List.take_of_length_le (by omega)] at hy
         exact⟨y,lW.2 hy⟩
        ·cases h
theorem zu{r:Reach}{b0 d:Nat}{t:TypeId}{ty:Ty}{v:Value}{x:ty.T}(ht:qZ P d t=some ty)(hok:Value.okWide P w r b0 t v)(hx:aP w (fun b=>b<w.heap.size) ty v.cells.toList x):iB w (fun b=>b<w.heap.size) ty v x:=by
 cases d with
 | zero=>cases ht
 | succ d=>
   rw[qZ] at ht
   unfold Value.okWide at hok
   cases hu:P.underlying t with
   | none=>rw[hu] at ht;cases ht
   | some q=>
     rw[hu] at ht hok
     have flat:ty.isAgg=false→Cell.okWide P w r b0 t v→iB w (fun b=>b<w.heap.size) ty v x:=by
      intro ha hc
      rw[iB,if_neg (by rw[ha];decide)]
      have:v.cells.toList=[v]:=by
       cases v<;>(try rfl)
       unfold Cell.okWide Cell.ok at hc
       rw[hu] at hc
       cases q<;>simp at hc
      rw[this] at hx
      exact hx
     cases q<;>simp only at ht hok<;>try (cases ht;done)
     case bool=>cases ht;exact flat rfl hok
     case int k=>cases ht;exact flat rfl hok
     case string=>cases ht;exact flat rfl hok
     case slice e=>
      have:ty.isAgg=false:=by
       cases hte:qZ P d e with
       | none=>rw[hte] at ht;cases ht
       | some ty'=>
         rw[hte] at ht
         simp only at ht
         split at ht
         ·cases ht;rfl
         ·cases ht
      exact flat this hok
     case struct fs=>
      obtain⟨cs,rfl,_,_⟩:=hok
      have:ty.isAgg=true:=by
       cases hf:ir P (qZ P d) 0 fs.toList with
       | none=>rw[hf] at ht;cases ht
       | some q=>
         rw[hf] at ht
         simp only at ht
         split at ht
         ·cases ht;rfl
         ·cases ht
      rw[iB,if_pos this]
      exact⟨cs,rfl,hx⟩
theorem oX{r:Reach}{b0:Nat}:∀{ts:List TypeId} {tZ:List Ty} {vs:List Value} {ds:List (DataW H)} {ps:List MemPlace},vl P ts=some tZ→DataW.TrodAll enc P w base spare held ts vs ds ps→
  (∀(j:Nat) t v,ts[j]? = some t→vs[j]? = some v→Value.okWide P w r b0 t v)→(∀n∈DataW.weightsEach P ts ds,n≤reachBytes)→∃x,gu w (fun b=>b<w.heap.size) tZ vs x
 | [],tZ, [], [],ps,h,_,_,_=>by cases h;exact⟨(),rfl⟩
 | t::ts,tZ,v::vs,d::ds,ps,h,htr,hok,hwt=>by
   rw[vl] at h
   cases hty:qZ P 60 t with
   | none=>rw[hty] at h;cases h
   | some ty=>
     rw[hty] at h
     simp only at h
     cases hts:vl P ts with
     | none=>rw[hts] at h;cases h
     | some tys'=>
       rw[hts] at h
       cases h
       obtain⟨p,q,⟨fuel,h1⟩,h2,_⟩:=htr
       rw[DataW.weightsEach] at hwt
       obtain⟨x,hx⟩:=tg 60 hty h1 fun n hn=>hwt n (List.mem_append.2 (.inl hn))
       have hx':=zu hty (hok 0 t v rfl rfl) hx
       obtain⟨y,hy⟩:=oX hts h2 (fun j t v ht hv=>hok (j+1) t v (by simpa using ht) (by simpa using hv)) fun n hn=>hwt n (List.mem_append.2 (.inr hn))
       cases tys' with
       | nil=>
         have hy:vs=[]:=hy
         subst hy
         exact⟨x,v,rfl,hx'⟩
       | cons t2 tys'=>exact⟨(x,y),v,vs,rfl,hx',hy⟩
 | [],_,_::_,_,_,_,h,_,_=>by exact h.elim
 | [],_, [],_::_,_,_,h,_,_=>by exact h.elim
 | _::_,_, [],_,_,_,h,_,_=>by exact h.elim
 | _::_,_,_::_, [],_,_,h,_,_=>by exact h.elim
open Go.RowKit
theorem nj(hl:laidOutB P=true){W W':World}(hb:Below W.heap.size W W'){sp:Nat→Bool}:∀{ts:List TypeId} {vs:List Value} {ds:List (DataW H)} {ps:List MemPlace},(∀t∈ts,P.readableRec t=true∧t<P.types.size)→
  DataW.TrodAll enc P W 0 (fun _=>true) true ts vs ds ps→(∀p∈ps,p.block<W.heap.size)→(∀p∈ps,sp p.block=true)→DataW.TrodAll enc P W' 0 sp true ts vs ds ps
 | [], [], [],ps,_,h,_,_=>h
 | t::ts,v::vs,d::ds,ps,hts,h,hlt,hsp=>by
   obtain⟨p,q,h1,h2,rfl⟩:=h
   refine⟨p,q,WideElems.Trod_stays hl (hts t List.mem_cons_self).1 (hts t List.mem_cons_self).2 h1 (fun x hx=>hb.same (hlt x (List.mem_append.2 (.inl hx)))) (fun x hx=>hsp x (List.mem_append.2 (.inl hx))),?_,rfl⟩
   exact nj hl hb (fun t ht=>hts t (List.mem_cons_of_mem _ ht)) h2 (fun x hx=>hlt x (List.mem_append.2 (.inr hx))) (fun x hx=>hsp x (List.mem_append.2 (.inr hx)))
 | [],_::_,_,_,_,h,_,_=>by exact h.elim
 | [], [],_::_,_,_,h,_,_=>by exact h.elim
 | _::_, [],_,_,_,h,_,_=>by exact h.elim
 | _::_,_::_, [],_,_,h,_,_=>by exact h.elim
theorem trodAll_length:∀{ts:List TypeId} {vs:List Value} {ds:List (DataW H)} {ps:List MemPlace},DataW.TrodAll enc P w base spare held ts vs ds ps→ds.length=ts.length
 | [], [], [],_,_=>rfl
 | t::ts,v::vs,d::ds,ps,h=>by
   obtain⟨p,q,_,h2,_⟩:=h
   rw[List.length_cons,List.length_cons,trodAll_length h2]
 | [],_::_,_,_,h=>by exact h.elim
 | [], [],_::_,_,h=>by exact h.elim
 | _::_, [],_,_,h=>by exact h.elim
 | _::_,_::_, [],_,h=>by exact h.elim
theorem CY{f:Func}{s:ChangeSpec}{apart fresh handsOn again:Bool}{W W':World}{args:Array Value}{ds gs:List (DataW H)}{before:List MemPlace}{tb:TypeId}(hvars:s.vars=[])
  (hfn:∀(H:Type) (ds:List (DataW H)),ds.length=f.params.size→s.fn H ds={results:=[.lit (.bool true)],args:=ds}) (hres:f.resultTypes=#[tb]) (htb:P.underlying tb=some .bool)
  (hl:laidOutB P=true) (hts:∀t∈f.params.toList,P.readableRec t=true∧t<P.types.size)
  (hW:DataW.Whole enc P f.params.toList s.vars apart W args.toList ds gs before) (hb:Below W.heap.size W W'):s.post enc P f apart fresh handsOn again W args (.bool true) W':=by
 have hlt:=hW.lt
 have hW0:=hW
 obtain⟨p,q,hA,hV,rfl,hz,hnd⟩:=hW
 rw[hvars] at hV
 have hgs:gs=[]∧q=[]:=by
  cases gs with
  | nil=>exact⟨rfl,hV⟩
  | cons _ _=>exact hV.elim
 obtain⟨rfl,rfl⟩:=hgs
 rw[List.append_nil] at hlt hz hnd hW0
 have hlen:=trodAll_length hA
 have hf:=hfn H (ds ++ []) (by rw[List.append_nil,hlen,Array.length_toList])
 have hf':=hf
 rw[List.append_nil] at hf'
 have hstay:∀sp:Nat→Bool,(∀x∈p,sp x.block=true)→DataW.TrodAll enc P W' 0 sp true f.params.toList args.toList ds p:=fun sp hsp=>nj hl hb hts hA hlt hsp
 have hresl:((Value.bool true).resultList f.resultTypes.size)=[.bool true]:=by rw[hres];rfl
 have hr:∀(b:Nat) (sp:Nat→Bool) (hd:Bool),DataW.TrodAll enc P W' b sp hd f.resultTypes.toList ((Value.bool true).resultList f.resultTypes.size) (s.fn H (ds ++ [])).results []:=fun b sp hd=>by
  rw[hresl,hres,hf]
  exact⟨[], [],shut_bool htb true,rfl,rfl⟩
 have hold:∀x∈p,(fun b=>decide (b<W.heap.size)) x.block=true:=fun x hx=>by simpa using hlt x hx
 refine⟨ds, [],p, [],p, [],hW0,hr _ _ _,?_,?_,World.keptBut_mono (fun x hx=>⟨hx,.inr (.inl hx)⟩) (hb.frame (· ∈p)),fun _=>⟨fun j t r hj hv=>?_,?_⟩⟩
 ·rw[hf,List.append_nil];exact hstay _ hold
 ·rw[hvars,hf];rfl
 ·exact ok_one hres rfl (okWide_bool_mk htb true) j t r hj hv
 ·have h1:DataW.TrodAll enc P W' 0 (fun _=>true) true (f.resultTypes.toList++f.params.toList) ((Value.bool true).resultList f.resultTypes.size++args.toList) (.lit (.bool true)::ds) p:=by
   rw[hresl,hres]
   exact⟨[],p,shut_bool htb true,hstay _ (fun _ _=>rfl),rfl⟩
  refine⟨.lit (.bool true)::ds, [],p,⟨p, [],h1,by rw[hvars];rfl,by rw[List.append_nil],fun b off hp=>?_,hnd⟩,fun x hx _=>hx⟩
  rw[hb.frozen (hlt _ hp)]
  exact hz b off hp
theorem Ck{f:FuncId}{tZ:List Ty}{pre:Ty.Ts tZ→Bool}{fn:Ty.Ts tZ→Bool}(hs:aG.Sound P f ⟨tZ, [.bool],pre,fn⟩)(htrue:∀x,Ty.dM tZ x→pre x=true∧fn x=true){F:Func}(htys:vl P F.params.toList=some tZ)
  {r:Reach} {b0:Nat} {W:World} {args:Array Value} {ds:List (DataW H)} {ps:List MemPlace} (hA:DataW.TrodAll enc P W base spare held F.params.toList args.toList ds ps)
  (hval:∀(j:Nat) t v,F.params[j]? = some t→args[j]? = some v→Value.okWide P W r b0 t v) (hwt:∀n∈DataW.weightsEach P F.params.toList ds,n≤reachBytes) :
  Calls P f args W fun e W'=>e=.returned (.bool true)∧Below W.heap.size W W':=by
 obtain⟨x,hx⟩:=oX htys hA (fun j t v ht hv=>hval j t v (by rw[←Array.getElem?_toList];exact ht) (by rw[←Array.getElem?_toList];exact hv)) hwt
 obtain⟨h1,h2⟩:=htrue x hx.has
 refine(hs.calls W _ x args (fun b hb=>hb) hx h1).mono ?_
 rintro e W' ⟨v,rfl,g1,g2,g3,g4,g5,I',_,g7⟩
 have g7:iB W' I' .bool v (fn x):=g7
 have g7:[v]=[Value.bool (fn x)]:=g7
 cases g7
 refine⟨by rw[h2],⟨g1,g2,g3,g4,g5⟩⟩
theorem Aj{C:Checked}{os:Os}{f:FuncId}{F:Func}{s:ChangeSpec}{conds:List PathCond}{apart fresh handsOn again:Bool}{a:Assume}{tb:TypeId}{tZ:List Ty}{pre:Ty.Ts tZ→Bool}{fn:Ty.Ts tZ→Bool}
  (own:ownKnob C.prog.godebug=none) (started:os.Started) (noInit:C.prog.inits.idxOf? f=none) (hF:C.prog.funcs[f]? = some F)
  (witness:∃(w:World) (tape:Tape) (i:Input),w.os=os∧(w.forCall tape i).Shaped C.prog∧i.vars=[]∧Input.okWide C.prog (w.forCall tape i) .any w.heap.size f i∧
    s.pre6 enc C.prog F conds apart (w.forCall tape i).memory i.args∧a.holds C.prog (lone (Frame.enter C.prog f i.args .normal) [] (w.forCall tape i)))
  (hs:aG.Sound C.prog f ⟨tZ, [.bool],pre,fn⟩) (htrue:∀x,Ty.dM tZ x→pre x=true∧fn x=true) (htys:vl C.prog F.params.toList=some tZ) (hvars:s.vars=[])
  (hfn:∀(H:Type) (ds:List (DataW H)),ds.length=F.params.size→s.fn H ds={results:=[.lit (.bool true)],args:=ds}) (hres:F.resultTypes=#[tb]) (htb:C.prog.underlying tb=some .bool)
  (hl:laidOutB C.prog=true) (hts:F.params.toList.all (fun t=>C.prog.readableRec t&&decide (t<C.prog.types.size))=true) :
  ReturnsInHanded a C os f .any (s.pre6 enc C.prog F conds apart) (s.post enc C.prog F apart fresh handsOn again):=by
 refine returnsInHanded_of_change_sized own started noInit hF witness ?_
 intro W b0 args ds gs before hval hW _ hsz _
 have hW':=hW
 obtain⟨p,q,hA,hV,_,_,_⟩:=hW
 rw[hvars] at hV
 have hgs:gs=[]:=by
  cases gs with
  | nil=>rfl
  | cons _ _=>exact hV.elim
 subst hgs
 have hwt:∀n∈DataW.weightsEach C.prog F.params.toList ds,n≤reachBytes:=by
  have e:s.plain.varTypes C.prog=[]:=by simp[DataSpec.varTypes,ChangeSpec.plain,hvars]
  rw[e,List.append_nil,List.append_nil] at hsz
  intro n hn
  have:=List.all_eq_true.1 hsz n hn
  simpa using this
 refine(Ck hs htrue htys hA hval hwt).mono ?_
 rintro e W' ⟨rfl,hb⟩
 refine⟨_,rfl,CY hvars hfn hres htb hl (fun t ht=>?_) hW' hb⟩
 have:=List.all_eq_true.1 hts t ht
 simpa using this
end
end Go.Ev
namespace Go.Ev
def LT.val{R Y:Type}(d:R):LT R Y→R
 | .ret r=>r
 | .more _=>d
 | .br b t e=>bif b then t.val d else e.val d
 | .need _ t=>t.val d
 | .eqs _ t=>t.val d
 | .bad _ _=>d
def LT.pre{R Y:Type}:LT R Y→Bool
 | .ret _=>true
 | .more _=>false
 | .br b t e=>bif b then t.pre else e.pre
 | .need b t=>b&&t.pre
 | .eqs _ t=>t.pre
 | .bad _ _=>false
def LT.Md{R Y:Type}:LT R Y→Prop
 | .ret _=>True
 | .more _=>True
 | .br _ t e=>t.Md∧e.Md
 | .need _ t=>t.Md
 | .eqs p t=>p∧t.Md
 | .bad _ _=>True
theorem LT.runs{R Y:Type}{d:R}{step:Y→LT R Y}:∀{t:LT R Y},t.Md→t.pre=true→aK step t (t.val d)
 | .ret r,_,_=>.ret r
 | .more _,_,h=>by cases h
 | .br b t e,h1,h2=>by
   cases b with
   | true=>exact .br (LT.runs h1.1 h2)
   | false=>exact .br (LT.runs h1.2 h2)
 | .need b t,h1,h2=>by
   rw[LT.pre,Bool.and_eq_true] at h2
   exact .need h2.1 (LT.runs h1 h2.2)
 | .eqs p t,h1,h2=>.eqs h1.1 (LT.runs h1.2 h2)
 | .bad _ _,_,h=>by cases h
def LT.all{R Y:Type}(p:R→Prop):LT R Y→Prop
 | .ret r=>p r
 | .more _=>True
 | .br _ t e=>t.all p∧e.all p
 | .need _ t=>t.all p
 | .eqs _ t=>t.all p
 | .bad _ _=>True
theorem LT.i_{R Y:Type}{d:R}{p:R→Prop}(hd:p d):∀{t:LT R Y},t.all p→p (t.val d)
 | .ret r,h=>h
 | .more _,_=>hd
 | .br b t e,h=>by
   cases b with
   | true=>exact LT.i_ (t:=t) hd h.1
   | false=>exact LT.i_ (t:=e) hd h.2
 | .need b t,h=>LT.i_ (t:=t) hd h
 | .eqs _ t,h=>LT.i_ (t:=t) hd h
 | .bad _ _,_=>hd
section
variable {a b:Int} {k:IntKind}
theorem aC:ai.c .eql a b=(a==b):=rfl
theorem aB:ai.c .neq a b=(a != b):=rfl
theorem ar:ai.c .lss a b=decide (a<b):=rfl
theorem ay:ai.c .leq a b=decide (a≤b):=rfl
theorem aL:ai.c .gtr a b=decide (b<a):=rfl
theorem aS:ai.c .geq a b=decide (b≤a):=rfl
theorem aM{x y:Bool}:ai.and x y=(x&&y):=rfl
theorem bg{x:Bool}:ai.not x=!x:=rfl
theorem ek{x y:Bool}:ai.q x y=(x==y):=rfl
theorem al{α β:Type}{f:α→β}{x:α}:ai.k f x=f x:=rfl
theorem bq:ai.b .add k a b=k.wrap (a+b):=rfl
theorem bl:ai.b .sub k a b=k.wrap (a-b):=rfl
theorem o5:ai.b .mul k a b=k.wrap (a*b):=rfl
theorem Aw:ai.b .quo k a b=k.wrap (a.tdiv b):=rfl
theorem Bo:ai.b .rem k a b=a.tmod b:=rfl
theorem bp:ai.v k a=k.wrap a:=rfl
theorem nC:ai.mn a b=if b<a then b else a:=rfl
theorem KL:ai.mx a b=if b > a then b else a:=rfl
theorem As{t:Ty}{x:List t.T}:ai.n t x a=x.getD a.toNat t.gB:=rfl
theorem kx{α:Type}{x:List α}:ai.s x a b=(x.take b.toNat).drop a.toNat:=rfl
theorem kV{α:Type}{v:α}:ai.r a v=List.replicate a.toNat v:=rfl
theorem kS{α:Type}{x y:List α}:ai.spl x a y=x.take a.toNat++y++x.drop (a.toNat+y.length):=rfl
theorem gW(h1:-9223372036854775808≤a)(h2:a≤9223372036854775807):IntKind.i64.wrap a=a:=IntWalk.i64_in a ⟨h1,h2⟩
theorem w8(h1:0≤a)(h2:a≤255):IntKind.u8.wrap a=a:=IntWalk.u8_in a ⟨h1,h2⟩
theorem Io(h1:0≤a)(h2:a≤18446744073709551615):IntKind.u64.wrap a=a:=IntWalk.u64_in a ⟨h1,h2⟩
end
theorem mj{n:Int}:IntKind.i64.has n↔ -9223372036854775808≤n∧n≤9223372036854775807:=Iff.rfl
theorem zW{n:Int}:IntKind.u8.has n↔0≤n∧n≤255:=Iff.rfl
theorem eE{b x y:Bool}:(bif b then x else y)=true↔(b=true→x=true)∧(b=false→y=true):=by cases b<;>cases x<;>cases y<;>decide
theorem k6{α:Type}{b:Bool}{x y r:α}:(bif b then x else y)=r↔(b=true∧x=r)∨(b=false∧y=r):=by cases b<;>simp
theorem dh{α:Type}{x:α}:tt x=true:=rfl
def LT.yt{R Y:Type}:LT R Y→Bool
 | .br _ t e=>t.yt&&e.yt
 | .need _ t=>t.yt
 | .eqs _ _=>false
 | _=>true
theorem LT.oo{R Y:Type}:∀{t:LT R Y},t.yt=true→t.Md
 | .ret _,_=>trivial
 | .more _,_=>trivial
 | .br _ t e,h=>by
   rw[LT.yt,Bool.and_eq_true] at h
   exact⟨LT.oo h.1,LT.oo h.2⟩
 | .need _ t,h=>LT.oo (t:=t) h
 | .bad _ _,_=>trivial
section
variable {P:Program} {ti:PT TI} (ht:fv P ti) (hm:P.follows .mixedOrders=true) {g:FuncId} {F:Func} {args res:List Ty} {jo:List (FuncId×Func)} {eH:List (FuncId×aG)} {pre:Ty.Ts args→Bool} {fn:Ty.Ts args→Ty.Ts res}
include ht hm
theorem aO(q:Bool)(n:Nat)(jf:List Stop)(start:bK→Ty.Ts args→LT (Ty.Ts res) Empty)(hf:s6 P ((g,F)::jo))(hs:sI P eH)
  (hr:∀x,pre x=true→Ty.dM args x→(start ai x).pre=true)
  (heq:∀x,(start ai x).Md:=by intro x;exact LT.oo (by kernel_rfl))
  (hb:F.body.isSome=true:=by kernel_rfl) (hl:(Nat.ble args.length F.ntmps&&Nat.ble F.ntmps 65535)=true:=by kernel_rfl)
  (h0:∀A x,Tr.Is q (run A (CO ti A res ((g,F)::jo) eH [] jf) n (jm g F (jr A args x))) ((start A x).tr Empty.elim):=by intro A x;first|exact⟨by kernel_rfl,by kernel_rfl⟩|(show Tr.full _=_;kernel_rfl))
  (hfn:∀x,fn x=(start ai x).val (Ty.cq res):=by intro x;kernel_rfl):aG.Sound P g ⟨args,res,pre,fn⟩:=
 a_ ht hm q n jf start hf hs (fun x hp h=>hfn x▸LT.runs (heq x) (hr x hp h)) hb hl h0
end
def vi(x:Int):AV:=.int .i64 false x
def vb(x:Bool):AV:=.bool false x
def dc(t:Ty)(x:t.T):List AV:=dT ai t x
def en(l:List (Nat×AV)):Env:=l.foldl (fun e p=>e.put p.1 p.2) .leaf
def cw(F:Func)(l:List Nat):Code:=Code.Di (Dy F) l
def ow(F:Func)(l:List Nat):Array Oper:=opsOf (Code.Di (Dy F) l)
abbrev yI:Ty:=.int .i64
abbrev yU:Ty:=.int .u8
abbrev yB:Ty:=.slice yU
abbrev mY:Ty:=.slice yI
end Go.Ev
namespace Go.Ev
mutual
def AV.eqs:AV→AV→Bool
 | .int k c n,.int k' c' n'=>e_ k k'&&(c==c'&&decide (n=n'))
 | .bool c b,.bool c' b'=>c==c'&&b==b'
 | .bd b,.bd b'=>b==b'
 | .own i,.own i'=>Nat.beq i i'
 | .ptr i o,.ptr i' o'=>Nat.beq i i'&&Nat.beq o o'
 | .gY i n o,.gY i' n' o'=>Nat.beq i i'&&(decide (n=n')&&Nat.beq o o')
 | .bP,.bP=>true
 | .fE,.fE=>true
 | .fn f a c,.fn f' a' c'=>Nat.beq f f'&&(AV.Aq a a'&&AV.Aq c c')
 | .agg cs,.agg cs'=>AV.Aq cs cs'
 | .mC cs,.mC cs'=>AV.Aq cs cs'
 | _,_=>false
def AV.Aq:List AV→List AV→Bool
 | [], []=>true
 | a::r,b::s=>AV.eqs a b&&AV.Aq r s
 | _,_=>false
end
mutual
theorem AV.Fp:∀{a b:AV},AV.eqs a b=true→a=b
 | .int k c n,.int k' c' n',h=>by
   simp only[AV.eqs,Bool.and_eq_true,beq_iff_eq,decide_eq_true_eq] at h
   rw[eD h.1,h.2.1,h.2.2]
 | .bool c b,.bool c' b',h=>by
   simp only[AV.eqs,Bool.and_eq_true,beq_iff_eq] at h
   rw[h.1,h.2]
 | .bd b,.bd b',h=>by simp only[AV.eqs,beq_iff_eq] at h;rw[h]
 | .own i,.own i',h=>by rw[AV.eqs] at h;rw[Nat.eq_of_beq_eq_true h]
 | .ptr i o,.ptr i' o',h=>by
   rw[AV.eqs,Bool.and_eq_true] at h
   rw[Nat.eq_of_beq_eq_true h.1,Nat.eq_of_beq_eq_true h.2]
 | .gY i n o,.gY i' n' o',h=>by
   simp only[AV.eqs,Bool.and_eq_true,decide_eq_true_eq] at h
   rw[Nat.eq_of_beq_eq_true h.1,h.2.1,Nat.eq_of_beq_eq_true h.2.2]
 | .bP,.bP,_=>rfl
 | .fE,.fE,_=>rfl
 | .fn f a c,.fn f' a' c',h=>by
   simp only[AV.eqs,Bool.and_eq_true] at h
   rw[Nat.eq_of_beq_eq_true h.1,AV.oT h.2.1,AV.oT h.2.2]
 | .agg cs,.agg cs',h=>by rw[AV.eqs] at h;rw[AV.oT h]
 | .mC cs,.mC cs',h=>by rw[AV.eqs] at h;rw[AV.oT h]
theorem AV.oT:∀{a b:List AV},AV.Aq a b=true→a=b
 | [], [],_=>rfl
 | a::r,b::s,h=>by
   rw[AV.Aq,Bool.and_eq_true] at h
   rw[AV.Fp h.1,AV.oT h.2]
end
def AV.eqv:AV→AV→Bool
 | .bool _ a,.bool _ b=>a==b
 | .int k _ a,.int k' _ b=>e_ k k'&&decide (a=b)
 | x,y=>AV.eqs x y
theorem AV.Ki{a b:AV}(h:AV.eqv a b=true):fP a b:=by
 unfold AV.eqv at h
 split at h
 ·exact beq_iff_eq.1 h
 ·rw[Bool.and_eq_true,decide_eq_true_eq] at h
  exact⟨eD h.1,h.2⟩
 ·rw[AV.Fp h];exact mf _
def Tr.yO{R:Type}:Tr R→Tr R
 | .br b t e=>match b with|true=>t.yO|false=>e.yO
 | .need b t=>match b with|true=>t.yO|false=>.bad 190 ""
 | .eqs p t=>.eqs p t.yO
 | .same l r t=>match l.eqv r with|true=>t.yO|false=>.same l r t.yO
 | .and a b=>.and a.yO b.yO
 | t=>t
theorem Tr.kj{R:Type}{Q:R→Prop}{G:ei→Prop}:∀{t:Tr R},Tr.Ok Q G t.yO→Tr.Ok Q G t
 | .ret _,h | .more _,h | .bad _ _,h=>h
 | .br b t e,h=>by
   cases b with
   | true=>exact⟨fun _=>Tr.kj (t:=t) h,fun k=>(by cases k)⟩
   | false=>exact⟨fun k=>(by cases k),fun _=>Tr.kj (t:=e) h⟩
 | .need b t,h=>by
   cases b with
   | true=>exact⟨rfl,Tr.kj (t:=t) h⟩
   | false=>exact h.elim
 | .eqs _ t,h=>⟨h.1,Tr.kj (t:=t) h.2⟩
 | .same l r t,h=>by
   rw[Tr.yO] at h
   cases he:l.eqv r with
   | true=>rw[he] at h;exact⟨AV.Ki he,Tr.kj (t:=t) h⟩
   | false=>rw[he] at h;exact⟨h.1,Tr.kj (t:=t) h.2⟩
 | .and a b,h=>⟨Tr.kj (t:=a) h.1,Tr.kj (t:=b) h.2⟩
abbrev dw(R:Type):=List (Sum AV (Tr R))
def Tr.Iy{R:Type}(K:ei→Option (R×dw R×dw R))(t:Tr R):Option (R×dw R×dw R):=
 match t.j4 with
 | .ret y=>some (y,t.lefts [],t.gj [])
 | .more c=>match K c with
   | some (y,l,r)=>some (y,t.lefts l,t.gj r)
   | none=>none
 | _=>none
def vD{R:Type}(A:bK)(E:dE R)(n:Nat):Nat→ei→Option (R×dw R×dw R)
 | 0,_=>none
 | k+1,c=>Tr.Iy (vD A E n k) (run A E n (advance E.eH c)).yO
theorem yY{R:Type}{E:dE R}{Q:R→Prop}{G:ei→Prop}(hG:Closed E Q G){n:Nat}:∀{k:Nat} {c:ei} {y:R} {l r:dw R},vD ai E n k c=some (y,l,r)→l=r→Q y→G c
 | 0,_,_,_,_,h,_,_=>by cases h
 | k+1,c,y,l,r,h,hlr,hQ=>by
   refine hG.go n c (Tr.kj ?_)
   rw[vD] at h
   generalize (run ai E n (advance E.eH c)).yO=t at h ⊢
   unfold Tr.Iy at h
   cases hs:t.j4 with
   | ret y'=>
     rw[hs] at h
     cases h
     exact(Tr.gb hlr).2 (hs▸hQ)
   | more c'=>
     rw[hs] at h
     simp only at h
     cases hk:vD ai E n k c' with
     | none=>rw[hk] at h;cases h
     | some q=>
       obtain⟨y',l',r'⟩:=q
       rw[hk] at h
       cases h
       obtain⟨h1,h2⟩:=Tr.gb (Q:=Q) (G:=G) hlr
       exact h2 (hs▸yY hG hk h1 hQ)
   | _=>rw[hs] at h;cases h
def Xz.left{R:Type}:Option (R×dw R×dw R)→dw R
 | some q=>q.2.1
 | none=>[]
def Xz.right{R:Type}:Option (R×dw R×dw R)→dw R
 | some q=>q.2.2
 | none=>[]
end Go.Ev
namespace Go.Ev
section
variable (A:bK) {R:Type} (E:dE R) (ρ:Operand→AV) (m:Mem)
def NR(op:BinOp)(k:IntKind)(c:Bool)(a:Int)(y:AV):TV AV:=
 match y with
 | .int k' c' b=>match op with
   | .shl=>mJ A .shl k c a c' b
   | .shr=>mJ A .shr k c a c' b
   | op=>wK A op k c a k' c' b
 | _=>.bad 10
def Ov(ti:Option TI)(op:BinOp)(x y:AV):TV AV:=
 match x with
 | .int k c a=>NR A op k c a y
 | x=>y_ A m ti op x y
theorem Hu{ti:Option TI}{op:BinOp}{x y:AV}:Ov A m ti op x y=y_ A m ti op x y:=by
 cases x<;>rfl
def Rk(c a b:AV):TV AV:=
 match c with
 | .bool true v=>match v with|true=>.leaf a|false=>.leaf b
 | .bool false v=>.br v (.leaf a) (.leaf b)
 | _=>.bad 72
def Vh(x:AV):TV AV:=
 match x with
 | .ptr id off=>match m.at id with | .flat _ _=>.leaf (.ptr id off)|_=>.bad 73
 | .gY id i off=>match m.at id with | .arr _ _ _=>.leaf (.gY id i off)|_=>.bad 73
 | .lk t x off=>.leaf (.lk t x off)
 | .fn f a b=>.leaf (.fn f a b)
 | _=>.bad 73
def OB(s d:TypeId)(x:AV):Option (TV AV):=
 match x with
 | .int k c n=>some (ny A (E.ti.get s) (E.ti.get d) (.int k c n))
 | .str c n=>match E.ti.get d with
   | some {kind:=.str,.. }=>some (ny A (E.ti.get s) (E.ti.get d) (.str c n))
   | _=>none
 | .sl t l=>wN A (E.ti.get s) (E.ti.get d) E.ti.get t l
 | _=>none
def Xj(args:List Operand)(ts:List TypeId):TV AV:=
 match args,ts with
 | [x],t::_=>Au A (E.ti.get t) m (ρ x)
 | _,_=>.bad 76
def Dq(b:Builtin)(args:Array Operand)(ts:Array TypeId):Option (TV AV):=
 match b with
 | .len=>some (Xj A E ρ m args.toList ts.toList)
 | .min=>some (AN A (args.toList.map ρ))
 | .max=>some (Bb A (args.toList.map ρ))
 | _=>none
def Gh(c:Callee)(args:Array Operand)(ts:Array TypeId):Option (TV AV):=
 match c with
 | .builtin b=>Dq A E ρ m b args ts
 | _=>none
def SA(f:Fn)(first caps:Array Operand):Option (TV AV):=
 match f with
 | .func f=>some (.leaf (.fn f (first.toList.map ρ) (caps.toList.map ρ)))
 | _=>none
def FW(v:AV)(i:Nat):TV AV:=
 match v with
 | .mC vs=>oh 74 vs[i]?
 | _=>.bad 75
def z_(o:Oper):Option (TV AV):=
 match o.op with
 | .move x=>some (.leaf (ρ x))
 | .assign x=>some (.leaf (ρ x))
 | .load t p=>some (qo A (E.ti.get t) m (ρ p))
 | .fieldAddr t x i=>some (jX m (E.ti.get t) (ρ x) i)
 | .field t x i=>some (rD (E.ti.get t) (ρ x) i)
 | .indexAddr t x i=>some (jM A (E.ti.get t) E.ti.get m (ρ x) (ρ i))
 | .index t x i=>some (rv A (E.ti.get t) E.ti.get (ρ x) (ρ i))
 | .binOp op t x y _=>some (Ov A m (E.ti.get t) op (ρ x) (ρ y))
 | .unOp op _ x=>some (Gu A op (ρ x))
 | .pick c a b=>some (Rk (ρ c) (ρ a) (ρ b))
 | .nilCheck x=>some (Vh m (ρ x))
 | .convert s d x=>OB A E s d (ρ x)
 | .makeFunc f first caps=>SA ρ f first caps
 | .slice t x lo hi mx=>some (rA A (E.ti.get t) E.ti.get m (ρ x) (lo.map ρ) (hi.map ρ) (mx.map ρ))
 | .extract t i=>some (FW (ρ t) i)
 | .build t ps=>some (rF m (E.ti.get t) E.ti.get (ps.toList.map fun p=>(p.1,ρ p.2)))
 | .call c=>Gh A E ρ m c.callee c.args c.argTypes
 | _=>none
theorem Ib(o:Oper):z_ A E ρ m o=fG A E ρ m o:=by
 obtain⟨dst,op,ty,pos,after,guard⟩:=o
 cases op<;>(try rfl)
 case binOp op t x y g=>exact congrArg some (Hu A m)
 case makeFunc f a b=>cases f<;>rfl
 case call c=>
  obtain⟨cal,args,ts⟩:=c
  cases cal with
  | builtin b=>cases b<;>rfl
  | _=>rfl
end
abbrev ZT(R:Type):=Env→Mem→Array Oper→List Nat→Tr R→Tr R
abbrev KT(R:Type):=FuncId→Nat→Env→List aR→List Nat→Option Nat→List aH→Mem→Tr R
section
variable (A:bK) {R:Type} (E:dE R) (V:(Operand→AV)→Mem→Oper→Option (TV AV)) (Z:ZT R) (K:KT R)
def Wi(fs:List aH)(m:Mem)(h:aH):Tr R:=match h with|⟨fn,n,env,todo,marks,aU⟩=>K fn n env todo marks aU fs m
def Vv(env:Env)(m:Mem)(todo:List aR)(t:Tr R):Tr R:=
 match todo with
 | .cK all _ _ bs::_=>Z env m all bs t
 | _=>t
def QD(gs:List aH)(m:Mem)(g:aH):Tr R:=match g with|⟨fn,n,env,todo,marks,aU⟩=>Vv Z env m todo (K fn n env todo marks aU gs m)
def IT(gs:List aH)(m:Mem)(o:Option aH)(e:Nat):Tr R:=
 match o with
 | some g=>QD Z K gs m g
 | none=>.bad e ""
def Rw(fs:List aH)(m:Mem)(r:Option (List AV)):Tr R:=
 match r with
 | none=>.bad 142 ""
 | some vs=>match fs with
   | []=>match E.fin (dO vs) m with
     | some y=>.ret y
     | none=>.bad 143 ""
   | g::gs=>IT Z K gs m (finish g (dO vs)) 144
def VQ(fn:FuncId)(env:Env)(fs:List aH)(m:Mem):Tr R:=
 match look E.jo fn with
 | none=>.bad 141 ""
 | some F=>Rw E Z K fs m (fq A E env m F.results.toList)
def K_(fs:List aH)(mem:Mem)(l:Nat)(jump:Option Code):Tr R:=
 match mem.at l with
 | .loop r=>match fs with
   | g::gs=>IT Z K gs (mem.set l (.loop {r with state:=qV jump,pending:=jump})) (finish g (.bool true (tf jump))) 145
   | []=>.bad 146 ""
 | _=>.bad 147 ""
def xw(fn:FuncId)(env:Env)(marks:List Nat)(aU:Option Nat)(fs:List aH)(mem:Mem)(jump:Option Code):Tr R:=
 match aU with
 | none=>match gx marks mem with
   | none=>.bad 139 ""
   | some m=>VQ A E Z K fn env fs m
 | some l=>K_ Z K fs mem l jump
def Ff(g:FuncId)(pos:String)(aa:List AV)(below:aH)(fs:List aH)(mem:Mem):Tr R:=
 match look E.jo g with
 | none=>.bad 163 pos
 | some G=>match fO g G aa with
   | none=>.bad 164 pos
   | some h=>Wi K (below::fs) mem h
def Dm(l:Nat)(pos:String)(aa:List AV)(below:aH)(fs:List aH)(mem:Mem):Tr R:=
 match mem.at l with
 | .loop r=>match Nat.beq r.params.length aa.length&&r.params.all (fun p=>Nat.blt p r.n) with
   | true=>K r.fn r.n (l6 r.params aa r.env) [.code r.assign,.beginRound,.code r.body] [] (some l) (below::fs) mem
   | false=>.bad 165 pos
 | _=>.bad 166 pos
def Sl(fn:FuncId)(n:Nat)(env:Env)(marks:List Nat)(aU:Option Nat)(fs:List aH)(mem:Mem)(k:List aR)(a b:Code)(x:AV):Tr R:=
 match x with
 | .bool c1 v=>match c1 with
   | true=>match v with
     | true=>K fn n env (.code a::k) marks aU fs mem
     | false=>K fn n env (.code b::k) marks aU fs mem
   | false=>.br v (K fn n env (.code a::k) marks aU fs mem) (K fn n env (.code b::k) marks aU fs mem)
 | _=>.bad 154 ""
def Nw(fn:FuncId)(n:Nat)(env:Env)(marks:List Nat)(aU:Option Nat)(fs:List aH)(mem:Mem)(id:Nat)(o:Option (List aR)):Tr R:=
 match o with
 | some k=>K fn n env k marks aU fs mem
 | none=>match aU with
   | some l=>xw A E Z K fn env marks (some l) fs mem (some (.exit id))
   | none=>.bad 155 ""
def TX(fn:FuncId)(n:Nat)(env:Env)(marks:List Nat)(aU:Option Nat)(fs:List aH)(mem:Mem)(l:Nat)(o:Option (List aR)):Tr R:=
 match o with
 | some k=>K fn n env k marks aU fs mem
 | none=>match aU with
   | some l'=>xw A E Z K fn env marks (some l') fs mem (some (.goto l))
   | none=>.bad 156 ""
def K9(fn:FuncId)(n:Nat)(env:Env)(marks:List Nat)(aU:Option Nat)(fs:List aH)(mem:Mem)(k:List aR)(x:AV)(ps:Array Nat)(a b:Code):Tr R:=
 match x with
 | .fn g [] caps=>
   let dm:Option (List Nat×Mem):=match aU with
    | none=>some (mem.length::marks,mem ++ [.wS])
    | some l0=>match mem.at l0 with
      | .loop _=>some (marks,mem)
      | _=>none
   match dm with
   | none=>.bad 158 ""
   | some (marks,m)=>match look E.jo g with
     | none=>.bad 159 ""
     | some G=>match fO g G (.yield m.length::caps) with
       | none=>.bad 160 ""
       | some h=>Wi K (⟨fn,n,env,.gI m.length::k,marks,aU⟩::fs) (m ++ [.loop {fn:=fn,n:=n,env:=env,params:=ps.toList,assign:=a,body:=b,state:=0,pending:=none}]) h
 | _=>.bad 161 ""
def Gx(fn:FuncId)(n:Nat)(env:Env)(marks:List Nat)(aU:Option Nat)(fs:List aH)(mem:Mem)(k:List aR)(id:Nat)(os:Array Oper)(draw:Bool):Tr R:=
 match mm E.jf fn (some id) with
 | some ks=>.more (canon ks ⟨⟨fn,n,env,.code (.region id os draw)::k,marks,aU⟩::fs,mem⟩)
 | none=>match draw with
   | false=>K fn n env (.ops os os.toList::k) marks aU fs mem
   | true=>match gw E.eH os with
     | some (ms,is)=>K fn n env (.cK os ms is []::k) marks aU fs mem
     | none=>.bad 175 ""
def Sg(fn:FuncId)(n:Nat)(env:Env)(marks:List Nat)(aU:Option Nat)(fs:List aH)(mem:Mem)(k:List aR)(x:Code):Tr R:=
 match x with
 | .skip=>K fn n env k marks aU fs mem
 | .label _=>K fn n env k marks aU fs mem
 | .ret=>xw A E Z K fn env marks aU fs mem (some .ret)
 | .seq a b=>K fn n env (.code a :: .code b::k) marks aU fs mem
 | .cond x a b=>Sl K fn n env marks aU fs mem k a b (dd env x)
 | .block id b=>K fn n env (.code b :: .inBlock id::k) marks aU fs mem
 | .loop b=>K fn n env (.inLoop b::k) marks aU fs mem
 | .scope b=>K fn n env (.code b :: .inScope b::k) marks aU fs mem
 | .exit id=>Nw A E Z K fn n env marks aU fs mem id (eF id k)
 | .goto l=>TX A E Z K fn n env marks aU fs mem l (eB l k)
 | .refuse _=>.bad 157 ""
 | .rangeFunc x ps a b=>K9 E K fn n env marks aU fs mem k (dd env x) ps a b
 | .region id os draw=>Gx E K fn n env marks aU fs mem k id os draw
def XP(fn:FuncId)(n:Nat)(marks:List Nat)(aU:Option Nat)(fs:List aH)(mem:Mem)(k:List aR)(all:Array Oper)(rest:List Oper)(o:Oper)(env:Env)(f:AV)(args:Array Operand):Tr R:=
 match f with
 | .fn g first caps=>match look E.eH g with
   | some s=>(jd A s mem (first++(args.toList.map (dd env)++caps))).bind o.pos fun p=>K fn n (env.dG o.dst p.1) (.ops all rest::k) marks aU fs p.2
   | none=>match look E.Av g with
     | some s=>(jI A s mem (first++(args.toList.map (dd env)++caps))).bind o.pos fun p=>K fn n (env.dG o.dst p.1) (.ops all rest::k) marks aU fs p.2
     | none=>Ff E K g o.pos (first++(args.toList.map (dd env)++caps)) ⟨fn,n,env,.ops all (o::rest)::k,marks,aU⟩ fs mem
 | .yield l=>Dm K l o.pos (args.toList.map (dd env)) ⟨fn,n,env,.ops all (o::rest)::k,marks,aU⟩ fs mem
 | _=>.bad 167 o.pos
def W7(fn:FuncId)(n:Nat)(marks:List Nat)(aU:Option Nat)(fs:List aH)(mem:Mem)(k:List aR)(all:Array Oper)(rest:List Oper)(o:Oper)(env:Env):Tr R:=
 match o.op with
 | .call {callee:=.value x,args,.. }=>XP A E K fn n marks aU fs mem k all rest o env (dd env x) args
 | _=>(kz A E fn (dd env) mem o).bind o.pos fun p=>K fn n (env.dG o.dst p.1) (.ops all rest::k) marks aU fs p.2
def Vw(fn:FuncId)(n:Nat)(marks:List Nat)(aU:Option Nat)(fs:List aH)(mem:Mem)(k:List aR)(all:Array Oper)(rest:List Oper)(o:Oper)(env:Env):Tr R:=
 match V (dd env) mem o with
 | some tv=>tv.bind o.pos fun v=>K fn n (env.dG o.dst v) (.ops all rest::k) marks aU fs mem
 | none=>W7 A E K fn n marks aU fs mem k all rest o env
def Vp(fn:FuncId)(n:Nat)(env:Env)(marks:List Nat)(aU:Option Nat)(fs:List aH)(mem:Mem)(k:List aR)(all:Array Oper)(rest:List Oper):Tr R:=
 match rest with
 | []=>K fn n env k marks aU fs mem
 | o::rest=>match gp n o.dst with
   | false=>.bad 162 o.pos
   | true=>oE all env o (fun env=>Vw A E V K fn n marks aU fs mem k all rest o env) (fun env=>K fn n (env.dG o.dst (.mC [])) (.ops all rest::k) marks aU fs mem)
def fV(m:Mem)(ρ:Operand→AV)(o:Oper):Option (TV AV):=
 match V ρ m o with
 | some tv=>some tv
 | none=>mG A E m ρ o
def ZS(fn:FuncId)(n:Nat)(marks:List Nat)(aU:Option Nat)(fs:List aH)(mem:Mem)(k:List aR)(all:Array Oper)(ms:List Nat)(i:Nat)(rest bs:List Nat)(o:Oper)(env:Env)(f:AV)(args:Array Operand):Tr R:=
 match f with
 | .fn g first caps=>match look E.eH g with
   | some s=>(jd A s mem (first++(args.toList.map (dd env)++caps))).bind o.pos fun p=>Z (env.dG o.dst p.1) p.2 all bs (K fn n (env.dG o.dst p.1) (.cK all ms rest bs::k) marks aU fs p.2)
   | none=>match look E.Av g with
     | some s=>(jI A s mem (first++(args.toList.map (dd env)++caps))).bind o.pos fun p=>Z (env.dG o.dst p.1) p.2 all bs (K fn n (env.dG o.dst p.1) (.cK all ms rest bs::k) marks aU fs p.2)
     | none=>Ff E K g o.pos (first++(args.toList.map (dd env)++caps)) ⟨fn,n,env,.iW all ms i rest bs::k,marks,aU⟩ fs mem
 | .yield l=>Dm K l o.pos (args.toList.map (dd env)) ⟨fn,n,env,.iW all ms i rest bs::k,marks,aU⟩ fs mem
 | _=>.bad 167 o.pos
def ZH(fn:FuncId)(n:Nat)(marks:List Nat)(aU:Option Nat)(fs:List aH)(mem:Mem)(k:List aR)(all:Array Oper)(ms:List Nat)(i:Nat)(rest bs:List Nat)(o:Oper)(env:Env):Tr R:=
 match o.op with
 | .call {callee:=.value x,args,.. }=>ZS A E Z K fn n marks aU fs mem k all ms i rest bs o env (dd env x) args
 | _=>(kz A E fn (dd env) mem o).bind o.pos fun p=>Z (env.dG o.dst p.1) p.2 all bs (K fn n (env.dG o.dst p.1) (.cK all ms rest bs::k) marks aU fs p.2)
def Zt(fn:FuncId)(n:Nat)(marks:List Nat)(aU:Option Nat)(fs:List aH)(mem:Mem)(k:List aR)(all:Array Oper)(ms:List Nat)(i:Nat)(rest bs:List Nat)(o:Oper)(env:Env):Tr R:=
 match ig all bs o.dst with
 | false=>.bad 178 o.pos
 | true=>match V (dd env) mem o with
   | some tv=>tv.bind o.pos fun v=>Z (env.dG o.dst v) mem all bs (K fn n (env.dG o.dst v) (.cK all ms rest bs::k) marks aU fs mem)
   | none=>ZH A E Z K fn n marks aU fs mem k all ms i rest bs o env
def ZI(fn:FuncId)(n:Nat)(marks:List Nat)(aU:Option Nat)(fs:List aH)(mem:Mem)(k:List aR)(all:Array Oper)(ms bs l:List Nat)(pos:String)(env:Env)(j:Nat):Tr R:=
 match vx E.eH all ms l j with
 | some (ms',is)=>K fn n env (.cK all ms' is bs::k) marks aU fs mem
 | none=>.bad 180 pos
def ZE(fn:FuncId)(n:Nat)(marks:List Nat)(aU:Option Nat)(fs:List aH)(mem:Mem)(k:List aR)(all:Array Oper)(ms:List Nat)(i:Nat)(rest bs:List Nat)(o:Oper)(env:Env):Tr R:=
 match fV A E V mem (dd env) o,ig all bs o.dst&&nW all o with
 | some tv,true=>tv.bind o.pos fun v=>K fn n (env.dG o.dst v) (.cK all ms rest (i::bs)::k) marks aU fs mem
 | _,_=>match rest.all (fun j=>(ms.getD j 0).testBit i) with
   | false=>vP (ZI E K fn n marks aU fs mem k all ms bs (i::rest) o.pos env) ((i::rest).filter (wE ms (i::rest)))
   | true=>Zt A E V Z K fn n marks aU fs mem k all ms i rest (iY (ms.getD i 0) bs) o env
def U1(fn:FuncId)(n:Nat)(marks:List Nat)(aU:Option Nat)(fs:List aH)(mem:Mem)(k:List aR)(all:Array Oper)(ms:List Nat)(i:Nat)(rest bs:List Nat)(o:Oper)(env:Env):Tr R:=
 match ig all bs o.dst&&nW all o with
 | true=>K fn n (env.dG o.dst (.mC [])) (.cK all ms rest (i::bs)::k) marks aU fs mem
 | false=>.bad 179 o.pos
def N4(fn:FuncId)(n:Nat)(env:Env)(marks:List Nat)(aU:Option Nat)(fs:List aH)(mem:Mem)(k:List aR)(all:Array Oper)(ms bs rest:List Nat):Tr R:=
 match rest with
 | []=>K fn n env k marks aU fs mem
 | i::rest=>match all[i]? with
   | none=>.bad 176 ""
   | some o=>match gp n o.dst&&(BN all (ms.getD i 0) bs o&&lh (ms.getD i 0) o) with
     | false=>.bad 177 o.pos
     | true=>xb all bs env o (ZE A E V Z K fn n marks aU fs mem k all ms i rest bs o) (U1 K fn n marks aU fs mem k all ms i rest bs o)
def Kk(fn:FuncId)(n:Nat)(env:Env)(marks:List Nat)(aU:Option Nat)(fs:List aH)(mem:Mem)(k:List aR)(l:Nat):Tr R:=
 match mem.at l with
 | .loop r=>match Nat.beq r.state 1 with
   | true=>.bad 149 ""
   | false=>K fn n env (match r.pending with|some j=>.code j::k|none=>k) marks aU fs (mem.set l (.loop {r with state:=3}))
 | _=>.bad 150 ""
def JP(fn:FuncId)(n:Nat)(env:Env)(marks:List Nat)(aU:Option Nat)(fs:List aH)(mem:Mem)(k:List aR):Tr R:=
 match aU with
 | some l=>match mem.at l with
   | .loop r=>match Nat.beq r.state 0 with
     | true=>K fn n env k marks (some l) fs (mem.set l (.loop {r with state:=1}))
     | false=>.bad 151 ""
   | _=>.bad 152 ""
 | none=>.bad 153 ""
def RS(fn:FuncId)(n:Nat)(env:Env)(marks:List Nat)(aU:Option Nat)(fs:List aH)(mem:Mem)(k:List aR)(body:Code):Tr R:=
 match mm E.stops fn (dI body) with
 | some ks=>.more (canon ks ⟨⟨fn,n,env,.inLoop body::k,marks,aU⟩::fs,mem⟩)
 | none=>K fn n env (.code body :: .inLoop body::k) marks aU fs mem
def NZ(fn:FuncId)(n:Nat)(env:Env)(marks:List Nat)(aU:Option Nat)(fs:List aH)(mem:Mem)(k:List aR)(i:aR):Tr R:=
 match i with
 | .inBlock _=>K fn n env k marks aU fs mem
 | .inScope _=>K fn n env k marks aU fs mem
 | .inLoop body=>RS E K fn n env marks aU fs mem k body
 | .gI _=>.bad 148 ""
 | .iW _ _ _ _ _=>.bad 148 ""
 | .fS l=>Kk K fn n env marks aU fs mem k l
 | .beginRound=>JP K fn n env marks aU fs mem k
 | .code x=>Sg A E Z K fn n env marks aU fs mem k x
 | .ops all rest=>Vp A E V K fn n env marks aU fs mem k all rest
 | .cK all ms rest bs=>N4 A E V Z K fn n env marks aU fs mem k all ms bs rest
def Fj(fn:FuncId)(n:Nat)(env:Env)(todo:List aR)(marks:List Nat)(aU:Option Nat)(fs:List aH)(mem:Mem):Tr R:=
 match todo with
 | []=>xw A E Z K fn env marks aU fs mem none
 | i::k=>NZ A E V Z K fn n env marks aU fs mem k i
end
section
variable (A:bK) {R:Type} (E:dE R) (V:(Operand→AV)→Mem→Oper→Option (TV AV)) (Z:ZT R)
def GH(n:Nat):KT R:=
 Nat.rec (motive:=fun _=>KT R) (fun fn n env todo marks aU fs mem=>.more ⟨⟨fn,n,env,todo,marks,aU⟩::fs,mem⟩) (fun _ K=>Fj A E V Z K) n
def tu(env:Env)(m:Mem)(all:Array Oper):List Nat→Tr R→Tr R
 | [],t=>t
 | b::bs,t=>match all[b]? with
   | none=>.bad 170 ""
   | some o=>match gg all env o with
     | none=>.bad 171 o.pos
     | some false=>yj env o.dst (.mC []) (tu env m all bs t)
     | some true=>match fV A E V m (dd env) o with
       | none=>.bad 172 o.pos
       | some tv=>tv.bind o.pos fun v=>yj env o.dst v (tu env m all bs t)
theorem yG{env:Env}{m:Mem}{all:Array Oper}:∀{bs:List Nat} {t:Tr R},tu A E (fG A E) env m all bs t=gT A E env m all bs t
 | [],_=>rfl
 | b::bs,t=>by
   rw[tu,gT]
   cases all[b]? with
   | none=>rfl
   | some o=>
     simp only[yG (bs:=bs)]
     rfl
theorem B6{n:Nat}{fn:FuncId}{nn:Nat}{env:Env}{todo:List aR}{marks:List Nat}{aU:Option Nat}{fs:List aH}{mem:Mem} :
  Fj A E (fG A E) (gT A E) (fun fn nn env todo marks aU fs mem=>run A E n ⟨⟨fn,nn,env,todo,marks,aU⟩::fs,mem⟩) fn nn env todo marks aU fs mem=run A E (n+1) ⟨⟨fn,nn,env,todo,marks,aU⟩::fs,mem⟩:=by
 cases todo with
 | nil=>rfl
 | cons i k=>
   cases i with
   | code x=>
     cases x with
     | exit id=>cases aU<;>rfl
     | goto l=>cases aU<;>rfl
     | _=>rfl
   | ops all rest=>cases rest<;>rfl
   | cK all ms rest bs=>cases rest<;>rfl
   | beginRound=>cases aU<;>rfl
   | _=>rfl
theorem x9:∀(n:Nat),GH A E (fG A E) (gT A E) n=fun fn nn env todo marks aU fs mem=>run A E n ⟨⟨fn,nn,env,todo,marks,aU⟩::fs,mem⟩
 | 0=>rfl
 | n+1=>by
   funext fn nn env todo marks aU fs mem
   show Fj A E (fG A E) (gT A E) (GH A E (fG A E) (gT A E) n) fn nn env todo marks aU fs mem=_
   rw[x9 n,B6]
theorem Ip:(fun ρ m o=>z_ A E ρ m o)=fG A E:=by
 funext ρ m o;exact Ib A E ρ m o
def oZ(n:Nat)(c:ei):Tr R:=
 match c with
 | ⟨f::fs,mem⟩=>Wi (GH A E (z_ A E) (tu A E (z_ A E)) n) fs mem f
 | c=>run A E n c
theorem s7{n:Nat}{c:ei}:oZ A E n c=run A E n c:=by
 obtain⟨frames,mem⟩:=c
 cases frames with
 | nil=>rfl
 | cons f fs=>
   obtain⟨fn,nn,env,todo,marks,aU⟩:=f
   show GH A E (z_ A E) (tu A E (z_ A E)) n fn nn env todo marks aU fs mem=_
   rw[show z_ A E=fG A E from Ip A E,show tu A E (fG A E)=gT A E by funext env m all bs t;exact yG A E,x9]
end
def tJ{R:Type}(A:bK)(E:dE R)(n:Nat)(k:Nat):ei→Option (R×dw R×dw R):=
 Nat.rec (motive:=fun _=>ei→Option (R×dw R×dw R)) (fun _=>none) (fun _ K c=>Tr.Iy K (oZ A E n (advance E.eH c)).yO) k
theorem vB{R:Type}{A:bK}{E:dE R}{n:Nat}:∀{k:Nat},tJ A E n k=vD A E n k
 | 0=>rfl
 | k+1=>by
   funext c
   show Tr.Iy (tJ A E n k) (oZ A E n (advance E.eH c)).yO=_
   rw[vB,s7];rfl
def Tr.xL{R:Type}(K:ei→Option (ei×dw R×dw R))(t:Tr R):Option (ei×dw R×dw R):=
 match t.j4 with
 | .more c=>match K c with
   | some (y,l,r)=>some (y,t.lefts l,t.gj r)
   | none=>none
 | _=>none
def reach{R:Type}(A:bK)(E:dE R)(n:Nat)(k:Nat):ei→Option (ei×dw R×dw R):=
 Nat.rec (motive:=fun _=>ei→Option (ei×dw R×dw R)) (fun c=>some (c, [], [])) (fun _ K c=>Tr.xL K (oZ A E n (advance E.eH c)).yO) k
def FY{R:Type}(E:dE R)(c c':ei):Prop:=∀(Q:R→Prop) (G:ei→Prop),Closed E Q G→G c'→G c
theorem FY.trans{R:Type}{E:dE R}{a b c:ei}(h1:FY E a b)(h2:FY E b c):FY E a c:=fun Q G hG h=>h1 Q G hG (h2 Q G hG h)
theorem yA{R:Type}{E:dE R}{Q:R→Prop}{G:ei→Prop}(hG:Closed E Q G){n:Nat}:∀{k:Nat} {c c':ei} {l r:dw R},reach ai E n k c=some (c',l,r)→l=r→G c'→G c
 | 0,c,c',l,r,h,_,hc=>by
   have h:some (c,([]:dw R),([]:dw R))=some (c',l,r):=h
   cases h;exact hc
 | k+1,c,c',l,r,h,hlr,hc=>by
   have h:Tr.xL (reach ai E n k) (oZ ai E n (advance E.eH c)).yO=some (c',l,r):=h
   rw[s7] at h
   refine hG.go n c (Tr.kj ?_)
   generalize (run ai E n (advance E.eH c)).yO=t at h ⊢
   unfold Tr.xL at h
   cases hs:t.j4 with
   | more c2=>
     rw[hs] at h
     simp only at h
     cases hk:reach ai E n k c2 with
     | none=>rw[hk] at h;cases h
     | some q=>
       obtain⟨y',l',r'⟩:=q
       rw[hk] at h
       cases h
       obtain⟨h1,h2⟩:=Tr.gb (Q:=Q) (G:=G) hlr
       exact h2 (hs▸yA hG hk h1 hc)
   | _=>rw[hs] at h;cases h
def En.left{R:Type}:Option (ei×dw R×dw R)→dw R
 | some q=>q.2.1
 | none=>[]
def En.right{R:Type}:Option (ei×dw R×dw R)→dw R
 | some q=>q.2.2
 | none=>[]
theorem UH{R:Type}{E:dE R}(n k:Nat){c c':ei}(h1:(reach ai E n k c).map Prod.fst=some c')(h2:En.left (reach ai E n k c)=En.right (reach ai E n k c)):FY E c c':=fun Q G hG h=>by
 cases hd:reach ai E n k c with
 | none=>rw[hd] at h1;cases h1
 | some q=>
   obtain⟨z,l,r⟩:=q
   rw[hd] at h1 h2
   cases h1
   exact yA hG hd h2 h
section
variable {P:Program} {ti:PT TI} (ht:fv P ti) (hm:P.follows .mixedOrders=true) {g:FuncId} {F:Func} {res:List Ty} {jo:List (FuncId×Func)} {eH:List (FuncId×aG)} {y:Ty.Ts res}
include ht hm
theorem wM(n k:Nat)(stops jf:List Stop)(hf:s6 P ((g,F)::jo))(hs:sI P eH)(c:ei)
  (h0:FY (CO ti ai res ((g,F)::jo) eH stops jf) (jm g F []) c)
  (h1:(tJ ai (CO ti ai res ((g,F)::jo) eH stops jf) n k c).map Prod.fst=some y)
  (h2:Xz.left (tJ ai (CO ti ai res ((g,F)::jo) eH stops jf) n k c)=Xz.right (tJ ai (CO ti ai res ((g,F)::jo) eH stops jf) n k c))
  (hb:F.body.isSome=true:=by kernel_rfl) (hl:(Nat.ble 0 F.ntmps&&Nat.ble F.ntmps 65535)=true:=by kernel_rfl):aG.Sound P g ⟨[],res,tt,fun _=>y⟩:=
 oi (s:=⟨[],res,tt,fun _=>y⟩) (E:=CO ti ai res ((g,F)::jo) eH stops jf) ⟨ht,hf,hs,hm,fun _ _ h=>by cases h⟩ rfl (show look ((g,F)::jo) g=some F by rw[look,bH.2 rfl]) hb 0 fun x hp hx=>by
  rw[Bool.and_eq_true] at hl
  obtain⟨h,hen⟩:=qw (g:=g) (aa:=[]) hb (Nat.zero_le _) (Nat.le_of_ble_eq_true hl.2)
  refine⟨h,hen,fun G hG=>?_⟩
  rw[jm,hen] at h0
  refine h0 _ G hG ?_
  rw[vB] at h1 h2
  cases hd:vD ai (CO ti ai res ((g,F)::jo) eH stops jf) n k c with
  | none=>rw[hd] at h1;cases h1
  | some q=>
    obtain⟨z,l,r⟩:=q
    rw[hd] at h1 h2
    exact yY hG hd h2 (Option.some.inj h1)
end
end Go.Ev
