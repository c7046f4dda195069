/-
  PROVED: the evaluator: regions that draw their order, the theorem on the whole, contracts of functions, and from a contract to a law. Conditions: the type table, the functions and the contracts fit the program.
-/
import Derived.Test.YtjceiokllpmnkaaGreatEvB
import Derived.KernelRfl
import Derived.Laws.StructEq
import Derived.WalkKit
import Derived.ProofKit
import Derived.OpenShut
import Derived.SizedLaws
import Derived.Carry
import Derived.IntWalk
set_option linter.unusedVariables false
set_option linter.unusedSimpArgs false
set_option linter.unusedSectionVars false
namespace Go.Ev
section
variable {P:Program} {R:Type} {E:fE R} {w0:World} {I0:Nat→Prop} {f0:FuncId} {Fin:R→Value→World→Prop} {Q:R→Prop}
variable {w:World} {S:St} {m:Mem} {fr:Frame} {fs:List aV} {frs cs:List Frame}
variable {n:Nat}
theorem wF:∀{ps:List Nat} {aa:List AV} {us:List Value} {env:Env} {tmps:Array Value} {nn:Nat},bC w S m aa us→ps.length=aa.length→(∀p∈ps,p<nn)→tmps.size=nn→nn≤65535→(∀i,CR w S m (env.at i) (tmps.getD i undef))→
  ((ps.zip us).foldl (fun tmps (t,a)=>tmps.setIfInBounds t a) tmps).size=nn∧∀i,CR w S m ((oq ps aa env).at i) (((ps.zip us).foldl (fun tmps (t,a)=>tmps.setIfInBounds t a) tmps).getD i undef)
 | [],aa,us,env,tmps,nn,_,_,_,hs,_,he=>by
   simp only[List.zip_nil_left,List.foldl_nil,oq]
   exact⟨hs,he⟩
 | p::ps, [],us,env,tmps,nn,_,hl,_,_,_,_=>by simp at hl
 | p::ps,a::aa,us,env,tmps,nn,hc,hl,hp,hs,hn,he=>by
   obtain⟨u,r,rfl,h1,h2⟩:=cu.1 hc
   simp only[List.zip_cons_cons,List.foldl_cons,oq]
   have hpn:=hp p List.mem_cons_self
   refine wF (nn:=nn) h2 (by simpa using hl) (fun q hq=>hp q (List.mem_cons_of_mem _ hq)) (by simp[hs]) hn fun i=>?_
   rw[Env.qm (by omega)]
   simp only[Array.getD_eq_getD_getElem?,Array.getElem?_setIfInBounds]
   by_cases hi:i=p
   ·subst hi;simp[hs,hpn,h1]
   ·rw[if_neg hi,if_neg (Ne.symm hi),←Array.getD_eq_getD_getElem?];exact he i
theorem ug{α β γ:Type}(f:γ→α×β→γ)(x:γ)(a:Array α)(b:Array β):(a.zip b).foldl f x=(a.toList.zip b.toList).foldl f x:=by
 rw[←Array.foldl_toList,Array.toList_zip]
theorem vz{ρ:Operand→Value}{x:Operand}{args:Array Operand}{ats:Array TypeId}{t:TypeId}{l:Nat}{r:Loop}(hx:ρ x=.func (.yield l) #[] #[])(h:w.heap[l]? = some (.loop r))(hs:args.size=r.params.size) :
  (do let d ←resolve ρ {callee:=.value x,args:=args,argTypes:=ats} t;invoke d.target d.args:Sem Next).run P w =
    .ok (.round l r.fn ((r.params.zip (args.map ρ)).foldl (fun tmps (t,a)=>tmps.setIfInBounds t a) r.tmps) r.assign r.body) w:=by
 simp only[resolve,hx,Deferred.ofValue,Sem.run_bind,Sem.run_pure,Result.andThen_ok,invoke,Array.empty_append]
 exact run_yield h (by simpa using hs)
theorem wL{ρa:Operand→AV}{ρc:Operand→Value}(hρ:∀x,CR w S m (ρa x) (ρc x))(l:Array Operand):bC w S m (l.toList.map ρa) (l.map ρc).toList:=by
 rw[Array.toList_map];exact s_ hρ l.toList
theorem BV(hP:Fits P E Fin w0 I0)(ih:∀c,Tr.Ok Q (Good P E w0 I0 f0 Fin Q) (run ah E n c)→Good P E w0 I0 f0 Fin Q c)
  {all:Array Oper} {i:Nat} {l:List Nat} {kc:List Item} {o:Oper} {ρ:Operand→AV} {fn:FuncId} {below:aV} {next:AV→Mem→Tr R}
  (hW:WR w0 w S m) (hI:∀b,S.I b→I0 b∨w0.heap.size≤b) (hfs:tV w S m fs frs) (hB:qW f0 (below::fs)) (hm:fr.mode=.run)
  (ht:fr.todo=.inRegion all (i::l)::kc) (ho:all[i]? = some o) (hw:Region.wanted o (yielded all fr.tmps)=true)
  (hρ:∀x∈o.op.operands.toList,CR w S m (ρ x) (fr.eval x)) (hbelow:FR w S m below fr)
  (hnext:∀v m' w' S' z,Step w0 w S m w' S' m'→CR w' S' m' v z→Tr.Ok Q (Good P E w0 I0 f0 Fin Q) (next v m')→Ends P f0 Fin Q (fr.finish z) frs cs w')
  (h:Tr.Ok Q (Good P E w0 I0 f0 Fin Q) (match jG ah E ρ m o with
        | some tv=>tv.bind o.pos fun v=>next v m
        | none=>match o.op with
          | .call {callee:=.value x,args,.. }=>match ρ x with
            | .fn g first caps=>match look E.gw g with
              | some s=>(k6 ah s m (first++(args.toList.map ρ++caps))).bind o.pos fun p=>next p.1 p.2
              | none=>match look E.mg g with
                | none=>.bad 163 o.pos
                | some G=>match gN g G (first++(args.toList.map ρ++caps)) with
                  | none=>.bad 164 o.pos
                  | some h=>run ah E n {frames:=h::below::fs,mem:=m}
            | .yield l=>match m.at l with
               | .loop r=>match Nat.beq r.params.length (args.toList.map ρ).length&&r.params.all (fun p=>Nat.blt p r.n) with
                 | true=>run ah E n {frames:={fn:=r.fn,n:=r.n,env:=oq r.params (args.toList.map ρ) r.env,todo:=[.code r.assign,.beginRound,.code r.body],marks:=[],ck:=some l}::below::fs,mem:=m}
                 | false=>.bad 165 o.pos
               | _=>.bad 166 o.pos
            | _=>.bad 167 o.pos
          | _=>(mT ah E fn ρ m o).bind o.pos fun p=>next p.1 p.2)):Ends P f0 Fin Q fr frs cs w:=by
 classical
 -- operands that are not named mean nothing
 let ρ':Operand→AV:=fun x=>if x∈o.op.operands.toList then ρ x else .undef
 have hρ':∀x,CR w S m (ρ' x) (fr.eval x):=fun x=>by
  by_cases hx:x∈o.op.operands.toList
  ·simp only[ρ',if_pos hx];exact hρ x hx
  ·simp only[ρ',if_neg hx];exact dG
 have hsame:∀x∈o.op.operands.toList,ρ x=ρ' x:=fun x hx=>by simp only[ρ',if_pos hx]
 rw[rm hsame,zq hsame] at h
 cases hev:jG ah E ρ' m o with
 | some tv=>
   rw[hev] at h
   simp only at h
   obtain⟨v,hv,h⟩:=TV.bind_ok h
   obtain⟨z,hz,hc⟩:=q8 hP.ti hW hρ' hev hv
   have hd:∀c,o.op≠.defer c:=fun c e=>by simp[jG,e] at hev
   exact .step (Ao hm ht ho hw hd hz) (hnext v m w S z (.refl hW) hc h)
 | none=>
   rw[hev] at h
   simp only at h
   have other:Tr.Ok Q (Good P E w0 I0 f0 Fin Q) ((mT ah E fn ρ' m o).bind o.pos fun p=>next p.1 p.2)→Ends P f0 Fin Q fr frs cs w:=by
    intro h
    obtain⟨⟨v,m'⟩,hv,h⟩:=TV.bind_ok h
    obtain⟨nx,z,w',S',hrun,hnx,hs,hc⟩:=yV hP.ti hW hρ' hv
    have hd:∀c,o.op≠.defer c:=fun c e=>by simp[mT,e,TV.Is] at hv
    rcases hnx with rfl|⟨rfl,rfl⟩
    ·exact .step (Ao hm ht ho hw hd hrun) (hnext v m' w' S' z hs hc h)
    ·exact .step (K5 hm ht ho hw hd hrun) (hnext _ m' w' S' undef hs dG h)
   split at h
   ·rename_i x args ats hop
    have hd:∀c,o.op≠.defer c:=fun c e=>by rw[hop] at e;cases e
    have hx:CR w S m (ρ x) (fr.eval x):=hρ x (by rw[hop];simp[Op.operands,Call.operands])
    have hargs:bC w S m (args.toList.map ρ) (args.map fr.eval).toList:=by
     have e:args.toList.map ρ=args.toList.map ρ':=kx fun y hy=>hsame y (by rw[hop];simp only[Op.operands,Call.operands];simp at hy ⊢;exact .inr hy)
     rw[e];exact wL hρ' args
    have hexec:∀nx,(do let d ←resolve fr.eval {callee:=.value x,args:=args,argTypes:=ats} o.type;invoke d.target d.args:Sem Next).run P w=.ok nx w→(execOp fr.eval o).run P w=.ok nx w:=fun nx he=>by
     simp only[execOp,hop];exact he
    cases hv:ρ x<;>rw[hv] at h hx<;>(try simp only at h)<;>try exact h.elim
    ·rename_i g first caps
     obtain⟨us,vs,hxe,hus,hvs⟩:=lN.1 hx
     have hall:bC w S m (first++(args.toList.map ρ++caps)) (us++args.map fr.eval++vs).toList:=by
      rw[Array.append_assoc,Array.toList_append,Array.toList_append]
      exact hus.append (hargs.append hvs)
     cases hsp:look E.gw g with
     | some s=>
       rw[hsp] at h
       simp only at h
       obtain⟨⟨v,m'⟩,hv,h⟩:=TV.bind_ok h
       obtain⟨F,hF,hb,hn⟩:=(hP.gw g s hsp).body
       obtain⟨w',S',z,fr',hs,hc,hsteps,hleave⟩:=oR (hP.gw g s hsp) hW hall hv (fr::(frs++cs))
       have hstep:=Aa (cs:=frs++cs) hm ht ho hw hd (hexec _ (iv hxe hF hn hb w))
       exact .steps ((Steps.head hstep hsteps).trans (.one (step_leave_returned hleave))) (hnext v m' w' S' z hs hc h)
     | none=>
       rw[hsp] at h
       simp only at h
       cases hG:look E.mg g with
       | none=>rw[hG] at h;exact h.elim
       | some G=>
         rw[hG] at h
         simp only at h
         cases hen:gN g G (first++(args.toList.map ρ++caps)) with
         | none=>rw[hen] at h;exact h.elim
         | some h'=>
           rw[hen] at h
           simp only at h
           obtain⟨hGf,hGn⟩:=hP.mg _ _ hG
           obtain⟨hfr,hbody,hnh'⟩:=kK hGf hen hall
           have hstep:=Aa (cs:=frs++cs) hm ht ho hw hd (hexec _ (iv hxe hGf hGn hbody w))
           exact .step (frs2:=fr::frs) hstep (ih _ h (d_ hnh') S _ _ cs w hW hI ⟨_,_,rfl,hfr,_,_,rfl,hbelow,hfs⟩ hB)
    ·rename_i lp
     cases hml:m.at lp<;>rw[hml] at h<;>(try simp only at h)<;>try exact h.elim
     rename_i r
     have hxe:fr.eval x=.func (.yield (S.σ lp)) #[] #[]:=by
      rw[CR,hml] at hx;exact hx
     cases hok:Nat.beq r.params.length (args.toList.map ρ).length&&r.params.all (fun p=>Nat.blt p r.n) with
     | false=>rw[hok] at h;exact h.elim
     | true=>
       rw[hok] at h
       simp only at h
       rw[Bool.and_eq_true] at hok
       obtain⟨hlen,hlt⟩:=hok
       have hlen:=Nat.eq_of_beq_eq_true hlen
       have hlt:∀p∈r.params,p<r.n:=fun p hp=>by
        have:=List.all_eq_true.1 hlt p hp
        exact Nat.le_of_ble_eq_true this
       have hb:=hW.box lp
       rw[hml] at hb
       obtain⟨L,g1,g2,g3,g4,g5,g6,g7,⟨g8,g9⟩,g10⟩:=hb
       have hsz:args.size=L.params.size:=by
        have h1:L.params.size=r.params.length:=by rw[g5,List.size_toArray]
        rw[List.length_map,Array.length_toList] at hlen
        omega
       have hstep:=KY (P:=P) (cs:=frs++cs) hm ht ho hw hd (hexec _ (vz hxe g1 hsz))
       have hput:=wF hargs hlen hlt g8 g9 g10
       rw[ug,g4,g5,g6,g7] at hstep
       refine .step (frs2:=fr::frs) hstep (ih _ h (d_ fun a ha=>by cases ha;rfl) S _ _ cs w hW hI ⟨_,_,rfl,?_,_,_,rfl,hbelow,hfs⟩ hB)
       refine⟨rfl,hput.1,g9,fun y _=>hput.2 y,bQ.code (.mk (a:=.beginRound) rfl (bQ.code rfl)),?_,fun a ha=>?_,rfl,fun d hd=>absurd hd List.not_mem_nil,rfl,rfl,rfl,fun q hq=>by cases hq;rw[hml];rfl⟩
       ·exact .mk trivial (.mk trivial (.mk trivial fun a ha=>absurd ha List.not_mem_nil))
       ·simp only[List.tail_cons,List.mem_cons,List.not_mem_nil,or_false] at ha
        rcases ha with rfl|rfl<;>rfl
   ·exact other h
end
end Go.Ev
namespace Go.Ev
section
variable {P:Program} {R:Type} {E:fE R} {w0:World} {I0:Nat→Prop} {f0:FuncId} {Fin:R→Value→World→Prop} {Q:R→Prop}
variable {w:World} {S:St} {m:Mem} {fr:Frame} {fs:List aV} {frs cs:List Frame}
variable {fn:FuncId} {nn:Nat} {env:Env} {marks:List Nat} {ck:Option Nat} {k:List bl} {n:Nat}
def s6(env env':Env)(D:List Nat):Prop:=∀x,env'.at x=env.at x∨(x∈D∧∃v,env.at x=.bool false v∧env'.at x=.bool true v)
theorem s6.CR{env':Env}{D:List Nat}(h:s6 env env' D){x:Nat}{v:Value}(hc:CR w S m (env.at x) v):CR w S m (env'.at x) v:=by
 rcases h x with e|⟨_,b,e1,e2⟩
 ·rw[e];exact hc
 ·rw[e1] at hc;rw[e2];exact cq.2 (cq.1 hc)
theorem FR.Bn{env':Env}{D:List Nat}{todo:List bl}(h:s6 env env' D)(hf:FR w S m ⟨fn,nn,env,todo,marks,ck⟩ fr):FR w S m ⟨fn,nn,env',todo,marks,ck⟩ fr:=
 ⟨hf.fn,hf.n,hf.small,fun i hi=>h.CR (hf.env i hi),hf.todo,hf.live,hf.flat,hf.defers,hf.marks,hf.mode,hf.kind,hf.ck,hf.jR⟩
theorem FK{todo:List bl}(hf:FR w S m ⟨fn,nn,env,todo,marks,ck⟩ fr){d:Nat}{c v:Bool}(hnh:¬Hid ⟨fn,nn,env,todo,marks,ck⟩ fr d)(h:env.at d=.bool c v):d<nn:=by
 have hc:=hf.env d hnh
 rw[show(aV.env ⟨fn,nn,env,todo,marks,ck⟩).at d=.bool c v from h] at hc
 have hc:=cq.1 hc
 rcases Nat.lt_or_ge d nn with h'|h'
 ·exact h'
 ·rw[Array.getD_eq_getD_getElem?,Array.getElem?_eq_none (by rw[hf.n];exact h')] at hc;cases hc
theorem Hr(hP:Fits P E Fin w0 I0)(ih:∀c,Tr.Ok Q (Good P E w0 I0 f0 Fin Q) (run ah E n c)→Good P E w0 I0 f0 Fin Q c){all:Array Oper}{o:Oper}{rest:List Oper}
  (h:Tr.Ok Q (Good P E w0 I0 f0 Fin Q) (run ah E (n+1) {frames:=⟨fn,nn,env,.ops all (o::rest)::k,marks,ck⟩::fs,mem:=m}))
  (hW:WR w0 w S m) (hI:∀b,S.I b→I0 b∨w0.heap.size≤b) (hf:FR w S m ⟨fn,nn,env,.ops all (o::rest)::k,marks,ck⟩ fr) (hfs:tV w S m fs frs) (hB:qW f0 (⟨fn,nn,env,.ops all (o::rest)::k,marks,ck⟩::fs)) :
  Ends P f0 Fin Q fr frs cs w:=by
 have hnh:∀{env:Env} y,¬Hid ⟨fn,nn,env,.ops all (o::rest)::k,marks,ck⟩ fr y:=fun y=>gh fun a ha=>by cases ha;rfl
 obtain⟨it,kc,ht,h1,h2⟩:=hf.todo.cons_inv
 obtain⟨l,rfl,hl⟩:∃l:List Nat,it=.inRegion all l∧l.map (fun i=>all[i]?)=(o::rest).map some:=h1
 cases l with
 | nil=>cases hl
 | cons i l=>
   simp only[List.map_cons,List.cons.injEq] at hl
   simp only[run] at h
   cases hd:gX nn o.dst with
   | false=>rw[hd] at h;exact h.elim
   | true=>
     rw[hd] at h
     simp only at h
     obtain⟨env',hre,h⟩:=tP h fun d _ c v e=>by have:=FK hf (hnh d) e;have:nn≤65535:=hf.small;omega
     have hf':=hf.Bn (D:=df all o) hre
     have hw:∀{t:Bool},dJ all env' o t→Region.wanted o (yielded all fr.tmps)=t:=fun hg=>jg hg fun d _=>hf'.env d (hnh d)
     have goes:∀{v:AV} {m':Mem} {w':World} {S':St} {z:Value},Step w0 w S m w' S' m'→CR w' S' m' v z→
       Tr.Ok Q (Good P E w0 I0 f0 Fin Q) (run ah E n {frames:=⟨fn,nn,env'.fZ o.dst v,.ops all rest::k,marks,ck⟩::fs,mem:=m'})→Ends P f0 Fin Q (fr.finish z) frs cs w':=fun hs hc h=>
      ih _ h (d_ fun a ha=>by cases ha;rfl) _ _ _ cs _ hs.wr (fun b hb=>(hs.grows b hb).elim (hI b) .inr) ⟨_,_,rfl,u5 (hf'.mono hs.out) hd hc,hfs.mono hs.out⟩ (hB.swap rfl)
     rcases h with ⟨hg,h⟩|⟨hg,h⟩
     ·exact BV (fn:=fn) (ρ:=fT env') (below:=⟨fn,nn,env',.ops all (o::rest)::k,marks,ck⟩) (next:=fun v m=>run ah E n {frames:=⟨fn,nn,env'.fZ o.dst v,.ops all rest::k,marks,ck⟩::fs,mem:=m})
       hP ih hW hI hfs (hB.swap rfl) hf.mode ht hl.1 (hw hg) (fun x _=>pU hf' x fun t _=>hnh t) hf' (fun v m' w' S' z hs hc h=>goes hs hc h) h
     ·exact .step (vP hf.mode ht hl.1 (hw hg)) (goes (.refl hW) (ic.2 ⟨#[],rfl,bI.2 rfl⟩) h)
end
end Go.Ev
namespace Go.Ev
theorem vR(e:Edge):Region.binds .any e=jA e:=by
 obtain⟨on,g⟩:=e
 cases g<;>rfl
theorem mE:∀{os:List Oper} {k i:Nat} {o:Oper},gJ k os=true→os[i]? = some o→∀e∈o.after.toList,jA e=true→e.on<k+i
 | [],k,i,o,_,h=>by simp at h
 | p::os,k,i,o,he,h=>by
   rw[gJ,Bool.and_eq_true] at he
   cases i with
   | zero=>
     cases h
     intro e hm hb
     have:=List.all_eq_true.1 he.1 e hm
     rw[hb] at this
     simp at this
     omega
   | succ i=>
     intro e hm hb
     have:=mE he.2 (by simpa using h) e hm hb
     omega
theorem jF{all:Array Oper}{i j:Nat}:j∈gg all i↔∃o e,all[i]? = some o∧e∈o.after.toList∧jA e=true∧e.on=j:=by
 unfold gg
 cases h:all[i]? with
 | none=>simp
 | some o=>simp[and_assoc]
theorem pred_lt{all:Array Oper}(h:gJ 0 all.toList=true){i j:Nat}(hj:j∈gg all i):j<i:=by
 obtain⟨o,e,h1,h2,h3,rfl⟩:=jF.1 hj
 have:=mE h (by rw[Array.getElem?_toList];exact h1) e h2 h3
 omega
structure Ky(all:Array Oper)(acc:List Nat):Prop where
 nodup:acc.Nodup
 lt:∀i∈acc,i<all.size
 JS:∀i∈acc,∀j∈gg all i,j∈acc
 pw:acc.Pairwise fun i j=>i ∉ gg all j
theorem Ky.lin{all:Array Oper}{acc:List Nat}(h:Ky all acc)(he:gJ 0 all.toList=true)(hc:∀i,i<all.size→i∈acc):EC all acc.reverse∧∀i,i<all.size→i∈acc.reverse:=
 ⟨⟨List.pairwise_reverse.2 (h.nodup.imp Ne.symm),fun i hi=>h.lt i (List.mem_reverse.1 hi),List.pairwise_reverse.2 h.pw,fun i _ hp=>Nat.lt_irrefl _ (pred_lt he hp),
  fun k hk hn=>absurd (List.mem_reverse.2 (hc k hk)) hn⟩,fun i hi=>List.mem_reverse.2 (hc i hi)⟩
theorem wC{all:Array Oper}{listed:Array Bool}{acc:List Nat}(hl:listed.size=all.size)(hm:∀i,i<all.size→(listed.getD i false=true↔i∈acc))(hlt:∀i∈acc,i<all.size){i:Nat}(hi:i<all.size) :
  (!listed.getD i true&&((all[i]?).map (·.after.all fun e=>!Region.binds .any e||listed.getD e.on false)).getD false)=true↔i ∉ acc∧∀j∈gg all i,j∈acc:=by
 have h1:listed.getD i true=listed.getD i false:=by
  simp only[Array.getD_eq_getD_getElem?,Array.getElem?_eq_getElem (by omega:i<listed.size),Option.getD_some]
 have h2:∀j,listed.getD j false=true↔j∈acc:=fun j=>by
  by_cases hj:j<all.size
  ·exact hm j hj
  ·rw[Array.getD_eq_getD_getElem?,Array.getElem?_eq_none (by omega)]
   exact⟨fun h=>(by cases h),fun h=>absurd (hlt j h) hj⟩
 rw[h1,Bool.and_eq_true,Bool.not_eq_true',Array.getElem?_eq_getElem hi]
 simp only[Option.map_some,Option.getD_some,Array.all_eq_true',Bool.or_eq_true,Bool.not_eq_true']
 constructor
 ·rintro ⟨h3,h4⟩
  refine⟨fun h=>(by rw[(h2 i).2 h] at h3;cases h3),fun j hj=>?_⟩
  obtain⟨o,e,e1,e2,e3,rfl⟩:=jF.1 hj
  rw[Array.getElem?_eq_getElem hi] at e1
  cases e1
  rcases h4 e (by simpa using e2) with h5|h5
  ·rw[vR,e3] at h5;cases h5
  ·exact(h2 _).1 h5
 ·rintro ⟨h3,h4⟩
  refine⟨?_,fun e he=>?_⟩
  ·cases h:listed.getD i false with
   | false=>rfl
   | true=>exact absurd ((h2 i).1 h) h3
  ·cases hb:Region.binds .any e with
   | false=>exact .inl rfl
   | true=>exact .inr ((h2 _).2 (h4 _ (jF.2 ⟨_,e,Array.getElem?_eq_getElem hi,by simpa using he,by rw[←vR];exact hb,rfl⟩)))
theorem oV{all:Array Oper}(he:gJ 0 all.toList=true):∀(fuel t:Nat) (listed:Array Bool) (acc:List Nat),listed.size=all.size→(∀i,i<all.size→(listed.getD i false=true↔i∈acc))→Ky all acc→
  ((List.range all.size).filter fun i=>decide (i ∉ acc)).length≤fuel→EC all (Region.linearise.go .any all fuel t listed acc)∧∀i,i<all.size→i∈Region.linearise.go .any all fuel t listed acc
 | 0,t,listed,acc,hl,hm,hP,hf=>by
   rw[Region.linearise.go]
   refine hP.lin he fun i hi=>?_
   have:(List.range all.size).filter (fun i=>decide (i ∉ acc))=[]:=List.length_eq_zero_iff.1 (by omega)
   have:=List.filter_eq_nil_iff.1 this i (List.mem_range.2 hi)
   simpa using this
 | fuel+1,t,listed,acc,hl,hm,hP,hf=>by
   rw[Region.linearise.go]
   split
   ·rename_i i hi
    have hmem:=List.mem_of_getElem? hi
    obtain⟨h1,h2⟩:=List.mem_filter.1 hmem
    have hin:=List.mem_range.1 h1
    obtain⟨h3,h4⟩:=(wC hl hm hP.lt hin).1 h2
    refine oV he fuel _ _ _ (by simp[hl]) (fun j hj=>?_) ⟨List.nodup_cons.2 ⟨h3,hP.nodup⟩,fun j hj=>?_,fun j hj k hk=>?_,List.pairwise_cons.2 ⟨fun j hj hp=>h3 (hP.JS j hj i hp),hP.pw⟩⟩ ?_
    ·simp only[Array.getD_eq_getD_getElem?,Array.getElem?_setIfInBounds]
     by_cases hji:i=j
     ·subst hji;simp[hl,hin]
     ·rw[if_neg hji,←Array.getD_eq_getD_getElem?,hm j hj,List.mem_cons]
      exact⟨.inr,fun h=>h.elim (fun e=>absurd e.symm hji) id⟩
    ·rcases List.mem_cons.1 hj with rfl|hj
     ·exact hin
     ·exact hP.lt j hj
    ·rcases List.mem_cons.1 hj with rfl|hj
     ·exact List.mem_cons_of_mem _ (h4 k hk)
     ·exact List.mem_cons_of_mem _ (hP.JS j hj k hk)
    ·have e:(List.range all.size).filter (fun j=>decide (j ∉ i::acc))=((List.range all.size).filter fun j=>decide (j ∉ acc)).filter fun j=>decide (j≠i):=by
      rw[List.filter_filter]
      refine List.filter_congr fun j _=>?_
      simp[List.mem_cons,not_or]
     rw[e]
     have:(((List.range all.size).filter fun j=>decide (j ∉ acc)).filter fun j=>decide (j≠i)).length<((List.range all.size).filter fun j=>decide (j ∉ acc)).length:=
      List.length_filter_lt_length_iff_exists.2 ⟨i,List.mem_filter.2 ⟨h1,by simpa using h3⟩,by simp⟩
     omega
   ·rename_i hn
    refine hP.lin he fun i hi=>?_
    -- the least that is not listed could go
    have key:∀i,i<all.size→i∈acc:=fun i=>by
     induction i using Nat.strongRecOn with
     | ind i ihi=>
       intro hi
       by_cases hia:i∈acc
       ·exact hia
       ·have hr:=(wC hl hm hP.lt hi).2 ⟨hia,fun j hj=>ihi j (pred_lt he hj) (by have:=pred_lt he hj;omega)⟩
        have hmem:=List.mem_filter (p:=fun i=>!listed.getD i true&&((all[i]?).map (·.after.all fun e=>!Region.binds .any e||listed.getD e.on false)).getD false) |>.2 ⟨List.mem_range.2 hi,hr⟩
        have hpos:=List.length_pos_of_mem hmem
        exact absurd (List.getElem?_eq_none_iff.1 hn) (by have:=Nat.mod_lt t hpos;omega)
    exact key i hi
theorem xb{all:Array Oper}(he:gJ 0 all.toList=true)(t:Nat):EC all (Region.schedule true all t)∧∀i,i<all.size→i∈Region.schedule true all t:=by
 unfold Region.schedule
 rw[Bool.true_or,if_pos rfl]
 unfold Region.linearise
 refine oV he _ _ _ _ (by simp) (fun i hi=>?_) ⟨List.nodup_nil,fun _ h=>absurd h List.not_mem_nil,fun _ h=>absurd h List.not_mem_nil,.nil⟩ ?_
 ·simp[Array.getD_eq_getD_getElem?,hi]
 ·have:=List.length_filter_le (fun i=>decide (i ∉ ([]:List Nat))) (List.range all.size)
  rw[List.length_range] at this
  exact this
theorem nX{ms:List Nat}{b:Nat}:∀{es:List Edge},(fX ms es).testBit b=true→∃e∈es,jA e=true∧(b=e.on∨(ms.getD e.on 0).testBit b=true)
 | [],h=>by simp[fX] at h
 | e::es,h=>by
   simp only[fX] at h
   cases hb:jA e with
   | false=>
     rw[hb] at h
     obtain⟨e',h1,h2⟩:=nX h
     exact⟨e',List.mem_cons_of_mem _ h1,h2⟩
   | true=>
     rw[hb] at h
     simp only[Nat.testBit_or,Bool.or_eq_true] at h
     rcases h with (h|h)|h
     ·exact⟨e,List.mem_cons_self,hb,.inl (by
       rw[Nat.testBit_two_pow] at h
       simpa [eq_comm] using h)⟩
     ·exact⟨e,List.mem_cons_self,hb,.inr h⟩
     ·obtain⟨e',h1,h2⟩:=nX h
      exact⟨e',List.mem_cons_of_mem _ h1,h2⟩
theorem mH:∀{os:List Oper} {ms:List Nat} {j:Nat},j<ms.length→(fR os ms).getD j 0=ms.getD j 0
 | [],ms,j,_=>by rw[fR]
 | o::os,ms,j,h=>by
   rw[fR,mH (by simp;omega)]
   rw[List.getD_eq_getElem?_getD,List.getD_eq_getElem?_getD,List.getElem?_append_left h]
theorem re:∀{os:List Oper} {ms:List Nat} {i:Nat} {o:Oper},os[i]? = some o→(∀e∈o.after.toList,jA e=true→e.on<ms.length+i)→(fR os ms).getD (ms.length+i) 0=fX (fR os ms) o.after.toList
 | [],ms,i,o,h,_=>by simp at h
 | p::os,ms,i,o,h,he=>by
   rw[fR]
   have hlen:(ms ++ [fX ms p.after.toList]).length=ms.length+1:=by simp
   cases i with
   | zero=>
     cases h
     rw[Nat.add_zero,mH (by omega)]
     have:(ms ++ [fX ms p.after.toList]).getD ms.length 0=fX ms p.after.toList:=by
      rw[List.getD_eq_getElem?_getD,List.getElem?_append_right (Nat.le_refl _),Nat.sub_self];rfl
     rw[this]
     have hpre:∀j,j<ms.length→(fR os (ms ++ [fX ms p.after.toList])).getD j 0=ms.getD j 0:=fun j hj=>by
      rw[mH (by omega),List.getD_eq_getElem?_getD,List.getD_eq_getElem?_getD,List.getElem?_append_left hj]
     have key:∀es:List Edge,(∀e∈es,jA e=true→e.on<ms.length)→fX ms es=fX (fR os (ms ++ [fX ms p.after.toList])) es:=fun es=>by
      induction es with
      | nil=>intro _;rfl
      | cons e es ih=>
        intro hh
        simp only[fX]
        rw[ih fun e' h'=>hh e' (List.mem_cons_of_mem _ h')]
        cases hb:jA e with
        | false=>rfl
        | true=>simp only;rw[hpre _ (hh e List.mem_cons_self hb)]
     exact key _ he
   | succ i=>
     have:=re (os:=os) (ms:=ms ++ [fX ms p.after.toList]) (i:=i) (o:=o) (by simpa using h) (fun e hm hb=>by have:=he e hm hb;omega)
     rw[hlen] at this
     rw[←this]
     congr 1
     omega
theorem CH{all:Array Oper}{l:List Nat}(he:gJ 0 all.toList=true)(hL:EC all l):∀{i b:Nat},i<all.size→(∀j∈gg all i,j ∉ l)→((fR all.toList []).getD i 0).testBit b=true→b ∉ l:=by
 intro i
 induction i using Nat.strongRecOn with
 | ind i ihi=>
   intro b hi hp hb
   obtain⟨o,ho⟩:∃o,all[i]? = some o:=⟨_,Array.getElem?_eq_getElem hi⟩
   have ho':all.toList[i]? = some o:=by rw[Array.getElem?_toList];exact ho
   have hedge:=mE he ho'
   have:=re (ms:=[]) ho' (fun e hm h=>by have:=hedge e hm h;simpa using this)
   rw[List.length_nil,Nat.zero_add] at this
   rw[this] at hb
   obtain⟨e,h1,h2,h3⟩:=nX hb
   have hj:e.on∈gg all i:=jF.2 ⟨o,e,ho,h1,h2,rfl⟩
   have hlt:=pred_lt he hj
   rcases h3 with rfl|h3
   ·exact hp _ hj
   ·exact ihi e.on hlt (by omega) (hL.closed e.on (by omega) (hp _ hj)) h3
theorem EC.CZ{all:Array Oper}{i:Nat}{l:List Nat}(h:EC all (i::l)):∀j∈gg all i,j ∉ i::l:=fun j hj hm=>by
 rcases List.mem_cons.1 hm with rfl|hm
 ·exact h.self j List.mem_cons_self hj
 ·exact(List.pairwise_cons.1 h.pw).1 j hm hj
theorem dy.done{n:Nat}{all:Array Oper}{ms rest bs l:List Nat}{i b:Nat}(h:dy n all ms rest bs (i::l))(hb:(ms.getD i 0).testBit b=true):b ∉ i::l:=by
 exact h.Nj [] i l rfl b hb
theorem Fz{all:Array Oper}{l:List Nat}(he:gJ 0 all.toList=true)(hL:EC all l):t_ (fR all.toList []) l:=fun l1 i l2 e b hb=>by
 subst e
 have hL2:EC all (i::l2):=by
  clear hb
  induction l1 with
  | nil=>exact hL
  | cons x l1 ih=>exact ih hL.tail
 exact CH he hL2 (hL2.lt i List.mem_cons_self) hL2.CZ hb
end Go.Ev
namespace Go.Ev
section
variable {P:Program} {R:Type} {E:fE R} {w0:World} {I0:Nat→Prop} {f0:FuncId} {Fin:R→Value→World→Prop} {Q:R→Prop}
variable {w:World} {S:St} {m:Mem} {fr:Frame} {fs:List aV} {frs cs:List Frame}
variable {fn:FuncId} {nn:Nat} {env:Env} {marks:List Nat} {ck:Option Nat} {k:List bl} {n:Nat}
theorem Cw{a b:AV}{z:Value}(h:gj a b)(hc:CR w S m a z):CR w S m b z:=by
 unfold gj at h
 split at h
 ·subst h;exact cq.2 (cq.1 hc)
 ·obtain⟨rfl,rfl⟩:=h;exact bD.2 (bD.1 hc)
 ·subst h;exact hc
theorem yd{A:bu}{s:aC}{aa:List AV}{v:AV}{m':Mem}(hp:i6 (aa.flatMap AV.cells)=true)(h:(k6 A s m aa).Is (v,m')):m'=m:=by
 unfold k6 at h
 cases hok:il s.args aa with
 | false=>rw[hok] at h;exact h.elim
 | true=>
   rw[hok,uD hp] at h
   simp only at h
   cases htd:qH s.args (aa.flatMap AV.cells) with
   | none=>rw[htd] at h;exact h.elim
   | some q=>
     obtain⟨x,r⟩:=q
     rw[htd] at h
     cases r with
     | cons _ _=>exact h.elim
     | nil=>obtain⟨_,h⟩:=h;cases h;rfl
theorem IL(hP:Fits P E Fin w0 I0){all:Array Oper}{i:Nat}{l:List Nat}{kc:List Item}{o:Oper}{ρ:Operand→AV}{tv:TV AV}{v:AV}(hW:WR w0 w S m)(hm:fr.mode=.run)
  (ht:fr.todo=.inRegion all (i::l)::kc) (ho:all[i]? = some o) (hw:Region.wanted o (yielded all fr.tmps)=true) (hρ:∀x∈o.op.operands.toList,CR w S m (ρ x) (fr.eval x))
  (h:G8 ah E m ρ o=some tv) (hv:tv.Is v) (cs:List Frame):∃w' S' z,Step w0 w S m w' S' m∧CR w' S' m v z∧Steps P (lone fr cs w) (lone (fr.finish z) cs w'):=by
 classical
 let ρ':Operand→AV:=fun x=>if x∈o.op.operands.toList then ρ x else .undef
 have hρ':∀x,CR w S m (ρ' x) (fr.eval x):=fun x=>by
  by_cases hx:x∈o.op.operands.toList
  ·simp only[ρ',if_pos hx];exact hρ x hx
  ·simp only[ρ',if_neg hx];exact dG
 have hsame:∀x∈o.op.operands.toList,ρ x=ρ' x:=fun x hx=>by simp only[ρ',if_pos hx]
 rw[qw hsame] at h
 unfold G8 at h
 cases hev:jG ah E ρ' m o with
 | some tv'=>
   rw[hev] at h
   cases h
   obtain⟨z,hz,hc⟩:=q8 hP.ti hW hρ' hev hv
   have hd:∀c,o.op≠.defer c:=fun c e=>by simp[jG,e] at hev
   exact⟨w,S,z,.refl hW,hc,.one (Ao hm ht ho hw hd hz)⟩
 | none=>
   rw[hev] at h
   simp only at h
   unfold oB at h
   cases hop:o.op<;>rw[hop] at h<;>(try simp only at h)<;>try (cases h;done)
   rename_i c
   obtain⟨callee,args,ats⟩:=c
   cases callee<;>simp only at h<;>try (cases h;done)
   rename_i x
   have hd:∀c,o.op≠.defer c:=fun c e=>by rw[hop] at e;cases e
   have hx:=hρ' x
   have hargs:bC w S m (args.toList.map ρ') (args.map fr.eval).toList:=wL hρ' args
   have hexec:∀nx,(do let d ←resolve fr.eval {callee:=.value x,args:=args,argTypes:=ats} o.type;invoke d.target d.args:Sem Next).run P w=.ok nx w→(execOp fr.eval o).run P w=.ok nx w:=fun nx he=>by
    simp only[execOp,hop];exact he
   cases hvx:ρ' x<;>rw[hvx] at h hx<;>(try simp only at h)<;>try (cases h;done)
   rename_i g first caps
   obtain⟨us,vs,hxe,hus,hvs⟩:=lN.1 hx
   have hall:bC w S m (first++(args.toList.map ρ'++caps)) (us++args.map fr.eval++vs).toList:=by
    rw[Array.append_assoc,Array.toList_append,Array.toList_append]
    exact hus.append (hargs.append hvs)
   cases hsp:look E.gw g with
   | none=>rw[hsp] at h;cases h
   | some s=>
     rw[hsp] at h
     simp only at h
     cases hpl:i6 ((first++(args.toList.map ρ'++caps)).flatMap AV.cells) with
     | false=>rw[hpl] at h;cases h
     | true=>
       rw[hpl] at h
       cases h
       obtain⟨⟨v',m'⟩,hv1,rfl⟩:=TV.uw hv
       obtain rfl:=yd hpl hv1
       obtain⟨F,hF,hb,hn⟩:=(hP.gw g s hsp).body
       obtain⟨w',S',z,fr',hs,hc,hsteps,hleave⟩:=oR (hP.gw g s hsp) hW hall hv1 (fr::cs)
       have hstep:=Aa (cs:=cs) hm ht ho hw hd (hexec _ (iv hxe hF hn hb w))
       exact⟨w',S',z,hs,hc,(Steps.head hstep hsteps).trans (.one (step_leave_returned hleave))⟩
theorem nZ{t:Nat}:∀{l:List Operand},Operand.tmp t∈l→t∈tmpsOf l
 | x::l,h=>by
   rcases List.mem_cons.1 h with rfl|h'
   ·exact List.mem_cons_self
   ·cases x<;>simp only[tmpsOf]
    ·exact List.mem_cons_of_mem _ (nZ h')
    all_goals exact nZ h'
theorem lg{all:Array Oper}{o:Oper}{t:Nat}(h:Operand.tmp t∈o.op.operands.toList):t∈readsOf all o:=List.mem_append.2 (.inl (nZ h))
theorem gv{all:Array Oper}{o:Oper}{t:Nat}(h:t∈df all o):t∈readsOf all o:=List.mem_append.2 (.inr h)
theorem pI{all:Array Oper}{ms rest bs l:List Nat}{i:Nat}{kc:List Item}{o:Oper}{f:aV}(hD:dy nn all ms rest bs (i::l))(hf:f.todo.head?.bind bl.drawn=some (all,bs))(ht:fr.todo=.inRegion all (i::l)::kc)
  (hro:∀b∈bs,i≠b→∀p d,all[b]? = some p→p.dst=some d→d∈readsOf all o→(ms.getD i 0).testBit b=true) (hown:i∈bs→∀d,∀p,all[i]? = some p→p.dst=some d→d ∉ readsOf all o) {t:Nat} (hr:t∈readsOf all o):¬Hid f fr t:=by
 rintro ⟨all',bs',l',k',b,p,e1,e2,e3,e4,e5,e6⟩
 rw[hf] at e1
 cases e1
 rw[ht] at e2
 cases e2
 by_cases hib:i=b
 ·subst hib;exact hown e3 t p e5 e6 hr
 ·exact hD.done (hro b e3 hib p t e5 e6 hr) e4
theorem dy.drop{all:Array Oper}{ms rest bs l:List Nat}{i:Nat}(h:dy nn all ms rest bs (i::l))(hi:i ∉ rest):dy nn all ms rest bs l:=by
 refine⟨h.Nj.tail,(List.nodup_cons.1 h.MH).2,h.nodup,fun j hj=>?_,fun j hj=>h.Nk j (List.mem_cons_of_mem _ hj),h.lt,h.read,h.dst,h.own,h.Vb,h.LL⟩
 rcases List.mem_cons.1 (h.sub j hj) with rfl|hm
 ·exact absurd hj hi
 ·exact hm
theorem oZ(hP:Fits P E Fin w0 I0){all:Array Oper}{ms rest bs:List Nat}(cs:List Frame)(hst:∀b∈bs,vo E env m all b):∀(l:List Nat) {w:World} {S:St} {fr:Frame} {kc:List Item},WR w0 w S m→FR w S m ⟨fn,nn,env,.dO all ms rest bs::k,marks,ck⟩ fr→
  fr.todo=.inRegion all l::kc→dy nn all ms rest bs l→bQ nn S k kc→
  ∃w' S' fr' l' kc',Step w0 w S m w' S' m∧FR w' S' m ⟨fn,nn,env,.dO all ms rest bs::k,marks,ck⟩ fr'∧Steps P (lone fr cs w) (lone fr' cs w')∧fr'.todo=.inRegion all l'::kc'∧dy nn all ms rest bs l'∧bQ nn S' k kc'∧(∀i,l'.head? = some i→i∈rest)∧fr'.fn=fr.fn
 | [],w,S,fr,kc,hW,hf,ht,hD,hk=>⟨w,S,fr, [],kc,.refl hW,hf,.refl _ _,ht,hD,hk,fun i h=>(by cases h),rfl⟩
 | i::l,w,S,fr,kc,hW,hf,ht,hD,hk=>by
   by_cases hir:i∈rest
   ·exact⟨w,S,fr,i::l,kc,.refl hW,hf,.refl _ _,ht,hD,hk,fun j h=>(by cases h;exact hir),rfl⟩
   ·have hib:i∈bs:=(hD.Nk i List.mem_cons_self).resolve_left hir
    obtain⟨o,ho,hg⟩:=hst i hib
    have hnh:∀{t:Nat},t∈readsOf all o→¬Hid ⟨fn,nn,env,.dO all ms rest bs::k,marks,ck⟩ fr t:=fun hr=>
     pI hD rfl ht (fun b hb hne p d hp hd hr=>hD.read i hib b hb hne o p d ho hp hd hr) (fun _ d p hp hd=>by rw[ho] at hp;cases hp;exact hD.own i hib o d ho hd) hr
    have hop:∀x∈o.op.operands.toList,CR w S m (fT env x) (fr.eval x):=fun x hx=>pU hf x fun t e=>hnh (by subst e;exact lg hx)
    have hwant:∀{t:Bool},dJ all env o t→Region.wanted o (yielded all fr.tmps)=t:=fun hg=>jg hg fun d hd=>hf.env d (hnh (gv hd))
    have hdok:=hD.LL i hib o ho
    -- one operation,then on
    have main:∀{w1:World} {S1:St} {v:AV} {z:Value},Step w0 w S m w1 S1 m→CR w1 S1 m v z→kV env o.dst v→Steps P (lone fr cs w) (lone (fr.finish z) cs w1)→
      ∃w' S' fr' l' kc',Step w0 w S m w' S' m∧FR w' S' m ⟨fn,nn,env,.dO all ms rest bs::k,marks,ck⟩ fr'∧Steps P (lone fr cs w) (lone fr' cs w')∧fr'.todo=.inRegion all l'::kc'∧dy nn all ms rest bs l'∧bQ nn S' k kc'∧(∀i,l'.head? = some i→i∈rest)∧fr'.fn=fr.fn:=by
     intro w1 S1 v z hs hc hsd hsteps
     have hD':=hD.drop hir
     have hf1:=hf.mono hs.out
     have hk1:=bQ.mono hs.out hf.live.tail hk
     have hfin:=ki (z:=z) ht ho
     rw[hfin] at hsteps
     have hf2:FR w1 S1 m ⟨fn,nn,env,.dO all ms rest bs::k,marks,ck⟩ {fr with tmps:=vK fr.tmps o.dst z,todo:=.inRegion all l::kc}:=by
      refine⟨hf1.fn,qF.trans hf1.n,hf1.small,fun x hx=>?_,.mk (a:=.dO all ms rest bs) ⟨l,rfl,hD'⟩ hk1,hf1.live,hf1.flat,hf1.defers,hf1.marks,hf1.mode,hf1.kind,hf1.ck,hf1.jR⟩
      show CR w1 S1 m (env.at x) ((vK fr.tmps o.dst z).getD x undef)
      rw[yT (by rw[hf.n];exact hdok)]
      by_cases hdx:o.dst=some x
      ·rw[if_pos hdx]
       rw[hdx] at hsd
       exact Cw hsd hc
      ·rw[if_neg hdx]
       refine hf1.env x fun hh=>hx ?_
       obtain⟨all',bs',l',k',b,p,e1,e2,e3,e4,e5,e6⟩:=hh
       cases e1
       rw[ht] at e2
       cases e2
       rcases List.mem_cons.1 e4 with rfl|e4
       ·rw[ho] at e5;cases e5;exact absurd e6 hdx
       ·exact⟨all,bs,l,kc,b,p,rfl,rfl,e3,e4,e5,e6⟩
     obtain⟨w',S',fr',l',kc',g1,g2,g3,g4,g5,g6,g7,g8⟩:=oZ hP cs hst l hs.wr hf2 rfl hD' hk1
     exact⟨w',S',fr',l',kc',hs.trans g1,g2,hsteps.trans g3,g4,g5,g6,g7,g8⟩
    rcases hg with ⟨hg,hsd⟩|⟨hg,tv,v,hev,hv,hsd⟩
    ·exact main (.refl hW) (ic.2 ⟨#[],rfl,bI.2 rfl⟩) hsd (.one (vP hf.mode ht ho (hwant hg)))
    ·obtain⟨w1,S1,z,hs,hc,hsteps⟩:=IL hP hW hf.mode ht ho (hwant hg) hop hev hv cs
     exact main hs hc hsd hsteps
end
end Go.Ev
namespace Go.Ev
theorem fI:∀{l:List Nat} {n:Nat},od l n=true↔n∈l
 | [],n=>by simp[od]
 | i::l,n=>by
   rw[od]
   by_cases h:i=n
   ·subst h;rw[bJ.2 rfl];simp
   ·rw[bK.2 h,fI,List.mem_cons]
    exact⟨.inr,fun h'=>h'.elim (fun e=>absurd e.symm h) id⟩
theorem qd:∀{l:List Nat},nodupB l=true→l.Nodup
 | [],_=>List.nodup_nil
 | i::l,h=>by
   rw[nodupB,Bool.and_eq_true,Bool.not_eq_true'] at h
   refine List.nodup_cons.2 ⟨fun hm=>?_,qd h.2⟩
   rw[fI.2 hm] at h
   cases h.1
theorem xP{gw:List (FuncId×aC)}{os:Array Oper}{ms is:List Nat}(h:gY gw os=some (ms,is)) :
  ms=fR os.toList []∧gJ 0 os.toList=true∧is.Nodup∧(∀i∈is,i<os.size)∧∀i,i<os.size→i∈is:=by
 unfold gY at h
 simp only at h
 split at h
 ·rename_i hc
  cases h
  rw[Bool.and_eq_true,Bool.and_eq_true,Bool.and_eq_true] at hc
  obtain⟨h1,h2,h3,h4⟩:=hc
  refine⟨rfl,h1,qd h2,fun i hi=>Nat.le_of_ble_eq_true (List.all_eq_true.1 h3 i hi),fun i hi=>fI.1 (List.all_eq_true.1 h4 i (List.mem_range.2 hi))⟩
 ·cases h
theorem rc(v:AV):gj v v:=by cases v<;>simp[gj]
theorem yN{v:AV}{b:Bool}(h:gj v (.bool false b)):gj v (.bool true b):=by
 cases v<;>simp[gj] at h ⊢
 exact h
section
variable {P:Program} {R:Type} {E:fE R} {w0:World} {I0:Nat→Prop} {f0:FuncId} {Fin:R→Value→World→Prop} {Q:R→Prop}
variable {w:World} {S:St} {m:Mem} {fr:Frame} {fs:List aV} {frs cs:List Frame}
variable {fn:FuncId} {nn:Nat} {env:Env} {marks:List Nat} {ck:Option Nat} {k:List bl} {n:Nat}
theorem CW{G:f_→Prop}{all:Array Oper}{bs:List Nat}{o:Oper}{yes no:Env→Tr R}(h:Tr.Ok Q G (Aq all bs env o yes no))(hs:∀d∈df all o,∀c v,env.at d=.bool c v→d≤65535) :
  ∃env':Env,s6 env env' (df all o)∧((∀x,env'.at x=env.at x)∨∀d∈df all o,nq all bs d=true)∧((dJ all env' o true∧Tr.Ok Q G (yes env'))∨(dJ all env' o false∧Tr.Ok Q G (no env'))):=by
 unfold Aq at h
 cases hk:iq all env o with
 | some t=>
   rw[hk] at h
   refine⟨env,fun _=>.inl rfl,.inl fun _=>rfl,?_⟩
   cases t with
   | true=>exact .inl ⟨iy hk,h⟩
   | false=>exact .inr ⟨iy hk,h⟩
 | none=>
   rw[hk] at h
   simp only at h
   split at h
   ·rename_i d hd
    cases hn:nq all bs d with
    | false=>rw[hn] at h;exact h.elim
    | true=>
      rw[hn] at h
      obtain⟨env',h1,h2⟩:=tP h hs
      exact⟨env',h1,.inr fun x hx=>by rw[hd] at hx;rw[List.mem_singleton.1 hx];exact hn,h2⟩
   ·exact h.elim
theorem dJ.congr{all:Array Oper}{env':Env}{o:Oper}{t:Bool}(h:dJ all env o t)(he:∀x∈df all o,env'.at x=env.at x):dJ all env' o t:=by
 unfold dJ at h ⊢
 unfold df at he
 cases hg:o.guard with
 | none=>rw[hg] at h;exact h
 | some q=>
   obtain⟨j,want⟩:=q
   rw[hg] at h he
   simp only at h he ⊢
   obtain⟨p,d,hp,hd,h⟩:=h
   rw[hp] at he
   simp only[hd] at he
   refine⟨p,d,hp,hd,?_⟩
   rw[he d List.mem_cons_self]
   exact h
theorem uy{env':Env}{x:Operand}(h:∀t,x=.tmp t→env'.at t=env.at t):fT env' x=fT env x:=by
 cases x with
 | tmp t=>exact h t rfl
 | const v=>rfl
 | global g=>rfl
 | func f=>rfl
theorem vo.congr{all:Array Oper}{env':Env}{b:Nat}(h:vo E env m all b)(he:∀o,all[b]? = some o→(∀x∈readsOf all o,env'.at x=env.at x)∧∀v d,o.dst=some d→gj v (env.at d)→gj v (env'.at d)):vo E env' m all b:=by
 obtain⟨o,ho,h⟩:=h
 obtain⟨h1,h2⟩:=he o ho
 have hd:∀v,kV env o.dst v→kV env' o.dst v:=fun v hv=>by
  cases hod:o.dst with
  | none=>trivial
  | some d=>rw[hod] at hv;exact h2 v d hod hv
 refine⟨o,ho,?_⟩
 rcases h with ⟨hg,hs⟩|⟨hg,tv,v,hev,hv,hs⟩
 ·exact .inl ⟨hg.congr fun x hx=>h1 x (gv hx),hd _ hs⟩
 ·refine .inr ⟨hg.congr fun x hx=>h1 x (gv hx),tv,v,?_,hv,hd _ hs⟩
  rw[←hev]
  exact qw fun x hx=>uy fun t e=>h1 t (by subst e;exact lg hx)
theorem uV(hP:Fits P E Fin w0 I0){id:Nat}{os:Array Oper}{ms is:List Nat}(hd:gY E.gw os=some (ms,is))
  (hg:Good P E w0 I0 f0 Fin Q {frames:=⟨fn,nn,env,.dO os ms is []::k,marks,ck⟩::fs,mem:=m})
  (hW:WR w0 w S m) (hI:∀b,S.I b→I0 b∨w0.heap.size≤b) (hf:FR w S m ⟨fn,nn,env,.code (.region id os true)::k,marks,ck⟩ fr) (hfs:tV w S m fs frs) (hB:qW f0 (⟨fn,nn,env,.code (.region id os true)::k,marks,ck⟩::fs)) :
  Ends P f0 Fin Q fr frs cs w:=by
 obtain⟨it,kc,ht,h1,h2⟩:=hf.todo.cons_inv
 have h1:it=.code (.region id os true):=h1
 subst h1
 have hnh:∀y,¬Hid ⟨fn,nn,env,.code (.region id os true)::k,marks,ck⟩ fr y:=fun y=>gh fun a ha=>by cases ha;rfl
 obtain⟨g1,g2,g3,g4,g5⟩:=xP hd
 have hstep:=Aw (P:=P) (cs:=frs++cs) (w:=w) hf.mode ht
 rw[hP.mixed] at hstep
 obtain⟨hL,hall⟩:=xb g2 (w.tape w.drawn (.order fr.fn id))
 have hs:=Step.drew hW
 have hf1:=hf.mono hs.out
 refine .step hstep (hg (fun b hb=>absurd hb List.not_mem_nil) S _ _ cs _ hs.wr hI ⟨_,_,rfl,?_,hfs.mono hs.out⟩ (hB.swap rfl))
 refine⟨hf1.fn,hf1.n,hf1.small,fun x _=>hf1.env x (fun hh=>hnh x hh),.mk (a:=.dO os ms is []) ⟨_,rfl,?_⟩ (bQ.mono hs.out hf.live.tail h2),.mk trivial hf1.live.tail,hf1.flat,hf1.defers,hf1.marks,hf1.mode,hf1.kind,hf1.ck,hf1.jR⟩
 exact⟨g1▸Fz g2 hL,hL.nodup,by rw[List.append_nil];exact g3,fun i hi=>hall i (g4 i hi),fun i hi=>.inl (g5 i (hL.lt i hi)),fun _ h=>absurd h List.not_mem_nil,fun _ h=>absurd h List.not_mem_nil,fun _ h=>absurd h List.not_mem_nil,fun _ h=>absurd h List.not_mem_nil,
  fun _ h=>absurd h List.not_mem_nil,fun _ h=>absurd h List.not_mem_nil⟩
theorem yP(hP:Fits P E Fin w0 I0)(hcan:∀ks f fs m,(∀a∈f.todo.head?,a.ua=false)→Good P E w0 I0 f0 Fin Q (canon ks {frames:=f::fs,mem:=m})→Good P E w0 I0 f0 Fin Q {frames:=f::fs,mem:=m})
  (ih:∀c,Tr.Ok Q (Good P E w0 I0 f0 Fin Q) (run ah E n c)→Good P E w0 I0 f0 Fin Q c) {id:Nat} {os:Array Oper}
  (h:Tr.Ok Q (Good P E w0 I0 f0 Fin Q) (run ah E (n+1) {frames:=⟨fn,nn,env,.code (.region id os true)::k,marks,ck⟩::fs,mem:=m}))
  (hst:jV E {frames:=⟨fn,nn,env,.code (.region id os true)::k,marks,ck⟩::fs,mem:=m})
  (hW:WR w0 w S m) (hI:∀b,S.I b→I0 b∨w0.heap.size≤b) (hf:FR w S m ⟨fn,nn,env,.code (.region id os true)::k,marks,ck⟩ fr) (hfs:tV w S m fs frs) (hB:qW f0 (⟨fn,nn,env,.code (.region id os true)::k,marks,ck⟩::fs)) :
  Ends P f0 Fin Q fr frs cs w:=by
 simp only[run] at h
 cases hcut:qz E.n_ fn (some id) with
 | some ks=>rw[hcut] at h;exact hcan ks _ _ _ (fun a ha=>by cases ha;rfl) h hst S fr frs cs w hW hI ⟨fr,frs,rfl,hf,hfs⟩ hB
 | none=>
   rw[hcut] at h
   simp only at h
   cases hd:gY E.gw os with
   | none=>rw[hd] at h;exact h.elim
   | some q=>
     obtain⟨ms,is⟩:=q
     rw[hd] at h
     simp only at h
     exact uV hP hd (ih _ h) hW hI hf hfs hB
theorem CB(hP:Fits P E Fin w0 I0)(ih:∀c,Tr.Ok Q (Good P E w0 I0 f0 Fin Q) (run ah E n c)→Good P E w0 I0 f0 Fin Q c){all:Array Oper}{ms bs:List Nat}
  (h:Tr.Ok Q (Good P E w0 I0 f0 Fin Q) (run ah E (n+1) {frames:=⟨fn,nn,env,.dO all ms [] bs::k,marks,ck⟩::fs,mem:=m}))
  (hst:∀b∈bs,vo E env m all b)
  (hW:WR w0 w S m) (hI:∀b,S.I b→I0 b∨w0.heap.size≤b) (hf:FR w S m ⟨fn,nn,env,.dO all ms [] bs::k,marks,ck⟩ fr) (hfs:tV w S m fs frs) (hB:qW f0 (⟨fn,nn,env,.dO all ms [] bs::k,marks,ck⟩::fs)) :
  Ends P f0 Fin Q fr frs cs w:=by
 obtain⟨it,kc,ht,h1,h2⟩:=hf.todo.cons_inv
 obtain⟨l,rfl,hD⟩:∃l:List Nat,it=.inRegion all l∧dy nn all ms [] bs l:=h1
 simp only[run] at h
 obtain⟨w',S',fr',l',kc',hs,hf',hsteps,ht',hD',hk',hhead,_⟩:=oZ hP (frs++cs) hst l hW hf ht hD h2
 cases l' with
 | cons i l'=>exact absurd (hhead i rfl) List.not_mem_nil
 | nil=>
   refine .steps (hsteps.trans (.one (tW hf'.mode ht'))) (ih _ h (d_ fun a ha=>hf.flat a (List.mem_of_mem_head? ha)) S' _ _ cs _ hs.wr (fun b hb=>(hs.grows b hb).elim (hI b) .inr) ⟨_,_,rfl,hf'.next ?_ hk' hf'.live.tail (fun a ha=>hf.flat a (List.mem_of_mem_tail ha)),hfs.mono hs.out⟩ (hB.swap rfl))
   rintro x ⟨all',bs',l',k',b,p,e1,e2,e3,e4,e5,e6⟩
   rw[ht'] at e2
   cases e2
   exact absurd e4 List.not_mem_nil
theorem oo{all:Array Oper}{bs:List Nat}{d b:Nat}{o:Oper}(h:nq all bs d=true)(hb:b∈bs)(ho:all[b]? = some o):d ∉ readsOf all o:=by
 have:=List.all_eq_true.1 h b hb
 rw[ho] at this
 simp only[Bool.not_eq_true'] at this
 intro hm
 rw[fI.2 hm] at this
 cases this
theorem qo{all:Array Oper}{bs:List Nat}{d b:Nat}{o:Oper}(h:Ag all bs d=true)(hb:b∈bs)(ho:all[b]? = some o):o.dst≠some d:=by
 have:=List.all_eq_true.1 h b hb
 rw[ho] at this
 simp only[Bool.not_eq_true'] at this
 intro e
 rw[e] at this
 simp only[isDst,bJ.2] at this
 cases this
theorem kz{all:Array Oper}{bs:List Nat}{o:Oper}{d:Nat}(h:j5 all bs o.dst=true)(hd:o.dst=some d):nq all bs d=true∧Ag all bs d=true:=by
 rw[hd] at h
 simpa [j5] using h
theorem zd{all:Array Oper}{o:Oper}{d:Nat}(h:tC all o=true)(hd:o.dst=some d):d ∉ readsOf all o:=by
 unfold tC at h
 rw[hd] at h
 simp only[Bool.not_eq_true'] at h
 intro hm
 rw[fI.2 hm] at h
 cases h
theorem Bw{all:Array Oper}{mk:Nat}{bs:List Nat}{o:Oper}(h:F3 all mk bs o=true){b:Nat}(hb:b∈bs){p:Oper}{d:Nat}(hp:all[b]? = some p)(hd:p.dst=some d)(hr:d∈readsOf all o):mk.testBit b=true:=by
 have:=List.all_eq_true.1 h b hb
 rw[hp] at this
 simp only[hd,fI.2 hr] at this
 simpa using this
theorem dy.add{all:Array Oper}{ms rest bs l:List Nat}{i:Nat}{o:Oper}(h:dy nn all ms (i::rest) bs l)(ho:all[i]? = some o)(hd:gX nn o.dst=true)(hord:F3 all (ms.getD i 0) bs o=true)(hg:nt (ms.getD i 0) o=true)
  (hfr:j5 all bs o.dst=true) (hown:tC all o=true):dy nn all ms rest (i::bs) l:=by
 have hnd:=h.nodup
 rw[List.cons_append] at hnd
 have hn:=List.nodup_cons.1 hnd
 refine⟨h.Nj,h.MH,?_,fun j hj=>h.sub j (List.mem_cons_of_mem _ hj),fun j hj=>?_,fun j hj=>?_,?_,?_,?_,?_,?_⟩
 ·exact(List.perm_middle.nodup_iff).2 hnd
 ·rcases h.Nk j hj with hm|hm
  ·rcases List.mem_cons.1 hm with rfl|hm
   ·exact .inr List.mem_cons_self
   ·exact .inl hm
  ·exact .inr (List.mem_cons_of_mem _ hm)
 ·rcases List.mem_cons.1 hj with rfl|hj
  ·exact(Array.getElem?_eq_some_iff.1 ho).1
  ·exact h.lt j hj
 ·intro a ha b hb hne oa p d hoa hp hpd hr
  rcases List.mem_cons.1 ha with rfl|ha'
  ·rcases List.mem_cons.1 hb with rfl|hb'
   ·exact absurd rfl hne
   ·rw[ho] at hoa;cases hoa
    exact Bw hord hb' hp hpd hr
  ·rcases List.mem_cons.1 hb with rfl|hb'
   ·rw[ho] at hp;cases hp
    exact absurd hr (oo (kz hfr hpd).1 ha' hoa)
   ·exact h.read a ha' b hb' hne oa p d hoa hp hpd hr
 ·intro a ha b hb hne oa p d hoa hp hpd
  rcases List.mem_cons.1 ha with rfl|ha'
  ·rcases List.mem_cons.1 hb with rfl|hb'
   ·exact absurd rfl hne
   ·rw[ho] at hoa;cases hoa
    intro e
    exact qo (kz hfr e).2 hb' hp hpd
  ·rcases List.mem_cons.1 hb with rfl|hb'
   ·rw[ho] at hp;cases hp
    exact qo (kz hfr hpd).2 ha' hoa
   ·exact h.dst a ha' b hb' hne oa p d hoa hp hpd
 ·intro a ha oa d hoa hd
  rcases List.mem_cons.1 ha with rfl|ha
  ·rw[ho] at hoa;cases hoa;exact zd hown hd
  ·exact h.own a ha oa d hoa hd
 ·intro a ha oa hoa
  rcases List.mem_cons.1 ha with rfl|ha
  ·rw[ho] at hoa;cases hoa;exact hg
  ·exact h.Vb a ha oa hoa
 ·intro a ha oa hoa
  rcases List.mem_cons.1 ha with rfl|ha
  ·rw[ho] at hoa;cases hoa;exact hd
  ·exact h.LL a ha oa hoa
theorem nW{j:Nat}{rest:List Nat}:∀{ms:List Nat} {k i b:Nat},(((j6 j rest k ms).getD i 0).testBit b=true→(ms.getD i 0).testBit b=true∨(b=j∧k+i∈rest∧k+i≠j))∧((ms.getD i 0).testBit b=true→((j6 j rest k ms).getD i 0).testBit b=true)
 | [],k,i,b=>by rw[j6];exact⟨.inl,id⟩
 | m::ms,k,0,b=>by
   rw[j6]
   simp only[List.getD_cons_zero]
   cases hc:od rest k && !Nat.beq k j with
   | false=>exact⟨.inl,id⟩
   | true=>
     rw[Bool.and_eq_true,Bool.not_eq_true'] at hc
     refine⟨fun h=>?_,fun h=>?_⟩
     ·rw[Nat.testBit_or,Bool.or_eq_true] at h
      rcases h with h|h
      ·exact .inl h
      ·refine .inr ⟨?_,fI.1 hc.1,fun e=>?_⟩
       ·rw[Nat.testBit_two_pow] at h;exact(of_decide_eq_true h).symm
       ·rw[Nat.add_zero] at e
        rw[bJ.2 e] at hc;cases hc.2
     ·show(m ||| 2^j).testBit b=true
      rw[Nat.testBit_or,h];rfl
 | m::ms,k,i+1,b=>by
   rw[j6]
   simp only[List.getD_cons_succ]
   have:=nW (j:=j) (rest:=rest) (ms:=ms) (k:=k+1) (i:=i) (b:=b)
   rw[show k+(i+1)=k+1+i by omega]
   exact this
theorem qc{j x:Nat}:∀{l:List Nat},(x∈kD l j→x∈l)∧(x∈l→x=j∨x∈kD l j)
 | []=>by rw[kD];exact⟨id,fun h=>.inr h⟩
 | i::l=>by
   have ih:=qc (j:=j) (x:=x) (l:=l)
   rw[kD]
   by_cases e:i=j
   ·rw[bJ.2 e]
    exact⟨List.mem_cons_of_mem _,fun h=>(List.mem_cons.1 h).elim (fun h=>.inl (h.trans e)) .inr⟩
   ·rw[bK.2 e]
    refine⟨fun h=>?_,fun h=>?_⟩
    ·rcases List.mem_cons.1 h with rfl|h
     ·exact List.mem_cons_self
     ·exact List.mem_cons_of_mem _ (ih.1 h)
    ·rcases List.mem_cons.1 h with rfl|h
     ·exact .inr List.mem_cons_self
     ·exact(ih.2 h).imp id (List.mem_cons_of_mem _)
theorem dy.next{gw:List (FuncId×aC)}{all:Array Oper}{ms rest bs l ms' is:List Nat}{j:Nat}(h:dy nn all ms rest bs (j::l))(hj:j∈rest)(hn:zp gw all ms rest j=some (ms',is)) :
  dy nn all ms' is bs (j::l):=by
 unfold zp at hn
 simp only at hn
 split at hn
 case h_2=>cases hn
 rename_i hc
 cases hn
 rw[Bool.and_eq_true,Bool.and_eq_true] at hc
 obtain⟨h1,h2,h3⟩:=hc
 have hin:∀x,x∈j::eager gw all (j6 j rest 0 ms) (kD rest j).length (BX (kD rest j)) (kD rest j)→x∈rest:=fun x hx=>by
  rcases List.mem_cons.1 hx with rfl|hx
  ·exact hj
  ·exact qc.1 (fI.1 (List.all_eq_true.1 h2 x hx))
 have hout:∀x,x∈rest→x∈j::eager gw all (j6 j rest 0 ms) (kD rest j).length (BX (kD rest j)) (kD rest j):=fun x hx=>by
  rcases (qc (j:=j)).2 hx with rfl|hx
  ·exact List.mem_cons_self
  ·exact List.mem_cons_of_mem _ (fI.1 (List.all_eq_true.1 h3 x hx))
 have hup:∀i b,(ms.getD i 0).testBit b=true→((j6 j rest 0 ms).getD i 0).testBit b=true:=fun i b=>nW.2
 have hnd:=List.nodup_append.1 h.nodup
 refine⟨fun l1 i l2 e b hb=>?_,h.MH,?_,fun x hx=>h.sub x (hin x hx),fun x hx=>(h.Nk x hx).imp (hout x) id,h.lt,fun i hi b hb hne o p d ho hp hd hr=>hup _ _ (h.read i hi b hb hne o p d ho hp hd hr),h.dst,h.own,fun i hi o ho=>?_,h.LL⟩
 ·rcases nW.1 hb with hb|⟨rfl,_,hne⟩
  ·exact h.Nj l1 i l2 e b hb
  ·rw[Nat.zero_add] at hne
   cases l1 with
   | nil=>cases e;exact absurd rfl hne
   | cons x l1=>
     cases e
     intro hm
     exact(List.nodup_cons.1 h.MH).1 (List.mem_append.2 (.inr hm))
 ·refine List.nodup_append.2 ⟨qd h1,hnd.2.1,fun a ha b hb=>hnd.2.2 a (hin a ha) b hb⟩
 ·have:=h.Vb i hi o ho
  unfold nt at this ⊢
  split
  ·rfl
  ·rename_i q1 q2 hq
   rw[hq] at this
   exact hup _ _ this
theorem zk{G:f_→Prop}{K:Nat→Tr R}:∀{l:List Nat},Tr.Ok Q G (zz K l)→∀j∈l,Tr.Ok Q G (K j)
 | [],_,_,h=>absurd h List.not_mem_nil
 | [i],h,j,hj=>by rw[List.mem_singleton.1 hj];exact h
 | i::i2::l,h,j,hj=>by
   obtain⟨h1,h2⟩:Tr.Ok Q G (K i)∧Tr.Ok Q G (zz K (i2::l)):=h
   rcases List.mem_cons.1 hj with rfl|hj
   ·exact h1
   ·exact zk h2 j hj
theorem dy.cut{all:Array Oper}{ms rest bs l:List Nat}{i:Nat}(h:dy nn all ms rest bs (i::l)):dy nn all ms rest (kj (ms.getD i 0) bs) (i::l):=by
 have hsub:∀b∈kj (ms.getD i 0) bs,b∈bs:=fun b hb=>(List.mem_filter.1 hb).1
 refine⟨h.Nj,h.MH,?_,h.sub,fun j hj=>?_,fun j hj=>h.lt j (hsub j hj),fun a ha b hb=>h.read a (hsub a ha) b (hsub b hb),fun a ha b hb=>h.dst a (hsub a ha) b (hsub b hb),fun a ha=>h.own a (hsub a ha),fun a ha=>h.Vb a (hsub a ha),fun a ha=>h.LL a (hsub a ha)⟩
 ·exact h.nodup.sublist (List.Sublist.append_left List.filter_sublist rest)
 ·rcases h.Nk j hj with hm|hm
  ·exact .inl hm
  ·refine .inr (List.mem_filter.2 ⟨hm,?_⟩)
   cases hb:(ms.getD i 0).testBit j with
   | false=>rfl
   | true=>exact absurd hj (h.done hb)
end
end Go.Ev
namespace Go.Ev
section
variable {P:Program} {R:Type} {E:fE R} {w0:World} {I0:Nat→Prop} {f0:FuncId} {Fin:R→Value→World→Prop} {Q:R→Prop}
variable {w:World} {S:St} {m:Mem} {fr:Frame} {fs:List aV} {frs cs:List Frame}
variable {fn:FuncId} {nn:Nat} {env:Env} {marks:List Nat} {ck:Option Nat} {k:List bl} {n:Nat}
theorem DV(ih:∀c,Tr.Ok Q (Good P E w0 I0 f0 Fin Q) (run ah E n c)→Good P E w0 I0 f0 Fin Q c){all:Array Oper}{ms rest bs l:List Nat}{i:Nat}{o:Oper}{kc:List Item}{v:AV}
  (h:Tr.Ok Q (Good P E w0 I0 f0 Fin Q) (run ah E n {frames:=⟨fn,nn,env.fZ o.dst v,.dO all ms rest (i::bs)::k,marks,ck⟩::fs,mem:=m}))
  (ho:all[i]? = some o) (hdok:gX nn o.dst=true) (hord:F3 all (ms.getD i 0) bs o=true) (hg:nt (ms.getD i 0) o=true) (hfr:j5 all bs o.dst=true) (hown:tC all o=true)
  (hst:∀b∈bs,vo E env m all b) (hi:(dJ all env o false∧v=.rI [])∨(dJ all env o true∧∃tv,G8 ah E m (fT env) o=some tv∧tv.Is v))
  (hW:WR w0 w S m) (hI:∀b,S.I b→I0 b∨w0.heap.size≤b) (hf:FR w S m ⟨fn,nn,env,.dO all ms (i::rest) bs::k,marks,ck⟩ fr) (hfs:tV w S m fs frs) (hB:qW f0 (⟨fn,nn,env,.dO all ms (i::rest) bs::k,marks,ck⟩::fs))
  (ht:fr.todo=.inRegion all l::kc) (hD:dy nn all ms (i::rest) bs l) (hk:bQ nn S k kc):Ends P f0 Fin Q fr frs cs w:=by
 have hsm:nn≤65535:=hf.small
 have hput:∀x,o.dst≠some x→(env.fZ o.dst v).at x=env.at x:=fun x hx=>by rw[Env.xC hdok hsm,if_neg hx]
 have hself:∀x,o.dst=some x→(env.fZ o.dst v).at x=v:=fun x hx=>by rw[Env.xC hdok hsm,if_pos hx]
 have hreads:∀x∈readsOf all o,(env.fZ o.dst v).at x=env.at x:=fun x hx=>hput x fun e=>zd hown e hx
 have hsd:kV (env.fZ o.dst v) o.dst v:=by
  cases hd:o.dst with
  | none=>trivial
  | some d=>show gj v ((env.fZ (some d) v).at d);rw[←hd,hself d hd];exact rc v
 refine ih _ h (fun b hb=>?_) S fr frs cs w hW hI ⟨fr,frs,rfl,?_,hfs⟩ (hB.swap rfl)
 ·rcases List.mem_cons.1 hb with rfl|hb'
  ·refine⟨o,ho,?_⟩
   rcases hi with ⟨h1,rfl⟩|⟨h1,tv,h2,h3⟩
   ·exact .inl ⟨h1.congr fun x hx=>hreads x (gv hx),hsd⟩
   ·refine .inr ⟨h1.congr fun x hx=>hreads x (gv hx),tv,v,?_,h3,hsd⟩
    rw[←h2]
    exact qw fun x hx=>uy fun t e=>hreads t (by subst e;exact lg hx)
  ·refine(hst b hb').congr fun p hp=>⟨fun x hx=>hput x fun e=>oo (kz hfr e).1 hb' hp hx,fun u d hd hs=>?_⟩
   rw[hput d fun e=>qo (kz hfr e).2 hb' hp hd]
   exact hs
 ·have hil:i∈l:=hD.sub i List.mem_cons_self
  refine⟨hf.fn,hf.n,hf.small,fun x hx=>?_,by rw[ht];exact .mk (a:=.dO all ms rest (i::bs)) ⟨l,rfl,hD.add ho hdok hord hg hfr hown⟩ hk,.mk trivial hf.live.tail,hf.flat,hf.defers,hf.marks,hf.mode,hf.kind,hf.ck,hf.jR⟩
  have hne:o.dst≠some x:=fun e=>hx ⟨all,i::bs,l,kc,i,o,rfl,ht,List.mem_cons_self,hil,ho,e⟩
  show CR w S m ((env.fZ o.dst v).at x) (fr.tmps.getD x undef)
  rw[hput x hne]
  refine hf.env x fun hh=>hx ?_
  obtain⟨all',bs',l',k',b,p,e1,e2,e3,e4,e5,e6⟩:=hh
  cases e1
  exact⟨all,i::bs,l',k',b,p,rfl,e2,List.mem_cons_of_mem _ e3,e4,e5,e6⟩
theorem Ga(hP:Fits P E Fin w0 I0)(ih:∀c,Tr.Ok Q (Good P E w0 I0 f0 Fin Q) (run ah E n c)→Good P E w0 I0 f0 Fin Q c){all:Array Oper}{ms rest bs:List Nat}{i:Nat}
  (h:Tr.Ok Q (Good P E w0 I0 f0 Fin Q) (run ah E (n+1) {frames:=⟨fn,nn,env,.dO all ms (i::rest) bs::k,marks,ck⟩::fs,mem:=m}))
  (hst:∀b∈bs,vo E env m all b)
  (hW:WR w0 w S m) (hI:∀b,S.I b→I0 b∨w0.heap.size≤b) (hf:FR w S m ⟨fn,nn,env,.dO all ms (i::rest) bs::k,marks,ck⟩ fr) (hfs:tV w S m fs frs) (hB:qW f0 (⟨fn,nn,env,.dO all ms (i::rest) bs::k,marks,ck⟩::fs)) :
  Ends P f0 Fin Q fr frs cs w:=by
 obtain⟨it,kc,ht,h1,h2⟩:=hf.todo.cons_inv
 obtain⟨l,rfl,hD⟩:∃l:List Nat,it=.inRegion all l∧dy nn all ms (i::rest) bs l:=h1
 have hsm:nn≤65535:=hf.small
 simp only[run] at h
 cases ho:all[i]? with
 | none=>rw[ho] at h;exact h.elim
 | some o=>
   rw[ho] at h
   simp only at h
   cases hck:gX nn o.dst&&(F3 all (ms.getD i 0) bs o&&nt (ms.getD i 0) o) with
   | false=>rw[hck] at h;exact h.elim
   | true=>
     rw[hck] at h
     simp only at h
     rw[Bool.and_eq_true,Bool.and_eq_true] at hck
     obtain⟨hdok,hord,hgok⟩:=hck
     have hsmall:∀d∈df all o,∀c v,env.at d=.bool c v→d≤65535:=fun d _ c v e=>by
      by_cases hh:Hid ⟨fn,nn,env,.dO all ms (i::rest) bs::k,marks,ck⟩ fr d
      ·obtain⟨all',bs',l',k',b,p,e1,e2,e3,e4,e5,e6⟩:=hh
       cases e1
       have:=hD.LL b e3 p e5
       rw[e6] at this
       have:d<nn:=Nat.le_of_ble_eq_true this
       omega
      ·have:=FK hf hh e
       omega
     obtain⟨env',hre,hnr,h⟩:=CW h hsmall
     have hst':∀b∈bs,vo E env' m all b:=fun b hb=>(hst b hb).congr fun p hp=>by
      rcases hnr with heq|hnr
      ·exact⟨fun x _=>heq x,fun v d _ hs=>by rw[heq d];exact hs⟩
      ·refine⟨fun x hx=>?_,fun v d _ hs=>?_⟩
       ·rcases hre x with e|⟨hxg,_⟩
        ·exact e
        ·exact absurd hx (oo (hnr x hxg) hb hp)
       ·rcases hre d with e|⟨_,b',e1,e2⟩
        ·rw[e];exact hs
        ·rw[e2];rw[e1] at hs;exact yN hs
     have hf':=hf.Bn (D:=df all o) hre
     rcases h with ⟨hg,h⟩|⟨hg,h⟩
     ·-- wanted
      have eff:Tr.Ok Q (Good P E w0 I0 f0 Fin Q) (match rest.all (fun j=>(ms.getD j 0).testBit i) with
           | false=>zz (fun j=>match zp E.gw all ms (i::rest) j with
              | some (ms',is)=>run ah E n {frames:=⟨fn,nn,env',.dO all ms' is bs::k,marks,ck⟩::fs,mem:=m}
              | none=>.bad 180 o.pos) ((i::rest).filter (AI ms (i::rest)))
           | true=>match j5 all (kj (ms.getD i 0) bs) o.dst with
            | false=>.bad 178 o.pos
            | true=>
              match jG ah E (fT env') m o with
              | some tv=>tv.bind o.pos fun v=>nR ah E (env'.fZ o.dst v) m all (kj (ms.getD i 0) bs) (run ah E n {frames:=⟨fn,nn,env'.fZ o.dst v,.dO all ms rest (kj (ms.getD i 0) bs)::k,marks,ck⟩::fs,mem:=m})
              | none=>match o.op with
                | .call {callee:=.value x,args,.. }=>match fT env' x with
                  | .fn g first caps=>match look E.gw g with
                    | some s=>(k6 ah s m (first++(args.toList.map (fT env')++caps))).bind o.pos fun p=>nR ah E (env'.fZ o.dst p.1) p.2 all (kj (ms.getD i 0) bs) (run ah E n {frames:=⟨fn,nn,env'.fZ o.dst p.1,.dO all ms rest (kj (ms.getD i 0) bs)::k,marks,ck⟩::fs,mem:=p.2})
                    | none=>match look E.mg g with
                      | none=>.bad 163 o.pos
                      | some G=>match gN g G (first++(args.toList.map (fT env')++caps)) with
                        | none=>.bad 164 o.pos
                        | some h=>run ah E n {frames:=h::⟨fn,nn,env',.kh all ms i rest (kj (ms.getD i 0) bs)::k,marks,ck⟩::fs,mem:=m}
                  | .yield l=>match m.at l with
                     | .loop r=>match Nat.beq r.params.length (args.toList.map (fT env')).length&&r.params.all (fun p=>Nat.blt p r.n) with
                       | true=>run ah E n {frames:={fn:=r.fn,n:=r.n,env:=oq r.params (args.toList.map (fT env')) r.env,todo:=[.code r.assign,.beginRound,.code r.body],marks:=[],ck:=some l}::⟨fn,nn,env',.kh all ms i rest (kj (ms.getD i 0) bs)::k,marks,ck⟩::fs,mem:=m}
                       | false=>.bad 165 o.pos
                     | _=>.bad 166 o.pos
                  | _=>.bad 167 o.pos
                | _=>(mT ah E fn (fT env') m o).bind o.pos fun p=>nR ah E (env'.fZ o.dst p.1) p.2 all (kj (ms.getD i 0) bs) (run ah E n {frames:=⟨fn,nn,env'.fZ o.dst p.1,.dO all ms rest (kj (ms.getD i 0) bs)::k,marks,ck⟩::fs,mem:=p.2}))→Ends P f0 Fin Q fr frs cs w:=by
       intro h
       cases hck1:rest.all (fun j=>(ms.getD j 0).testBit i) with
       | false=>
         rw[hck1] at h
         simp only at h
         obtain⟨w1,S1,fr1,l1,kc1,hs1,hf1,hsteps1,ht1,hD1,hk1,hhead,hfn1⟩:=oZ hP (frs++cs) hst l hW hf ht hD h2
         have hil:i∈l1:=hD1.sub i List.mem_cons_self
         cases l1 with
         | nil=>exact absurd hil List.not_mem_nil
         | cons j l1=>
           have hj:=hhead j rfl
           have hrd:AI ms (i::rest) j=true:=List.all_eq_true.2 fun b hb=>by
            rw[Bool.not_eq_true']
            cases hbt:(ms.getD j 0).testBit b with
            | false=>rfl
            | true=>exact absurd (hD1.sub b hb) (hD1.done hbt)
           have h:=zk h j (List.mem_filter.2 ⟨hj,hrd⟩)
           cases hnx:zp E.gw all ms (i::rest) j with
           | none=>rw[hnx] at h;exact h.elim
           | some q=>
             obtain⟨ms',is⟩:=q
             rw[hnx] at h
             have hf1':=hf1.Bn (D:=df all o) hre
             refine .steps hsteps1 (ih _ h hst' S1 _ _ cs w1 hs1.wr (fun b hb=>(hs1.grows b hb).elim (hI b) .inr) ⟨_,_,rfl,?_,hfs.mono hs1.out⟩ (hB.swap rfl))
             refine⟨hf1'.fn,hf1'.n,hf1'.small,fun x hx=>hf1'.env x fun hh=>hx ?_,by rw[ht1];exact .mk (a:=.dO all ms' is bs) ⟨_,rfl,hD1.next hj hnx⟩ hk1,.mk trivial hf1'.live.tail,hf1'.flat,hf1'.defers,hf1'.marks,hf1'.mode,hf1'.kind,hf1'.ck,hf1'.jR⟩
             obtain⟨all',bs',l',k',b,p,e1,e2,e3,e4,e5,e6⟩:=hh
             cases e1
             exact⟨all,bs,l',k',b,p,rfl,e2,e3,e4,e5,e6⟩
       | true=>
        rw[hck1] at h
        simp only at h
        cases hck2:j5 all (kj (ms.getD i 0) bs) o.dst with
        | false=>rw[hck2] at h;exact h.elim
        | true=>
         rw[hck2] at h
         simp only at h
         obtain⟨w1,S1,fr1,l1,kc1,hs1,hf1,hsteps1,ht1,hD1,hk1,hhead,hfn1⟩:=oZ hP (frs++cs) hst l hW hf ht hD h2
         have hil:i∈l1:=hD1.sub i List.mem_cons_self
         cases l1 with
         | nil=>exact absurd hil List.not_mem_nil
         | cons j l1=>
           have hji:j=i:=by
            rcases List.mem_cons.1 (hhead j rfl) with e|hj
            ·exact e
            ·exact absurd hil (hD1.done (List.all_eq_true.1 hck1 j hj))
           subst hji
           have hjn:j ∉ rest++bs:=(List.nodup_cons.1 (by have:=hD1.nodup;rwa [List.cons_append] at this)).1
           have hjb:j ∉ bs:=fun hm=>hjn (List.mem_append.2 (.inr hm))
           have hf1':=hf1.Bn (D:=df all o) hre
           have hnh:∀{t:Nat},t∈readsOf all o→¬Hid ⟨fn,nn,env',.dO all ms (j::rest) bs::k,marks,ck⟩ fr1 t:=fun hr=>
            pI hD1 rfl ht1 (fun b hb _ p d hp hd hr=>Bw hord hb hp hd hr) (fun hm=>absurd hm hjb) hr
           have hw:Region.wanted o (yielded all fr1.tmps)=true:=jg hg fun d hd=>hf1'.env d (hnh (gv hd))
           have hbelow:FR w1 S1 m ⟨fn,nn,env',.kh all ms j rest (kj (ms.getD j 0) bs)::k,marks,ck⟩ fr1:=by
            refine⟨hf1'.fn,hf1'.n,hf1'.small,fun x hx=>hf1'.env x fun hh=>hx ?_,by rw[ht1];exact .mk (a:=.kh all ms j rest (kj (ms.getD j 0) bs)) ⟨l1,rfl,hD1.cut⟩ hk1,.mk trivial hf1'.live.tail,hf1'.flat,hf1'.defers,hf1'.marks,hf1'.mode,hf1'.kind,hf1'.ck,hf1'.jR⟩
            obtain⟨all',bs',l',k',b,p,e1,e2,e3,e4,e5,e6⟩:=hh
            cases e1
            rw[ht1] at e2
            cases e2
            refine⟨all,_,j::l1,kc1,b,p,rfl,ht1,List.mem_filter.2 ⟨e3,?_⟩,e4,e5,e6⟩
            cases hb:(ms.getD j 0).testBit b with
            | false=>rfl
            | true=>exact absurd e4 (hD1.done hb)
           refine .steps hsteps1 (BV (fn:=fn) (ρ:=fT env') (below:=⟨fn,nn,env',.kh all ms j rest (kj (ms.getD j 0) bs)::k,marks,ck⟩) (next:=fun v m=>nR ah E (env'.fZ o.dst v) m all (kj (ms.getD j 0) bs) (run ah E n {frames:=⟨fn,nn,env'.fZ o.dst v,.dO all ms rest (kj (ms.getD j 0) bs)::k,marks,ck⟩::fs,mem:=m}))
            hP ih hs1.wr (fun b hb=>(hs1.grows b hb).elim (hI b) .inr) (hfs.mono hs1.out) (hB.swap rfl) hf1.mode ht1 ho hw (fun x hx=>pU hf1' x fun t e=>hnh (by subst e;exact lg hx)) hbelow (fun v m' w' S' z hs hc h=>?_) h)
           obtain⟨hst2,h⟩:=o9 h
           have hs2:=hs1.trans hs
           exact ih _ h hst2 S' _ _ cs w' hs2.wr (fun b hb=>(hs2.grows b hb).elim (hI b) .inr) ⟨_,_,rfl,rE (hbelow.mono hs.out) ho hdok hc,hfs.mono hs2.out⟩ (hB.swap rfl)
      split at h
      ·rename_i tv hev hfo
       rw[Bool.and_eq_true] at hfo
       obtain⟨v,hv,h⟩:=TV.bind_ok h
       exact DV ih h ho hdok hord hgok hfo.1 hfo.2 hst' (.inr ⟨hg,tv,hev,hv⟩) hW hI hf' hfs (hB.swap rfl) ht hD h2
      ·exact eff h
     ·-- not wanted
      cases hfo:j5 all bs o.dst&&tC all o with
      | false=>rw[hfo] at h;exact h.elim
      | true=>
        rw[hfo] at h
        simp only at h
        rw[Bool.and_eq_true] at hfo
        exact DV ih h ho hdok hord hgok hfo.1 hfo.2 hst' (.inl ⟨hg,rfl⟩) hW hI hf' hfs (hB.swap rfl) ht hD h2
end
end Go.Ev
namespace Go.Ev
theorem np:∀{l:List Nat} {id k:Nat},id∈l→∃j,idxOf l id k=k+j∧l[j]? = some id∧j<l.length
 | i::l,id,k,h=>by
   rw[idxOf]
   by_cases hi:i=id
   ·subst hi;rw[bJ.2 rfl];exact⟨0,rfl,rfl,Nat.succ_pos _⟩
   ·rw[bK.2 hi]
    obtain⟨j,h1,h2,h3⟩:=np (k:=k+1) ((List.mem_cons.1 h).resolve_left (fun e=>hi e.symm))
    exact⟨j+1,by simp only;rw[h1];omega,by simpa using h2,by simpa using h3⟩
theorem wq:∀{l:List Nat} {id k:Nat},id ∉ l→idxOf l id k=k+l.length
 | [],id,k,_=>rfl
 | i::l,id,k,h=>by
   rw[idxOf,bK.2 fun e=>h (by subst e;exact List.mem_cons_self)]
   simp only
   rw[wq fun hm=>h (List.mem_cons_of_mem _ hm),List.length_cons]
   omega
theorem m_:∀{r acc:List Nat},acc.Nodup→(j3 acc r).Nodup∧(∀i∈acc,i∈j3 acc r)∧∀i∈r,i∈j3 acc r
 | [],acc,h=>⟨h,fun _ h=>h,fun _ h=>absurd h List.not_mem_nil⟩
 | j::r,acc,h=>by
   rw[j3]
   cases hm:od acc j with
   | true=>
     simp only
     obtain⟨h1,h2,h3⟩:=m_ (r:=r) h
     refine⟨h1,h2,fun i hi=>?_⟩
     rcases List.mem_cons.1 hi with rfl|hi
     ·exact h2 _ (fI.1 hm)
     ·exact h3 i hi
   | false=>
     simp only
     have hn:j ∉ acc:=fun h=>by rw[fI.2 h] at hm;cases hm
     obtain⟨h1,h2,h3⟩:=m_ (r:=r) (acc:=acc ++ [j]) (List.nodup_append.2 ⟨h,by simp,fun a ha b hb=>by rintro rfl;rw[List.mem_singleton.1 hb] at ha;exact hn ha⟩)
     refine⟨h1,fun i hi=>h2 i (List.mem_append.2 (.inl hi)),fun i hi=>?_⟩
     rcases List.mem_cons.1 hi with rfl|hi
     ·exact h2 _ (List.mem_append.2 (.inr (List.mem_singleton.2 rfl)))
     ·exact h3 i hi
theorem qV:∀{f:Nat} {m:Mem} {acc:List Nat} {p:Nat},acc.Nodup→(jw f m acc p).Nodup∧∀i∈acc,i∈jw f m acc p
 | 0,m,acc,p,h=>⟨h,fun _ h=>h⟩
 | f+1,m,acc,p,h=>by
   rw[jw]
   cases acc[p]? with
   | none=>exact⟨h,fun _ h=>h⟩
   | some id=>
     simp only
     obtain⟨h1,h2,_⟩:=m_ (r:=zK (m.at id)) h
     obtain⟨h3,h4⟩:=qV (f:=f) (m:=m) (p:=p+1) h1
     exact⟨h3,fun i hi=>h4 i (h2 i hi)⟩
theorem nK{l:List Nat}:∀{cs:List AV},(iM l cs).length=cs.length
 | []=>by rw[iM]
 | a::cs=>by rw[iM,List.length_cons,List.length_cons,nK]
def St.ren(S:St)(l:List Nat):St:={σ:=fun i=>S.σ (l.getD i 0),δ:=fun i=>S.δ (l.getD i 0),I:=S.I}
def Mem.ren(m:Mem)(l:List Nat):Mem:=(l.map fun id=>iN l (m.at id)) ++ [.dead]
section
variable {w0 w:World} {S:St} {m:Mem} {l:List Nat}
theorem pY{j id:Nat}(h:l[j]? = some id):(m.ren l).at j=iN l (m.at id):=by
 have hj:j<l.length:=(List.getElem?_eq_some_iff.1 h).1
 rw[Mem.ren,Mem.at,List.getD_eq_getElem?_getD,List.getElem?_append_left (by rw[List.length_map];exact hj),List.getElem?_map,h]
 rfl
theorem tF:(m.ren l).at l.length=.dead:=by
 rw[Mem.ren,Mem.at,List.getD_eq_getElem?_getD,List.getElem?_append_right (by rw[List.length_map];exact Nat.le_refl _),List.length_map,Nat.sub_self]
 rfl
theorem Dm{j:Nat}(h:l.length<j):(m.ren l).at j=.bad:=by
 rw[Mem.ren,Mem.at,List.getD_eq_getElem?_getD,List.getElem?_eq_none (by rw[List.length_append,List.length_map];simp;omega)]
 rfl
theorem pX(j:Nat):(∃id,l[j]? = some id∧(m.ren l).at j=iN l (m.at id)∧(S.ren l).σ j=S.σ id∧(S.ren l).δ j=S.δ id)∨(m.ren l).at j=.dead∨(m.ren l).at j=.bad:=by
 rcases Nat.lt_trichotomy j l.length with h|h|h
 ·have e:=List.getElem?_eq_getElem h
  refine .inl ⟨l[j],e,pY e,?_,?_⟩<;>simp[St.ren,List.getD_eq_getElem?_getD,e]
 ·subst h;exact .inr (.inl tF)
 ·exact .inr (.inr (Dm h))
theorem qP(id:Nat):(id∈l∧(m.ren l).at (idxOf l id 0)=iN l (m.at id)∧(S.ren l).σ (idxOf l id 0)=S.σ id∧(S.ren l).δ (idxOf l id 0)=S.δ id)∨(m.ren l).at (idxOf l id 0)=.dead:=by
 by_cases h:id∈l
 ·obtain⟨j,h1,h2,h3⟩:=np (k:=0) h
  rw[Nat.zero_add] at h1
  rw[h1]
  refine .inl ⟨h,pY h2,?_,?_⟩<;>simp[St.ren,List.getD_eq_getElem?_getD,h2]
 ·rw[wq h,Nat.zero_add]
  exact .inr tF
mutual
theorem AZ:∀{a:AV} {v:Value},CR w S m a v→CR w (S.ren l) (m.ren l) (eQ l a) v
 | .undef,v,_=>by rw[eQ];exact dG
 | .int k c n,v,h=>by rw[eQ];exact bD.2 (bD.1 h)
 | .bool c b,v,h=>by rw[eQ];exact cq.2 (cq.1 h)
 | .str c s,v,h=>by rw[eQ];exact eH.2 (eH.1 h)
 | .sl t x,v,h=>by rw[eQ,CR];rw[CR] at h;exact h
 | .dp b,v,h=>by rw[eQ];exact eG.2 (eG.1 h)
 | .mO t x off,v,h=>by rw[eQ,CR];rw[CR] at h;exact h
 | .bY,v,h=>by rw[eQ];exact fQ.2 (fQ.1 h)
 | .gP,v,h=>by rw[eQ];exact gH.2 (gH.1 h)
 | .own id,v,h=>by
   rw[eQ,CR]
   rw[CR] at h
   rcases qP (S:=S) (m:=m) (l:=l) id with ⟨_,h1,h2,h3⟩|h1
   ·rw[h1,h2,h3]
    cases hb:m.at id<;>rw[hb] at h<;>(try exact h.elim)<;>exact h
   ·rw[h1];trivial
 | .kq id sz c lo len,v,h=>by
   rw[eQ,CR]
   rw[CR] at h
   rcases qP (S:=S) (m:=m) (l:=l) id with ⟨_,h1,h2,h3⟩|h1
   ·rw[h1,h2,h3]
    cases hb:m.at id<;>rw[hb] at h<;>(try exact h.elim)<;>(try exact h)
    obtain⟨l0,n,cap,a,e1,e2,e3,e4,e5⟩:=h
    exact⟨l0,n,cap,a,e1,e2,e3,by rw[nK];exact e4,e5⟩
   ·rw[h1];trivial
 | .ptr id off,v,h=>by
   rw[eQ,CR]
   rw[CR] at h
   rcases qP (S:=S) (m:=m) (l:=l) id with ⟨_,h1,h2,h3⟩|h1
   ·rw[h1,h2]
    cases hb:m.at id<;>rw[hb] at h<;>(try exact h.elim)<;>exact h
   ·rw[h1];trivial
 | .ko id i off,v,h=>by
   rw[eQ,CR]
   rw[CR] at h
   rcases qP (S:=S) (m:=m) (l:=l) id with ⟨_,h1,h2,h3⟩|h1
   ·rw[h1,h2,h3]
    cases hb:m.at id<;>rw[hb] at h<;>(try exact h.elim)<;>exact h
   ·rw[h1];trivial
 | .nE id off n t i,v,h=>by
   rw[eQ,CR]
   rw[CR] at h
   rcases qP (S:=S) (m:=m) (l:=l) id with ⟨_,h1,h2,h3⟩|h1
   ·rw[h1,h2]
    cases hb:m.at id<;>rw[hb] at h<;>(try exact h.elim)<;>exact h
   ·rw[h1];trivial
 | .yield id,v,h=>by
   rw[eQ,CR]
   rw[CR] at h
   rcases qP (S:=S) (m:=m) (l:=l) id with ⟨_,h1,h2,h3⟩|h1
   ·rw[h1,h2]
    cases hb:m.at id<;>rw[hb] at h<;>(try exact h.elim)<;>exact h
   ·rw[h1];trivial
 | .fn f a c,v,h=>by
   rw[eQ]
   obtain⟨us,vs,e,h1,h2⟩:=lN.1 h
   exact lN.2 ⟨us,vs,e,ny h1,ny h2⟩
 | .agg cs,v,h=>by
   rw[eQ]
   obtain⟨us,e,h1⟩:=jk.1 h
   exact jk.2 ⟨us,e,ny h1⟩
 | .rI cs,v,h=>by
   rw[eQ]
   obtain⟨us,e,h1⟩:=ic.1 h
   exact ic.2 ⟨us,e,ny h1⟩
theorem ny:∀{cs:List AV} {us:List Value},bC w S m cs us→bC w (S.ren l) (m.ren l) (iM l cs) us
 | [],us,h=>by rw[iM];exact bI.2 (bI.1 h)
 | a::cs,us,h=>by
   rw[iM]
   obtain⟨v,r,e,h1,h2⟩:=cu.1 h
   exact cu.2 ⟨v,r,e,AZ h1,ny h2⟩
end
theorem qQ:∀{e:PT AV} {i:Nat},(oD l e).get i=(e.get i).map (eQ l)
 | .leaf,i=>by rw[oD,PT.ji];rfl
 | .node a v b,i=>by
   show(PT.node (oD l a) (match v with|some x=>some (eQ l x)|none=>none) (oD l b)).get i=_
   rw[PT.gb,PT.gb]
   by_cases h0:i=0
   ·rw[if_pos h0,if_pos h0];cases v<;>rfl
   ·rw[if_neg h0,if_neg h0]
    by_cases h1:i%2=1
    ·rw[if_pos h1,if_pos h1,qQ]
    ·rw[if_neg h1,if_neg h1,qQ]
theorem E6{e:Env}{i:Nat}:Env.at (oD l e) i=eQ l (e.at i):=by
 rw[Env.at,Env.at,qQ]
 cases PT.get e i<;>first|rfl|(simp only[Option.map_none];rw[eQ])
theorem IA{id:Nat}(hb:ox w S m id (m.at id)){j:Nat}(hσ:(S.ren l).σ j=S.σ id)(hδ:(S.ren l).δ j=S.δ id):ox w (S.ren l) (m.ren l) j (iN l (m.at id)):=by
 cases hm:m.at id<;>rw[hm] at hb<;>simp only[iN]
 case bad=>trivial
 case dead=>trivial
 case zO=>trivial
 case yq=>exact(show w.heap[(S.ren l).σ j]? = _ by rw[hσ];exact hb)
 case flat fz cs=>
  obtain⟨us,T,fr,h1,h2,h3⟩:=hb
  exact⟨us,T,fr,by rw[hσ];exact h1,h2,ny h3⟩
 case arr fz t x=>
  obtain⟨h0,us,T,fr,h1,h2,h3,h4⟩:=hb
  exact⟨h0,us,T,fr,by rw[hσ];exact h1,h2,by rw[hδ];exact h3,by rw[hδ];exact h4⟩
 case loop r=>
  obtain⟨L,h1,h2,h3,h4,h5,h6,h7,h8,h9⟩:=hb
  exact⟨L,by rw[hσ];exact h1,h2,h3,h4,h5,h6,h7,h8,fun i=>by
   show CR w (S.ren l) (m.ren l) (Env.at (oD l r.env) i) _
   rw[E6];exact AZ (h9 i)⟩
theorem zU{b:iJ}:(iN l b).bL=b.bL:=by cases b<;>rfl
theorem wW{b:iJ}:(iN l b).jm=b.jm:=by cases b<;>rfl
theorem lf{b:iJ}:(iN l b).ei=b.ei:=by cases b<;>rfl
theorem MJ(hW:WR w0 w S m)(hn:l.Nodup):WR w0 w (S.ren l) (m.ren l):=by
 have live:∀j,((m.ren l).at j).bL=true→∃id,l[j]? = some id∧(m.ren l).at j=iN l (m.at id)∧(S.ren l).σ j=S.σ id∧(m.at id).bL=true:=fun j h=>by
  rcases pX (S:=S) (m:=m) (l:=l) j with ⟨id,h1,h2,h3,_⟩|h1|h1
  ·rw[h2,zU] at h;exact⟨id,h1,h2,h3,h⟩
  ·rw[h1] at h;cases h
  ·rw[h1] at h;cases h
 refine⟨hW.os,hW.tape,hW.output,hW.size,hW.base,hW.mV,fun j=>?_,fun j j' h h' e=>?_,fun j h=>?_,fun j h h'=>?_,fun j h=>?_⟩
 ·rcases pX (S:=S) (m:=m) (l:=l) j with ⟨id,h1,h2,h3,h4⟩|h1|h1
  ·rw[h2];exact IA (hW.box id) h3 h4
  ·rw[h1];trivial
  ·rw[h1];trivial
 ·obtain⟨id,h1,h2,h3,h4⟩:=live j h
  obtain⟨id',g1,g2,g3,g4⟩:=live j' h'
  have:=hW.inj id id' h4 g4 (by rw[←h3,←g3];exact e)
  subst this
  obtain⟨a1,a2⟩:=List.getElem?_eq_some_iff.1 h1
  obtain⟨b1,b2⟩:=List.getElem?_eq_some_iff.1 g1
  exact(List.getElem_inj hn).1 (a2.trans b2.symm)
 ·obtain⟨id,h1,h2,h3,h4⟩:=live j h
  rw[h3];exact hW.lo id h4
 ·obtain⟨id,h1,h2,h3,h4⟩:=live j h
  rw[h3]
  rw[h2,wW] at h'
  exact hW.qg id h4 h'
 ·rcases pX (S:=S) (m:=m) (l:=l) j with ⟨id,h1,h2,h3,h4⟩|h1|h1
  ·rw[h3]
   rw[h2,wW] at h
   exact hW.xN id h
  ·rw[h1] at h;cases h
  ·rw[h1] at h;cases h
theorem ni{id:Nat}(h:id∈l):(m.ren l).at (idxOf l id 0)=iN l (m.at id):=by
 obtain⟨j,h1,h2,h3⟩:=np (k:=0) h
 rw[Nat.zero_add] at h1
 rw[h1]
 exact pY h2
theorem pE{id:Nat}(h:id∈l):(S.ren l).σ (idxOf l id 0)=S.σ id:=by
 obtain⟨j,h1,h2,h3⟩:=np (k:=0) h
 rw[Nat.zero_add] at h1
 rw[h1]
 simp[St.ren,List.getD_eq_getElem?_getD,h2]
theorem yL{n:Nat}:∀{k:List bl} {kc:List Item},(∀i∈k.flatMap gZ,i∈l)→bQ n S k kc→bQ n (S.ren l) (k.map (jW l)) kc
 | [],kc,_,h=>h
 | a::k,kc,hl,h=>by
   obtain⟨it,kc1,rfl,h1,h2⟩:=h.cons_inv
   refine .mk ?_ (yL (fun i hi=>hl i (by rw[List.flatMap_cons];exact List.mem_append.2 (.inr hi))) h2)
   have hid:∀i∈gZ a,i∈l:=fun i hi=>hl i (by rw[List.flatMap_cons];exact List.mem_append.2 (.inl hi))
   cases a<;>try exact h1
   case im id=>
    have h1:it=.inRangeFunc (S.σ id):=h1
    show it=.inRangeFunc ((S.ren l).σ (idxOf l id 0))
    rw[(pE (hid id (List.mem_singleton.2 rfl)))];exact h1
   case gu id=>
    have h1:it=.endRangeFunc (S.σ id):=h1
    show it=.endRangeFunc ((S.ren l).σ (idxOf l id 0))
    rw[(pE (hid id (List.mem_singleton.2 rfl)))];exact h1
theorem ru{a:bl}:(jW l a).ua=a.ua:=by cases a<;>rfl
theorem vk{a:bl}:(jW l a).drawn=a.drawn:=by cases a<;>rfl
theorem DJ{k:List bl}(hl:∀i∈k.flatMap gZ,i∈l)(h:bd m k):bd (m.ren l) (k.map (jW l)):=by
 intro b hb
 obtain⟨a,ha,rfl⟩:=List.mem_map.1 hb
 have h1:=h a ha
 have hid:∀i∈gZ a,i∈l:=fun i hi=>hl i (List.mem_flatMap.2 ⟨a,ha,hi⟩)
 cases a<;>(try trivial)
 case im id=>
  show((m.ren l).at (idxOf l id 0)).ei=true
  rw[(ni (hid id (List.mem_singleton.2 rfl))),lf];exact h1
 case gu id=>
  show((m.ren l).at (idxOf l id 0)).ei=true
  rw[(ni (hid id (List.mem_singleton.2 rfl))),lf];exact h1
theorem nY{e:Env}{v:Nat→Value}{H:Nat→Prop}(h:∀i,¬H i→CR w S m (e.at i) (v i)):∀{ks:List Nat} {i:Nat},¬H i→CR w (S.ren l) (m.ren l) ((kU l e ks).at i) (v i)
 | [],i,_=>by rw[kU,Env.Bt];exact dG
 | j::ks,i,hi=>by
   rw[kU]
   cases hj:Nat.ble j 65535 with
   | false=>exact nY h hi
   | true=>
     simp only
     rw[Env.qm (Nat.le_of_ble_eq_true hj)]
     by_cases e:i=j
     ·subst e;rw[if_pos rfl];exact AZ (h i hi)
     ·rw[if_neg e];exact nY h hi
theorem L0{f:aV}{fr:Frame}{ks:List Nat}(hf:FR w S m f fr)(hm:∀i∈f.marks,i∈l)(hr:∀i,f.ck=some i→i∈l)(ht:∀i∈f.todo.flatMap gZ,i∈l) :
  FR w (S.ren l) (m.ren l) {f with env:=kU l f.env ks,todo:=f.todo.map (jW l),marks:=f.marks.map (idxOf l · 0),ck:=f.ck.map (idxOf l · 0)} fr:=by
 refine⟨hf.fn,hf.n,hf.small,fun i hi=>nY (H:=fun i=>Hid f fr i) hf.env (fun hh=>hi ?_),yL ht hf.todo,DJ ht hf.live,fun a ha=>?_,?_,fun d hd=>?_,hf.mode,hf.kind,?_,fun i hi=>?_⟩
 ·obtain⟨all,bs,l',k',b,p,e1,e2⟩:=hh
  refine⟨all,bs,l',k',b,p,?_,e2⟩
  rw[←e1]
  cases f.todo with
  | nil=>rfl
  | cons a k=>exact vk
 ·have ha:a∈(f.todo.map (jW l)).tail:=ha
  rw[←List.map_tail] at ha
  obtain⟨b,hb,rfl⟩:=List.mem_map.1 ha
  rw[ru];exact hf.flat b hb
 ·rw[hf.defers,List.map_map]
  exact List.map_congr_left fun d hd=>by simp only[Function.comp];rw[(pE (hm d hd))]
 ·obtain⟨d',hd',rfl⟩:=List.mem_map.1 hd
  rw[(ni (hm d' hd')),lf];exact hf.marks d' hd'
 ·rw[hf.ck]
  cases hr':f.ck with
  | none=>rfl
  | some i=>simp only[Option.map_some];rw[(pE (hr i hr'))]
 ·cases hr':f.ck with
  | none=>rw[hr'] at hi;cases hi
  | some j=>
    rw[hr'] at hi
    cases hi
    rw[(ni (hr j hr')),lf];exact hf.jR j hr'
theorem Bz:∀{fs:List aV} {frs:List Frame} {ks:List (List Nat)},(∀i∈jN ks fs,i∈l)→tV w S m fs frs→tV w (S.ren l) (m.ren l) (fq l ks fs) frs
 | [],frs,ks,_,h=>by rw[fq];exact h
 | f::fs,frs,ks,hl,h=>by
   obtain⟨fr,r,rfl,h1,h2⟩:=h
   rw[fq]
   have hl':∀i,i∈f.marks++((match f.ck with|some l=>[l]|none=>[])++(f.todo.flatMap gZ++jN ks.tail fs))→i∈l:=fun i hi=>hl i (by rw[jN];exact List.mem_append.2 (.inr hi))
   refine⟨fr,r,rfl,L0 h1 (fun i hi=>hl' i (List.mem_append.2 (.inl hi))) (fun i hi=>hl' i (List.mem_append.2 (.inr (List.mem_append.2 (.inl ?_))))) (fun i hi=>hl' i (List.mem_append.2 (.inr (List.mem_append.2 (.inr (List.mem_append.2 (.inl hi))))))),
    Bz (fun i hi=>hl' i (List.mem_append.2 (.inr (List.mem_append.2 (.inr (List.mem_append.2 (.inr hi))))))) h2⟩
   rw[hi];exact List.mem_singleton.2 rfl
theorem BS{f0:FuncId}:∀{fs:List aV} {ks:List (List Nat)},qW f0 fs→qW f0 (fq l ks fs)
 | [],ks,h=>h.elim
 | [f],ks,h=>h
 | f::g::r,ks,h=>by
   rw[fq,fq]
   have:=BS (fs:=g::r) (ks:=ks.tail) h
   rw[fq] at this
   exact this
theorem uK{P:Program}{R:Type}{E:fE R}{I0:Nat→Prop}{f0:FuncId}{Fin:R→Value→World→Prop}{Q:R→Prop}(ks:List (List Nat))(f:aV)(fs:List aV)(m:Mem)(hd:∀a∈f.todo.head?,a.ua=false)
  (h:Good P E w0 I0 f0 Fin Q (canon ks {frames:=f::fs,mem:=m})):Good P E w0 I0 f0 Fin Q {frames:=f::fs,mem:=m}:=by
 intro _ S fr frs cs w hW hI hf hB
 obtain⟨h1,h2,h3⟩:=m_ (acc:=[]) (r:=jN ks (f::fs)) List.nodup_nil
 obtain⟨h4,h5⟩:=qV (f:=m.length+1) (m:=m) (p:=0) h1
 refine h ?_ (S.ren (jw (m.length+1) m (j3 [] (jN ks (f::fs))) 0)) fr frs cs w (MJ hW h4) hI (Bz (fun i hi=>h5 i (h3 i hi)) hf) (BS hB)
 unfold jV canon
 simp only[fq]
 split
 ·rename_i all ms rest bs k he
  cases ht:f.todo with
  | nil=>rw[ht] at he;cases he
  | cons a k'=>
    rw[ht] at he
    have hda:=hd a (by rw[ht];rfl)
    simp only[List.map_cons,List.cons.injEq] at he
    have:(jW (jw (m.length+1) m (j3 [] (jN ks (f::fs))) 0) a).ua=true:=by rw[he.1];rfl
    rw[ru,hda] at this
    cases this
 ·trivial
end
end Go.Ev
namespace Go.Ev
section
variable {P:Program} {R:Type} {E:fE R} {w0:World} {I0:Nat→Prop} {f0:FuncId} {Fin:R→Value→World→Prop} {Q:R→Prop}
theorem vT(hP:Fits P E Fin w0 I0){n:Nat}(ih:∀c,Tr.Ok Q (Good P E w0 I0 f0 Fin Q) (run ah E n c)→Good P E w0 I0 f0 Fin Q c)
  {w:World} {S:St} {m:Mem} {fr:Frame} {fs:List aV} {frs cs:List Frame} {f:aV} {jump:Option Code}
  (h:Tr.Ok Q (Good P E w0 I0 f0 Fin Q) (match f.ck with
    | none=>match g_ f.marks m with
      | none=>.bad 139 ""
      | some m=>match look E.mg f.fn with
        | none=>.bad 141 ""
        | some F=>match fS ah E f.env m F.results.toList with
          | none=>.bad 142 ""
          | some vs=>match fs with
            | []=>match E.fin (fj vs) m with
              | some y=>.ret y
              | none=>.bad 143 ""
            | g::gs=>match finish g (fj vs) with
              | some g=>lm ah E g m (run ah E n {frames:=g::gs,mem:=m})
              | none=>.bad 144 ""
    | some l=>match m.at l with
      | .loop r=>match fs with
        | g::gs=>match finish g (.bool true (wy jump)) with
          | some g=>lm ah E g (m.set l (.loop {r with state:=tG jump,pending:=jump})) (run ah E n {frames:=g::gs,mem:=m.set l (.loop {r with state:=tG jump,pending:=jump})})
          | none=>.bad 145 ""
        | []=>.bad 146 ""
      | _=>.bad 147 ""))
  (hnh:∀x,¬Hid f fr x) (hret:f.ck=none→step P (lone fr (frs++cs) w)=.next (lone {fr with mode:=.returning} (frs++cs) w))
  (ht:f.ck≠none→(fr.todo=[]∧jump=none)∨(∃k,fr.todo=.code .ret::k∧jump=some .ret)∨(∃id k,fr.todo=.code (.exit id)::k∧exitTo id k=none∧jump=some (.exit id))∨(∃id k,fr.todo=.code (.goto id)::k∧gotoIn id k=none∧jump=some (.goto id)))
  (hW:WR w0 w S m) (hI:∀b,S.I b→I0 b∨w0.heap.size≤b) (hf:FR w S m f fr) (hfs:tV w S m fs frs) (hB:qW f0 (f::fs)) :
  Ends P f0 Fin Q fr frs cs w:=by
 cases hr:f.ck with
 | none=>
   rw[hr] at h
   exact yA hP ih h hnh (hret hr) hW hI hf hfs hB
 | some l=>
   rw[hr] at h
   exact lU ih hr h (ht (by rw[hr];intro e;cases e)) hW hI hf hfs hB
theorem p8(hP:Fits P E Fin w0 I0):∀(n:Nat) (c:f_),Tr.Ok Q (Good P E w0 I0 f0 Fin Q) (run ah E n c)→Good P E w0 I0 f0 Fin Q c
 | 0,c,h=>by rw[run] at h;exact h
 | n+1,c,h=>by
   have ih:=p8 hP n
   obtain⟨frames,m⟩:=c
   intro hst S fr frs cs w hW hI hF hB
   cases frames with
   | nil=>exact hB.elim
   | cons f fs=>
     obtain⟨fr',frs',e,hf,hfs⟩:=hF
     cases e
     obtain⟨fn,nn,env,todo,marks,ck⟩:=f
     cases todo with
     | nil=>
       have ht:fr.todo=[]:=hf.todo
       refine vT (jump:=none) hP ih ?_ (fun x=>gh fun a ha=>by cases ha) (fun hr=>Ij hf.mode (by rw[hf.ck,hr];rfl) ht) (fun _=>.inl ⟨ht,rfl⟩) hW hI hf hfs hB
       simp only[run] at h
       exact h
     | cons i k=>
       obtain⟨it,kc,ht,h1,h2⟩:=hf.todo.cons_inv
       have plain:=fun hi=>Db (uK (P:=P) (E:=E) (I0:=I0) (f0:=f0) (Fin:=Fin) (Q:=Q)) ih (i:=i) (k:=k) hi h hst hW hI hf hfs hB (cs:=cs)
       have hnh:i.ua=false→∀x,¬Hid ⟨fn,nn,env,i::k,marks,ck⟩ fr x:=fun hne x=>gh fun a ha=>by cases ha;exact hne
       cases i with
       | inBlock id=>exact plain trivial
       | inLoop b=>exact plain trivial
       | inScope b=>exact plain trivial
       | im l=>simp only[run] at h;exact h.elim
       | kh all ms i rest bs=>simp only[run] at h;exact h.elim
       | gu l=>exact Dn ih h hW hI hf hfs hB
       | beginRound=>exact CL ih h hW hI hf hfs hB
       | ops all rest=>
         cases rest with
         | nil=>exact plain trivial
         | cons o rest=>exact Hr hP ih h hW hI hf hfs hB
       | dO all ms rest bs=>
         cases rest with
         | nil=>exact CB hP ih h hst hW hI hf hfs hB
         | cons i rest=>exact Ga hP ih h hst hW hI hf hfs hB
       | code x=>
         have h1:it=.code x:=h1
         subst h1
         cases x with
         | skip=>exact plain trivial
         | label l=>exact plain trivial
         | seq a b=>exact plain trivial
         | cond x a b=>exact plain trivial
         | block id b=>exact plain trivial
         | loop b=>exact plain trivial
         | scope b=>exact plain trivial
         | refuse why=>simp only[run] at h;exact h.elim
         | region id os draw=>
           cases draw with
           | false=>exact plain trivial
           | true=>exact yP hP (uK (P:=P) (E:=E) (I0:=I0) (f0:=f0) (Fin:=Fin) (Q:=Q)) ih h hst hW hI hf hfs hB
         | rangeFunc x ps a b=>exact vn hP ih h hW hI hf hfs hB
         | ret=>
           refine vT (jump:=some .ret) hP ih ?_ (hnh rfl) (fun hr=>IX hf.mode (by rw[hf.ck,hr];rfl) ht) (fun _=>.inr (.inl ⟨kc,ht,rfl⟩)) hW hI hf hfs hB
           simp only[run] at h
           exact h
         | exit id=>
           simp only[run] at h
           cases he:fy id k with
           | some k'=>
             rw[he] at h
             obtain⟨kc',e1,e2,e3,e4⟩:=oI (m:=m) h2 he
             exact dQ hW hI hf hfs hB (hnh rfl) (IG hf.mode ht e1) e2 (e3 hf.live.tail) (fun a ha=>hf.flat a (e4 a ha)) (ih _ h)
           | none=>
             rw[he] at h
             simp only at h
             have e1:=lT h2 he
             cases ck with
             | none=>exact h.elim
             | some l=>simp only at h;exact lU (f:=⟨fn,nn,env,.code (.exit id)::k,marks,some l⟩) (jump:=some (.exit id)) ih rfl h (.inr (.inr (.inl ⟨id,kc,ht,e1,rfl⟩))) hW hI hf hfs hB
         | goto id=>
           simp only[run] at h
           cases he:fA id k with
           | some k'=>
             rw[he] at h
             obtain⟨kc',e1,e2,e3,e4⟩:=oU (m:=m) h2 he
             exact dQ hW hI hf hfs hB (hnh rfl) (Js hf.mode ht e1) e2 (e3 hf.live.tail) (fun a ha=>(e4 a ha).elim (hf.flat a) fun h=>h) (ih _ h)
           | none=>
             rw[he] at h
             simp only at h
             have e1:=lY h2 he
             cases ck with
             | none=>exact h.elim
             | some l=>simp only at h;exact lU (f:=⟨fn,nn,env,.code (.goto id)::k,marks,some l⟩) (jump:=some (.goto id)) ih rfl h (.inr (.inr (.inr ⟨id,kc,ht,e1,rfl⟩))) hW hI hf hfs hB
end
end Go.Ev
namespace Go.Ev
mutual
def Ty.has:(t:Ty)→t.T→Prop
 | .int k,x=>k.has x
 | .bool,_=>True
 | .str,x=>(show List UInt8 from x).length≤cv
 | .slice t,x=>(show List t.T from x).length≤cv∧∀y∈(show List t.T from x),Ty.has t y
 | .arr n t,x=>(show List t.T from x).length=n∧∀y∈(show List t.T from x),Ty.has t y
 | .struct ts,x=>Ty.du ts x
def Ty.du:(ts:List Ty)→Ty.Ts ts→Prop
 | [],_=>True
 | [t],x=>Ty.has t x
 | t::t2::ts,x=>Ty.has t (Prod.fst (α:=t.T) (β:=Ty.Ts (t2::ts)) x)∧Ty.du (t2::ts) (Prod.snd (α:=t.T) (β:=Ty.Ts (t2::ts)) x)
end
section
variable {w:World} {I:Nat→Prop}
mutual
theorem aN.has:∀(t:Ty) {cs:List Value} {x:t.T},aN w I t cs x→t.has x
 | .int k,cs,x,h=>by rw[Ty.has];exact(jj.1 h).2
 | .bool,cs,x,h=>by rw[Ty.has];trivial
 | .str,cs,x,h=>by rw[Ty.has];exact(oW.1 h).2
 | .slice t,cs,x,h=>by
   rw[Ty.has]
   obtain⟨a,cap,h1,h2,h3,h4,h5⟩:=bR.1 h
   refine⟨h3,fun y hy=>?_⟩
   obtain⟨i,hi⟩:=List.getElem?_of_mem hy
   obtain⟨b,off,us,_,_,_,_,hr⟩:=h5 i y hi
   exact aN.has t hr
 | .arr n t,cs,x,h=>by
   rw[Ty.has]
   obtain⟨h1,h2,h3⟩:=oX.1 h
   refine⟨h1,fun y hy=>?_⟩
   obtain⟨i,hi⟩:=List.getElem?_of_mem hy
   exact aN.has t (h3 i y hi)
 | .struct ts,cs,x,h=>by rw[Ty.has];exact cd.has ts (l_.1 h)
theorem cd.has:∀(ts:List Ty) {cs:List Value} {x:Ty.Ts ts},cd w I ts cs x→Ty.du ts x
 | [],cs,x,h=>by rw[Ty.du];trivial
 | [t],cs,x,h=>by rw[Ty.du];exact aN.has t (p_.1 h)
 | t::t2::ts,cs,x,h=>by
   rw[Ty.du]
   rw[cd] at h
   obtain⟨us,vs,_,h1,h2⟩:=h
   exact⟨aN.has t h1,cd.has (t2::ts) h2⟩
end
theorem iE.has{t:Ty}{v:Value}{x:t.T}(h:iE w I t v x):t.has x:=by
 unfold iE at h
 split at h
 ·obtain⟨us,_,h⟩:=h;exact h.has
 ·exact h.has
theorem gG.has:∀{ts:List Ty} {vs:List Value} {x:Ty.Ts ts},gG w I ts vs x→Ty.du ts x
 | [],vs,x,h=>by rw[Ty.du];trivial
 | [t],vs,x,h=>by
   rw[Ty.du]
   rw[gG] at h
   obtain⟨v,_,h⟩:=h
   exact h.has
 | t::t2::ts,vs,x,h=>by
   rw[Ty.du]
   rw[gG] at h
   obtain⟨v,r,_,h1,h2⟩:=h
   exact⟨h1.has,h2.has⟩
end
theorem yW{os:Array Oper}:(List.range os.size).map (fun i=>os[i]?)=os.toList.map some:=by
 apply List.ext_getElem?
 intro j
 have e:os.toList[j]? = os[j]? :=Array.getElem?_toList
 rw[List.getElem?_map,List.getElem?_map,e]
 by_cases hj:j<os.size
 ·rw[List.getElem?_range hj,Option.map_some,Array.getElem?_eq_getElem hj];rfl
 ·rw[List.getElem?_eq_none (by simpa using hj),Array.getElem?_eq_none (by omega)];rfl
structure Closed{R:Type}(E:fE R)(Q:R→Prop)(G:f_→Prop):Prop where
 go:∀(n:Nat) (c:f_),Tr.Ok Q G (run ah E n (advance E.gw c))→G c
section
variable {P:Program} {R:Type} {E:fE R} {w0:World} {I0:Nat→Prop} {f0:FuncId} {Fin:R→Value→World→Prop} {Q:R→Prop}
theorem xZ(hP:Fits P E Fin w0 I0){c:f_}(hg:Good P E w0 I0 f0 Fin Q (advance E.gw c)):Good P E w0 I0 f0 Fin Q c:=by
 obtain⟨frames,m⟩:=c
 cases frames with
 | nil=>exact hg
 | cons f fs=>
   obtain⟨fn,nn,env,todo,marks,ck⟩:=f
   cases todo with
   | nil=>exact hg
   | cons i k=>
     cases i with
     | inLoop b=>
       intro _ S fr frs cs w hW hI hF hB
       obtain⟨fr',frs',e,hf,hfs⟩:=hF
       cases e
       obtain⟨it,kc,ht,h1,h2⟩:=hf.todo.cons_inv
       have h1:it=.inLoop b∨it=.code (.loop b):=h1
       have hst:step P (lone fr (frs++cs) w)=.next (lone {fr with todo:=.code b :: .inLoop b::kc} (frs++cs) w):=by
        rcases h1 with rfl|rfl
        ·exact wN hf.mode ht
        ·exact BM hf.mode ht
       refine dQ hW hI hf hfs hB (fun x=>gh fun a ha=>by cases ha;rfl) hst h2.inLoop.code (.mk trivial (.mk trivial hf.live.tail)) (fun a ha=>?_) hg
       rcases List.mem_cons.1 ha with rfl|ha
       ·rfl
       ·rcases List.mem_cons.1 ha with rfl|ha
        ·rfl
        ·exact hf.flat a ha
     | code x=>
       cases x with
       | region id os draw=>
         cases draw with
         | false=>
           intro _ S fr frs cs w hW hI hF hB
           obtain⟨fr',frs',e,hf,hfs⟩:=hF
           cases e
           obtain⟨it,kc,ht,h1,h2⟩:=hf.todo.cons_inv
           have h1:it=.code (.region id os false):=h1
           subst h1
           refine dQ hW hI hf hfs hB (fun x=>gh fun a ha=>by cases ha;rfl) (vZ hf.mode ht) (.mk (a:=.ops os os.toList) ⟨_,rfl,yW⟩ h2) (.mk trivial hf.live.tail) (fun a ha=>?_) hg
           rcases List.mem_cons.1 ha with rfl|ha
           ·rfl
           ·exact hf.flat a ha
         | true=>
           simp only[advance] at hg
           cases hd:gY E.gw os with
           | none=>rw[hd] at hg;exact hg
           | some q=>
             obtain⟨ms,is⟩:=q
             rw[hd] at hg
             intro _ S fr frs cs w hW hI hF hB
             obtain⟨fr',frs',e,hf,hfs⟩:=hF
             cases e
             exact uV hP hd hg hW hI hf hfs hB
       | _=>exact hg
     | _=>exact hg
theorem zr(hP:Fits P E Fin w0 I0):Closed E Q (Good P E w0 I0 f0 Fin Q):=
 ⟨fun n c h=>xZ hP (p8 hP n _ h)⟩
def Nw(w0:World)(I0:Nat→Prop)(res:List Ty)(y:Ty.Ts res)(v:Value)(w':World):Prop:=
 w'.os=w0.os∧w'.tape=w0.tape∧w'.output=w0.output∧w0.heap.size≤w'.heap.size∧(∀b,b<w0.heap.size→w'.heap[b]? = w0.heap[b]?)∧
  ∃I',(∀b,I' b→I0 b∨(w0.heap.size≤b∧b<w'.heap.size))∧wY w' I' res v y
theorem Bb{S:St}{w:World}{m:Mem}{av:AV}{res:List Ty}{y:Ty.Ts res}{v:Value}(hW:WR w0 w S m)(hI:∀b,S.I b→I0 b∨w0.heap.size≤b)(h:GB ah res av m=some y)(hc:CR w S m av v):Nw w0 I0 res y v w:=by
 have main:∀(vs:List AV) (us:List Value),il res vs=true→bC w S m vs us→(match gM ah res m (vs.flatMap AV.cells) with
   | none=>none
   | some (_,cs)=>match qH res cs with
     | some (y, [])=>some y
     | _=>none)=some y→∃I',(∀b,I' b→I0 b∨(w0.heap.size≤b∧b<w.heap.size))∧gG w I' res us y:=by
  intro vs us hok hcs h
  obtain⟨L,hL,hrep⟩:=uR hok hcs
  cases hf:gM ah res m (vs.flatMap AV.cells) with
  | none=>rw[hf] at h;cases h
  | some q=>
    obtain⟨m1,cs1⟩:=q
    rw[hf] at h
    simp only at h
    obtain⟨S1,s1,hc1⟩:=ml hW hf hL
    cases htd:qH res cs1 with
    | none=>rw[htd] at h;cases h
    | some q=>
      obtain⟨x,r⟩:=q
      rw[htd] at h
      cases r with
      | cons _ _=>cases h
      | nil=>
        cases h
        obtain⟨u1,u2,e,hx,hr⟩:=o6 res htd hc1
        have hu2:=bI.1 hr
        rw[hu2,List.append_nil] at e
        rw[←e] at hx
        refine⟨S1.I,fun b hb=>?_,hrep _ y hx⟩
        rcases s1.grows b hb with h|h
        ·rcases hI b h with h|h
         ·exact .inl h
         ·exact .inr ⟨h,s1.wr.mV b hb⟩
        ·exact .inr ⟨h,s1.wr.mV b hb⟩
 refine⟨hW.os,hW.tape,hW.output,hW.size,hW.base,?_⟩
 unfold GB at h
 match res,y,h,main with
 | [],y,h1,main=>
   obtain⟨vs,rfl⟩:∃vs,av=.rI vs:=by cases av<;>first|exact⟨_,rfl⟩|(exact absurd h1 (fun e=>by cases e))
   obtain⟨us,rfl,hcs⟩:=ic.1 hc
   simp only at h1
   cases hok:il [] vs with
   | false=>rw[hok] at h1;cases h1
   | true=>
     rw[hok] at h1
     obtain⟨I',k1,k2⟩:=main vs us.toList hok hcs h1
     rw[gG] at k2
     exact⟨I',k1,by rw[wY,Array.toList_eq_nil_iff.1 k2]⟩
 | [t],y,h1,main=>
   simp only at h1
   cases hok:il [t] [av] with
   | false=>rw[hok] at h1;cases h1
   | true=>
     rw[hok] at h1
     obtain⟨I',k1,k2⟩:=main [av] [v] hok (cu.2 ⟨v, [],rfl,hc,bI.2 rfl⟩) h1
     rw[gG] at k2
     obtain⟨v',e,k2⟩:=k2
     cases e
     exact⟨I',k1,by rw[wY];exact k2⟩
 | t::t2::ts,y,h1,main=>
   obtain⟨vs,rfl⟩:∃vs,av=.rI vs:=by cases av<;>first|exact⟨_,rfl⟩|(exact absurd h1 (fun e=>by cases e))
   obtain⟨us,rfl,hcs⟩:=ic.1 hc
   simp only at h1
   cases hok:il (t::t2::ts) vs with
   | false=>rw[hok] at h1;cases h1
   | true=>
     rw[hok] at h1
     obtain⟨I',k1,k2⟩:=main vs us.toList hok hcs h1
     exact⟨I',k1,by rw[wY];exact⟨us,rfl,k2⟩⟩
structure Base{R:Type}(P:Program)(E:fE R):Prop where
 ti:fJ P E.ti
 mg:∀g F,look E.mg g=some F→P.funcs[g]? = some F∧(F.name == "runtime.NumGoroutine")=false
 gw:∀g s,look E.gw g=some s→s.Sound P g
 mixed:P.follows .mixedOrders=true
theorem Ef{w:World}{I:Nat→Prop}(hI:∀b,I b→b<w.heap.size):WR w w {σ:=fun _=>0,δ:=fun _=>0,I:=I} []:=
 ⟨rfl,rfl,rfl,Nat.le_refl _,fun _ _=>rfl,hI,fun _=>trivial,fun _ _ h=>(by cases h),fun _ h=>(by cases h),fun _ h=>(by cases h),fun _ h=>(by cases h)⟩
theorem w_{g:FuncId}{F:Func}{s:aC}{E:fE (Ty.Ts s.res)}(hE:Base P E)(hfin:E.fin=GB ah s.res)(hg:look E.mg g=some F)(hb:F.body.isSome=true)(n:Nat)
  (h:∀x,s.pre x=true→Ty.du s.args x→∃h0,gN g F (jT ah s.args x)=some h0∧∀G,Closed E (fun y=>y=s.fn x) G→Tr.Ok (fun y=>y=s.fn x) G (run ah E n {frames:=[h0],mem:=[]})):s.Sound P g:=by
 obtain⟨hF,hn⟩:=hE.mg g F hg
 refine⟨fun w I x aa hI hrep hpre cs=>?_,F,hF,hb,hn⟩
 obtain⟨h0,hen,hok⟩:=h x hpre hrep.has
 have hP:Fits P E (Nw w I s.res) w I:=⟨hE.ti,hE.mg,hE.gw,hE.mixed,fun S w' m av y v hW hI' hf hc=>Bb hW hI' (by rw[←hfin];exact hf) hc⟩
 have hgood:=p8 hP (Q:=fun y=>y=s.fn x) (f0:=g) n _ (hok _ (zr hP))
 have hW:=Ef hI
 obtain⟨hfr,_,hnd⟩:=kK hF hen (u7 (S:={σ:=fun _=>0,δ:=fun _=>0,I:=I}) (m:=[]) (fun b hb=>hb) hrep)
 have hB:qW g [h0]:=by
  unfold gN at hen
  cases hbb:F.body with
  | none=>rw[hbb] at hen;cases hen
  | some b=>
    rw[hbb] at hen
    simp only at hen
    split at hen
    ·cases hen;exact(rfl:g=g)
    ·cases hen
 obtain⟨y,v,w',fr',hy,hfi,hsteps,hfn,hleave⟩:=hgood (d_ hnd) _ _ [] cs w hW (fun b hb=>.inl hb) ⟨_,_,rfl,hfr,rfl⟩ hB
 obtain⟨g1,g2,g3,g4,g5,I',g6,g7⟩:=hfi
 exact⟨.returned v,w',fr',⟨v,rfl,g1,g2,g3,g4,g5,I',g6,by rw[←hy];exact g7⟩,hsteps,hfn,hleave⟩
end
end Go.Ev
namespace Go.Ev
inductive LT (R Y:Type) where
 | ret (r:R)
 | more (y:Y)
 | br (b:Bool) (t e:LT R Y)
 | need (b:Bool) (t:LT R Y)
 | eqs (p:Prop) (t:LT R Y)
 | bad (n:Nat) (pos:String)
def LT.tr{R Y:Type}(cfg:Y→f_):LT R Y→Tr R
 | .ret r=>.ret r
 | .more y=>.more (cfg y)
 | .br b t e=>.br b (t.tr cfg) (e.tr cfg)
 | .need b t=>.need b (t.tr cfg)
 | .eqs p t=>.eqs p (t.tr cfg)
 | .bad n s=>.bad n s
def Tr.full{R:Type}:Tr R→Tr R
 | .br b t e=>.br b t.full e.full
 | .need b t=>.need b t.full
 | .eqs p t=>.eqs p t.full
 | .same l r t=>.eqs (gj l r) t.full
 | .and _ _=>.bad 182 ""
 | t=>t
def AV.alike:AV→AV→Bool
 | .bool c _,.bool d _=>c==d
 | .int _ c _,.int _ d _=>c==d
 | _,_=>true
def Tr.mR{R:Type}:Tr R→Tr R
 | .br b t e=>.br b t.mR e.mR
 | .need b t=>.need b t.mR
 | .eqs p t=>.eqs p t.mR
 | .same l r t=>match l.alike r with
   | true=>t.mR
   | false=>.eqs (gj l r) t.mR
 | .and a _=>a.mR
 | t=>t
def Tr.jS{R:Type}:Tr R→Tr R
 | .br b t e=>.br b t.jS e.jS
 | .need b t=>.need b t.jS
 | .eqs p t=>.eqs p t.jS
 | .same l r t=>match l.alike r with
   | true=>t.jS
   | false=>.eqs (gj l r) t.jS
 | .and a _=>a.jS
 | t=>t
theorem Tr.jy{R:Type}:∀{t:Tr R},t.jS=t.mR
 | .ret _ | .more _ | .bad _ _=>rfl
 | .br _ t e=>by rw[Tr.jS,Tr.mR,Tr.jy (t:=t),Tr.jy (t:=e)]
 | .need _ t=>by rw[Tr.jS,Tr.mR,Tr.jy (t:=t)]
 | .eqs _ t=>by rw[Tr.jS,Tr.mR,Tr.jy (t:=t)]
 | .same l r t=>by rw[Tr.jS,Tr.mR,Tr.jy (t:=t)]
 | .and a _=>by rw[Tr.jS,Tr.mR,Tr.jy (t:=a)]
def Tr.lefts{R:Type}:Tr R→List (Sum AV (Tr R))→List (Sum AV (Tr R))
 | .br _ t e,k=>t.lefts (e.lefts k)
 | .need _ t,k=>t.lefts k
 | .eqs _ t,k=>t.lefts k
 | .same l r t,k=>match l.alike r with
   | true=>.inl l::t.lefts k
   | false=>t.lefts k
 | .and a b,k=>.inr a.mR::a.lefts (b.lefts k)
 | _,k=>k
def Tr.iP{R:Type}:Tr R→List (Sum AV (Tr R))→List (Sum AV (Tr R))
 | .br _ t e,k=>t.iP (e.iP k)
 | .need _ t,k=>t.iP k
 | .eqs _ t,k=>t.iP k
 | .same l r t,k=>match l.alike r with
   | true=>.inl r::t.iP k
   | false=>t.iP k
 | .and a b,k=>.inr b.jS::a.iP (b.iP k)
 | _,k=>k
theorem Tr.mW{R:Type}{Q:R→Prop}{G:f_→Prop}:∀{t:Tr R},Tr.Ok Q G t.full→Tr.Ok Q G t
 | .ret _,h | .more _,h | .bad _ _,h=>h
 | .br _ t e,h=>⟨fun k=>Tr.mW (t:=t) (h.1 k),fun k=>Tr.mW (t:=e) (h.2 k)⟩
 | .need _ t,h=>⟨h.1,Tr.mW (t:=t) h.2⟩
 | .eqs _ t,h=>⟨h.1,Tr.mW (t:=t) h.2⟩
 | .same _ _ t,h=>⟨h.1,Tr.mW (t:=t) h.2⟩
 | .and _ _,h=>h.elim
theorem Tr.jb{R:Type}{Q:R→Prop}{G:f_→Prop}:∀{t:Tr R} {k k':List (Sum AV (Tr R))},t.lefts k=t.iP k'→k=k'∧(Tr.Ok Q G t.mR→Tr.Ok Q G t)
 | .ret _,_,_,h | .more _,_,_,h | .bad _ _,_,_,h=>⟨h,fun x=>x⟩
 | .br _ t e,_,_,h=>by
   obtain⟨h1,h2⟩:=Tr.jb (t:=t) h
   obtain⟨h3,h4⟩:=Tr.jb (t:=e) h1
   exact⟨h3,fun x=>⟨fun k=>h2 (x.1 k),fun k=>h4 (x.2 k)⟩⟩
 | .need _ t,_,_,h=>by
   obtain⟨h1,h2⟩:=Tr.jb (t:=t) h
   exact⟨h1,fun x=>⟨x.1,h2 x.2⟩⟩
 | .eqs _ t,_,_,h=>by
   obtain⟨h1,h2⟩:=Tr.jb (t:=t) h
   exact⟨h1,fun x=>⟨x.1,h2 x.2⟩⟩
 | .same l r t,_,_,h=>by
   simp only[Tr.lefts,Tr.iP] at h
   simp only[Tr.mR]
   cases ha:l.alike r with
   | true=>
     rw[ha] at h
     simp only[List.cons.injEq,Sum.inl.injEq] at h
     obtain⟨h1,h2⟩:=Tr.jb (t:=t) h.2
     exact⟨h1,fun x=>⟨h.1▸rc l,h2 x⟩⟩
   | false=>
     rw[ha] at h
     obtain⟨h1,h2⟩:=Tr.jb (t:=t) h
     exact⟨h1,fun x=>⟨x.1,h2 x.2⟩⟩
 | .and a b,_,_,h=>by
   simp only[Tr.lefts,Tr.iP,List.cons.injEq,Sum.inr.injEq,Tr.jy] at h
   obtain⟨h1,h2⟩:=Tr.jb (t:=a) h.2
   obtain⟨h3,h4⟩:=Tr.jb (t:=b) h1
   exact⟨h3,fun x=>⟨h2 x,h4 (h.1▸x)⟩⟩
@[reducible] def Tr.Is {R:Type} (q:Bool) (t u:Tr R):Prop:=match q with
 | true=>t.mR=u∧t.lefts []=t.iP []
 | false=>t.full=u
theorem zf{R:Type}{t u:Tr R}(h:t.full=u):Tr.Is false t u:=h
theorem Tr.Is.ok{R:Type}{q:Bool}{Q:R→Prop}{G:f_→Prop}{t u:Tr R}(h:Tr.Is q t u)(hu:Tr.Ok Q G u):Tr.Ok Q G t:=by
 cases q with
 | true=>exact(Tr.jb h.2).2 (h.1▸hu)
 | false=>exact Tr.mW (show Tr.Ok Q G t.full from(show t.full=u from h)▸hu)
inductive aD {R Y:Type} (step:Y→LT R Y):LT R Y→R→Prop where
 | ret (r:R):aD step (.ret r) r
 | more {y:Y} {r:R} (h:aD step (step y) r):aD step (.more y) r
 | br {b:Bool} {t e:LT R Y} {r:R} (h:aD step (bif b then t else e) r):aD step (.br b t e) r
 | need {b:Bool} {t:LT R Y} {r:R} (hb:b=true) (h:aD step t r):aD step (.need b t) r
 | eqs {p:Prop} {t:LT R Y} {r:R} (hp:p) (h:aD step t r):aD step (.eqs p t) r
section
variable {R Y:Type} {step:Y→LT R Y} {r:R}
theorem dU{r':R}:aD step (.ret r') r↔r'=r:=⟨fun h=>by cases h;rfl,fun h=>by rw[h];exact .ret r⟩
theorem ak{y:Y}:aD step (.more y) r↔aD step (step y) r:=⟨fun h=>by cases h;assumption,.more⟩
theorem jI{b:Bool}{t e:LT R Y}:aD step (.br b t e) r↔aD step (bif b then t else e) r:=⟨fun h=>by cases h;assumption,.br⟩
theorem af{b:Bool}{t:LT R Y}:aD step (.need b t) r↔b=true∧aD step t r:=⟨fun h=>by cases h;exact⟨by assumption,by assumption⟩,fun h=>.need h.1 h.2⟩
theorem e_{p:Prop}{t:LT R Y}:aD step (.eqs p t) r↔p∧aD step t r:=⟨fun h=>by cases h;exact⟨by assumption,by assumption⟩,fun h=>.eqs h.1 h.2⟩
theorem aj{b:Bool}{t e:LT R Y}(hb:b=true):aD step (.br b t e) r↔aD step t r:=by rw[jI,hb];rfl
theorem ai{b:Bool}{t e:LT R Y}(hb:b=false):aD step (.br b t e) r↔aD step e r:=by rw[jI,hb];rfl
end
theorem II{R Y:Type}{E:fE R}{Q:R→Prop}{G:f_→Prop}{cfg:Y→f_}{step:Y→LT R Y}{q:Bool}(hstep:∀y,∃n,Tr.Is q (run ah E n (advance E.gw (cfg y))) ((step y).tr cfg))(hG:Closed E Q G){t:LT R Y}{r:R}(h:aD step t r)(hr:Q r):Tr.Ok Q G (t.tr cfg):=by
 induction h with
 | ret r=>exact hr
 | more h ih=>
   rename_i y _
   obtain⟨n,hn⟩:=hstep y
   exact hG.go n _ (hn.ok (ih hr))
 | br h ih=>
   rename_i b t e _
   cases b with
   | true=>exact⟨fun _=>ih hr,fun h=>(by cases h)⟩
   | false=>exact⟨fun h=>(by cases h),fun _=>ih hr⟩
 | need hb h ih=>exact⟨hb,ih hr⟩
 | eqs hp h ih=>exact⟨hp,ih hr⟩
structure Walk(P:Program)(g:FuncId)(args res:List Ty)(Y:Type) where
 start:Ty.Ts args→LT (Ty.Ts res) Y
 step:Y→LT (Ty.Ts res) Y
structure Walk.Ok{P:Program}{g:FuncId}{args res:List Ty}{Y:Type}(W:Walk P g args res Y):Prop where
 sound:∀(pre:Ty.Ts args→Bool) (fn:Ty.Ts args→Ty.Ts res),(∀x,pre x=true→Ty.du args x→aD W.step (W.start x) (fn x))→aC.Sound P g ⟨args,res,pre,fn⟩
theorem pK:∀{ts:List Ty} {x:Ty.Ts ts},(jT ah ts x).length=ts.length
 | [],_=>rfl
 | [_],_=>rfl
 | t::t2::ts,x=>by
   rw[jT,List.length_cons,pK];rfl
theorem yF{g:FuncId}{F:Func}{aa:List AV}(hb:F.body.isSome=true)(h1:aa.length≤F.ntmps)(h2:F.ntmps≤65535):∃h0,gN g F aa=some h0:=by
 unfold gN
 cases hF:F.body with
 | none=>rw[hF] at hb;cases hb
 | some b=>
   simp only[Nat.ble_eq_true_of_le h1,Nat.ble_eq_true_of_le h2]
   exact⟨_,rfl⟩
theorem IN{P:Program}{g:FuncId}{F:Func}{args res:List Ty}{Y:Type}{E:fE (Ty.Ts res)}(hE:Base P E)(hfin:E.fin=GB ah res)(hg:look E.mg g=some F)(hb:F.body.isSome=true)
  (hl:(Nat.ble args.length F.ntmps&&Nat.ble F.ntmps 65535)=true) (W:Walk P g args res Y) (cfg:Y→f_) {q:Bool} (n:Nat) (hstart:∀x,Tr.Is q (run ah E n (uk g F (jT ah args x))) ((W.start x).tr cfg))
  (hstep:∀y,∃n,Tr.Is q (run ah E n (advance E.gw (cfg y))) ((W.step y).tr cfg)):W.Ok:=
 ⟨fun pre fn hr=>w_ (s:=⟨args,res,pre,fn⟩) hE hfin hg hb n fun x hp hx=>by
  rw[Bool.and_eq_true] at hl
  obtain⟨h0,hen⟩:=yF (g:=g) (aa:=jT ah args x) hb (by rw[pK];exact Nat.le_of_ble_eq_true hl.1) (Nat.le_of_ble_eq_true hl.2)
  refine⟨h0,hen,fun G hG=>?_⟩
  have h:=hstart x
  rw[uk,hen] at h
  exact h.ok (II hstep hG (hr x hp hx) rfl)⟩
theorem I7{P:Program}:∀g F,look ([]:List (FuncId×Func)) g=some F→P.funcs[g]? = some F∧(F.name == "runtime.NumGoroutine")=false:=fun _ _ h=>by cases h
theorem GM{P:Program}{f:FuncId}{F:Func}{l:List (FuncId×Func)}(h1:P.funcs[f]? = some F)(h2:(F.name == "runtime.NumGoroutine")=false)(h:∀g F,look l g=some F→P.funcs[g]? = some F∧(F.name == "runtime.NumGoroutine")=false) :
  ∀g G,look ((f,F)::l) g=some G→P.funcs[g]? = some G∧(G.name == "runtime.NumGoroutine")=false:=fun g G hg=>by
 rw[look] at hg
 by_cases e:f=g
 ·subst e;rw[bJ.2 rfl] at hg;cases hg;exact⟨h1,h2⟩
 ·rw[bK.2 e] at hg;exact h g G hg
theorem HY{P:Program}:∀g s,look ([]:List (FuncId×aC)) g=some s→s.Sound P g:=fun _ _ h=>by cases h
theorem Gv{P:Program}{f:FuncId}{s:aC}{l:List (FuncId×aC)}(h1:s.Sound P f)(h:∀g s,look l g=some s→s.Sound P g):∀g s',look ((f,s)::l) g=some s'→s'.Sound P g:=fun g s' hg=>by
 rw[look] at hg
 by_cases e:f=g
 ·subst e;rw[bJ.2 rfl] at hg;cases hg;exact h1
 ·rw[bK.2 e] at hg;exact h g s' hg
def tt{α:Type}:α→Bool:=fun _=>true
theorem aC.Sound.congr{P:Program}{g:FuncId}{args res:List Ty}{pre pre':Ty.Ts args→Bool}{fn fn':Ty.Ts args→Ty.Ts res}(h:aC.Sound P g ⟨args,res,pre,fn⟩)
  (he:∀x,pre' x=true→Ty.du args x→pre x=true∧fn x=fn' x):aC.Sound P g ⟨args,res,pre',fn'⟩:=by
 refine⟨fun w I x aa hI hrep hpre=>?_,h.body⟩
 obtain⟨h1,h2⟩:=he x hpre hrep.has
 have:=h.calls w I x aa hI hrep h1
 simp only at this ⊢
 rw[h2] at this
 exact this
def Oe(ti:PT TI)(A:bu)(res:List Ty)(mg:List (FuncId×Func))(gw:List (FuncId×aC))(stops n_:List Stop):fE (Ty.Ts res):=⟨ti,mg,gw,stops,n_, [],GB A res⟩
def wS(P:Program)(l:List (FuncId×Func)):Prop:=∀g F,look l g=some F→P.funcs[g]? = some F∧(F.name == "runtime.NumGoroutine")=false
def vU(P:Program)(l:List (FuncId×aC)):Prop:=∀g s,look l g=some s→s.Sound P g
theorem fz{P:Program}:wS P []:=I7
theorem fc{P:Program}{f:FuncId}{F:Func}{l:List (FuncId×Func)}(h1:P.funcs[f]? = some F)(h:wS P l)(h2:(F.name == "runtime.NumGoroutine")=false:=by kernel_rfl):wS P ((f,F)::l):=GM h1 h2 h
theorem sz{P:Program}:vU P []:=HY
theorem sc{P:Program}{f:FuncId}{s:aC}{l:List (FuncId×aC)}(h1:s.Sound P f)(h:vU P l):vU P ((f,s)::l):=Gv h1 h
section
variable {P:Program} {ti:PT TI} (ht:fJ P ti) (hm:P.follows .mixedOrders=true) {g:FuncId} {F:Func} {args res:List Ty} {mg:List (FuncId×Func)} {gw:List (FuncId×aC)} {pre:Ty.Ts args→Bool} {fn:Ty.Ts args→Ty.Ts res}
include ht hm
theorem aJ(q:Bool){Y:Type}(n:Nat)(stops n_:List Stop)(start:bu→Ty.Ts args→LT (Ty.Ts res) Y)(step:bu→Y→LT (Ty.Ts res) Y)(cfg:Y→f_)(hf:wS P ((g,F)::mg))(hs:vU P gw)
  (hstep:∀A y,∃n,Tr.Is q (run A (Oe ti A res ((g,F)::mg) gw stops n_) n (advance gw (cfg y))) ((step A y).tr cfg))
  (hr:∀x,pre x=true→Ty.du args x→aD (step ah) (start ah x) (fn x))
  (hb:F.body.isSome=true:=by kernel_rfl) (hl:(Nat.ble args.length F.ntmps&&Nat.ble F.ntmps 65535)=true:=by kernel_rfl)
  (h0:∀A x,Tr.Is q (run A (Oe ti A res ((g,F)::mg) gw stops n_) n (uk g F (jT A args x))) ((start A x).tr cfg):=by intro A x;first|exact⟨by kernel_rfl,by kernel_rfl⟩|(show Tr.full _=_;kernel_rfl)):aC.Sound P g ⟨args,res,pre,fn⟩:=
 (IN (E:=Oe ti ah res ((g,F)::mg) gw stops n_) ⟨ht,hf,hs,hm⟩ rfl (show look ((g,F)::mg) g=some F by rw[look,bJ.2 rfl]) hb hl ⟨start ah,step ah⟩ cfg n (h0 ah) (hstep ah)).sound pre fn hr
theorem aQ(q:Bool)(n:Nat)(n_:List Stop)(start:bu→Ty.Ts args→LT (Ty.Ts res) Empty)(hf:wS P ((g,F)::mg))(hs:vU P gw)
  (hr:∀x,pre x=true→Ty.du args x→aD Empty.elim (start ah x) (fn x))
  (hb:F.body.isSome=true:=by kernel_rfl) (hl:(Nat.ble args.length F.ntmps&&Nat.ble F.ntmps 65535)=true:=by kernel_rfl)
  (h0:∀A x,Tr.Is q (run A (Oe ti A res ((g,F)::mg) gw [] n_) n (uk g F (jT A args x))) ((start A x).tr Empty.elim):=by intro A x;first|exact⟨by kernel_rfl,by kernel_rfl⟩|(show Tr.full _=_;kernel_rfl)):aC.Sound P g ⟨args,res,pre,fn⟩:=
 aJ ht hm q n [] n_ start (fun _=>Empty.elim) Empty.elim hf hs (fun _ y=>y.elim) hr hb hl h0
end
end Go.Ev
namespace Go.Ev
def Ax:AV→Value→Bool
 | .undef,_=>true
 | .int k _ n,.int k' n'=>fL k k'&&(decide (n=0)&&decide (n'=0))
 | .bool _ b,.bool b'=>b==b'
 | .str _ s,.string s'=>s.isEmpty&&s'.data.toList.isEmpty
 | .dp _,.slice none 0 0=>true
 | .bY,.pointer none=>true
 | .gP,.nilFunc=>true
 | _,_=>false
def oH:List AV→List Value→Bool
 | [], []=>true
 | a::r,v::vs=>Ax a v&&oH r vs
 | _,_=>false
theorem zT(k:IntKind):k.has 0:=by cases k<;>exact⟨by decide,by decide⟩
section
variable {w:World} {S:St} {m:Mem} {P:Program}
theorem ll{s:ByteArray}(h:s.data.toList.isEmpty=true):s=⟨#[]⟩:=by
 obtain⟨⟨l⟩⟩:=s
 cases l with
 | nil=>rfl
 | cons _ _=>cases h
theorem Ct{a:AV}{v:Value}(h:Ax a v=true):CR w S m a v:=by
 unfold Ax at h
 split at h
 ·exact dG
 ·simp only[Bool.and_eq_true,decide_eq_true_eq] at h
  obtain⟨h1,rfl,rfl⟩:=h
  rw[fP h1]
  exact bD.2 ⟨rfl,zT _⟩
 ·rw[beq_iff_eq] at h;exact cq.2 (by rw[h])
 ·rw[Bool.and_eq_true] at h
  rename_i s s'
  cases s with
  | cons _ _=>cases h.1
  | nil=>exact eH.2 ⟨by rw[ll h.2],Nat.zero_le _⟩
 ·exact eG.2 ⟨none,rfl,fun _=>rfl⟩
 ·exact fQ.2 rfl
 ·exact gH.2 rfl
 ·cases h
theorem o7:∀{as:List AV} {vs:List Value},oH as vs=true→bC w S m as vs
 | [], [],_=>bI.2 rfl
 | a::r,v::vs,h=>by
   rw[oH,Bool.and_eq_true] at h
   exact cu.2 ⟨v,vs,rfl,Ct h.1,o7 h.2⟩
 | [],_::_,h=>by cases h
 | _::_, [],h=>by cases h
mutual
def Ty.zeros:Ty→List Value
 | .int k=>[.int k 0]
 | .bool=>[.bool false]
 | .str=>[.string ⟨#[]⟩]
 | .slice _=>[.slice none 0 0]
 | .arr n t=>(List.replicate n t.zeros).flatten
 | .struct ts=>Ty.qs ts
def Ty.qs:List Ty→List Value
 | []=>[]
 | t::ts=>t.zeros++Ty.qs ts
end
mutual
theorem Ty.nz{I:Nat→Prop}:∀(t:Ty),aN w I t t.zeros t.gx
 | .int k=>jj.2 ⟨rfl,zT k⟩
 | .bool=>qj.2 rfl
 | .str=>oW.2 ⟨rfl,Nat.zero_le _⟩
 | .slice t=>bR.2 ⟨none,0,rfl,Nat.le_refl _,Nat.zero_le _,fun _=>rfl,fun i y h=>by cases h⟩
 | .arr n t=>by
   have ih:=Ty.nz (I:=I) t
   refine oX.2 ⟨List.length_replicate,?_,fun i y h=>?_⟩
   ·show((List.replicate n t.zeros).flatten).length=_
    rw[List.length_flatten,List.map_replicate,List.sum_replicate_nat,ih.length]
   ·have h:(List.replicate n t.gx)[i]? = some y:=h
    obtain⟨h1,h2⟩:=List.getElem?_eq_some_iff.1 h
    rw[List.length_replicate] at h1
    rw[List.getElem_replicate] at h2
    subst h2
    have:=iK (l:=t.zeros) ih.length h1
    show aN w I t ((((List.replicate n t.zeros).flatten).drop (i*t.size)).take t.size) _
    rw[this];exact ih
 | .struct ts=>l_.2 (Ty.ve ts)
theorem Ty.ve{I:Nat→Prop}:∀(ts:List Ty),cd w I ts (Ty.qs ts) (Ty.bV ts)
 | []=>nh.2 rfl
 | [t]=>p_.2 (by
   have:Ty.qs [t]=t.zeros:=by simp only[Ty.qs,List.append_nil]
   rw[this];exact Ty.nz t)
 | t::t2::ts=>nT.2 ⟨t.zeros,Ty.qs (t2::ts),rfl,Ty.nz t,Ty.ve (t2::ts)⟩
end
def FZ:Value→Value→Bool
 | .int k n,.int k' n'=>fL k k'&&decide (n=n')
 | .bool b,.bool b'=>b==b'
 | .string s,.string s'=>s.data.toList.isEmpty&&s'.data.toList.isEmpty
 | .slice none 0 0,.slice none 0 0=>true
 | _,_=>false
def xn:List Value→List Value→Bool
 | [], []=>true
 | a::r,v::vs=>FZ a v&&xn r vs
 | _,_=>false
theorem F8{a b:Value}(h:FZ a b=true):a=b:=by
 unfold FZ at h
 split at h
 ·simp only[Bool.and_eq_true,decide_eq_true_eq] at h;rw[fP h.1,h.2]
 ·rw[beq_iff_eq] at h;rw[h]
 ·rw[Bool.and_eq_true] at h;rw[ll h.1,ll h.2]
 ·rfl
 ·cases h
theorem wh:∀{a b:List Value},xn a b=true→a=b
 | [], [],_=>rfl
 | a::r,v::vs,h=>by
   rw[xn,Bool.and_eq_true] at h
   rw[F8 h.1,wh h.2]
 | [],_::_,h=>by cases h
 | _::_, [],h=>by cases h
def k_(P:Program)(t:TypeId):Option Bool:=
 match P.underlying t with
 | some (.struct _)=>some true
 | some (.array _ _)=>some true
 | some _=>some false
 | none=>none
theorem oT{t:TypeId}{b:Bool}(h:k_ P t=some b)(w:World):(isAgg t).run P w=.ok b w:=by
 unfold k_ at h
 cases hu:P.underlying t with
 | none=>rw[hu] at h;cases h
 | some d=>
   rw[hu] at h
   unfold isAgg
   rw[Sem.run_bind,run_underlying hu]
   cases d<;>cases h<;>rfl
def tM(a:Option Bool)(b:Bool):Bool:=match a with|some c=>c==b|none=>false
theorem qO{a:Option Bool}{b:Bool}(h:tM a b=true):a=some b:=by
 cases a with
 | none=>cases h
 | some c=>rw[tM,beq_iff_eq] at h;rw[h]
def fieldsB(P:Program):List Field→List (Nat×Nat×Bool)→Bool
 | [], []=>true
 | f::F,(off,sz,ag)::fs=>Nat.beq f.offset off&&(tM (k_ P f.type) ag&&((match P.info? f.type with|some j=>Nat.beq j.size sz|none=>false)&&fieldsB P F fs))
 | _,_=>false
theorem uF:∀{F:List Field} {fs:List (Nat×Nat×Bool)},fieldsB P F fs=true→F.length=fs.length∧∀(i off sz:Nat) (ag:Bool),fs[i]? = some (off,sz,ag)→
   ∃f j,F[i]? = some f∧f.offset=off∧P.info? f.type=some j∧j.size=sz∧∀w,(isAgg f.type).run P w=.ok ag w
 | [], [],_=>⟨rfl,fun i off sz ag h=>by cases h⟩
 | [],_::_,h=>by cases h
 | _::_, [],h=>by cases h
 | f::F,(off,sz,ag)::fs,h=>by
   simp only[fieldsB,Bool.and_eq_true] at h
   obtain⟨h1,h2,h3,h4⟩:=h
   obtain⟨g1,g2⟩:=uF h4
   refine⟨by rw[List.length_cons,List.length_cons,g1],fun i off' sz' ag' hi=>?_⟩
   cases i with
   | zero=>
     cases hi
     cases hj:P.info? f.type with
     | none=>rw[hj] at h3;cases h3
     | some j=>
       rw[hj] at h3
       exact⟨f,j,rfl,Nat.eq_of_beq_eq_true h1,hj,Nat.eq_of_beq_eq_true h3,oT (qO h2)⟩
   | succ i=>exact g2 i off' sz' ag' (by simpa using hi)
def Em(P:Program)(T:TypeId):TK→Bool
 | .bool=>match P.underlying T with|some .bool=>true|_=>false
 | .int k=>match P.underlying T with|some (.int k')=>fL k' k|_=>false
 | .str=>match P.underlying T with|some .string=>true|_=>false
 | .slice e=>match P.underlying T with|some (.slice e')=>Nat.beq e' e|_=>false
 | .arr n e=>match P.underlying T with|some (.array n' e')=>Nat.beq n' n&&Nat.beq e' e|_=>false
 | .ptr e=>match P.underlying T with|some (.pointer e')=>Nat.beq e' e|_=>false
 | .func=>match P.underlying T with|some (.func _ _ _)=>true|_=>false
 | .struct fs=>match P.underlying T with|some (.struct F)=>fieldsB P F.toList fs|_=>false
 | .other=>true
theorem EO{T:TypeId}{k:TK}(h:Em P T k=true):kindOk P T k:=by
 cases k<;>simp only[Em] at h<;>simp only[kindOk]
 case bool=>split at h<;>first|assumption|cases h
 case int k=>
  split at h
  ·rename_i k' hu;rw[hu,fP h]
  ·cases h
 case str=>split at h<;>first|assumption|cases h
 case slice e=>
  split at h
  ·rename_i e' hu;rw[hu,Nat.eq_of_beq_eq_true h]
  ·cases h
 case arr n e=>
  split at h
  ·rename_i n' e' hu;rw[Bool.and_eq_true] at h;rw[hu,Nat.eq_of_beq_eq_true h.1,Nat.eq_of_beq_eq_true h.2]
  ·cases h
 case struct fs=>
  split at h
  ·rename_i F hu
   obtain⟨h1,h2⟩:=uF h
   exact⟨F,hu,by rw[←h1,Array.length_toList],fun i off sz ag hi=>by
    obtain⟨f,j,e,r⟩:=h2 i off sz ag hi
    exact⟨f,j,by rw[←Array.getElem?_toList];exact e,r⟩⟩
  ·cases h
 case ptr e=>
  split at h
  ·rename_i e' hu;rw[hu,Nat.eq_of_beq_eq_true h]
  ·cases h
 case func=>
  split at h
  ·rename_i a b c hu;exact⟨a,b,c,hu⟩
  ·cases h
def Cn(P:Program)(eq:TypeId→List AV→Bool)(z:List AV):Nat→List Field→Option Nat
 | off, []=>some off
 | off,f::fs=>match decide (f.name≠ "_")&&(Nat.beq f.offset off&&eq f.type ((z.drop off).take (P.cellsOf f.type))) with
   | true=>Cn P eq z (off+P.cellsOf f.type) fs
   | false=>none
def JD(a:Option Nat)(b:Nat):Bool:=match a with|some c=>Nat.beq c b|none=>false
theorem FO{a:Option Nat}{b:Nat}(h:JD a b=true):a=some b:=by
 cases a with
 | none=>cases h
 | some c=>rw[Nat.eq_of_beq_eq_true h]
def G6(P:Program):Nat→TypeId→List AV→Bool
 | 0,_,_=>false
 | d+1,t,z=>match P.underlying t with
   | some .bool=>Nat.beq (P.cellsOf t) 1&&(match z with | [.bool _ _]=>true|_=>false)
   | some (.int _)=>Nat.beq (P.cellsOf t) 1&&(match z with | [.int _ _ _]=>true|_=>false)
   | some .string=>Nat.beq (P.cellsOf t) 1&&(match z with | [.str _ _]=>true|_=>false)
   | some (.struct fs)=>!P.stoodInHeld t&&(JD (Cn P (G6 P d) z 0 fs.toList) (P.cellsOf t)&&Nat.beq z.length (P.cellsOf t))
   | _=>false
theorem nN:∀{a b:List AV},fK a b=true→a.length=b.length
 | [], [],_=>rfl
 | a::as,b::bs,h=>by
   rw[fK,Bool.and_eq_true] at h
   rw[List.length_cons,List.length_cons,nN h.2]
 | [],_::_,h=>by cases h
 | _::_, [],h=>by cases h
theorem rK:∀{a b:List AV} (n:Nat),fK a b=true→fK (a.drop n) (b.drop n)=true
 | _,_,0,h=>h
 | [], [],n+1,_=>rfl
 | a::as,b::bs,n+1,h=>by
   rw[fK,Bool.and_eq_true] at h
   exact rK n h.2
 | [],_::_,_+1,h=>by cases h
 | _::_, [],_+1,h=>by cases h
theorem rM:∀{a b:List AV} (n:Nat),fK a b=true→fK (a.take n) (b.take n)=true
 | _,_,0,_=>rfl
 | [], [],n+1,_=>rfl
 | a::as,b::bs,n+1,h=>by
   rw[fK,Bool.and_eq_true] at h
   rw[List.take_succ_cons,List.take_succ_cons,fK,Bool.and_eq_true]
   exact⟨h.1,rM n h.2⟩
 | [],_::_,_+1,h=>by cases h
 | _::_, [],_+1,h=>by cases h
theorem nO:∀{a b x y:List AV} {c:Bool} {g:bu→Bool},a.length=b.length→bG (a++x) (b++y)=some (c,g)→
  ∃c1 g1 c2 g2,bG a b=some (c1,g1)∧bG x y=some (c2,g2)∧g ah=(g1 ah&&g2 ah)
 | [], [],x,y,c,g,_,h=>⟨true,fun _=>true,c,g,by simp[bG],h,rfl⟩
 | [],_::_,_,_,_,_,h,_=>by cases h
 | _::_, [],_,_,_,_,h,_=>by cases h
 | a::as,b::bs,x,y,c,g,hl,h=>by
   have hl:as.length=bs.length:=by simpa using hl
   have split:∀(c':Bool) (e:bu→Bool),(match bG (as++x) (bs++y) with|none=>none|some (c2,g)=>some (c'&&c2,fun A=>A.and (e A) (g A)))=some (c,g)→
     (∀q:Option (Bool×(bu→Bool)),bG as bs=q→bG (a::as) (b::bs)=(match q with|none=>none|some (c2,g)=>some (c'&&c2,fun A=>A.and (e A) (g A))))→
     ∃c1 g1 c2 g2,bG (a::as) (b::bs)=some (c1,g1)∧bG x y=some (c2,g2)∧g ah=(g1 ah&&g2 ah):=by
    intro c' e h hk
    cases hq:bG (as++x) (bs++y) with
    | none=>rw[hq] at h;cases h
    | some q=>
      obtain⟨c2,g2⟩:=q
      rw[hq] at h
      cases h
      obtain⟨c1,g1,c3,g3,h1,h2,h3⟩:=nO hl hq
      refine⟨_,_,c3,g3,hk _ h1,h2,?_⟩
      show ah.and (e ah) (g2 ah)=(ah.and (e ah) (g1 ah)&&g3 ah)
      rw[h3]
      show(e ah&&(g1 ah&&g3 ah))=((e ah&&g1 ah)&&g3 ah)
      rw[Bool.and_assoc]
   cases a<;>cases b<;>simp only[List.cons_append,bG] at h<;>try (cases h;done)
   case int.int k c1 n1 k' c2 n2=>
    cases hk:fL k k' with
    | false=>rw[hk] at h;cases h
    | true=>
      rw[hk] at h
      exact split (c1&&c2) (fun A=>A.c .eql n1 n2) h (fun q hq=>by simp only[bG,hk,hq];cases q<;>rfl)
   case bool.bool c1 n1 c2 n2=>exact split (c1&&c2) (fun A=>A.q n1 n2) h (fun q hq=>by simp only[bG,hq];cases q<;>rfl)
   case str.str c1 n1 c2 n2=>exact split (c1&&c2) (fun A=>A.z .eql n1 n2) h (fun q hq=>by simp only[bG,hq];cases q<;>rfl)
def Fj(P:Program)(t:TypeId)(us:List Value)(v:Value):Prop:=(k_ P t=some true∧v=.agg us.toArray)∨(k_ P t=some false∧us=[v])
theorem uj{t:TypeId}{us:Array Value}{off:Nat}{b:Bool}(hb:k_ P t=some b)(h1:b=false→P.cellsOf t=1)(hi:∃j,P.info? t=some j)(hl:off+P.cellsOf t≤us.size)(w:World) :
  ∃v,(part t us off).run P w=.ok v w∧Fj P t ((us.toList.drop off).take (P.cellsOf t)) v:=by
 obtain⟨j,hj⟩:=hi
 have hc:P.cellsOf t=j.size:=by simp[Program.cellsOf,hj]
 have hs:(sizeOf t).run P w=.ok (P.cellsOf t) w:=by simp[sizeOf,typeInfo,hj,hc]
 cases b with
 | true=>
   refine⟨.agg (us.extract off (off+P.cellsOf t)),by simp[part,Sem.run_bind,oT hb,hs],.inl ⟨hb,?_⟩⟩
   congr 1
   apply Array.toList_inj.1
   rw[Array.toList_extract,List.extract_eq_take_drop,show off+P.cellsOf t-off=P.cellsOf t from by omega]
 | false=>
   have h1:=h1 rfl
   rw[h1] at hl ⊢
   have hlt:off<us.size:=by omega
   refine⟨us[off],by simp[part,Sem.run_bind,oT hb,Array.getElem?_eq_getElem hlt],.inr ⟨hb,?_⟩⟩
   have hlt':off<us.toList.length:=by simpa using hlt
   rw[List.drop_eq_getElem_cons hlt',List.take_succ_cons,List.take_zero]
   simp
theorem info_of_underlying{t:TypeId}{d:TypeDesc}(h:P.underlying t=some d):∃j,P.info? t=some j:=by
 unfold Program.underlying at h
 cases hi:P.info? t with
 | none=>rw[hi] at h;cases h
 | some j=>exact⟨j,rfl⟩
theorem DD{d:Nat}{t:TypeId}{z:List AV}(h:G6 P d t z=true):(∃j,P.info? t=some j)∧((k_ P t=some false∧P.cellsOf t=1)∨k_ P t=some true):=by
 cases d with
 | zero=>cases h
 | succ d=>
   unfold G6 at h
   cases hu:P.underlying t with
   | none=>rw[hu] at h;cases h
   | some q=>
     refine⟨info_of_underlying hu,?_⟩
     rw[hu] at h
     cases q<;>simp only at h<;>try (cases h;done)
     case struct fs=>exact .inr (by simp[k_,hu])
     all_goals
      rw[Bool.and_eq_true] at h
      exact .inl ⟨by simp[k_,hu],Nat.eq_of_beq_eq_true h.1⟩
theorem v7:∀(d:Nat) {D:Nat} {t:TypeId} {z xs ys:List AV} {us vs:List Value} {u v:Value} {c:Bool} {g:bu→Bool} {w:World},d≤D→G6 P d t z=true→fK xs z=true→xs.length=P.cellsOf t→ys.length=P.cellsOf t→bG xs ys=some (c,g)→
  bC w S m xs us→bC w S m ys vs→Fj P t us u→Fj P t vs v→(Op.equalIn D t u v).run P w=.ok (g ah) w
 | 0,_,_,_,_,_,_,_,_,_,_,_,_,_,h,_,_,_,_,_,_,_,_=>by cases h
 | d+1,0,_,_,_,_,_,_,_,_,_,_,_,hD,_,_,_,_,_,_,_,_,_=>by omega
 | d+1,D+1,t,z,xs,ys,us,vs,u,v,c,g,w,hD,h,hz,hx,hy,he,hxs,hys,hu,hv=>by
   unfold G6 at h
   cases hut:P.underlying t with
   | none=>rw[hut] at h;cases h
   | some q=>
     rw[hut] at h
     -- a type of one cell
     have one:k_ P t=some false→P.cellsOf t=1→∃a b,xs=[a]∧ys=[b]∧CR w S m a u∧CR w S m b v:=by
      intro ha h1
      rw[h1] at hx hy
      obtain⟨a,rfl⟩:=List.length_eq_one_iff.1 hx
      obtain⟨b,rfl⟩:=List.length_eq_one_iff.1 hy
      rcases hu with ⟨h',_⟩|⟨_,rfl⟩
      ·rw[ha] at h';cases h'
      ·rcases hv with ⟨h',_⟩|⟨_,rfl⟩
       ·rw[ha] at h';cases h'
       ·obtain⟨_,_,e,h1,_⟩:=cu.1 hxs
        obtain⟨_,_,e',h1',_⟩:=cu.1 hys
        cases e;cases e'
        exact⟨a,b,rfl,rfl,h1,h1'⟩
     cases q<;>simp only at h<;>try (cases h;done)
     case bool=>
      rw[Bool.and_eq_true] at h
      obtain⟨a,b,rfl,rfl,ha,hb⟩:=one (by simp[k_,hut]) (Nat.eq_of_beq_eq_true h.1)
      have h2:=h.2
      split at h2
      ·cases a<;>simp[fK,BQ] at hz
       cases b<;>simp[bG] at he
       obtain⟨_,rfl⟩:=he
       rw[cq.1 ha,cq.1 hb,run_equalIn_bool' w D t _ _ hut]
       simp[ah]
      ·cases h2
     case int k0=>
      rw[Bool.and_eq_true] at h
      obtain⟨a,b,rfl,rfl,ha,hb⟩:=one (by simp[k_,hut]) (Nat.eq_of_beq_eq_true h.1)
      have h2:=h.2
      split at h2
      ·cases a<;>simp[fK,BQ] at hz
       cases b<;>simp[bG] at he
       rename_i k c1 n1 k' c2 n2
       cases hk:fL k k' with
       | false=>rw[hk] at he;cases he
       | true=>
         rw[hk] at he
         have hkk:=fP hk
         subst hkk
         simp only[Option.some.injEq,Prod.mk.injEq] at he
         obtain⟨_,rfl⟩:=he
         rw[(bD.1 ha).1,(bD.1 hb).1,run_equalIn_int w D t _ k0 _ _ hut]
         simp[ah,nD]
      ·cases h2
     case string=>
      rw[Bool.and_eq_true] at h
      obtain⟨a,b,rfl,rfl,ha,hb⟩:=one (by simp[k_,hut]) (Nat.eq_of_beq_eq_true h.1)
      have h2:=h.2
      split at h2
      ·cases a<;>simp[fK,BQ] at hz
       cases b<;>simp[bG] at he
       obtain⟨_,rfl⟩:=he
       rw[(eH.1 ha).1,(eH.1 hb).1,run_equalIn_string w D t _ _ hut]
       simp[ah,Ea,ByteArray.toList_eq]
      ·cases h2
     case struct fs=>
      rw[Bool.and_eq_true,Bool.not_eq_true',Bool.and_eq_true] at h
      obtain⟨hst,hfs,_⟩:=h
      have hfs:=FO hfs
      have hag:k_ P t=some true:=by simp[k_,hut]
      have hu:u=.agg us.toArray:=by
       rcases hu with ⟨_,e⟩|⟨h',_⟩
       ·exact e
       ·rw[hag] at h';cases h'
      have hv:v=.agg vs.toArray:=by
       rcases hv with ⟨_,e⟩|⟨h',_⟩
       ·exact e
       ·rw[hag] at h';cases h'
      subst hu;subst hv
      have hfo:P.fieldsOf t=fs:=by simp[Program.fieldsOf,hut]
      rw[run_equalIn_struct w D t _ _ (by rw[hfo];exact hut) hst,hfo]
      -- field by field
      have key:∀(F:List Field) (off:Nat) (g:bu→Bool) (c:Bool),Cn P (G6 P d) z off F=some (P.cellsOf t)→off≤P.cellsOf t→bG (xs.drop off) (ys.drop off)=some (c,g)→(Op.eqFields D us.toArray vs.toArray F).run P w=.ok (g ah) w:=by
       intro F
       induction F with
       | nil=>
         intro off g c hF _ he
         cases hF
         rw[List.drop_of_length_le (by omega),List.drop_of_length_le (by omega)] at he
         simp only[bG,Option.some.injEq,Prod.mk.injEq] at he
         obtain⟨_,rfl⟩:=he
         simp[Op.eqFields]
       | cons f F ihF=>
         intro off g c hF hoff he
         rw[Cn] at hF
         cases hck:decide (f.name≠ "_")&&(Nat.beq f.offset off&&G6 P d f.type ((z.drop off).take (P.cellsOf f.type))) with
         | false=>rw[hck] at hF;cases hF
         | true=>
           rw[hck] at hF
           simp only at hF
           rw[Bool.and_eq_true,Bool.and_eq_true,decide_eq_true_eq] at hck
           obtain⟨hname,hfo,heq⟩:=hck
           have hfo:=Nat.eq_of_beq_eq_true hfo
           have hle:off+P.cellsOf f.type≤P.cellsOf t:=by
            have mono:∀(F:List Field) (a b:Nat),Cn P (G6 P d) z a F=some b→a≤b:=by
             intro F
             induction F with
             | nil=>intro a b h;cases h;exact Nat.le_refl _
             | cons f F ih=>
               intro a b h
               rw[Cn] at h
               split at h
               ·exact Nat.le_trans (Nat.le_add_right _ _) (ih _ _ h)
               ·cases h
            exact mono F _ _ hF
           obtain⟨hinf,hone⟩:=DD heq
           obtain⟨bb,hbb,hb1⟩:∃bb,k_ P f.type=some bb∧(bb=false→P.cellsOf f.type=1):=by
            rcases hone with ⟨h1,h2⟩|h1
            ·exact⟨false,h1,fun _=>h2⟩
            ·exact⟨true,h1,fun h=>by cases h⟩
           have hul:us.length=P.cellsOf t:=by rw[hxs.length,hx]
           have hvl:vs.length=P.cellsOf t:=by rw[hys.length,hy]
           obtain⟨a,ha,hav⟩:=uj (us:=us.toArray) (off:=off) hbb hb1 hinf (by rw[List.size_toArray,hul];exact hle) w
           obtain⟨b,hb,hbv⟩:=uj (us:=vs.toArray) (off:=off) hbb hb1 hinf (by rw[List.size_toArray,hvl];exact hle) w
           have ex:xs.drop off=(xs.drop off).take (P.cellsOf f.type)++xs.drop (off+P.cellsOf f.type):=by rw[←List.drop_drop,List.take_append_drop]
           have ey:ys.drop off=(ys.drop off).take (P.cellsOf f.type)++ys.drop (off+P.cellsOf f.type):=by rw[←List.drop_drop,List.take_append_drop]
           have lx:((xs.drop off).take (P.cellsOf f.type)).length=P.cellsOf f.type:=by rw[List.length_take,List.length_drop];omega
           have ly:((ys.drop off).take (P.cellsOf f.type)).length=P.cellsOf f.type:=by rw[List.length_take,List.length_drop];omega
           rw[ex,ey] at he
           obtain⟨c1,g1,c2,g2,e1,e2,e3⟩:=nO (by rw[lx,ly]) he
           have r1:=v7 d (D:=D) (by omega) heq (rM _ (rK _ hz)) lx ly e1 ((hxs.drop off).take _) ((hys.drop off).take _) hav hbv
           have r2:=ihF (off+P.cellsOf f.type) g2 c2 hF hle e2
           simp only[Op.eqFields,if_pos hname,Sem.run_bind,hfo,ha,Result.andThen_ok,hb,r1]
           rw[e3]
           cases hg1:g1 ah with
           | true=>simp only[Bool.not_true,Bool.false_eq_true,if_false,Bool.true_and];exact r2
           | false=>simp
      exact key fs.toList 0 g c hfs (Nat.zero_le _) (by simpa using he)
def FL(P:Program)(T:TypeId)(z:List AV):Bool:=
 G6 P 50 T z&&(tM (k_ P T) true&&(Nat.beq (P.cellsOf T) z.length && !P.eqGuardType P.depth T))
theorem Fs{T:TypeId}{z:List AV}(h:FL P T z=true):RI P T z:=by
 simp only[FL,Bool.and_eq_true,Bool.not_eq_true'] at h
 obtain⟨h1,h2,h3,h4⟩:=h
 have h2:=qO h2
 have h3:=Nat.eq_of_beq_eq_true h3
 intro w S m xs ys us vs c g hk he hx hy
 have hl:=nN hk
 have hly:∀{xs ys:List AV} {c:Bool} {g:bu→Bool},bG xs ys=some (c,g)→ys.length=xs.length:=by
  intro xs
  induction xs with
  | nil=>intro ys c g h;cases ys with
    | nil=>rfl
    | cons b _=>cases b<;>simp[bG] at h
  | cons a xs ih=>
    intro ys c g h
    cases ys with
    | nil=>cases a<;>simp[bG] at h
    | cons b ys=>
      have:∃c g,bG xs ys=some (c,g):=by
       cases hq:bG xs ys with
       | some q=>exact⟨q.1,q.2,rfl⟩
       | none=>
         cases a<;>cases b<;>simp only[bG,hq] at h<;>(try (cases h;done))
         split at h<;>cases h
      obtain⟨c',g',h'⟩:=this
      rw[List.length_cons,List.length_cons,ih h']
 refine⟨?_,fun op x y=>?_⟩
 ·exact v7 (m:=m) (S:=S) 50 (D:=Op.maxDepth) (by decide) h1 hk (by omega) (by rw[hly he];omega) he hx hy (.inl ⟨h2,rfl⟩) (.inl ⟨h2,rfl⟩)
 ·cases op<;>simp[eqGuard,Sem.run_bind,run_program,h4]
def XR(P:Program)(T:TypeId)(ti:TI):Bool:=
 (match P.info? T with
   | none=>false
   | some i=>Nat.beq i.size ti.size&&(Nat.beq i.bytes ti.bytes&&(match i.zero with
     | none=>false
     | some z=>oH ti.zero z.cells.toList&&(match ti.ty with
       | none=>true
       | some t=>xn z.cells.toList t.zeros&&(Nat.beq t.size ti.size&&(t.isAgg==ti.agg)))))) &&
 (Em P T ti.kind&&(tM (k_ P T) ti.agg&&(Nat.beq ti.zero.length ti.size&&(!(ti.eq&&ti.agg)||FL P T ti.zero))))
theorem K6{T:TypeId}{ti:TI}(h:XR P T ti=true):sR P T ti:=by
 simp only[XR,Bool.and_eq_true] at h
 obtain⟨h1,h2,h3,h4,h5⟩:=h
 cases hi:P.info? T with
 | none=>rw[hi] at h1;cases h1
 | some i=>
   rw[hi] at h1
   simp only[Bool.and_eq_true] at h1
   obtain⟨g1,g2,g3⟩:=h1
   cases hz:i.zero with
   | none=>rw[hz] at g3;cases g3
   | some z=>
     rw[hz] at g3
     simp only[Bool.and_eq_true] at g3
     obtain⟨g3,g4⟩:=g3
     have hty:∀t,ti.ty=some t→z.cells.toList=t.zeros∧t.size=ti.size∧t.isAgg=ti.agg:=fun t ht=>by
      rw[ht] at g4
      simp only[Bool.and_eq_true,beq_iff_eq] at g4
      exact⟨wh g4.1,Nat.eq_of_beq_eq_true g4.2.1,g4.2.2⟩
     refine⟨⟨i,z,hi,Nat.eq_of_beq_eq_true g1,Nat.eq_of_beq_eq_true g2,hz,fun w S m=>o7 g3,fun t ht w I=>?_⟩,EO h2,oT (qO h3),Nat.eq_of_beq_eq_true h4,fun t ht=>(hty t ht).2,fun he ha=>?_⟩
     ·rw[(hty t ht).1];exact Ty.nz t
     ·rw[he,ha] at h5
      exact Fs (by simpa using h5)
def Ei(P:Program):Nat→Nat→Nat→PT TI→Bool
 | 0,_,_,t=>match t with | .leaf=>true|_=>false
 | _+1,_,_,.leaf=>true
 | f+1,a,s,.node l v r=>(match v with|some ti=>XR P a ti|none=>true)&&(Ei P f (a+s) (2*s) l&&Ei P f (a+2*s) (2*s) r)
theorem xK:∀{f a s:Nat} {t:PT TI},Ei P f a s t=true→∀n ti,t.get n=some ti→sR P (a+s*n) ti
 | 0,a,s,.leaf,_,n,ti,hg=>by rw[PT.ji] at hg;cases hg
 | 0,a,s,.node _ _ _,h,_,_,_=>by cases h
 | f+1,a,s,.leaf,_,n,ti,hg=>by rw[PT.ji] at hg;cases hg
 | f+1,a,s,.node l v r,h,n,ti,hg=>by
   simp only[Ei,Bool.and_eq_true] at h
   rw[PT.gb] at hg
   split at hg
   ·rename_i hn
    subst hn
    rw[hg] at h
    exact K6 h.1
   ·rename_i hn
    split at hg
    ·rename_i h1
     have:=xK h.2.1 _ _ hg
     have e:a+s+2*s*(n/2)=a+s*n:=by
      have:n=2*(n/2)+1:=by omega
      conv=>rhs;rw[this]
      rw[Nat.mul_add,Nat.mul_one,Nat.mul_comm 2 s,Nat.mul_assoc,Nat.add_assoc,Nat.add_comm s]
     rw[e] at this;exact this
    ·rename_i h1
     have:=xK h.2.2 _ _ hg
     have e:a+2*s+2*s*(n/2-1)=a+s*n:=by
      have:n=2*(n/2-1)+2:=by omega
      conv=>rhs;rw[this]
      rw[Nat.mul_add,Nat.mul_comm 2 s,Nat.mul_assoc,Nat.add_assoc,Nat.add_comm (s*2)]
     rw[e] at this;exact this
theorem LU{t:PT TI}(h:Ei P 30 0 1 t=true):fJ P t:=fun T ti hg=>by
 have:=xK h T ti hg
 rwa [Nat.zero_add,Nat.one_mul] at this
end
end Go.Ev
namespace Go.Ev
def iw(P:Program)(ty:TypeId→Option Ty):Nat→List Field→Option (List Ty×Nat)
 | off, []=>some ([],off)
 | off,f::fs=>match ty f.type with
   | none=>none
   | some t=>match Nat.beq f.offset off&&Nat.beq (P.cellsOf f.type) t.size with
     | false=>none
     | true=>match iw P ty (off+t.size) fs with
       | none=>none
       | some (ts,n)=>some (t::ts,n)
def sM(P:Program):Nat→TypeId→Option Ty
 | 0,_=>none
 | d+1,t=>match P.underlying t with
   | some .bool=>some .bool
   | some (.int k)=>some (.int k)
   | some .string=>some .str
   | some (.slice e)=>match sM P d e with
     | none=>none
     | some ty=>match Nat.beq (P.cellsOf e) ty.size&&(Nat.blt 0 ty.size&&Nat.blt 0 (P.bytesOf e)) with
       | true=>some (.slice ty)
       | false=>none
   | some (.struct fs)=>match iw P (sM P d) 0 fs.toList with
     | none=>none
     | some (ts,n)=>match Nat.beq (P.cellsOf t) n with
       | true=>some (.struct ts)
       | false=>none
   | _=>none
def wA(P:Program):List TypeId→Option (List Ty)
 | []=>some []
 | t::ts=>match sM P 60 t with
   | none=>none
   | some ty=>match wA P ts with
     | none=>none
     | some vu=>some (ty::vu)
section
variable {H:Type} {enc:TypeId×Value→H} {P:Program} {w:World} {base:Nat} {spare:Nat→Bool} {held:Bool}
theorem pj{ty:TypeId→Option Ty}:∀{fs:List Field} {off n:Nat} {ts:List Ty},iw P ty off fs=some (ts,n)→n=off+Ty.ry ts
 | [],off,n,ts,h=>by cases h;rfl
 | f::fs,off,n,ts,h=>by
   rw[iw] at h
   cases ht:ty f.type with
   | none=>rw[ht] at h;cases h
   | some t=>
     rw[ht] at h
     simp only at h
     split at h
     ·cases h
     ·cases hr:iw P ty (off+t.size) fs with
      | none=>rw[hr] at h;cases h
      | some q=>
        obtain⟨ts',n'⟩:=q
        rw[hr] at h
        cases h
        rw[pj hr,Ty.ry,Nat.add_assoc]
theorem wU{a:Addr}{n:Nat}{us:List Value}(h:w.cells? base a n=some us):us.length=n∧(0<n→a.spot=none∧a.block<w.heap.size)∧(a.spot=none→eT w a.block a.off us):=by
 unfold World.cells? at h
 split at h
 ·have hl:us.length=n:=by simpa using mapM_some_length h
  have hg:∀i,i<n→w.cell? (a.add i)=us[i]? :=fun i hi=>by
   have:=mapM_some_get h i i (by simp[hi])
   exact this
  refine⟨hl,fun hn=>?_,fun hs j u hu=>?_⟩
  ·have h0:=hg 0 hn
   rw[List.getElem?_eq_getElem (by omega)] at h0
   have e:a.add 0=a:=by simp[Addr.add]
   rw[e] at h0
   unfold World.cell? at h0
   split at h0
   ·rename_i c _ _ hb
    split at h0
    ·cases h0
    ·rename_i hsp
     exact⟨by simpa using hsp,(Array.getElem?_eq_some_iff.1 hb).1⟩
   ·cases h0
  ·have hj:j<n:=by rw[←hl];exact(List.getElem?_eq_some_iff.1 hu).1
   have:=hg j hj
   rw[hu] at this
   rw[←this]
   congr 1
   obtain⟨b,o,sp⟩:=a
   have hs:sp=none:=hs
   subst hs
   exact(Addr.add_lit b o j).symm
 ·cases h
theorem rh{α:Type}{p:Nat→α→Prop}:∀(n:Nat),(∀i,i<n→∃x,p i x)→∃l:List α,l.length=n∧∀i x,l[i]? = some x→p i x
 | 0,_=>⟨[],rfl,fun i x h=>by simp at h⟩
 | n+1,h=>by
   obtain⟨l,h1,h2⟩:=rh n fun i hi=>h i (by omega)
   obtain⟨x,hx⟩:=h n (by omega)
   refine⟨l ++ [x],by simp[h1],fun i y hy=>?_⟩
   rcases Nat.lt_trichotomy i l.length with hi|hi|hi
   ·rw[List.getElem?_append_left hi] at hy;exact h2 i y hy
   ·subst hi
    rw[List.getElem?_append_right (Nat.le_refl _),Nat.sub_self] at hy
    cases hy
    rw[h1];exact hx
   ·rw[List.getElem?_eq_none (by simp;omega)] at hy;cases hy
theorem qZ{P:Program}{e:TypeId}:∀{l:List (DataW H)} {d:DataW H},d∈l→∀n∈d.weights P e,n∈DataW.weightsAll P e l
 | x::l,d,hd,n,hn=>by
   rw[DataW.weightsAll]
   rcases List.mem_cons.1 hd with rfl|hd
   ·exact List.mem_append.2 (.inl hn)
   ·exact List.mem_append.2 (.inr (qZ hd n hn))
theorem oL{P:Program}:∀{ts:List TypeId} {l:List (DataW H)} {i:Nat} {t:TypeId} {d:DataW H},ts[i]? = some t→l[i]? = some d→∀n∈d.weights P t,n∈DataW.weightsEach P ts l
 | [],_,i,t,d,h,_,_,_=>by simp at h
 | _::_, [],i,t,d,_,h,_,_=>by simp at h
 | t0::ts,d0::l,i,t,d,h1,h2,n,hn=>by
   rw[DataW.weightsEach]
   cases i with
   | zero=>cases h1;cases h2;exact List.mem_append.2 (.inl hn)
   | succ i=>exact List.mem_append.2 (.inr (oL (i:=i) (by simpa using h1) (by simpa using h2) n hn))
theorem uC{ty:TypeId→Option Ty}{cs:List Value}{rd:Field→Option (DataW H×List MemPlace)}{I:Nat→Prop} :
  ∀{fs:List Field} {off n:Nat} {ts:List Ty},iw P ty off fs=some (ts,n)→n≤cs.length→
  (∀(i:Nat) (f:Field) (t:Ty),fs[i]? = some f→ty f.type=some t→P.cellsOf f.type=t.size→∃x,aN w I t ((cs.drop f.offset).take (P.cellsOf f.type)) x)→∃x,cd w I ts ((cs.drop off).take (n-off)) x
 | [],off,n,ts,h,_,_=>by
   cases h
   exact⟨(),nh.2 (by rw[Nat.sub_self,List.take_zero])⟩
 | f::fs,off,n,ts,h,hn,hx=>by
   have hsz:=pj h
   rw[iw] at h
   cases ht:ty f.type with
   | none=>rw[ht] at h;cases h
   | some t=>
     rw[ht] at h
     simp only at h
     cases hck:Nat.beq f.offset off&&Nat.beq (P.cellsOf f.type) t.size with
     | false=>rw[hck] at h;cases h
     | true=>
       rw[hck] at h
       simp only at h
       rw[Bool.and_eq_true] at hck
       have ho:=Nat.eq_of_beq_eq_true hck.1
       have hc:=Nat.eq_of_beq_eq_true hck.2
       cases hr:iw P ty (off+t.size) fs with
       | none=>rw[hr] at h;cases h
       | some q=>
         obtain⟨ts',n'⟩:=q
         rw[hr] at h
         cases h
         obtain⟨x,h1⟩:=hx 0 f t rfl ht hc
         obtain⟨y,h2⟩:=uC (rd:=rd) hr hn fun i g t' hg=>hx (i+1) g t' (by simpa using hg)
         rw[ho,hc] at h1
         rw[Ty.ry] at hsz
         have e:(cs.drop off).take (n-off)=(cs.drop off).take t.size++(cs.drop (off+t.size)).take (n-(off+t.size)):=by
          rw[show n-off=t.size+(n-(off+t.size)) from by omega,List.take_add,List.drop_drop]
         rw[e]
         cases ts' with
         | nil=>
           have h3:=nh.1 h2
           rw[h3,List.append_nil]
           exact⟨x,p_.2 h1⟩
         | cons t2 ts'=>exact⟨(x,y),nT.2 ⟨_,_,rfl,h1,h2⟩⟩
theorem Dg{k:IntKind}{n:Int}(h:(Lit.int k n).wf=true):k.has n:=by
 simp only[Lit.wf,Bool.and_eq_true,decide_eq_true_eq] at h
 exact⟨h.1,h.2⟩
theorem ui:∀(d:Nat) {t:TypeId} {ty:Ty} {fuel:Nat} {cs:List Value} {r:DataW H×List MemPlace},sM P d t=some ty→DataW.trod enc P w base spare held fuel t cs=some r→(∀n∈r.1.weights P t,n≤reachBytes)→
  ∃x,aN w (fun b=>b<w.heap.size) ty cs x
 | 0,_,_,_,_,_,h,_,_=>by cases h
 | d+1,t,ty,fuel,cs,r,h,htr,hwt=>by
   rw[sM] at h
   cases hu:P.underlying t with
   | none=>rw[hu] at h;cases h
   | some q=>
     rw[hu] at h
     cases q<;>simp only at h<;>try (cases h;done)
     case bool=>
      cases h
      obtain⟨b,rfl,_⟩:=DataW.trod_bool hu htr
      exact⟨b,qj.2 rfl⟩
     case int k=>
      cases h
      obtain⟨n,rfl,_,hw⟩:=DataW.trod_int hu htr
      exact⟨n,jj.2 ⟨rfl,Dg hw⟩⟩
     case string=>
      cases h
      obtain⟨s,rfl,hr,_⟩:=DataW.trod_string hu htr
      refine⟨s.data.toList,oW.2 ⟨by simp,?_⟩⟩
      have:=hwt s.data.toList.length (by rw[hr];simp[DataW.weights])
      exact Nat.le_trans this (by decide)
     case slice e=>
      cases hte:sM P d e with
      | none=>rw[hte] at h;cases h
      | some ty'=>
        rw[hte] at h
        simp only at h
        split at h
        ·rename_i hck
         cases h
         rw[Bool.and_eq_true,Bool.and_eq_true] at hck
         have hce:=Nat.eq_of_beq_eq_true hck.1
         have hpos:0<ty'.size:=Nat.le_of_ble_eq_true hck.2.1
         have hbytes:0<P.bytesOf e:=Nat.le_of_ble_eq_true hck.2.2
         rcases DataW.trod_slice hu htr with ⟨rfl,_⟩|⟨a,len,cap,elems,rest,n,rfl,rfl,hr,_,hlc,_,hel,hget,_,_⟩
         ·exact⟨[],bR.2 ⟨none,0,rfl,Nat.le_refl _,Nat.zero_le _,fun _=>rfl,fun i y h=>by cases h⟩⟩
         ·have hw0:(elems.length+rest.length)*P.bytesOf e≤reachBytes:=hwt _ (by rw[hr];simp[DataW.weights,hu])
          have hlen:len≤cv:=by
           have h1:len*1≤(elems.length+rest.length)*P.bytesOf e:=Nat.mul_le_mul (by omega) hbytes
           have h2:reachBytes≤cv:=by decide
           omega
          have each:∀i,i<len→∃x,∃us,a.spot=none∧a.block<w.heap.size∧us.length=ty'.size∧eT w a.block (a.off+i*ty'.size) us∧aN w (fun b=>b<w.heap.size) ty' us x:=by
           intro i hi
           have hg:=hget i hi
           rw[List.getElem?_eq_getElem (by omega)] at hg
           obtain⟨us,hcs,hrd⟩:=Option.bind_eq_some_iff.1 hg
           obtain⟨c1,c2,c3⟩:=wU hcs
           rw[hce] at c1 c2 c3
           obtain⟨hsp,hblk⟩:=c2 hpos
           -- the first element's address has no spot
           have hspa:a.spot=none:=by
            have hg0:=hget 0 (by omega)
            rw[List.getElem?_eq_getElem (by omega)] at hg0
            obtain⟨us0,hcs0,_⟩:=Option.bind_eq_some_iff.1 hg0
            rw[Nat.zero_mul] at hcs0
            have e0:a.add 0=a:=by simp[Addr.add]
            rw[e0] at hcs0
            exact((wU hcs0).2.1 (by rw[hce];exact hpos)).1
           have hadd:a.add (i*ty'.size)=⟨a.block,a.off+i*ty'.size,none⟩:=by
            obtain⟨b,o,sp⟩:=a
            have hs:sp=none:=hspa
            subst hs
            exact Addr.add_lit b o _
           rw[hadd] at c3 hblk
           obtain⟨x,hx⟩:=ui d hte hrd fun n hn=>hwt n (by
            rw[hr]
            simp only[DataW.weights,hu]
            refine List.mem_cons_of_mem _ (List.mem_append.2 (.inl (qZ (List.mem_map.2 ⟨elems[i],List.getElem_mem _,rfl⟩) n hn))))
           exact⟨x,us,hspa,hblk,c1,c3 rfl,hx⟩
          obtain⟨xs,hxl,hxs⟩:=rh len each
          refine⟨xs,bR.2 ⟨some a,cap,by rw[hxl],by omega,by omega,fun h=>(by cases h),fun i y hy=>?_⟩⟩
          obtain⟨us,g1,g2,g3,g4,g5⟩:=hxs i y hy
          refine⟨a.block,a.off,us,?_,g2,g3,g4,g5⟩
          obtain⟨b,o,sp⟩:=a
          have hs:sp=none:=g1
          rw[hs]
        ·cases h
     case struct fs=>
      cases hf:iw P (sM P d) 0 fs.toList with
      | none=>rw[hf] at h;cases h
      | some q=>
        obtain⟨ts,n⟩:=q
        rw[hf] at h
        simp only at h
        split at h
        ·rename_i hck
         cases h
         have hn:=Nat.eq_of_beq_eq_true hck
         obtain⟨xs,m,rfl,hr,hlen,hxl,hx⟩:=DataW.trod_struct hu htr
         obtain⟨y,hy⟩:=uC (w:=w) (cs:=cs) (I:=fun b=>b<w.heap.size) (rd:=fun _=>(none:Option (DataW H×List MemPlace))) hf (by omega) fun i f t' hi hty hc=>by
          have hi':fs[i]? = some f:=by rw[←Array.getElem?_toList];exact hi
          have hlt:i<xs.length:=by rw[hxl];exact(Array.getElem?_eq_some_iff.1 hi').1
          have:=hx i f hi'
          rw[List.getElem?_eq_getElem hlt] at this
          refine ui d hty this fun n hn=>hwt n ?_
          rw[hr]
          simp only[DataW.weights,hu]
          exact oL (i:=i) (by simp[hi']) (by simp[List.getElem?_eq_getElem hlt]) n hn
         rw[List.drop_zero,Nat.sub_zero,List.take_of_length_le (by omega)] at hy
         exact⟨y,l_.2 hy⟩
        ·cases h
theorem As{r:Reach}{b0 d:Nat}{t:TypeId}{ty:Ty}{v:Value}{x:ty.T}(ht:sM P d t=some ty)(hok:Value.okWide P w r b0 t v)(hx:aN w (fun b=>b<w.heap.size) ty v.cells.toList x):iE w (fun b=>b<w.heap.size) ty v x:=by
 cases d with
 | zero=>cases ht
 | succ d=>
   rw[sM] at ht
   unfold Value.okWide at hok
   cases hu:P.underlying t with
   | none=>rw[hu] at ht;cases ht
   | some q=>
     rw[hu] at ht hok
     have flat:ty.isAgg=false→Cell.okWide P w r b0 t v→iE w (fun b=>b<w.heap.size) ty v x:=by
      intro ha hc
      rw[iE,if_neg (by rw[ha];decide)]
      have:v.cells.toList=[v]:=by
       cases v<;>(try rfl)
       unfold Cell.okWide Cell.ok at hc
       rw[hu] at hc
       cases q<;>simp at hc
      rw[this] at hx
      exact hx
     cases q<;>simp only at ht hok<;>try (cases ht;done)
     case bool=>cases ht;exact flat rfl hok
     case int k=>cases ht;exact flat rfl hok
     case string=>cases ht;exact flat rfl hok
     case slice e=>
      have:ty.isAgg=false:=by
       cases hte:sM P d e with
       | none=>rw[hte] at ht;cases ht
       | some ty'=>
         rw[hte] at ht
         simp only at ht
         split at ht
         ·cases ht;rfl
         ·cases ht
      exact flat this hok
     case struct fs=>
      obtain⟨cs,rfl,_,_⟩:=hok
      have:ty.isAgg=true:=by
       cases hf:iw P (sM P d) 0 fs.toList with
       | none=>rw[hf] at ht;cases ht
       | some q=>
         rw[hf] at ht
         simp only at ht
         split at ht
         ·cases ht;rfl
         ·cases ht
      rw[iE,if_pos this]
      exact⟨cs,rfl,hx⟩
theorem oK{r:Reach}{b0:Nat}:∀{ts:List TypeId} {vu:List Ty} {vs:List Value} {ds:List (DataW H)} {ps:List MemPlace},wA P ts=some vu→DataW.TrodAll enc P w base spare held ts vs ds ps→
  (∀(j:Nat) t v,ts[j]? = some t→vs[j]? = some v→Value.okWide P w r b0 t v)→(∀n∈DataW.weightsEach P ts ds,n≤reachBytes)→∃x,gG w (fun b=>b<w.heap.size) vu vs x
 | [],vu, [], [],ps,h,_,_,_=>by cases h;exact⟨(),rfl⟩
 | t::ts,vu,v::vs,d::ds,ps,h,htr,hok,hwt=>by
   rw[wA] at h
   cases hty:sM P 60 t with
   | none=>rw[hty] at h;cases h
   | some ty=>
     rw[hty] at h
     simp only at h
     cases hts:wA P ts with
     | none=>rw[hts] at h;cases h
     | some tys'=>
       rw[hts] at h
       cases h
       obtain⟨p,q,⟨fuel,h1⟩,h2,_⟩:=htr
       rw[DataW.weightsEach] at hwt
       obtain⟨x,hx⟩:=ui 60 hty h1 fun n hn=>hwt n (List.mem_append.2 (.inl hn))
       have hx':=As hty (hok 0 t v rfl rfl) hx
       obtain⟨y,hy⟩:=oK hts h2 (fun j t v ht hv=>hok (j+1) t v (by simpa using ht) (by simpa using hv)) fun n hn=>hwt n (List.mem_append.2 (.inr hn))
       cases tys' with
       | nil=>
         have hy:vs=[]:=hy
         subst hy
         exact⟨x,v,rfl,hx'⟩
       | cons t2 tys'=>exact⟨(x,y),v,vs,rfl,hx',hy⟩
 | [],_,_::_,_,_,_,h,_,_=>by exact h.elim
 | [],_, [],_::_,_,_,h,_,_=>by exact h.elim
 | _::_,_, [],_,_,_,h,_,_=>by exact h.elim
 | _::_,_,_::_, [],_,_,h,_,_=>by exact h.elim
open Go.RowKit
theorem nQ(hl:laidOutB P=true){W W':World}(hb:Below W.heap.size W W'){sp:Nat→Bool}:∀{ts:List TypeId} {vs:List Value} {ds:List (DataW H)} {ps:List MemPlace},(∀t∈ts,P.readableRec t=true∧t<P.types.size)→
  DataW.TrodAll enc P W 0 (fun _=>true) true ts vs ds ps→(∀p∈ps,p.block<W.heap.size)→(∀p∈ps,sp p.block=true)→DataW.TrodAll enc P W' 0 sp true ts vs ds ps
 | [], [], [],ps,_,h,_,_=>h
 | t::ts,v::vs,d::ds,ps,hts,h,hlt,hsp=>by
   obtain⟨p,q,h1,h2,rfl⟩:=h
   refine⟨p,q,WideElems.Trod_stays hl (hts t List.mem_cons_self).1 (hts t List.mem_cons_self).2 h1 (fun x hx=>hb.same (hlt x (List.mem_append.2 (.inl hx)))) (fun x hx=>hsp x (List.mem_append.2 (.inl hx))),?_,rfl⟩
   exact nQ hl hb (fun t ht=>hts t (List.mem_cons_of_mem _ ht)) h2 (fun x hx=>hlt x (List.mem_append.2 (.inr hx))) (fun x hx=>hsp x (List.mem_append.2 (.inr hx)))
 | [],_::_,_,_,_,h,_,_=>by exact h.elim
 | [], [],_::_,_,_,h,_,_=>by exact h.elim
 | _::_, [],_,_,_,h,_,_=>by exact h.elim
 | _::_,_::_, [],_,_,h,_,_=>by exact h.elim
theorem trodAll_length:∀{ts:List TypeId} {vs:List Value} {ds:List (DataW H)} {ps:List MemPlace},DataW.TrodAll enc P w base spare held ts vs ds ps→ds.length=ts.length
 | [], [], [],_,_=>rfl
 | t::ts,v::vs,d::ds,ps,h=>by
   obtain⟨p,q,_,h2,_⟩:=h
   rw[List.length_cons,List.length_cons,trodAll_length h2]
 | [],_::_,_,_,h=>by exact h.elim
 | [], [],_::_,_,h=>by exact h.elim
 | _::_, [],_,_,h=>by exact h.elim
 | _::_,_::_, [],_,h=>by exact h.elim
theorem FM{f:Func}{s:ChangeSpec}{apart fresh handsOn again:Bool}{W W':World}{args:Array Value}{ds gs:List (DataW H)}{before:List MemPlace}{tb:TypeId}(hvars:s.vars=[])
  (hfn:∀(H:Type) (ds:List (DataW H)),ds.length=f.params.size→s.fn H ds={results:=[.lit (.bool true)],args:=ds}) (hres:f.resultTypes=#[tb]) (htb:P.underlying tb=some .bool)
  (hl:laidOutB P=true) (hts:∀t∈f.params.toList,P.readableRec t=true∧t<P.types.size)
  (hW:DataW.Whole enc P f.params.toList s.vars apart W args.toList ds gs before) (hb:Below W.heap.size W W'):s.post enc P f apart fresh handsOn again W args (.bool true) W':=by
 have hlt:=hW.lt
 have hW0:=hW
 obtain⟨p,q,hA,hV,rfl,hz,hnd⟩:=hW
 rw[hvars] at hV
 have hgs:gs=[]∧q=[]:=by
  cases gs with
  | nil=>exact⟨rfl,hV⟩
  | cons _ _=>exact hV.elim
 obtain⟨rfl,rfl⟩:=hgs
 rw[List.append_nil] at hlt hz hnd hW0
 have hlen:=trodAll_length hA
 have hf:=hfn H (ds ++ []) (by rw[List.append_nil,hlen,Array.length_toList])
 have hf':=hf
 rw[List.append_nil] at hf'
 have hstay:∀sp:Nat→Bool,(∀x∈p,sp x.block=true)→DataW.TrodAll enc P W' 0 sp true f.params.toList args.toList ds p:=fun sp hsp=>nQ hl hb hts hA hlt hsp
 have hresl:((Value.bool true).resultList f.resultTypes.size)=[.bool true]:=by rw[hres];rfl
 have hr:∀(b:Nat) (sp:Nat→Bool) (hd:Bool),DataW.TrodAll enc P W' b sp hd f.resultTypes.toList ((Value.bool true).resultList f.resultTypes.size) (s.fn H (ds ++ [])).results []:=fun b sp hd=>by
  rw[hresl,hres,hf]
  exact⟨[], [],shut_bool htb true,rfl,rfl⟩
 have hold:∀x∈p,(fun b=>decide (b<W.heap.size)) x.block=true:=fun x hx=>by simpa using hlt x hx
 refine⟨ds, [],p, [],p, [],hW0,hr _ _ _,?_,?_,World.keptBut_mono (fun x hx=>⟨hx,.inr (.inl hx)⟩) (hb.frame (· ∈p)),fun _=>⟨fun j t r hj hv=>?_,?_⟩⟩
 ·rw[hf,List.append_nil];exact hstay _ hold
 ·rw[hvars,hf];rfl
 ·exact ok_one hres rfl (okWide_bool_mk htb true) j t r hj hv
 ·have h1:DataW.TrodAll enc P W' 0 (fun _=>true) true (f.resultTypes.toList++f.params.toList) ((Value.bool true).resultList f.resultTypes.size++args.toList) (.lit (.bool true)::ds) p:=by
   rw[hresl,hres]
   exact⟨[],p,shut_bool htb true,hstay _ (fun _ _=>rfl),rfl⟩
  refine⟨.lit (.bool true)::ds, [],p,⟨p, [],h1,by rw[hvars];rfl,by rw[List.append_nil],fun b off hp=>?_,hnd⟩,fun x hx _=>hx⟩
  rw[hb.frozen (hlt _ hp)]
  exact hz b off hp
theorem C9{f:FuncId}{vu:List Ty}{pre:Ty.Ts vu→Bool}{fn:Ty.Ts vu→Bool}(hs:aC.Sound P f ⟨vu, [.bool],pre,fn⟩)(htrue:∀x,Ty.du vu x→pre x=true∧fn x=true){F:Func}(htys:wA P F.params.toList=some vu)
  {r:Reach} {b0:Nat} {W:World} {args:Array Value} {ds:List (DataW H)} {ps:List MemPlace} (hA:DataW.TrodAll enc P W base spare held F.params.toList args.toList ds ps)
  (hval:∀(j:Nat) t v,F.params[j]? = some t→args[j]? = some v→Value.okWide P W r b0 t v) (hwt:∀n∈DataW.weightsEach P F.params.toList ds,n≤reachBytes) :
  Calls P f args W fun e W'=>e=.returned (.bool true)∧Below W.heap.size W W':=by
 obtain⟨x,hx⟩:=oK htys hA (fun j t v ht hv=>hval j t v (by rw[←Array.getElem?_toList];exact ht) (by rw[←Array.getElem?_toList];exact hv)) hwt
 obtain⟨h1,h2⟩:=htrue x hx.has
 refine(hs.calls W _ x args (fun b hb=>hb) hx h1).mono ?_
 rintro e W' ⟨v,rfl,g1,g2,g3,g4,g5,I',_,g7⟩
 have g7:iE W' I' .bool v (fn x):=g7
 have g7:[v]=[Value.bool (fn x)]:=g7
 cases g7
 refine⟨by rw[h2],⟨g1,g2,g3,g4,g5⟩⟩
theorem Aj{C:Checked}{os:Os}{f:FuncId}{F:Func}{s:ChangeSpec}{conds:List PathCond}{apart fresh handsOn again:Bool}{a:Assume}{tb:TypeId}{vu:List Ty}{pre:Ty.Ts vu→Bool}{fn:Ty.Ts vu→Bool}
  (own:ownKnob C.prog.godebug=none) (started:os.Started) (noInit:C.prog.inits.idxOf? f=none) (hF:C.prog.funcs[f]? = some F)
  (witness:∃(w:World) (tape:Tape) (i:Input),w.os=os∧(w.forCall tape i).Shaped C.prog∧i.vars=[]∧Input.okWide C.prog (w.forCall tape i) .any w.heap.size f i∧
    s.pre6 enc C.prog F conds apart (w.forCall tape i).memory i.args∧a.holds C.prog (lone (Frame.enter C.prog f i.args .normal) [] (w.forCall tape i)))
  (hs:aC.Sound C.prog f ⟨vu, [.bool],pre,fn⟩) (htrue:∀x,Ty.du vu x→pre x=true∧fn x=true) (htys:wA C.prog F.params.toList=some vu) (hvars:s.vars=[])
  (hfn:∀(H:Type) (ds:List (DataW H)),ds.length=F.params.size→s.fn H ds={results:=[.lit (.bool true)],args:=ds}) (hres:F.resultTypes=#[tb]) (htb:C.prog.underlying tb=some .bool)
  (hl:laidOutB C.prog=true) (hts:F.params.toList.all (fun t=>C.prog.readableRec t&&decide (t<C.prog.types.size))=true) :
  ReturnsInHanded a C os f .any (s.pre6 enc C.prog F conds apart) (s.post enc C.prog F apart fresh handsOn again):=by
 refine returnsInHanded_of_change_sized own started noInit hF witness ?_
 intro W b0 args ds gs before hval hW _ hsz _
 have hW':=hW
 obtain⟨p,q,hA,hV,_,_,_⟩:=hW
 rw[hvars] at hV
 have hgs:gs=[]:=by
  cases gs with
  | nil=>rfl
  | cons _ _=>exact hV.elim
 subst hgs
 have hwt:∀n∈DataW.weightsEach C.prog F.params.toList ds,n≤reachBytes:=by
  have e:s.plain.varTypes C.prog=[]:=by simp[DataSpec.varTypes,ChangeSpec.plain,hvars]
  rw[e,List.append_nil,List.append_nil] at hsz
  intro n hn
  have:=List.all_eq_true.1 hsz n hn
  simpa using this
 refine(C9 hs htrue htys hA hval hwt).mono ?_
 rintro e W' ⟨rfl,hb⟩
 refine⟨_,rfl,FM hvars hfn hres htb hl (fun t ht=>?_) hW' hb⟩
 have:=List.all_eq_true.1 hts t ht
 simpa using this
end
end Go.Ev
namespace Go.Ev
def LT.val{R Y:Type}(d:R):LT R Y→R
 | .ret r=>r
 | .more _=>d
 | .br b t e=>bif b then t.val d else e.val d
 | .need _ t=>t.val d
 | .eqs _ t=>t.val d
 | .bad _ _=>d
def LT.pre{R Y:Type}:LT R Y→Bool
 | .ret _=>true
 | .more _=>false
 | .br b t e=>bif b then t.pre else e.pre
 | .need b t=>b&&t.pre
 | .eqs _ t=>t.pre
 | .bad _ _=>false
def LT.MQ{R Y:Type}:LT R Y→Prop
 | .ret _=>True
 | .more _=>True
 | .br _ t e=>t.MQ∧e.MQ
 | .need _ t=>t.MQ
 | .eqs p t=>p∧t.MQ
 | .bad _ _=>True
theorem LT.runs{R Y:Type}{d:R}{step:Y→LT R Y}:∀{t:LT R Y},t.MQ→t.pre=true→aD step t (t.val d)
 | .ret r,_,_=>.ret r
 | .more _,_,h=>by cases h
 | .br b t e,h1,h2=>by
   cases b with
   | true=>exact .br (LT.runs h1.1 h2)
   | false=>exact .br (LT.runs h1.2 h2)
 | .need b t,h1,h2=>by
   rw[LT.pre,Bool.and_eq_true] at h2
   exact .need h2.1 (LT.runs h1 h2.2)
 | .eqs p t,h1,h2=>.eqs h1.1 (LT.runs h1.2 h2)
 | .bad _ _,_,h=>by cases h
def LT.all{R Y:Type}(p:R→Prop):LT R Y→Prop
 | .ret r=>p r
 | .more _=>True
 | .br _ t e=>t.all p∧e.all p
 | .need _ t=>t.all p
 | .eqs _ t=>t.all p
 | .bad _ _=>True
theorem LT.jc{R Y:Type}{d:R}{p:R→Prop}(hd:p d):∀{t:LT R Y},t.all p→p (t.val d)
 | .ret r,h=>h
 | .more _,_=>hd
 | .br b t e,h=>by
   cases b with
   | true=>exact LT.jc (t:=t) hd h.1
   | false=>exact LT.jc (t:=e) hd h.2
 | .need b t,h=>LT.jc (t:=t) hd h
 | .eqs _ t,h=>LT.jc (t:=t) hd h
 | .bad _ _,_=>hd
section
variable {a b:Int} {k:IntKind}
theorem aB:ah.c .eql a b=(a==b):=rfl
theorem aF:ah.c .neq a b=(a != b):=rfl
theorem ao:ah.c .lss a b=decide (a<b):=rfl
theorem ax:ah.c .leq a b=decide (a≤b):=rfl
theorem aA:ah.c .gtr a b=decide (b<a):=rfl
theorem aI:ah.c .geq a b=decide (b≤a):=rfl
theorem aL{x y:Bool}:ah.and x y=(x&&y):=rfl
theorem a_{x:Bool}:ah.not x=!x:=rfl
theorem fD{x y:Bool}:ah.q x y=(x==y):=rfl
theorem al{α β:Type}{f:α→β}{x:α}:ah.k f x=f x:=rfl
theorem bi:ah.b .add k a b=k.wrap (a+b):=rfl
theorem aS:ah.b .sub k a b=k.wrap (a-b):=rfl
theorem nk:ah.b .mul k a b=k.wrap (a*b):=rfl
theorem BL:ah.b .quo k a b=k.wrap (a.tdiv b):=rfl
theorem xr:ah.b .rem k a b=a.tmod b:=rfl
theorem aY:ah.v k a=k.wrap a:=rfl
theorem ot:ah.mn a b=if b<a then b else a:=rfl
theorem Ez:ah.mx a b=if b > a then b else a:=rfl
theorem BN{t:Ty}{x:List t.T}:ah.n t x a=x.getD a.toNat t.gx:=rfl
theorem kr{α:Type}{x:List α}:ah.s x a b=(x.take b.toNat).drop a.toNat:=rfl
theorem mY{α:Type}{v:α}:ah.r a v=List.replicate a.toNat v:=rfl
theorem pQ{α:Type}{x y:List α}:ah.spl x a y=x.take a.toNat++y++x.drop (a.toNat+y.length):=rfl
theorem fU(h1:-9223372036854775808≤a)(h2:a≤9223372036854775807):IntKind.i64.wrap a=a:=IntWalk.i64_in a ⟨h1,h2⟩
theorem w8(h1:0≤a)(h2:a≤255):IntKind.u8.wrap a=a:=IntWalk.u8_in a ⟨h1,h2⟩
theorem CM(h1:0≤a)(h2:a≤18446744073709551615):IntKind.u64.wrap a=a:=IntWalk.u64_in a ⟨h1,h2⟩
end
theorem pO{n:Int}:IntKind.i64.has n↔ -9223372036854775808≤n∧n≤9223372036854775807:=Iff.rfl
theorem Dl{n:Int}:IntKind.u8.has n↔0≤n∧n≤255:=Iff.rfl
theorem fH{b x y:Bool}:(bif b then x else y)=true↔(b=true→x=true)∧(b=false→y=true):=by cases b<;>cases x<;>cases y<;>decide
theorem lb{α:Type}{b:Bool}{x y r:α}:(bif b then x else y)=r↔(b=true∧x=r)∨(b=false∧y=r):=by cases b<;>simp
theorem cB{α:Type}{x:α}:tt x=true:=rfl
def LT.yG{R Y:Type}:LT R Y→Bool
 | .br _ t e=>t.yG&&e.yG
 | .need _ t=>t.yG
 | .eqs _ _=>false
 | _=>true
theorem LT.pM{R Y:Type}:∀{t:LT R Y},t.yG=true→t.MQ
 | .ret _,_=>trivial
 | .more _,_=>trivial
 | .br _ t e,h=>by
   rw[LT.yG,Bool.and_eq_true] at h
   exact⟨LT.pM h.1,LT.pM h.2⟩
 | .need _ t,h=>LT.pM (t:=t) h
 | .bad _ _,_=>trivial
section
variable {P:Program} {ti:PT TI} (ht:fJ P ti) (hm:P.follows .mixedOrders=true) {g:FuncId} {F:Func} {args res:List Ty} {mg:List (FuncId×Func)} {gw:List (FuncId×aC)} {pre:Ty.Ts args→Bool} {fn:Ty.Ts args→Ty.Ts res}
include ht hm
theorem aK(q:Bool)(n:Nat)(n_:List Stop)(start:bu→Ty.Ts args→LT (Ty.Ts res) Empty)(hf:wS P ((g,F)::mg))(hs:vU P gw)
  (hr:∀x,pre x=true→Ty.du args x→(start ah x).pre=true)
  (heq:∀x,(start ah x).MQ:=by intro x;exact LT.pM (by kernel_rfl))
  (hb:F.body.isSome=true:=by kernel_rfl) (hl:(Nat.ble args.length F.ntmps&&Nat.ble F.ntmps 65535)=true:=by kernel_rfl)
  (h0:∀A x,Tr.Is q (run A (Oe ti A res ((g,F)::mg) gw [] n_) n (uk g F (jT A args x))) ((start A x).tr Empty.elim):=by intro A x;first|exact⟨by kernel_rfl,by kernel_rfl⟩|(show Tr.full _=_;kernel_rfl))
  (hfn:∀x,fn x=(start ah x).val (Ty.bV res):=by intro x;kernel_rfl):aC.Sound P g ⟨args,res,pre,fn⟩:=
 aQ ht hm q n n_ start hf hs (fun x hp h=>hfn x▸LT.runs (heq x) (hr x hp h)) hb hl h0
end
def vi(x:Int):AV:=.int .i64 false x
def vb(x:Bool):AV:=.bool false x
def dc(t:Ty)(x:t.T):List AV:=ed ah t x
def en(l:List (Nat×AV)):Env:=l.foldl (fun e p=>e.put p.1 p.2) .leaf
def cw(F:Func)(l:List Nat):Code:=Code.FQ (Fp F) l
def ow(F:Func)(l:List Nat):Array Oper:=opsOf (Code.FQ (Fp F) l)
abbrev yI:Ty:=.int .i64
abbrev yU:Ty:=.int .u8
abbrev yB:Ty:=.slice yU
abbrev pN:Ty:=.slice yI
end Go.Ev
