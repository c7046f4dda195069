/-
  PROVED: the evaluator: regions that draw their order, the theorem on the whole, contracts of functions, and from a contract to a law. Conditions: the type table, the functions and the contracts fit the program.
-/
import Derived.Test.YteldjjjcdpnnbaaGreatEvB
import Derived.KernelRfl
import Derived.Laws.StructEq
import Derived.WalkKit
import Derived.ProofKit
import Derived.OpenShut
import Derived.SizedLaws
import Derived.Carry
import Derived.IntWalk
set_option linter.unusedVariables false
set_option linter.unusedSimpArgs false
set_option linter.unusedSectionVars false
namespace Go.Ev
section
variable {P:Program} {R:Type} {E:gp R} {w0:World} {I0:Nat→Prop} {f0:FuncId} {Fin:R→Value→World→Prop} {Q:R→Prop}
variable {w:World} {S:St} {m:Mem} {fr:Frame} {fs:List bA} {frs cs:List Frame}
variable {n:Nat}
theorem zo:∀{ps:List Nat} {aa:List AV} {us:List Value} {env:Env} {tmps:Array Value} {nn:Nat},bP w S m aa us→ps.length=aa.length→(∀p∈ps,p<nn)→tmps.size=nn→nn≤65535→(∀i,CR w S m (env.at i) (tmps.getD i undef))→
  ((ps.zip us).foldl (fun tmps (t,a)=>tmps.setIfInBounds t a) tmps).size=nn∧∀i,CR w S m ((pG ps aa env).at i) (((ps.zip us).foldl (fun tmps (t,a)=>tmps.setIfInBounds t a) tmps).getD i undef)
 | [],aa,us,env,tmps,nn,_,_,_,hs,_,he=>by
   simp only[List.zip_nil_left,List.foldl_nil,pG]
   exact⟨hs,he⟩
 | p::ps, [],us,env,tmps,nn,_,hl,_,_,_,_=>by simp at hl
 | p::ps,a::aa,us,env,tmps,nn,hc,hl,hp,hs,hn,he=>by
   obtain⟨u,r,rfl,h1,h2⟩:=du.1 hc
   simp only[List.zip_cons_cons,List.foldl_cons,pG]
   have hpn:=hp p List.mem_cons_self
   refine zo (nn:=nn) h2 (by simpa using hl) (fun q hq=>hp q (List.mem_cons_of_mem _ hq)) (by simp[hs]) hn fun i=>?_
   rw[Env.sD (by omega)]
   simp only[Array.getD_eq_getD_getElem?,Array.getElem?_setIfInBounds]
   by_cases hi:i=p
   ·subst hi;simp[hs,hpn,h1]
   ·rw[if_neg hi,if_neg (Ne.symm hi),←Array.getD_eq_getD_getElem?];exact he i
theorem xt{α β γ:Type}(f:γ→α×β→γ)(x:γ)(a:Array α)(b:Array β):(a.zip b).foldl f x=(a.toList.zip b.toList).foldl f x:=by
 rw[←Array.foldl_toList,Array.toList_zip]
theorem yn{ρ:Operand→Value}{x:Operand}{args:Array Operand}{ats:Array TypeId}{t:TypeId}{l:Nat}{r:Loop}(hx:ρ x=.func (.yield l) #[] #[])(h:w.heap[l]? = some (.loop r))(hs:args.size=r.params.size) :
  (do let d ←resolve ρ {callee:=.value x,args:=args,argTypes:=ats} t;invoke d.target d.args:Sem Next).run P w =
    .ok (.round l r.fn ((r.params.zip (args.map ρ)).foldl (fun tmps (t,a)=>tmps.setIfInBounds t a) r.tmps) r.assign r.body) w:=by
 simp only[resolve,hx,Deferred.ofValue,Sem.run_bind,Sem.run_pure,Result.andThen_ok,invoke,Array.empty_append]
 exact run_yield h (by simpa using hs)
theorem ze{ρa:Operand→AV}{ρc:Operand→Value}(hρ:∀x,CR w S m (ρa x) (ρc x))(l:Array Operand):bP w S m (l.toList.map ρa) (l.map ρc).toList:=by
 rw[Array.toList_map];exact uJ hρ l.toList
theorem EK(hP:Fits P E Fin w0 I0)(ih:∀c,Tr.Ok Q (Good P E w0 I0 f0 Fin Q) (run aj E n c)→Good P E w0 I0 f0 Fin Q c)
  {all:Array Oper} {i:Nat} {l:List Nat} {kc:List Item} {o:Oper} {ρ:Operand→AV} {fn:FuncId} {below:bA} {next:AV→Mem→Tr R}
  (hW:WR w0 w S m) (hI:∀b,S.I b→I0 b∨w0.heap.size≤b) (hfs:wZ w S m fs frs) (hB:tN f0 (below::fs)) (hm:fr.mode=.run)
  (ht:fr.todo=.inRegion all (i::l)::kc) (ho:all[i]? = some o) (hw:Region.wanted o (yielded all fr.tmps)=true)
  (hρ:∀x∈o.op.operands.toList,CR w S m (ρ x) (fr.eval x)) (hbelow:FR w S m below fr)
  (hnext:∀v m' w' S' z,Step w0 w S m w' S' m'→CR w' S' m' v z→Tr.Ok Q (Good P E w0 I0 f0 Fin Q) (next v m')→Ends P f0 Fin Q (fr.finish z) frs cs w')
  (h:Tr.Ok Q (Good P E w0 I0 f0 Fin Q) (match lf aj E ρ m o with
        | some tv=>tv.bind o.pos fun v=>next v m
        | none=>match o.op with
          | .call {callee:=.value x,args,.. }=>match ρ x with
            | .fn g first caps=>match look E.jA g with
              | some s=>(mA aj s m (first++(args.toList.map ρ++caps))).bind o.pos fun p=>next p.1 p.2
              | none=>match look E.nC g with
                | none=>.bad 163 o.pos
                | some G=>match iE g G (first++(args.toList.map ρ++caps)) with
                  | none=>.bad 164 o.pos
                  | some h=>run aj E n {frames:=h::below::fs,mem:=m}
            | .yield l=>match m.at l with
               | .loop r=>match Nat.beq r.params.length (args.toList.map ρ).length&&r.params.all (fun p=>Nat.blt p r.n) with
                 | true=>run aj E n {frames:={fn:=r.fn,n:=r.n,env:=pG r.params (args.toList.map ρ) r.env,todo:=[.code r.assign,.beginRound,.code r.body],marks:=[],da:=some l}::below::fs,mem:=m}
                 | false=>.bad 165 o.pos
               | _=>.bad 166 o.pos
            | _=>.bad 167 o.pos
          | _=>(og aj E fn ρ m o).bind o.pos fun p=>next p.1 p.2)):Ends P f0 Fin Q fr frs cs w:=by
 classical
 -- operands that are not named mean nothing
 let ρ':Operand→AV:=fun x=>if x∈o.op.operands.toList then ρ x else .undef
 have hρ':∀x,CR w S m (ρ' x) (fr.eval x):=fun x=>by
  by_cases hx:x∈o.op.operands.toList
  ·simp only[ρ',if_pos hx];exact hρ x hx
  ·simp only[ρ',if_neg hx];exact ed
 have hsame:∀x∈o.op.operands.toList,ρ x=ρ' x:=fun x hx=>by simp only[ρ',if_pos hx]
 rw[tq hsame,Ca hsame] at h
 cases hev:lf aj E ρ' m o with
 | some tv=>
   rw[hev] at h
   simp only at h
   obtain⟨v,hv,h⟩:=TV.bind_ok h
   obtain⟨z,hz,hc⟩:=tT hP.ti hW hρ' hev hv
   have hd:∀c,o.op≠.defer c:=fun c e=>by simp[lf,e] at hev
   exact .step (ED hm ht ho hw hd hz) (hnext v m w S z (.refl hW) hc h)
 | none=>
   rw[hev] at h
   simp only at h
   have other:Tr.Ok Q (Good P E w0 I0 f0 Fin Q) ((og aj E fn ρ' m o).bind o.pos fun p=>next p.1 p.2)→Ends P f0 Fin Q fr frs cs w:=by
    intro h
    obtain⟨⟨v,m'⟩,hv,h⟩:=TV.bind_ok h
    obtain⟨nx,z,w',S',hrun,hnx,hs,hc⟩:=BX hP.ti hW hρ' hv
    have hd:∀c,o.op≠.defer c:=fun c e=>by simp[og,e,TV.Is] at hv
    rcases hnx with rfl|⟨rfl,rfl⟩
    ·exact .step (ED hm ht ho hw hd hrun) (hnext v m' w' S' z hs hc h)
    ·exact .step (Ti hm ht ho hw hd hrun) (hnext _ m' w' S' undef hs ed h)
   split at h
   ·rename_i x args ats hop
    have hd:∀c,o.op≠.defer c:=fun c e=>by rw[hop] at e;cases e
    have hx:CR w S m (ρ x) (fr.eval x):=hρ x (by rw[hop];simp[Op.operands,Call.operands])
    have hargs:bP w S m (args.toList.map ρ) (args.map fr.eval).toList:=by
     have e:args.toList.map ρ=args.toList.map ρ':=lL fun y hy=>hsame y (by rw[hop];simp only[Op.operands,Call.operands];simp at hy ⊢;exact .inr hy)
     rw[e];exact ze hρ' args
    have hexec:∀nx,(do let d ←resolve fr.eval {callee:=.value x,args:=args,argTypes:=ats} o.type;invoke d.target d.args:Sem Next).run P w=.ok nx w→(execOp fr.eval o).run P w=.ok nx w:=fun nx he=>by
     simp only[execOp,hop];exact he
    cases hv:ρ x<;>rw[hv] at h hx<;>(try simp only at h)<;>try exact h.elim
    ·rename_i g first caps
     obtain⟨us,vs,hxe,hus,hvs⟩:=nF.1 hx
     have hall:bP w S m (first++(args.toList.map ρ++caps)) (us++args.map fr.eval++vs).toList:=by
      rw[Array.append_assoc,Array.toList_append,Array.toList_append]
      exact hus.append (hargs.append hvs)
     cases hsp:look E.jA g with
     | some s=>
       rw[hsp] at h
       simp only at h
       obtain⟨⟨v,m'⟩,hv,h⟩:=TV.bind_ok h
       obtain⟨F,hF,hb,hn⟩:=(hP.jA g s hsp).body
       obtain⟨w',S',z,fr',hs,hc,hsteps,hleave⟩:=qB (hP.jA g s hsp) hW hall hv (fr::(frs++cs))
       have hstep:=Ed (cs:=frs++cs) hm ht ho hw hd (hexec _ (jl hxe hF hn hb w))
       exact .steps ((Steps.head hstep hsteps).trans (.one (step_leave_returned hleave))) (hnext v m' w' S' z hs hc h)
     | none=>
       rw[hsp] at h
       simp only at h
       cases hG:look E.nC g with
       | none=>rw[hG] at h;exact h.elim
       | some G=>
         rw[hG] at h
         simp only at h
         cases hen:iE g G (first++(args.toList.map ρ++caps)) with
         | none=>rw[hen] at h;exact h.elim
         | some h'=>
           rw[hen] at h
           simp only at h
           obtain⟨hGf,hGn⟩:=hP.nC _ _ hG
           obtain⟨hfr,hbody,hnh'⟩:=mE hGf hen hall
           have hstep:=Ed (cs:=frs++cs) hm ht ho hw hd (hexec _ (jl hxe hGf hGn hbody w))
           exact .step (frs2:=fr::frs) hstep (ih _ h (ft hnh') S _ _ cs w hW hI ⟨_,_,rfl,hfr,_,_,rfl,hbelow,hfs⟩ hB)
    ·rename_i lp
     cases hml:m.at lp<;>rw[hml] at h<;>(try simp only at h)<;>try exact h.elim
     rename_i r
     have hxe:fr.eval x=.func (.yield (S.σ lp)) #[] #[]:=by
      rw[CR,hml] at hx;exact hx
     cases hok:Nat.beq r.params.length (args.toList.map ρ).length&&r.params.all (fun p=>Nat.blt p r.n) with
     | false=>rw[hok] at h;exact h.elim
     | true=>
       rw[hok] at h
       simp only at h
       rw[Bool.and_eq_true] at hok
       obtain⟨hlen,hlt⟩:=hok
       have hlen:=Nat.eq_of_beq_eq_true hlen
       have hlt:∀p∈r.params,p<r.n:=fun p hp=>by
        have:=List.all_eq_true.1 hlt p hp
        exact Nat.le_of_ble_eq_true this
       have hb:=hW.box lp
       rw[hml] at hb
       obtain⟨L,g1,g2,g3,g4,g5,g6,g7,⟨g8,g9⟩,g10⟩:=hb
       have hsz:args.size=L.params.size:=by
        have h1:L.params.size=r.params.length:=by rw[g5,List.size_toArray]
        rw[List.length_map,Array.length_toList] at hlen
        omega
       have hstep:=P7 (P:=P) (cs:=frs++cs) hm ht ho hw hd (hexec _ (yn hxe g1 hsz))
       have hput:=zo hargs hlen hlt g8 g9 g10
       rw[xt,g4,g5,g6,g7] at hstep
       refine .step (frs2:=fr::frs) hstep (ih _ h (ft fun a ha=>by cases ha;rfl) S _ _ cs w hW hI ⟨_,_,rfl,?_,_,_,rfl,hbelow,hfs⟩ hB)
       refine⟨rfl,hput.1,g9,fun y _=>hput.2 y,ck.code (.mk (a:=.beginRound) rfl (ck.code rfl)),?_,fun a ha=>?_,rfl,fun d hd=>absurd hd List.not_mem_nil,rfl,rfl,rfl,fun q hq=>by cases hq;rw[hml];rfl⟩
       ·exact .mk trivial (.mk trivial (.mk trivial fun a ha=>absurd ha List.not_mem_nil))
       ·simp only[List.tail_cons,List.mem_cons,List.not_mem_nil,or_false] at ha
        rcases ha with rfl|rfl<;>rfl
   ·exact other h
end
end Go.Ev
namespace Go.Ev
section
variable {P:Program} {R:Type} {E:gp R} {w0:World} {I0:Nat→Prop} {f0:FuncId} {Fin:R→Value→World→Prop} {Q:R→Prop}
variable {w:World} {S:St} {m:Mem} {fr:Frame} {fs:List bA} {frs cs:List Frame}
variable {fn:FuncId} {nn:Nat} {env:Env} {marks:List Nat} {da:Option Nat} {k:List bJ} {n:Nat}
def uO(env env':Env)(D:List Nat):Prop:=∀x,env'.at x=env.at x∨(x∈D∧∃v,env.at x=.bool false v∧env'.at x=.bool true v)
theorem uO.CR{env':Env}{D:List Nat}(h:uO env env' D){x:Nat}{v:Value}(hc:CR w S m (env.at x) v):CR w S m (env'.at x) v:=by
 rcases h x with e|⟨_,b,e1,e2⟩
 ·rw[e];exact hc
 ·rw[e1] at hc;rw[e2];exact dn.2 (dn.1 hc)
theorem FR.IL{env':Env}{D:List Nat}{todo:List bJ}(h:uO env env' D)(hf:FR w S m ⟨fn,nn,env,todo,marks,da⟩ fr):FR w S m ⟨fn,nn,env',todo,marks,da⟩ fr:=
 ⟨hf.fn,hf.n,hf.small,fun i hi=>h.CR (hf.env i hi),hf.todo,hf.live,hf.flat,hf.defers,hf.marks,hf.mode,hf.kind,hf.da,hf.lJ⟩
theorem Jj{todo:List bJ}(hf:FR w S m ⟨fn,nn,env,todo,marks,da⟩ fr){d:Nat}{c v:Bool}(hnh:¬Hid ⟨fn,nn,env,todo,marks,da⟩ fr d)(h:env.at d=.bool c v):d<nn:=by
 have hc:=hf.env d hnh
 rw[show(bA.env ⟨fn,nn,env,todo,marks,da⟩).at d=.bool c v from h] at hc
 have hc:=dn.1 hc
 rcases Nat.lt_or_ge d nn with h'|h'
 ·exact h'
 ·rw[Array.getD_eq_getD_getElem?,Array.getElem?_eq_none (by rw[hf.n];exact h')] at hc;cases hc
theorem NQ(hP:Fits P E Fin w0 I0)(ih:∀c,Tr.Ok Q (Good P E w0 I0 f0 Fin Q) (run aj E n c)→Good P E w0 I0 f0 Fin Q c){all:Array Oper}{o:Oper}{rest:List Oper}
  (h:Tr.Ok Q (Good P E w0 I0 f0 Fin Q) (run aj E (n+1) {frames:=⟨fn,nn,env,.ops all (o::rest)::k,marks,da⟩::fs,mem:=m}))
  (hW:WR w0 w S m) (hI:∀b,S.I b→I0 b∨w0.heap.size≤b) (hf:FR w S m ⟨fn,nn,env,.ops all (o::rest)::k,marks,da⟩ fr) (hfs:wZ w S m fs frs) (hB:tN f0 (⟨fn,nn,env,.ops all (o::rest)::k,marks,da⟩::fs)) :
  Ends P f0 Fin Q fr frs cs w:=by
 have hnh:∀{env:Env} y,¬Hid ⟨fn,nn,env,.ops all (o::rest)::k,marks,da⟩ fr y:=fun y=>ik fun a ha=>by cases ha;rfl
 obtain⟨it,kc,ht,h1,h2⟩:=hf.todo.cons_inv
 obtain⟨l,rfl,hl⟩:∃l:List Nat,it=.inRegion all l∧l.map (fun i=>all[i]?)=(o::rest).map some:=h1
 cases l with
 | nil=>cases hl
 | cons i l=>
   simp only[List.map_cons,List.cons.injEq] at hl
   simp only[run] at h
   cases hd:iU nn o.dst with
   | false=>rw[hd] at h;exact h.elim
   | true=>
     rw[hd] at h
     simp only at h
     obtain⟨env',hre,h⟩:=wP h fun d _ c v e=>by have:=Jj hf (hnh d) e;have:nn≤65535:=hf.small;omega
     have hf':=hf.IL (D:=dQ all o) hre
     have hw:∀{t:Bool},ek all env' o t→Region.wanted o (yielded all fr.tmps)=t:=fun hg=>kC hg fun d _=>hf'.env d (hnh d)
     have goes:∀{v:AV} {m':Mem} {w':World} {S':St} {z:Value},Step w0 w S m w' S' m'→CR w' S' m' v z→
       Tr.Ok Q (Good P E w0 I0 f0 Fin Q) (run aj E n {frames:=⟨fn,nn,env'.gV o.dst v,.ops all rest::k,marks,da⟩::fs,mem:=m'})→Ends P f0 Fin Q (fr.finish z) frs cs w':=fun hs hc h=>
      ih _ h (ft fun a ha=>by cases ha;rfl) _ _ _ cs _ hs.wr (fun b hb=>(hs.grows b hb).elim (hI b) .inr) ⟨_,_,rfl,wJ (hf'.mono hs.out) hd hc,hfs.mono hs.out⟩ (hB.swap rfl)
     rcases h with ⟨hg,h⟩|⟨hg,h⟩
     ·exact EK (fn:=fn) (ρ:=gL env') (below:=⟨fn,nn,env',.ops all (o::rest)::k,marks,da⟩) (next:=fun v m=>run aj E n {frames:=⟨fn,nn,env'.gV o.dst v,.ops all rest::k,marks,da⟩::fs,mem:=m})
       hP ih hW hI hfs (hB.swap rfl) hf.mode ht hl.1 (hw hg) (fun x _=>qA hf' x fun t _=>hnh t) hf' (fun v m' w' S' z hs hc h=>goes hs hc h) h
     ·exact .step (zZ hf.mode ht hl.1 (hw hg)) (goes (.refl hW) (i6.2 ⟨#[],rfl,bX.2 rfl⟩) h)
end
end Go.Ev
namespace Go.Ev
theorem zW(e:Edge):Region.binds .any e=ku e:=by
 obtain⟨on,g⟩:=e
 cases g<;>rfl
theorem nG:∀{os:List Oper} {k i:Nat} {o:Oper},iR k os=true→os[i]? = some o→∀e∈o.after.toList,ku e=true→e.on<k+i
 | [],k,i,o,_,h=>by simp at h
 | p::os,k,i,o,he,h=>by
   rw[iR,Bool.and_eq_true] at he
   cases i with
   | zero=>
     cases h
     intro e hm hb
     have:=List.all_eq_true.1 he.1 e hm
     rw[hb] at this
     simp at this
     omega
   | succ i=>
     intro e hm hb
     have:=nG he.2 (by simpa using h) e hm hb
     omega
theorem lh{all:Array Oper}{i j:Nat}:j∈ij all i↔∃o e,all[i]? = some o∧e∈o.after.toList∧ku e=true∧e.on=j:=by
 unfold ij
 cases h:all[i]? with
 | none=>simp
 | some o=>simp[and_assoc]
theorem pred_lt{all:Array Oper}(h:iR 0 all.toList=true){i j:Nat}(hj:j∈ij all i):j<i:=by
 obtain⟨o,e,h1,h2,h3,rfl⟩:=lh.1 hj
 have:=nG h (by rw[Array.getElem?_toList];exact h1) e h2 h3
 omega
structure QI(all:Array Oper)(acc:List Nat):Prop where
 nodup:acc.Nodup
 lt:∀i∈acc,i<all.size
 OV:∀i∈acc,∀j∈ij all i,j∈acc
 pw:acc.Pairwise fun i j=>i ∉ ij all j
theorem QI.lin{all:Array Oper}{acc:List Nat}(h:QI all acc)(he:iR 0 all.toList=true)(hc:∀i,i<all.size→i∈acc):LY all acc.reverse∧∀i,i<all.size→i∈acc.reverse:=
 ⟨⟨List.pairwise_reverse.2 (h.nodup.imp Ne.symm),fun i hi=>h.lt i (List.mem_reverse.1 hi),List.pairwise_reverse.2 h.pw,fun i _ hp=>Nat.lt_irrefl _ (pred_lt he hp),
  fun k hk hn=>absurd (List.mem_reverse.2 (hc k hk)) hn⟩,fun i hi=>List.mem_reverse.2 (hc i hi)⟩
theorem zC{all:Array Oper}{listed:Array Bool}{acc:List Nat}(hl:listed.size=all.size)(hm:∀i,i<all.size→(listed.getD i false=true↔i∈acc))(hlt:∀i∈acc,i<all.size){i:Nat}(hi:i<all.size) :
  (!listed.getD i true&&((all[i]?).map (·.after.all fun e=>!Region.binds .any e||listed.getD e.on false)).getD false)=true↔i ∉ acc∧∀j∈ij all i,j∈acc:=by
 have h1:listed.getD i true=listed.getD i false:=by
  simp only[Array.getD_eq_getD_getElem?,Array.getElem?_eq_getElem (by omega:i<listed.size),Option.getD_some]
 have h2:∀j,listed.getD j false=true↔j∈acc:=fun j=>by
  by_cases hj:j<all.size
  ·exact hm j hj
  ·rw[Array.getD_eq_getD_getElem?,Array.getElem?_eq_none (by omega)]
   exact⟨fun h=>(by cases h),fun h=>absurd (hlt j h) hj⟩
 rw[h1,Bool.and_eq_true,Bool.not_eq_true',Array.getElem?_eq_getElem hi]
 simp only[Option.map_some,Option.getD_some,Array.all_eq_true',Bool.or_eq_true,Bool.not_eq_true']
 constructor
 ·rintro ⟨h3,h4⟩
  refine⟨fun h=>(by rw[(h2 i).2 h] at h3;cases h3),fun j hj=>?_⟩
  obtain⟨o,e,e1,e2,e3,rfl⟩:=lh.1 hj
  rw[Array.getElem?_eq_getElem hi] at e1
  cases e1
  rcases h4 e (by simpa using e2) with h5|h5
  ·rw[zW,e3] at h5;cases h5
  ·exact(h2 _).1 h5
 ·rintro ⟨h3,h4⟩
  refine⟨?_,fun e he=>?_⟩
  ·cases h:listed.getD i false with
   | false=>rfl
   | true=>exact absurd ((h2 i).1 h) h3
  ·cases hb:Region.binds .any e with
   | false=>exact .inl rfl
   | true=>exact .inr ((h2 _).2 (h4 _ (lh.2 ⟨_,e,Array.getElem?_eq_getElem hi,by simpa using he,by rw[←zW];exact hb,rfl⟩)))
theorem qj{all:Array Oper}(he:iR 0 all.toList=true):∀(fuel t:Nat) (listed:Array Bool) (acc:List Nat),listed.size=all.size→(∀i,i<all.size→(listed.getD i false=true↔i∈acc))→QI all acc→
  ((List.range all.size).filter fun i=>decide (i ∉ acc)).length≤fuel→LY all (Region.linearise.go .any all fuel t listed acc)∧∀i,i<all.size→i∈Region.linearise.go .any all fuel t listed acc
 | 0,t,listed,acc,hl,hm,hP,hf=>by
   rw[Region.linearise.go]
   refine hP.lin he fun i hi=>?_
   have:(List.range all.size).filter (fun i=>decide (i ∉ acc))=[]:=List.length_eq_zero_iff.1 (by omega)
   have:=List.filter_eq_nil_iff.1 this i (List.mem_range.2 hi)
   simpa using this
 | fuel+1,t,listed,acc,hl,hm,hP,hf=>by
   rw[Region.linearise.go]
   split
   ·rename_i i hi
    have hmem:=List.mem_of_getElem? hi
    obtain⟨h1,h2⟩:=List.mem_filter.1 hmem
    have hin:=List.mem_range.1 h1
    obtain⟨h3,h4⟩:=(zC hl hm hP.lt hin).1 h2
    refine qj he fuel _ _ _ (by simp[hl]) (fun j hj=>?_) ⟨List.nodup_cons.2 ⟨h3,hP.nodup⟩,fun j hj=>?_,fun j hj k hk=>?_,List.pairwise_cons.2 ⟨fun j hj hp=>h3 (hP.OV j hj i hp),hP.pw⟩⟩ ?_
    ·simp only[Array.getD_eq_getD_getElem?,Array.getElem?_setIfInBounds]
     by_cases hji:i=j
     ·subst hji;simp[hl,hin]
     ·rw[if_neg hji,←Array.getD_eq_getD_getElem?,hm j hj,List.mem_cons]
      exact⟨.inr,fun h=>h.elim (fun e=>absurd e.symm hji) id⟩
    ·rcases List.mem_cons.1 hj with rfl|hj
     ·exact hin
     ·exact hP.lt j hj
    ·rcases List.mem_cons.1 hj with rfl|hj
     ·exact List.mem_cons_of_mem _ (h4 k hk)
     ·exact List.mem_cons_of_mem _ (hP.OV j hj k hk)
    ·have e:(List.range all.size).filter (fun j=>decide (j ∉ i::acc))=((List.range all.size).filter fun j=>decide (j ∉ acc)).filter fun j=>decide (j≠i):=by
      rw[List.filter_filter]
      refine List.filter_congr fun j _=>?_
      simp[List.mem_cons,not_or]
     rw[e]
     have:(((List.range all.size).filter fun j=>decide (j ∉ acc)).filter fun j=>decide (j≠i)).length<((List.range all.size).filter fun j=>decide (j ∉ acc)).length:=
      List.length_filter_lt_length_iff_exists.2 ⟨i,List.mem_filter.2 ⟨h1,by simpa using h3⟩,by simp⟩
     omega
   ·rename_i hn
    refine hP.lin he fun i hi=>?_
    -- the least that is not listed could go
    have key:∀i,i<all.size→i∈acc:=fun i=>by
     induction i using Nat.strongRecOn with
     | ind i ihi=>
       intro hi
       by_cases hia:i∈acc
       ·exact hia
       ·have hr:=(zC hl hm hP.lt hi).2 ⟨hia,fun j hj=>ihi j (pred_lt he hj) (by have:=pred_lt he hj;omega)⟩
        have hmem:=List.mem_filter (p:=fun i=>!listed.getD i true&&((all[i]?).map (·.after.all fun e=>!Region.binds .any e||listed.getD e.on false)).getD false) |>.2 ⟨List.mem_range.2 hi,hr⟩
        have hpos:=List.length_pos_of_mem hmem
        exact absurd (List.getElem?_eq_none_iff.1 hn) (by have:=Nat.mod_lt t hpos;omega)
    exact key i hi
theorem Bv{all:Array Oper}(he:iR 0 all.toList=true)(t:Nat):LY all (Region.schedule true all t)∧∀i,i<all.size→i∈Region.schedule true all t:=by
 unfold Region.schedule
 rw[Bool.true_or,if_pos rfl]
 unfold Region.linearise
 refine qj he _ _ _ _ (by simp) (fun i hi=>?_) ⟨List.nodup_nil,fun _ h=>absurd h List.not_mem_nil,fun _ h=>absurd h List.not_mem_nil,.nil⟩ ?_
 ·simp[Array.getD_eq_getD_getElem?,hi]
 ·have:=List.length_filter_le (fun i=>decide (i ∉ ([]:List Nat))) (List.range all.size)
  rw[List.length_range] at this
  exact this
theorem pL{ms:List Nat}{b:Nat}:∀{es:List Edge},(gU ms es).testBit b=true→∃e∈es,ku e=true∧(b=e.on∨(ms.getD e.on 0).testBit b=true)
 | [],h=>by simp[gU] at h
 | e::es,h=>by
   simp only[gU] at h
   cases hb:ku e with
   | false=>
     rw[hb] at h
     obtain⟨e',h1,h2⟩:=pL h
     exact⟨e',List.mem_cons_of_mem _ h1,h2⟩
   | true=>
     rw[hb] at h
     simp only[Nat.testBit_or,Bool.or_eq_true] at h
     rcases h with (h|h)|h
     ·exact⟨e,List.mem_cons_self,hb,.inl (by
       rw[Nat.testBit_two_pow] at h
       simpa [eq_comm] using h)⟩
     ·exact⟨e,List.mem_cons_self,hb,.inr h⟩
     ·obtain⟨e',h1,h2⟩:=pL h
      exact⟨e',List.mem_cons_of_mem _ h1,h2⟩
theorem nJ:∀{os:List Oper} {ms:List Nat} {j:Nat},j<ms.length→(gF os ms).getD j 0=ms.getD j 0
 | [],ms,j,_=>by rw[gF]
 | o::os,ms,j,h=>by
   rw[gF,nJ (by simp;omega)]
   rw[List.getD_eq_getElem?_getD,List.getD_eq_getElem?_getD,List.getElem?_append_left h]
theorem sW:∀{os:List Oper} {ms:List Nat} {i:Nat} {o:Oper},os[i]? = some o→(∀e∈o.after.toList,ku e=true→e.on<ms.length+i)→(gF os ms).getD (ms.length+i) 0=gU (gF os ms) o.after.toList
 | [],ms,i,o,h,_=>by simp at h
 | p::os,ms,i,o,h,he=>by
   rw[gF]
   have hlen:(ms ++ [gU ms p.after.toList]).length=ms.length+1:=by simp
   cases i with
   | zero=>
     cases h
     rw[Nat.add_zero,nJ (by omega)]
     have:(ms ++ [gU ms p.after.toList]).getD ms.length 0=gU ms p.after.toList:=by
      rw[List.getD_eq_getElem?_getD,List.getElem?_append_right (Nat.le_refl _),Nat.sub_self];rfl
     rw[this]
     have hpre:∀j,j<ms.length→(gF os (ms ++ [gU ms p.after.toList])).getD j 0=ms.getD j 0:=fun j hj=>by
      rw[nJ (by omega),List.getD_eq_getElem?_getD,List.getD_eq_getElem?_getD,List.getElem?_append_left hj]
     have key:∀es:List Edge,(∀e∈es,ku e=true→e.on<ms.length)→gU ms es=gU (gF os (ms ++ [gU ms p.after.toList])) es:=fun es=>by
      induction es with
      | nil=>intro _;rfl
      | cons e es ih=>
        intro hh
        simp only[gU]
        rw[ih fun e' h'=>hh e' (List.mem_cons_of_mem _ h')]
        cases hb:ku e with
        | false=>rfl
        | true=>simp only;rw[hpre _ (hh e List.mem_cons_self hb)]
     exact key _ he
   | succ i=>
     have:=sW (os:=os) (ms:=ms ++ [gU ms p.after.toList]) (i:=i) (o:=o) (by simpa using h) (fun e hm hb=>by have:=he e hm hb;omega)
     rw[hlen] at this
     rw[←this]
     congr 1
     omega
theorem G2{all:Array Oper}{l:List Nat}(he:iR 0 all.toList=true)(hL:LY all l):∀{i b:Nat},i<all.size→(∀j∈ij all i,j ∉ l)→((gF all.toList []).getD i 0).testBit b=true→b ∉ l:=by
 intro i
 induction i using Nat.strongRecOn with
 | ind i ihi=>
   intro b hi hp hb
   obtain⟨o,ho⟩:∃o,all[i]? = some o:=⟨_,Array.getElem?_eq_getElem hi⟩
   have ho':all.toList[i]? = some o:=by rw[Array.getElem?_toList];exact ho
   have hedge:=nG he ho'
   have:=sW (ms:=[]) ho' (fun e hm h=>by have:=hedge e hm h;simpa using this)
   rw[List.length_nil,Nat.zero_add] at this
   rw[this] at hb
   obtain⟨e,h1,h2,h3⟩:=pL hb
   have hj:e.on∈ij all i:=lh.2 ⟨o,e,ho,h1,h2,rfl⟩
   have hlt:=pred_lt he hj
   rcases h3 with rfl|h3
   ·exact hp _ hj
   ·exact ihi e.on hlt (by omega) (hL.closed e.on (by omega) (hp _ hj)) h3
theorem LY.GR{all:Array Oper}{i:Nat}{l:List Nat}(h:LY all (i::l)):∀j∈ij all i,j ∉ i::l:=fun j hj hm=>by
 rcases List.mem_cons.1 hm with rfl|hm
 ·exact h.self j List.mem_cons_self hj
 ·exact(List.pairwise_cons.1 h.pw).1 j hm hj
theorem eD.done{n:Nat}{all:Array Oper}{ms rest bs l:List Nat}{i b:Nat}(h:eD n all ms rest bs (i::l))(hb:(ms.getD i 0).testBit b=true):b ∉ i::l:=by
 rw[h.Yl] at hb
 exact G2 h.Cm h.lin (h.lin.lt i List.mem_cons_self) h.lin.GR hb
end Go.Ev
namespace Go.Ev
section
variable {P:Program} {R:Type} {E:gp R} {w0:World} {I0:Nat→Prop} {f0:FuncId} {Fin:R→Value→World→Prop} {Q:R→Prop}
variable {w:World} {S:St} {m:Mem} {fr:Frame} {fs:List bA} {frs cs:List Frame}
variable {fn:FuncId} {nn:Nat} {env:Env} {marks:List Nat} {da:Option Nat} {k:List bJ} {n:Nat}
theorem Hg{a b:AV}{z:Value}(h:iL a b)(hc:CR w S m a z):CR w S m b z:=by
 unfold iL at h
 split at h
 ·subst h;exact dn.2 (dn.1 hc)
 ·obtain⟨rfl,rfl⟩:=h;exact bQ.2 (bQ.1 hc)
 ·subst h;exact hc
theorem An{A:bi}{s:aD}{aa:List AV}{v:AV}{m':Mem}(hp:j4 (aa.flatMap AV.cells)=true)(h:(mA A s m aa).Is (v,m')):m'=m:=by
 unfold mA at h
 cases hok:jd s.args aa with
 | false=>rw[hok] at h;exact h.elim
 | true=>
   rw[hok,vU hp] at h
   simp only at h
   cases htd:sH s.args (aa.flatMap AV.cells) with
   | none=>rw[htd] at h;exact h.elim
   | some q=>
     obtain⟨x,r⟩:=q
     rw[htd] at h
     cases r with
     | cons _ _=>exact h.elim
     | nil=>obtain⟨_,h⟩:=h;cases h;rfl
theorem ME(hP:Fits P E Fin w0 I0){all:Array Oper}{i:Nat}{l:List Nat}{kc:List Item}{o:Oper}{ρ:Operand→AV}{tv:TV AV}{v:AV}(hW:WR w0 w S m)(hm:fr.mode=.run)
  (ht:fr.todo=.inRegion all (i::l)::kc) (ho:all[i]? = some o) (hw:Region.wanted o (yielded all fr.tmps)=true) (hρ:∀x∈o.op.operands.toList,CR w S m (ρ x) (fr.eval x))
  (h:LX aj E m ρ o=some tv) (hv:tv.Is v) (cs:List Frame):∃w' S' z,Step w0 w S m w' S' m∧CR w' S' m v z∧Steps P (lone fr cs w) (lone (fr.finish z) cs w'):=by
 classical
 let ρ':Operand→AV:=fun x=>if x∈o.op.operands.toList then ρ x else .undef
 have hρ':∀x,CR w S m (ρ' x) (fr.eval x):=fun x=>by
  by_cases hx:x∈o.op.operands.toList
  ·simp only[ρ',if_pos hx];exact hρ x hx
  ·simp only[ρ',if_neg hx];exact ed
 have hsame:∀x∈o.op.operands.toList,ρ x=ρ' x:=fun x hx=>by simp only[ρ',if_pos hx]
 rw[sG hsame] at h
 unfold LX at h
 cases hev:lf aj E ρ' m o with
 | some tv'=>
   rw[hev] at h
   cases h
   obtain⟨z,hz,hc⟩:=tT hP.ti hW hρ' hev hv
   have hd:∀c,o.op≠.defer c:=fun c e=>by simp[lf,e] at hev
   exact⟨w,S,z,.refl hW,hc,.one (ED hm ht ho hw hd hz)⟩
 | none=>
   rw[hev] at h
   simp only at h
   unfold qV at h
   cases hop:o.op<;>rw[hop] at h<;>(try simp only at h)<;>try (cases h;done)
   rename_i c
   obtain⟨callee,args,ats⟩:=c
   cases callee<;>simp only at h<;>try (cases h;done)
   rename_i x
   have hd:∀c,o.op≠.defer c:=fun c e=>by rw[hop] at e;cases e
   have hx:=hρ' x
   have hargs:bP w S m (args.toList.map ρ') (args.map fr.eval).toList:=ze hρ' args
   have hexec:∀nx,(do let d ←resolve fr.eval {callee:=.value x,args:=args,argTypes:=ats} o.type;invoke d.target d.args:Sem Next).run P w=.ok nx w→(execOp fr.eval o).run P w=.ok nx w:=fun nx he=>by
    simp only[execOp,hop];exact he
   cases hvx:ρ' x<;>rw[hvx] at h hx<;>(try simp only at h)<;>try (cases h;done)
   rename_i g first caps
   obtain⟨us,vs,hxe,hus,hvs⟩:=nF.1 hx
   have hall:bP w S m (first++(args.toList.map ρ'++caps)) (us++args.map fr.eval++vs).toList:=by
    rw[Array.append_assoc,Array.toList_append,Array.toList_append]
    exact hus.append (hargs.append hvs)
   cases hsp:look E.jA g with
   | none=>rw[hsp] at h;cases h
   | some s=>
     rw[hsp] at h
     simp only at h
     cases hpl:j4 ((first++(args.toList.map ρ'++caps)).flatMap AV.cells) with
     | false=>rw[hpl] at h;cases h
     | true=>
       rw[hpl] at h
       cases h
       obtain⟨⟨v',m'⟩,hv1,rfl⟩:=TV.wv hv
       obtain rfl:=An hpl hv1
       obtain⟨F,hF,hb,hn⟩:=(hP.jA g s hsp).body
       obtain⟨w',S',z,fr',hs,hc,hsteps,hleave⟩:=qB (hP.jA g s hsp) hW hall hv1 (fr::cs)
       have hstep:=Ed (cs:=cs) hm ht ho hw hd (hexec _ (jl hxe hF hn hb w))
       exact⟨w',S',z,hs,hc,(Steps.head hstep hsteps).trans (.one (step_leave_returned hleave))⟩
theorem pX{t:Nat}:∀{l:List Operand},Operand.tmp t∈l→t∈tmpsOf l
 | x::l,h=>by
   rcases List.mem_cons.1 h with rfl|h'
   ·exact List.mem_cons_self
   ·cases x<;>simp only[tmpsOf]
    ·exact List.mem_cons_of_mem _ (pX h')
    all_goals exact pX h'
theorem l9{all:Array Oper}{o:Oper}{t:Nat}(h:Operand.tmp t∈o.op.operands.toList):t∈readsOf all o:=List.mem_append.2 (.inl (pX h))
theorem iy{all:Array Oper}{o:Oper}{t:Nat}(h:t∈dQ all o):t∈readsOf all o:=List.mem_append.2 (.inr h)
theorem ql{all:Array Oper}{ms rest bs l:List Nat}{i:Nat}{kc:List Item}{o:Oper}{f:bA}(hD:eD nn all ms rest bs (i::l))(hf:f.todo.head?.bind bJ.drawn=some (all,bs))(ht:fr.todo=.inRegion all (i::l)::kc)
  (hro:∀b∈bs,i≠b→∀p d,all[b]? = some p→p.dst=some d→d∈readsOf all o→(ms.getD i 0).testBit b=true) (hown:i∈bs→∀d,∀p,all[i]? = some p→p.dst=some d→d ∉ readsOf all o) {t:Nat} (hr:t∈readsOf all o):¬Hid f fr t:=by
 rintro ⟨all',bs',l',k',b,p,e1,e2,e3,e4,e5,e6⟩
 rw[hf] at e1
 cases e1
 rw[ht] at e2
 cases e2
 by_cases hib:i=b
 ·subst hib;exact hown e3 t p e5 e6 hr
 ·exact hD.done (hro b e3 hib p t e5 e6 hr) e4
theorem eD.drop{all:Array Oper}{ms rest bs l:List Nat}{i:Nat}(h:eD nn all ms rest bs (i::l))(hi:i ∉ rest):eD nn all ms rest bs l:=by
 refine⟨h.Yl,h.Cm,h.lin.tail,h.nodup,fun j hj=>?_,fun j hj=>h.Zo j (List.mem_cons_of_mem _ hj),h.lt,h.read,h.dst,h.own,h.grd,h.TM⟩
 rcases List.mem_cons.1 (h.sub j hj) with rfl|hm
 ·exact absurd hj hi
 ·exact hm
theorem vM(hP:Fits P E Fin w0 I0){all:Array Oper}{ms rest bs:List Nat}(cs:List Frame)(hst:∀b∈bs,xQ E env m all b):∀(l:List Nat) {w:World} {S:St} {fr:Frame} {kc:List Item},WR w0 w S m→FR w S m ⟨fn,nn,env,.e_ all ms rest bs::k,marks,da⟩ fr→
  fr.todo=.inRegion all l::kc→eD nn all ms rest bs l→ck nn S k kc→
  ∃w' S' fr' l' kc',Step w0 w S m w' S' m∧FR w' S' m ⟨fn,nn,env,.e_ all ms rest bs::k,marks,da⟩ fr'∧Steps P (lone fr cs w) (lone fr' cs w')∧fr'.todo=.inRegion all l'::kc'∧eD nn all ms rest bs l'∧ck nn S' k kc'∧(∀i,l'.head? = some i→i∈rest)∧fr'.fn=fr.fn
 | [],w,S,fr,kc,hW,hf,ht,hD,hk=>⟨w,S,fr, [],kc,.refl hW,hf,.refl _ _,ht,hD,hk,fun i h=>(by cases h),rfl⟩
 | i::l,w,S,fr,kc,hW,hf,ht,hD,hk=>by
   by_cases hir:i∈rest
   ·exact⟨w,S,fr,i::l,kc,.refl hW,hf,.refl _ _,ht,hD,hk,fun j h=>(by cases h;exact hir),rfl⟩
   ·have hib:i∈bs:=(hD.Zo i List.mem_cons_self).resolve_left hir
    obtain⟨o,ho,hg⟩:=hst i hib
    have hnh:∀{t:Nat},t∈readsOf all o→¬Hid ⟨fn,nn,env,.e_ all ms rest bs::k,marks,da⟩ fr t:=fun hr=>
     ql hD rfl ht (fun b hb hne p d hp hd hr=>hD.read i hib b hb hne o p d ho hp hd hr) (fun _ d p hp hd=>by rw[ho] at hp;cases hp;exact hD.own i hib o d ho hd) hr
    have hop:∀x∈o.op.operands.toList,CR w S m (gL env x) (fr.eval x):=fun x hx=>qA hf x fun t e=>hnh (by subst e;exact l9 hx)
    have hwant:∀{t:Bool},ek all env o t→Region.wanted o (yielded all fr.tmps)=t:=fun hg=>kC hg fun d hd=>hf.env d (hnh (iy hd))
    have hdok:=hD.TM i hib o ho
    -- one operation,then on
    have main:∀{w1:World} {S1:St} {v:AV} {z:Value},Step w0 w S m w1 S1 m→CR w1 S1 m v z→lW env o.dst v→Steps P (lone fr cs w) (lone (fr.finish z) cs w1)→
      ∃w' S' fr' l' kc',Step w0 w S m w' S' m∧FR w' S' m ⟨fn,nn,env,.e_ all ms rest bs::k,marks,da⟩ fr'∧Steps P (lone fr cs w) (lone fr' cs w')∧fr'.todo=.inRegion all l'::kc'∧eD nn all ms rest bs l'∧ck nn S' k kc'∧(∀i,l'.head? = some i→i∈rest)∧fr'.fn=fr.fn:=by
     intro w1 S1 v z hs hc hsd hsteps
     have hD':=hD.drop hir
     have hf1:=hf.mono hs.out
     have hk1:=ck.mono hs.out hf.live.tail hk
     have hfin:=lF (z:=z) ht ho
     rw[hfin] at hsteps
     have hf2:FR w1 S1 m ⟨fn,nn,env,.e_ all ms rest bs::k,marks,da⟩ {fr with tmps:=yv fr.tmps o.dst z,todo:=.inRegion all l::kc}:=by
      refine⟨hf1.fn,sN.trans hf1.n,hf1.small,fun x hx=>?_,.mk (a:=.e_ all ms rest bs) ⟨l,rfl,hD'⟩ hk1,hf1.live,hf1.flat,hf1.defers,hf1.marks,hf1.mode,hf1.kind,hf1.da,hf1.lJ⟩
      show CR w1 S1 m (env.at x) ((yv fr.tmps o.dst z).getD x undef)
      rw[Cy (by rw[hf.n];exact hdok)]
      by_cases hdx:o.dst=some x
      ·rw[if_pos hdx]
       rw[hdx] at hsd
       exact Hg hsd hc
      ·rw[if_neg hdx]
       refine hf1.env x fun hh=>hx ?_
       obtain⟨all',bs',l',k',b,p,e1,e2,e3,e4,e5,e6⟩:=hh
       cases e1
       rw[ht] at e2
       cases e2
       rcases List.mem_cons.1 e4 with rfl|e4
       ·rw[ho] at e5;cases e5;exact absurd e6 hdx
       ·exact⟨all,bs,l,kc,b,p,rfl,rfl,e3,e4,e5,e6⟩
     obtain⟨w',S',fr',l',kc',g1,g2,g3,g4,g5,g6,g7,g8⟩:=vM hP cs hst l hs.wr hf2 rfl hD' hk1
     exact⟨w',S',fr',l',kc',hs.trans g1,g2,hsteps.trans g3,g4,g5,g6,g7,g8⟩
    rcases hg with ⟨hg,hsd⟩|⟨hg,tv,v,hev,hv,hsd⟩
    ·exact main (.refl hW) (i6.2 ⟨#[],rfl,bX.2 rfl⟩) hsd (.one (zZ hf.mode ht ho (hwant hg)))
    ·obtain⟨w1,S1,z,hs,hc,hsteps⟩:=ME hP hW hf.mode ht ho (hwant hg) hop hev hv cs
     exact main hs hc hsd hsteps
end
end Go.Ev
namespace Go.Ev
theorem jJ:∀{l:List Nat} {n:Nat},u_ l n=true↔n∈l
 | [],n=>by simp[u_]
 | i::l,n=>by
   rw[u_]
   by_cases h:i=n
   ·subst h;rw[cu.2 rfl];simp
   ·rw[cq.2 h,jJ,List.mem_cons]
    exact⟨.inr,fun h'=>h'.elim (fun e=>absurd e.symm h) id⟩
theorem y9:∀{l:List Nat},nodupB l=true→l.Nodup
 | [],_=>List.nodup_nil
 | i::l,h=>by
   rw[nodupB,Bool.and_eq_true,Bool.not_eq_true'] at h
   refine List.nodup_cons.2 ⟨fun hm=>?_,y9 h.2⟩
   rw[jJ.2 hm] at h
   cases h.1
theorem BA{jA:List (FuncId×aD)}{os:Array Oper}{ms is:List Nat}(h:i_ jA os=some (ms,is)) :
  ms=gF os.toList []∧iR 0 os.toList=true∧is.Nodup∧(∀i∈is,i<os.size)∧∀i,i<os.size→i∈is:=by
 unfold i_ at h
 simp only at h
 split at h
 ·rename_i hc
  cases h
  rw[Bool.and_eq_true,Bool.and_eq_true,Bool.and_eq_true] at hc
  obtain⟨h1,h2,h3,h4⟩:=hc
  refine⟨rfl,h1,y9 h2,fun i hi=>Nat.le_of_ble_eq_true (List.all_eq_true.1 h3 i hi),fun i hi=>jJ.1 (List.all_eq_true.1 h4 i (List.mem_range.2 hi))⟩
 ·cases h
theorem tP(v:AV):iL v v:=by cases v<;>simp[iL]
theorem C8{v:AV}{b:Bool}(h:iL v (.bool false b)):iL v (.bool true b):=by
 cases v<;>simp[iL] at h ⊢
 exact h
section
variable {P:Program} {R:Type} {E:gp R} {w0:World} {I0:Nat→Prop} {f0:FuncId} {Fin:R→Value→World→Prop} {Q:R→Prop}
variable {w:World} {S:St} {m:Mem} {fr:Frame} {fs:List bA} {frs cs:List Frame}
variable {fn:FuncId} {nn:Nat} {env:Env} {marks:List Nat} {da:Option Nat} {k:List bJ} {n:Nat}
theorem G4{G:gB→Prop}{all:Array Oper}{bs:List Nat}{o:Oper}{yes no:Env→Tr R}(h:Tr.Ok Q G (D7 all bs env o yes no))(hs:∀d∈dQ all o,∀c v,env.at d=.bool c v→d≤65535) :
  ∃env':Env,uO env env' (dQ all o)∧((∀x,env'.at x=env.at x)∨∀d∈dQ all o,oI all bs d=true)∧((ek all env' o true∧Tr.Ok Q G (yes env'))∨(ek all env' o false∧Tr.Ok Q G (no env'))):=by
 unfold D7 at h
 cases hk:jg all env o with
 | some t=>
   rw[hk] at h
   refine⟨env,fun _=>.inl rfl,.inl fun _=>rfl,?_⟩
   cases t with
   | true=>exact .inl ⟨jm hk,h⟩
   | false=>exact .inr ⟨jm hk,h⟩
 | none=>
   rw[hk] at h
   simp only at h
   split at h
   ·rename_i d hd
    cases hn:oI all bs d with
    | false=>rw[hn] at h;exact h.elim
    | true=>
      rw[hn] at h
      obtain⟨env',h1,h2⟩:=wP h hs
      exact⟨env',h1,.inr fun x hx=>by rw[hd] at hx;rw[List.mem_singleton.1 hx];exact hn,h2⟩
   ·exact h.elim
theorem ek.congr{all:Array Oper}{env':Env}{o:Oper}{t:Bool}(h:ek all env o t)(he:∀x∈dQ all o,env'.at x=env.at x):ek all env' o t:=by
 unfold ek at h ⊢
 unfold dQ at he
 cases hg:o.guard with
 | none=>rw[hg] at h;exact h
 | some q=>
   obtain⟨j,want⟩:=q
   rw[hg] at h he
   simp only at h he ⊢
   obtain⟨p,d,hp,hd,h⟩:=h
   rw[hp] at he
   simp only[hd] at he
   refine⟨p,d,hp,hd,?_⟩
   rw[he d List.mem_cons_self]
   exact h
theorem xa{env':Env}{x:Operand}(h:∀t,x=.tmp t→env'.at t=env.at t):gL env' x=gL env x:=by
 cases x with
 | tmp t=>exact h t rfl
 | const v=>rfl
 | global g=>rfl
 | func f=>rfl
theorem xQ.congr{all:Array Oper}{env':Env}{b:Nat}(h:xQ E env m all b)(he:∀o,all[b]? = some o→(∀x∈readsOf all o,env'.at x=env.at x)∧∀v d,o.dst=some d→iL v (env.at d)→iL v (env'.at d)):xQ E env' m all b:=by
 obtain⟨o,ho,h⟩:=h
 obtain⟨h1,h2⟩:=he o ho
 have hd:∀v,lW env o.dst v→lW env' o.dst v:=fun v hv=>by
  cases hod:o.dst with
  | none=>trivial
  | some d=>rw[hod] at hv;exact h2 v d hod hv
 refine⟨o,ho,?_⟩
 rcases h with ⟨hg,hs⟩|⟨hg,tv,v,hev,hv,hs⟩
 ·exact .inl ⟨hg.congr fun x hx=>h1 x (iy hx),hd _ hs⟩
 ·refine .inr ⟨hg.congr fun x hx=>h1 x (iy hx),tv,v,?_,hv,hd _ hs⟩
  rw[←hev]
  exact sG fun x hx=>xa fun t e=>h1 t (by subst e;exact l9 hx)
theorem vR(hP:Fits P E Fin w0 I0){id:Nat}{os:Array Oper}{ms is:List Nat}(hd:i_ E.jA os=some (ms,is))
  (hg:Good P E w0 I0 f0 Fin Q {frames:=⟨fn,nn,env,.e_ os ms is []::k,marks,da⟩::fs,mem:=m})
  (hW:WR w0 w S m) (hI:∀b,S.I b→I0 b∨w0.heap.size≤b) (hf:FR w S m ⟨fn,nn,env,.code (.region id os true)::k,marks,da⟩ fr) (hfs:wZ w S m fs frs) (hB:tN f0 (⟨fn,nn,env,.code (.region id os true)::k,marks,da⟩::fs)) :
  Ends P f0 Fin Q fr frs cs w:=by
 obtain⟨it,kc,ht,h1,h2⟩:=hf.todo.cons_inv
 have h1:it=.code (.region id os true):=h1
 subst h1
 have hnh:∀y,¬Hid ⟨fn,nn,env,.code (.region id os true)::k,marks,da⟩ fr y:=fun y=>ik fun a ha=>by cases ha;rfl
 obtain⟨g1,g2,g3,g4,g5⟩:=BA hd
 have hstep:=DX (P:=P) (cs:=frs++cs) (w:=w) hf.mode ht
 rw[hP.mixed] at hstep
 obtain⟨hL,hall⟩:=Bv g2 (w.tape w.drawn (.order fr.fn id))
 have hs:=Step.drew hW
 have hf1:=hf.mono hs.out
 refine .step hstep (hg (fun b hb=>absurd hb List.not_mem_nil) S _ _ cs _ hs.wr hI ⟨_,_,rfl,?_,hfs.mono hs.out⟩ (hB.swap rfl))
 refine⟨hf1.fn,hf1.n,hf1.small,fun x _=>hf1.env x (fun hh=>hnh x hh),.mk (a:=.e_ os ms is []) ⟨_,rfl,?_⟩ (ck.mono hs.out hf.live.tail h2),.mk trivial hf1.live.tail,hf1.flat,hf1.defers,hf1.marks,hf1.mode,hf1.kind,hf1.da,hf1.lJ⟩
 exact⟨g1,g2,hL,by rw[List.append_nil];exact g3,fun i hi=>hall i (g4 i hi),fun i hi=>.inl (g5 i (hL.lt i hi)),fun _ h=>absurd h List.not_mem_nil,fun _ h=>absurd h List.not_mem_nil,fun _ h=>absurd h List.not_mem_nil,fun _ h=>absurd h List.not_mem_nil,
  fun _ h=>absurd h List.not_mem_nil,fun _ h=>absurd h List.not_mem_nil⟩
theorem Cf(hP:Fits P E Fin w0 I0)(hcan:∀ks f fs m,(∀a∈f.todo.head?,a.vz=false)→Good P E w0 I0 f0 Fin Q (canon ks {frames:=f::fs,mem:=m})→Good P E w0 I0 f0 Fin Q {frames:=f::fs,mem:=m})
  (ih:∀c,Tr.Ok Q (Good P E w0 I0 f0 Fin Q) (run aj E n c)→Good P E w0 I0 f0 Fin Q c) {id:Nat} {os:Array Oper}
  (h:Tr.Ok Q (Good P E w0 I0 f0 Fin Q) (run aj E (n+1) {frames:=⟨fn,nn,env,.code (.region id os true)::k,marks,da⟩::fs,mem:=m}))
  (hst:kP E {frames:=⟨fn,nn,env,.code (.region id os true)::k,marks,da⟩::fs,mem:=m})
  (hW:WR w0 w S m) (hI:∀b,S.I b→I0 b∨w0.heap.size≤b) (hf:FR w S m ⟨fn,nn,env,.code (.region id os true)::k,marks,da⟩ fr) (hfs:wZ w S m fs frs) (hB:tN f0 (⟨fn,nn,env,.code (.region id os true)::k,marks,da⟩::fs)) :
  Ends P f0 Fin Q fr frs cs w:=by
 simp only[run] at h
 cases hcut:rK E.p8 fn (some id) with
 | some ks=>rw[hcut] at h;exact hcan ks _ _ _ (fun a ha=>by cases ha;rfl) h hst S fr frs cs w hW hI ⟨fr,frs,rfl,hf,hfs⟩ hB
 | none=>
   rw[hcut] at h
   simp only at h
   cases hd:i_ E.jA os with
   | none=>rw[hd] at h;exact h.elim
   | some q=>
     obtain⟨ms,is⟩:=q
     rw[hd] at h
     simp only at h
     exact vR hP hd (ih _ h) hW hI hf hfs hB
theorem Gf(hP:Fits P E Fin w0 I0)(ih:∀c,Tr.Ok Q (Good P E w0 I0 f0 Fin Q) (run aj E n c)→Good P E w0 I0 f0 Fin Q c){all:Array Oper}{ms bs:List Nat}
  (h:Tr.Ok Q (Good P E w0 I0 f0 Fin Q) (run aj E (n+1) {frames:=⟨fn,nn,env,.e_ all ms [] bs::k,marks,da⟩::fs,mem:=m}))
  (hst:∀b∈bs,xQ E env m all b)
  (hW:WR w0 w S m) (hI:∀b,S.I b→I0 b∨w0.heap.size≤b) (hf:FR w S m ⟨fn,nn,env,.e_ all ms [] bs::k,marks,da⟩ fr) (hfs:wZ w S m fs frs) (hB:tN f0 (⟨fn,nn,env,.e_ all ms [] bs::k,marks,da⟩::fs)) :
  Ends P f0 Fin Q fr frs cs w:=by
 obtain⟨it,kc,ht,h1,h2⟩:=hf.todo.cons_inv
 obtain⟨l,rfl,hD⟩:∃l:List Nat,it=.inRegion all l∧eD nn all ms [] bs l:=h1
 simp only[run] at h
 obtain⟨w',S',fr',l',kc',hs,hf',hsteps,ht',hD',hk',hhead,_⟩:=vM hP (frs++cs) hst l hW hf ht hD h2
 cases l' with
 | cons i l'=>exact absurd (hhead i rfl) List.not_mem_nil
 | nil=>
   refine .steps (hsteps.trans (.one (u7 hf'.mode ht'))) (ih _ h (ft fun a ha=>hf.flat a (List.mem_of_mem_head? ha)) S' _ _ cs _ hs.wr (fun b hb=>(hs.grows b hb).elim (hI b) .inr) ⟨_,_,rfl,hf'.next ?_ hk' hf'.live.tail (fun a ha=>hf.flat a (List.mem_of_mem_tail ha)),hfs.mono hs.out⟩ (hB.swap rfl))
   rintro x ⟨all',bs',l',k',b,p,e1,e2,e3,e4,e5,e6⟩
   rw[ht'] at e2
   cases e2
   exact absurd e4 List.not_mem_nil
theorem pW{all:Array Oper}{bs:List Nat}{d b:Nat}{o:Oper}(h:oI all bs d=true)(hb:b∈bs)(ho:all[b]? = some o):d ∉ readsOf all o:=by
 have:=List.all_eq_true.1 h b hb
 rw[ho] at this
 simp only[Bool.not_eq_true'] at this
 intro hm
 rw[jJ.2 hm] at this
 cases this
theorem rL{all:Array Oper}{bs:List Nat}{d b:Nat}{o:Oper}(h:Ei all bs d=true)(hb:b∈bs)(ho:all[b]? = some o):o.dst≠some d:=by
 have:=List.all_eq_true.1 h b hb
 rw[ho] at this
 simp only[Bool.not_eq_true'] at this
 intro e
 rw[e] at this
 simp only[isDst,cu.2] at this
 cases this
theorem lK{all:Array Oper}{bs:List Nat}{o:Oper}{d:Nat}(h:lG all bs o.dst=true)(hd:o.dst=some d):oI all bs d=true∧Ei all bs d=true:=by
 rw[hd] at h
 simpa [lG] using h
theorem Cq{all:Array Oper}{o:Oper}{d:Nat}(h:vH all o=true)(hd:o.dst=some d):d ∉ readsOf all o:=by
 unfold vH at h
 rw[hd] at h
 simp only[Bool.not_eq_true'] at h
 intro hm
 rw[jJ.2 hm] at h
 cases h
theorem E_{all:Array Oper}{mk:Nat}{bs:List Nat}{o:Oper}(h:H8 all mk bs o=true){b:Nat}(hb:b∈bs){p:Oper}{d:Nat}(hp:all[b]? = some p)(hd:p.dst=some d)(hr:d∈readsOf all o):mk.testBit b=true:=by
 have:=List.all_eq_true.1 h b hb
 rw[hp] at this
 simp only[hd,jJ.2 hr] at this
 simpa using this
theorem eD.add{all:Array Oper}{ms rest bs l:List Nat}{i:Nat}{o:Oper}(h:eD nn all ms (i::rest) bs l)(ho:all[i]? = some o)(hd:iU nn o.dst=true)(hord:H8 all (ms.getD i 0) bs o=true)(hg:ru (ms.getD i 0) o=true)
  (hfr:lG all bs o.dst=true) (hown:vH all o=true):eD nn all ms rest (i::bs) l:=by
 have hnd:=h.nodup
 rw[List.cons_append] at hnd
 have hn:=List.nodup_cons.1 hnd
 refine⟨h.Yl,h.Cm,h.lin,?_,fun j hj=>h.sub j (List.mem_cons_of_mem _ hj),fun j hj=>?_,fun j hj=>?_,?_,?_,?_,?_,?_⟩
 ·exact(List.perm_middle.nodup_iff).2 hnd
 ·rcases h.Zo j hj with hm|hm
  ·rcases List.mem_cons.1 hm with rfl|hm
   ·exact .inr List.mem_cons_self
   ·exact .inl hm
  ·exact .inr (List.mem_cons_of_mem _ hm)
 ·rcases List.mem_cons.1 hj with rfl|hj
  ·exact(Array.getElem?_eq_some_iff.1 ho).1
  ·exact h.lt j hj
 ·intro a ha b hb hne oa p d hoa hp hpd hr
  rcases List.mem_cons.1 ha with rfl|ha'
  ·rcases List.mem_cons.1 hb with rfl|hb'
   ·exact absurd rfl hne
   ·rw[ho] at hoa;cases hoa
    exact E_ hord hb' hp hpd hr
  ·rcases List.mem_cons.1 hb with rfl|hb'
   ·rw[ho] at hp;cases hp
    exact absurd hr (pW (lK hfr hpd).1 ha' hoa)
   ·exact h.read a ha' b hb' hne oa p d hoa hp hpd hr
 ·intro a ha b hb hne oa p d hoa hp hpd
  rcases List.mem_cons.1 ha with rfl|ha'
  ·rcases List.mem_cons.1 hb with rfl|hb'
   ·exact absurd rfl hne
   ·rw[ho] at hoa;cases hoa
    intro e
    exact rL (lK hfr e).2 hb' hp hpd
  ·rcases List.mem_cons.1 hb with rfl|hb'
   ·rw[ho] at hp;cases hp
    exact rL (lK hfr hpd).2 ha' hoa
   ·exact h.dst a ha' b hb' hne oa p d hoa hp hpd
 ·intro a ha oa d hoa hd
  rcases List.mem_cons.1 ha with rfl|ha
  ·rw[ho] at hoa;cases hoa;exact Cq hown hd
  ·exact h.own a ha oa d hoa hd
 ·intro a ha oa hoa
  rcases List.mem_cons.1 ha with rfl|ha
  ·rw[ho] at hoa;cases hoa;exact hg
  ·exact h.grd a ha oa hoa
 ·intro a ha oa hoa
  rcases List.mem_cons.1 ha with rfl|ha
  ·rw[ho] at hoa;cases hoa;exact hd
  ·exact h.TM a ha oa hoa
theorem eD.cut{all:Array Oper}{ms rest bs l:List Nat}{i:Nat}(h:eD nn all ms rest bs (i::l)):eD nn all ms rest (lu (ms.getD i 0) bs) (i::l):=by
 have hsub:∀b∈lu (ms.getD i 0) bs,b∈bs:=fun b hb=>(List.mem_filter.1 hb).1
 refine⟨h.Yl,h.Cm,h.lin,?_,h.sub,fun j hj=>?_,fun j hj=>h.lt j (hsub j hj),fun a ha b hb=>h.read a (hsub a ha) b (hsub b hb),fun a ha b hb=>h.dst a (hsub a ha) b (hsub b hb),fun a ha=>h.own a (hsub a ha),fun a ha=>h.grd a (hsub a ha),fun a ha=>h.TM a (hsub a ha)⟩
 ·exact h.nodup.sublist (List.Sublist.append_left List.filter_sublist rest)
 ·rcases h.Zo j hj with hm|hm
  ·exact .inl hm
  ·refine .inr (List.mem_filter.2 ⟨hm,?_⟩)
   cases hb:(ms.getD i 0).testBit j with
   | false=>rfl
   | true=>exact absurd hj (h.done hb)
end
end Go.Ev
namespace Go.Ev
section
variable {P:Program} {R:Type} {E:gp R} {w0:World} {I0:Nat→Prop} {f0:FuncId} {Fin:R→Value→World→Prop} {Q:R→Prop}
variable {w:World} {S:St} {m:Mem} {fr:Frame} {fs:List bA} {frs cs:List Frame}
variable {fn:FuncId} {nn:Nat} {env:Env} {marks:List Nat} {da:Option Nat} {k:List bJ} {n:Nat}
theorem KZ(ih:∀c,Tr.Ok Q (Good P E w0 I0 f0 Fin Q) (run aj E n c)→Good P E w0 I0 f0 Fin Q c){all:Array Oper}{ms rest bs l:List Nat}{i:Nat}{o:Oper}{kc:List Item}{v:AV}
  (h:Tr.Ok Q (Good P E w0 I0 f0 Fin Q) (run aj E n {frames:=⟨fn,nn,env.gV o.dst v,.e_ all ms rest (i::bs)::k,marks,da⟩::fs,mem:=m}))
  (ho:all[i]? = some o) (hdok:iU nn o.dst=true) (hord:H8 all (ms.getD i 0) bs o=true) (hg:ru (ms.getD i 0) o=true) (hfr:lG all bs o.dst=true) (hown:vH all o=true)
  (hst:∀b∈bs,xQ E env m all b) (hi:(ek all env o false∧v=.tJ [])∨(ek all env o true∧∃tv,LX aj E m (gL env) o=some tv∧tv.Is v))
  (hW:WR w0 w S m) (hI:∀b,S.I b→I0 b∨w0.heap.size≤b) (hf:FR w S m ⟨fn,nn,env,.e_ all ms (i::rest) bs::k,marks,da⟩ fr) (hfs:wZ w S m fs frs) (hB:tN f0 (⟨fn,nn,env,.e_ all ms (i::rest) bs::k,marks,da⟩::fs))
  (ht:fr.todo=.inRegion all l::kc) (hD:eD nn all ms (i::rest) bs l) (hk:ck nn S k kc):Ends P f0 Fin Q fr frs cs w:=by
 have hsm:nn≤65535:=hf.small
 have hput:∀x,o.dst≠some x→(env.gV o.dst v).at x=env.at x:=fun x hx=>by rw[Env.Bd hdok hsm,if_neg hx]
 have hself:∀x,o.dst=some x→(env.gV o.dst v).at x=v:=fun x hx=>by rw[Env.Bd hdok hsm,if_pos hx]
 have hreads:∀x∈readsOf all o,(env.gV o.dst v).at x=env.at x:=fun x hx=>hput x fun e=>Cq hown e hx
 have hsd:lW (env.gV o.dst v) o.dst v:=by
  cases hd:o.dst with
  | none=>trivial
  | some d=>show iL v ((env.gV (some d) v).at d);rw[←hd,hself d hd];exact tP v
 refine ih _ h (fun b hb=>?_) S fr frs cs w hW hI ⟨fr,frs,rfl,?_,hfs⟩ (hB.swap rfl)
 ·rcases List.mem_cons.1 hb with rfl|hb'
  ·refine⟨o,ho,?_⟩
   rcases hi with ⟨h1,rfl⟩|⟨h1,tv,h2,h3⟩
   ·exact .inl ⟨h1.congr fun x hx=>hreads x (iy hx),hsd⟩
   ·refine .inr ⟨h1.congr fun x hx=>hreads x (iy hx),tv,v,?_,h3,hsd⟩
    rw[←h2]
    exact sG fun x hx=>xa fun t e=>hreads t (by subst e;exact l9 hx)
  ·refine(hst b hb').congr fun p hp=>⟨fun x hx=>hput x fun e=>pW (lK hfr e).1 hb' hp hx,fun u d hd hs=>?_⟩
   rw[hput d fun e=>rL (lK hfr e).2 hb' hp hd]
   exact hs
 ·have hil:i∈l:=hD.sub i List.mem_cons_self
  refine⟨hf.fn,hf.n,hf.small,fun x hx=>?_,by rw[ht];exact .mk (a:=.e_ all ms rest (i::bs)) ⟨l,rfl,hD.add ho hdok hord hg hfr hown⟩ hk,.mk trivial hf.live.tail,hf.flat,hf.defers,hf.marks,hf.mode,hf.kind,hf.da,hf.lJ⟩
  have hne:o.dst≠some x:=fun e=>hx ⟨all,i::bs,l,kc,i,o,rfl,ht,List.mem_cons_self,hil,ho,e⟩
  show CR w S m ((env.gV o.dst v).at x) (fr.tmps.getD x undef)
  rw[hput x hne]
  refine hf.env x fun hh=>hx ?_
  obtain⟨all',bs',l',k',b,p,e1,e2,e3,e4,e5,e6⟩:=hh
  cases e1
  exact⟨all,i::bs,l',k',b,p,rfl,e2,List.mem_cons_of_mem _ e3,e4,e5,e6⟩
theorem Iy(hP:Fits P E Fin w0 I0)(ih:∀c,Tr.Ok Q (Good P E w0 I0 f0 Fin Q) (run aj E n c)→Good P E w0 I0 f0 Fin Q c){all:Array Oper}{ms rest bs:List Nat}{i:Nat}
  (h:Tr.Ok Q (Good P E w0 I0 f0 Fin Q) (run aj E (n+1) {frames:=⟨fn,nn,env,.e_ all ms (i::rest) bs::k,marks,da⟩::fs,mem:=m}))
  (hst:∀b∈bs,xQ E env m all b)
  (hW:WR w0 w S m) (hI:∀b,S.I b→I0 b∨w0.heap.size≤b) (hf:FR w S m ⟨fn,nn,env,.e_ all ms (i::rest) bs::k,marks,da⟩ fr) (hfs:wZ w S m fs frs) (hB:tN f0 (⟨fn,nn,env,.e_ all ms (i::rest) bs::k,marks,da⟩::fs)) :
  Ends P f0 Fin Q fr frs cs w:=by
 obtain⟨it,kc,ht,h1,h2⟩:=hf.todo.cons_inv
 obtain⟨l,rfl,hD⟩:∃l:List Nat,it=.inRegion all l∧eD nn all ms (i::rest) bs l:=h1
 have hsm:nn≤65535:=hf.small
 simp only[run] at h
 cases ho:all[i]? with
 | none=>rw[ho] at h;exact h.elim
 | some o=>
   rw[ho] at h
   simp only at h
   cases hck:iU nn o.dst&&(H8 all (ms.getD i 0) bs o&&ru (ms.getD i 0) o) with
   | false=>rw[hck] at h;exact h.elim
   | true=>
     rw[hck] at h
     simp only at h
     rw[Bool.and_eq_true,Bool.and_eq_true] at hck
     obtain⟨hdok,hord,hgok⟩:=hck
     have hsmall:∀d∈dQ all o,∀c v,env.at d=.bool c v→d≤65535:=fun d _ c v e=>by
      by_cases hh:Hid ⟨fn,nn,env,.e_ all ms (i::rest) bs::k,marks,da⟩ fr d
      ·obtain⟨all',bs',l',k',b,p,e1,e2,e3,e4,e5,e6⟩:=hh
       cases e1
       have:=hD.TM b e3 p e5
       rw[e6] at this
       have:d<nn:=Nat.le_of_ble_eq_true this
       omega
      ·have:=Jj hf hh e
       omega
     obtain⟨env',hre,hnr,h⟩:=G4 h hsmall
     have hst':∀b∈bs,xQ E env' m all b:=fun b hb=>(hst b hb).congr fun p hp=>by
      rcases hnr with heq|hnr
      ·exact⟨fun x _=>heq x,fun v d _ hs=>by rw[heq d];exact hs⟩
      ·refine⟨fun x hx=>?_,fun v d _ hs=>?_⟩
       ·rcases hre x with e|⟨hxg,_⟩
        ·exact e
        ·exact absurd hx (pW (hnr x hxg) hb hp)
       ·rcases hre d with e|⟨_,b',e1,e2⟩
        ·rw[e];exact hs
        ·rw[e2];rw[e1] at hs;exact C8 hs
     have hf':=hf.IL (D:=dQ all o) hre
     rcases h with ⟨hg,h⟩|⟨hg,h⟩
     ·-- wanted
      have eff:Tr.Ok Q (Good P E w0 I0 f0 Fin Q) (match rest.all (fun j=>(ms.getD j 0).testBit i)&&lG all (lu (ms.getD i 0) bs) o.dst with
            | false=>.bad 178 o.pos
            | true=>
              match lf aj E (gL env') m o with
              | some tv=>tv.bind o.pos fun v=>o5 aj E (env'.gV o.dst v) m all (lu (ms.getD i 0) bs) (run aj E n {frames:=⟨fn,nn,env'.gV o.dst v,.e_ all ms rest (lu (ms.getD i 0) bs)::k,marks,da⟩::fs,mem:=m})
              | none=>match o.op with
                | .call {callee:=.value x,args,.. }=>match gL env' x with
                  | .fn g first caps=>match look E.jA g with
                    | some s=>(mA aj s m (first++(args.toList.map (gL env')++caps))).bind o.pos fun p=>o5 aj E (env'.gV o.dst p.1) p.2 all (lu (ms.getD i 0) bs) (run aj E n {frames:=⟨fn,nn,env'.gV o.dst p.1,.e_ all ms rest (lu (ms.getD i 0) bs)::k,marks,da⟩::fs,mem:=p.2})
                    | none=>match look E.nC g with
                      | none=>.bad 163 o.pos
                      | some G=>match iE g G (first++(args.toList.map (gL env')++caps)) with
                        | none=>.bad 164 o.pos
                        | some h=>run aj E n {frames:=h::⟨fn,nn,env',.ll all ms i rest (lu (ms.getD i 0) bs)::k,marks,da⟩::fs,mem:=m}
                  | .yield l=>match m.at l with
                     | .loop r=>match Nat.beq r.params.length (args.toList.map (gL env')).length&&r.params.all (fun p=>Nat.blt p r.n) with
                       | true=>run aj E n {frames:={fn:=r.fn,n:=r.n,env:=pG r.params (args.toList.map (gL env')) r.env,todo:=[.code r.assign,.beginRound,.code r.body],marks:=[],da:=some l}::⟨fn,nn,env',.ll all ms i rest (lu (ms.getD i 0) bs)::k,marks,da⟩::fs,mem:=m}
                       | false=>.bad 165 o.pos
                     | _=>.bad 166 o.pos
                  | _=>.bad 167 o.pos
                | _=>(og aj E fn (gL env') m o).bind o.pos fun p=>o5 aj E (env'.gV o.dst p.1) p.2 all (lu (ms.getD i 0) bs) (run aj E n {frames:=⟨fn,nn,env'.gV o.dst p.1,.e_ all ms rest (lu (ms.getD i 0) bs)::k,marks,da⟩::fs,mem:=p.2}))→Ends P f0 Fin Q fr frs cs w:=by
       intro h
       cases hck2:rest.all (fun j=>(ms.getD j 0).testBit i)&&lG all (lu (ms.getD i 0) bs) o.dst with
       | false=>rw[hck2] at h;exact h.elim
       | true=>
         rw[hck2] at h
         simp only at h
         rw[Bool.and_eq_true] at hck2
         obtain⟨w1,S1,fr1,l1,kc1,hs1,hf1,hsteps1,ht1,hD1,hk1,hhead,hfn1⟩:=vM hP (frs++cs) hst l hW hf ht hD h2
         have hil:i∈l1:=hD1.sub i List.mem_cons_self
         cases l1 with
         | nil=>exact absurd hil List.not_mem_nil
         | cons j l1=>
           have hji:j=i:=by
            rcases List.mem_cons.1 (hhead j rfl) with e|hj
            ·exact e
            ·exact absurd hil (hD1.done (List.all_eq_true.1 hck2.1 j hj))
           subst hji
           have hjn:j ∉ rest++bs:=(List.nodup_cons.1 (by have:=hD1.nodup;rwa [List.cons_append] at this)).1
           have hjb:j ∉ bs:=fun hm=>hjn (List.mem_append.2 (.inr hm))
           have hf1':=hf1.IL (D:=dQ all o) hre
           have hnh:∀{t:Nat},t∈readsOf all o→¬Hid ⟨fn,nn,env',.e_ all ms (j::rest) bs::k,marks,da⟩ fr1 t:=fun hr=>
            ql hD1 rfl ht1 (fun b hb _ p d hp hd hr=>E_ hord hb hp hd hr) (fun hm=>absurd hm hjb) hr
           have hw:Region.wanted o (yielded all fr1.tmps)=true:=kC hg fun d hd=>hf1'.env d (hnh (iy hd))
           have hbelow:FR w1 S1 m ⟨fn,nn,env',.ll all ms j rest (lu (ms.getD j 0) bs)::k,marks,da⟩ fr1:=by
            refine⟨hf1'.fn,hf1'.n,hf1'.small,fun x hx=>hf1'.env x fun hh=>hx ?_,by rw[ht1];exact .mk (a:=.ll all ms j rest (lu (ms.getD j 0) bs)) ⟨l1,rfl,hD1.cut⟩ hk1,.mk trivial hf1'.live.tail,hf1'.flat,hf1'.defers,hf1'.marks,hf1'.mode,hf1'.kind,hf1'.da,hf1'.lJ⟩
            obtain⟨all',bs',l',k',b,p,e1,e2,e3,e4,e5,e6⟩:=hh
            cases e1
            rw[ht1] at e2
            cases e2
            refine⟨all,_,j::l1,kc1,b,p,rfl,ht1,List.mem_filter.2 ⟨e3,?_⟩,e4,e5,e6⟩
            cases hb:(ms.getD j 0).testBit b with
            | false=>rfl
            | true=>exact absurd e4 (hD1.done hb)
           refine .steps hsteps1 (EK (fn:=fn) (ρ:=gL env') (below:=⟨fn,nn,env',.ll all ms j rest (lu (ms.getD j 0) bs)::k,marks,da⟩) (next:=fun v m=>o5 aj E (env'.gV o.dst v) m all (lu (ms.getD j 0) bs) (run aj E n {frames:=⟨fn,nn,env'.gV o.dst v,.e_ all ms rest (lu (ms.getD j 0) bs)::k,marks,da⟩::fs,mem:=m}))
            hP ih hs1.wr (fun b hb=>(hs1.grows b hb).elim (hI b) .inr) (hfs.mono hs1.out) (hB.swap rfl) hf1.mode ht1 ho hw (fun x hx=>qA hf1' x fun t e=>hnh (by subst e;exact l9 hx)) hbelow (fun v m' w' S' z hs hc h=>?_) h)
           obtain⟨hst2,h⟩:=qL h
           have hs2:=hs1.trans hs
           exact ih _ h hst2 S' _ _ cs w' hs2.wr (fun b hb=>(hs2.grows b hb).elim (hI b) .inr) ⟨_,_,rfl,s9 (hbelow.mono hs.out) ho hdok hc,hfs.mono hs2.out⟩ (hB.swap rfl)
      split at h
      ·rename_i tv hev hfo
       rw[Bool.and_eq_true] at hfo
       obtain⟨v,hv,h⟩:=TV.bind_ok h
       exact KZ ih h ho hdok hord hgok hfo.1 hfo.2 hst' (.inr ⟨hg,tv,hev,hv⟩) hW hI hf' hfs (hB.swap rfl) ht hD h2
      ·exact eff h
     ·-- not wanted
      cases hfo:lG all bs o.dst&&vH all o with
      | false=>rw[hfo] at h;exact h.elim
      | true=>
        rw[hfo] at h
        simp only at h
        rw[Bool.and_eq_true] at hfo
        exact KZ ih h ho hdok hord hgok hfo.1 hfo.2 hst' (.inl ⟨hg,rfl⟩) hW hI hf' hfs (hB.swap rfl) ht hD h2
end
end Go.Ev
namespace Go.Ev
theorem ox:∀{l:List Nat} {id k:Nat},id∈l→∃j,idxOf l id k=k+j∧l[j]? = some id∧j<l.length
 | i::l,id,k,h=>by
   rw[idxOf]
   by_cases hi:i=id
   ·subst hi;rw[cu.2 rfl];exact⟨0,rfl,rfl,Nat.succ_pos _⟩
   ·rw[cq.2 hi]
    obtain⟨j,h1,h2,h3⟩:=ox (k:=k+1) ((List.mem_cons.1 h).resolve_left (fun e=>hi e.symm))
    exact⟨j+1,by simp only;rw[h1];omega,by simpa using h2,by simpa using h3⟩
theorem zr:∀{l:List Nat} {id k:Nat},id ∉ l→idxOf l id k=k+l.length
 | [],id,k,_=>rfl
 | i::l,id,k,h=>by
   rw[idxOf,cq.2 fun e=>h (by subst e;exact List.mem_cons_self)]
   simp only
   rw[zr fun hm=>h (List.mem_cons_of_mem _ hm),List.length_cons]
   omega
theorem ov:∀{r acc:List Nat},acc.Nodup→(lC acc r).Nodup∧(∀i∈acc,i∈lC acc r)∧∀i∈r,i∈lC acc r
 | [],acc,h=>⟨h,fun _ h=>h,fun _ h=>absurd h List.not_mem_nil⟩
 | j::r,acc,h=>by
   rw[lC]
   cases hm:u_ acc j with
   | true=>
     simp only
     obtain⟨h1,h2,h3⟩:=ov (r:=r) h
     refine⟨h1,h2,fun i hi=>?_⟩
     rcases List.mem_cons.1 hi with rfl|hi
     ·exact h2 _ (jJ.1 hm)
     ·exact h3 i hi
   | false=>
     simp only
     have hn:j ∉ acc:=fun h=>by rw[jJ.2 h] at hm;cases hm
     obtain⟨h1,h2,h3⟩:=ov (r:=r) (acc:=acc ++ [j]) (List.nodup_append.2 ⟨h,by simp,fun a ha b hb=>by rintro rfl;rw[List.mem_singleton.1 hb] at ha;exact hn ha⟩)
     refine⟨h1,fun i hi=>h2 i (List.mem_append.2 (.inl hi)),fun i hi=>?_⟩
     rcases List.mem_cons.1 hi with rfl|hi
     ·exact h2 _ (List.mem_append.2 (.inr (List.mem_singleton.2 rfl)))
     ·exact h3 i hi
theorem s_:∀{f:Nat} {m:Mem} {acc:List Nat} {p:Nat},acc.Nodup→(kz f m acc p).Nodup∧∀i∈acc,i∈kz f m acc p
 | 0,m,acc,p,h=>⟨h,fun _ h=>h⟩
 | f+1,m,acc,p,h=>by
   rw[kz]
   cases acc[p]? with
   | none=>exact⟨h,fun _ h=>h⟩
   | some id=>
     simp only
     obtain⟨h1,h2,_⟩:=ov (r:=Cb (m.at id)) h
     obtain⟨h3,h4⟩:=s_ (f:=f) (m:=m) (p:=p+1) h1
     exact⟨h3,fun i hi=>h4 i (h2 i hi)⟩
theorem oZ{l:List Nat}:∀{cs:List AV},(jL l cs).length=cs.length
 | []=>by rw[jL]
 | a::cs=>by rw[jL,List.length_cons,List.length_cons,oZ]
def St.ren(S:St)(l:List Nat):St:={σ:=fun i=>S.σ (l.getD i 0),δ:=fun i=>S.δ (l.getD i 0),I:=S.I}
def Mem.ren(m:Mem)(l:List Nat):Mem:=(l.map fun id=>jP l (m.at id)) ++ [.dead]
section
variable {w0 w:World} {S:St} {m:Mem} {l:List Nat}
theorem rY{j id:Nat}(h:l[j]? = some id):(m.ren l).at j=jP l (m.at id):=by
 have hj:j<l.length:=(List.getElem?_eq_some_iff.1 h).1
 rw[Mem.ren,Mem.at,List.getD_eq_getElem?_getD,List.getElem?_append_left (by rw[List.length_map];exact hj),List.getElem?_map,h]
 rfl
theorem xF:(m.ren l).at l.length=.dead:=by
 rw[Mem.ren,Mem.at,List.getD_eq_getElem?_getD,List.getElem?_append_right (by rw[List.length_map];exact Nat.le_refl _),List.length_map,Nat.sub_self]
 rfl
theorem G0{j:Nat}(h:l.length<j):(m.ren l).at j=.bad:=by
 rw[Mem.ren,Mem.at,List.getD_eq_getElem?_getD,List.getElem?_eq_none (by rw[List.length_append,List.length_map];simp;omega)]
 rfl
theorem sM(j:Nat):(∃id,l[j]? = some id∧(m.ren l).at j=jP l (m.at id)∧(S.ren l).σ j=S.σ id∧(S.ren l).δ j=S.δ id)∨(m.ren l).at j=.dead∨(m.ren l).at j=.bad:=by
 rcases Nat.lt_trichotomy j l.length with h|h|h
 ·have e:=List.getElem?_eq_getElem h
  refine .inl ⟨l[j],e,rY e,?_,?_⟩<;>simp[St.ren,List.getD_eq_getElem?_getD,e]
 ·subst h;exact .inr (.inl xF)
 ·exact .inr (.inr (G0 h))
theorem rM(id:Nat):(id∈l∧(m.ren l).at (idxOf l id 0)=jP l (m.at id)∧(S.ren l).σ (idxOf l id 0)=S.σ id∧(S.ren l).δ (idxOf l id 0)=S.δ id)∨(m.ren l).at (idxOf l id 0)=.dead:=by
 by_cases h:id∈l
 ·obtain⟨j,h1,h2,h3⟩:=ox (k:=0) h
  rw[Nat.zero_add] at h1
  rw[h1]
  refine .inl ⟨h,rY h2,?_,?_⟩<;>simp[St.ren,List.getD_eq_getElem?_getD,h2]
 ·rw[zr h,Nat.zero_add]
  exact .inr xF
mutual
theorem Ee:∀{a:AV} {v:Value},CR w S m a v→CR w (S.ren l) (m.ren l) (fH l a) v
 | .undef,v,_=>by rw[fH];exact ed
 | .int k c n,v,h=>by rw[fH];exact bQ.2 (bQ.1 h)
 | .bool c b,v,h=>by rw[fH];exact dn.2 (dn.1 h)
 | .str c s,v,h=>by rw[fH];exact fC.2 (fC.1 h)
 | .sl t x,v,h=>by rw[fH,CR];rw[CR] at h;exact h
 | .bK b,v,h=>by rw[fH];exact fy.2 (fy.1 h)
 | .om t x off,v,h=>by rw[fH,CR];rw[CR] at h;exact h
 | .cY,v,h=>by rw[fH];exact gI.2 (gI.1 h)
 | .jT,v,h=>by rw[fH];exact iO.2 (iO.1 h)
 | .own id,v,h=>by
   rw[fH,CR]
   rw[CR] at h
   rcases rM (S:=S) (m:=m) (l:=l) id with ⟨_,h1,h2,h3⟩|h1
   ·rw[h1,h2,h3]
    cases hb:m.at id<;>rw[hb] at h<;>(try exact h.elim)<;>exact h
   ·rw[h1];trivial
 | .lm id sz c lo len,v,h=>by
   rw[fH,CR]
   rw[CR] at h
   rcases rM (S:=S) (m:=m) (l:=l) id with ⟨_,h1,h2,h3⟩|h1
   ·rw[h1,h2,h3]
    cases hb:m.at id<;>rw[hb] at h<;>(try exact h.elim)<;>(try exact h)
    obtain⟨l0,n,cap,a,e1,e2,e3,e4,e5⟩:=h
    exact⟨l0,n,cap,a,e1,e2,e3,by rw[oZ];exact e4,e5⟩
   ·rw[h1];trivial
 | .ptr id off,v,h=>by
   rw[fH,CR]
   rw[CR] at h
   rcases rM (S:=S) (m:=m) (l:=l) id with ⟨_,h1,h2,h3⟩|h1
   ·rw[h1,h2]
    cases hb:m.at id<;>rw[hb] at h<;>(try exact h.elim)<;>exact h
   ·rw[h1];trivial
 | .lq id i off,v,h=>by
   rw[fH,CR]
   rw[CR] at h
   rcases rM (S:=S) (m:=m) (l:=l) id with ⟨_,h1,h2,h3⟩|h1
   ·rw[h1,h2,h3]
    cases hb:m.at id<;>rw[hb] at h<;>(try exact h.elim)<;>exact h
   ·rw[h1];trivial
 | .oV id off n t i,v,h=>by
   rw[fH,CR]
   rw[CR] at h
   rcases rM (S:=S) (m:=m) (l:=l) id with ⟨_,h1,h2,h3⟩|h1
   ·rw[h1,h2]
    cases hb:m.at id<;>rw[hb] at h<;>(try exact h.elim)<;>exact h
   ·rw[h1];trivial
 | .yield id,v,h=>by
   rw[fH,CR]
   rw[CR] at h
   rcases rM (S:=S) (m:=m) (l:=l) id with ⟨_,h1,h2,h3⟩|h1
   ·rw[h1,h2]
    cases hb:m.at id<;>rw[hb] at h<;>(try exact h.elim)<;>exact h
   ·rw[h1];trivial
 | .fn f a c,v,h=>by
   rw[fH]
   obtain⟨us,vs,e,h1,h2⟩:=nF.1 h
   exact nF.2 ⟨us,vs,e,oK h1,oK h2⟩
 | .agg cs,v,h=>by
   rw[fH]
   obtain⟨us,e,h1⟩:=kF.1 h
   exact kF.2 ⟨us,e,oK h1⟩
 | .tJ cs,v,h=>by
   rw[fH]
   obtain⟨us,e,h1⟩:=i6.1 h
   exact i6.2 ⟨us,e,oK h1⟩
theorem oK:∀{cs:List AV} {us:List Value},bP w S m cs us→bP w (S.ren l) (m.ren l) (jL l cs) us
 | [],us,h=>by rw[jL];exact bX.2 (bX.1 h)
 | a::cs,us,h=>by
   rw[jL]
   obtain⟨v,r,e,h1,h2⟩:=du.1 h
   exact du.2 ⟨v,r,e,Ee h1,oK h2⟩
end
theorem sS:∀{e:PT AV} {i:Nat},(rq l e).get i=(e.get i).map (fH l)
 | .leaf,i=>by rw[rq,PT.kD];rfl
 | .node a v b,i=>by
   show(PT.node (rq l a) (match v with|some x=>some (fH l x)|none=>none) (rq l b)).get i=_
   rw[PT.g_,PT.g_]
   by_cases h0:i=0
   ·rw[if_pos h0,if_pos h0];cases v<;>rfl
   ·rw[if_neg h0,if_neg h0]
    by_cases h1:i%2=1
    ·rw[if_pos h1,if_pos h1,sS]
    ·rw[if_neg h1,if_neg h1,sS]
theorem Ll{e:Env}{i:Nat}:Env.at (rq l e) i=fH l (e.at i):=by
 rw[Env.at,Env.at,sS]
 cases PT.get e i<;>first|rfl|(simp only[Option.map_none];rw[fH])
theorem MR{id:Nat}(hb:pH w S m id (m.at id)){j:Nat}(hσ:(S.ren l).σ j=S.σ id)(hδ:(S.ren l).δ j=S.δ id):pH w (S.ren l) (m.ren l) j (jP l (m.at id)):=by
 cases hm:m.at id<;>rw[hm] at hb<;>simp only[jP]
 case bad=>trivial
 case dead=>trivial
 case C3=>trivial
 case BV=>exact(show w.heap[(S.ren l).σ j]? = _ by rw[hσ];exact hb)
 case flat fz cs=>
  obtain⟨us,T,fr,h1,h2,h3⟩:=hb
  exact⟨us,T,fr,by rw[hσ];exact h1,h2,oK h3⟩
 case arr fz t x=>
  obtain⟨h0,us,T,fr,h1,h2,h3,h4⟩:=hb
  exact⟨h0,us,T,fr,by rw[hσ];exact h1,h2,by rw[hδ];exact h3,by rw[hδ];exact h4⟩
 case loop r=>
  obtain⟨L,h1,h2,h3,h4,h5,h6,h7,h8,h9⟩:=hb
  exact⟨L,by rw[hσ];exact h1,h2,h3,h4,h5,h6,h7,h8,fun i=>by
   show CR w (S.ren l) (m.ren l) (Env.at (rq l r.env) i) _
   rw[Ll];exact Ee (h9 i)⟩
theorem CW{b:jN}:(jP l b).bY=b.bY:=by cases b<;>rfl
theorem yY{b:jN}:(jP l b).kt=b.kt:=by cases b<;>rfl
theorem mD{b:jN}:(jP l b).fv=b.fv:=by cases b<;>rfl
theorem Ri(hW:WR w0 w S m)(hn:l.Nodup):WR w0 w (S.ren l) (m.ren l):=by
 have live:∀j,((m.ren l).at j).bY=true→∃id,l[j]? = some id∧(m.ren l).at j=jP l (m.at id)∧(S.ren l).σ j=S.σ id∧(m.at id).bY=true:=fun j h=>by
  rcases sM (S:=S) (m:=m) (l:=l) j with ⟨id,h1,h2,h3,_⟩|h1|h1
  ·rw[h2,CW] at h;exact⟨id,h1,h2,h3,h⟩
  ·rw[h1] at h;cases h
  ·rw[h1] at h;cases h
 refine⟨hW.os,hW.tape,hW.output,hW.size,hW.base,hW.oC,fun j=>?_,fun j j' h h' e=>?_,fun j h=>?_,fun j h h'=>?_,fun j h=>?_⟩
 ·rcases sM (S:=S) (m:=m) (l:=l) j with ⟨id,h1,h2,h3,h4⟩|h1|h1
  ·rw[h2];exact MR (hW.box id) h3 h4
  ·rw[h1];trivial
  ·rw[h1];trivial
 ·obtain⟨id,h1,h2,h3,h4⟩:=live j h
  obtain⟨id',g1,g2,g3,g4⟩:=live j' h'
  have:=hW.inj id id' h4 g4 (by rw[←h3,←g3];exact e)
  subst this
  obtain⟨a1,a2⟩:=List.getElem?_eq_some_iff.1 h1
  obtain⟨b1,b2⟩:=List.getElem?_eq_some_iff.1 g1
  exact(List.getElem_inj hn).1 (a2.trans b2.symm)
 ·obtain⟨id,h1,h2,h3,h4⟩:=live j h
  rw[h3];exact hW.lo id h4
 ·obtain⟨id,h1,h2,h3,h4⟩:=live j h
  rw[h3]
  rw[h2,yY] at h'
  exact hW.sw id h4 h'
 ·rcases sM (S:=S) (m:=m) (l:=l) j with ⟨id,h1,h2,h3,h4⟩|h1|h1
  ·rw[h3]
   rw[h2,yY] at h
   exact hW.AB id h
  ·rw[h1] at h;cases h
  ·rw[h1] at h;cases h
theorem oO{id:Nat}(h:id∈l):(m.ren l).at (idxOf l id 0)=jP l (m.at id):=by
 obtain⟨j,h1,h2,h3⟩:=ox (k:=0) h
 rw[Nat.zero_add] at h1
 rw[h1]
 exact rY h2
theorem qi{id:Nat}(h:id∈l):(S.ren l).σ (idxOf l id 0)=S.σ id:=by
 obtain⟨j,h1,h2,h3⟩:=ox (k:=0) h
 rw[Nat.zero_add] at h1
 rw[h1]
 simp[St.ren,List.getD_eq_getElem?_getD,h2]
theorem Du{n:Nat}:∀{k:List bJ} {kc:List Item},(∀i∈k.flatMap iY,i∈l)→ck n S k kc→ck n (S.ren l) (k.map (kZ l)) kc
 | [],kc,_,h=>h
 | a::k,kc,hl,h=>by
   obtain⟨it,kc1,rfl,h1,h2⟩:=h.cons_inv
   refine .mk ?_ (Du (fun i hi=>hl i (by rw[List.flatMap_cons];exact List.mem_append.2 (.inr hi))) h2)
   have hid:∀i∈iY a,i∈l:=fun i hi=>hl i (by rw[List.flatMap_cons];exact List.mem_append.2 (.inl hi))
   cases a<;>try exact h1
   case jf id=>
    have h1:it=.inRangeFunc (S.σ id):=h1
    show it=.inRangeFunc ((S.ren l).σ (idxOf l id 0))
    rw[(qi (hid id (List.mem_singleton.2 rfl)))];exact h1
   case ir id=>
    have h1:it=.endRangeFunc (S.σ id):=h1
    show it=.endRangeFunc ((S.ren l).σ (idxOf l id 0))
    rw[(qi (hid id (List.mem_singleton.2 rfl)))];exact h1
theorem sZ{a:bJ}:(kZ l a).vz=a.vz:=by cases a<;>rfl
theorem x9{a:bJ}:(kZ l a).drawn=a.drawn:=by cases a<;>rfl
theorem Ja{k:List bJ}(hl:∀i∈k.flatMap iY,i∈l)(h:bG m k):bG (m.ren l) (k.map (kZ l)):=by
 intro b hb
 obtain⟨a,ha,rfl⟩:=List.mem_map.1 hb
 have h1:=h a ha
 have hid:∀i∈iY a,i∈l:=fun i hi=>hl i (List.mem_flatMap.2 ⟨a,ha,hi⟩)
 cases a<;>(try trivial)
 case jf id=>
  show((m.ren l).at (idxOf l id 0)).fv=true
  rw[(oO (hid id (List.mem_singleton.2 rfl))),mD];exact h1
 case ir id=>
  show((m.ren l).at (idxOf l id 0)).fv=true
  rw[(oO (hid id (List.mem_singleton.2 rfl))),mD];exact h1
theorem pV{e:Env}{v:Nat→Value}{H:Nat→Prop}(h:∀i,¬H i→CR w S m (e.at i) (v i)):∀{ks:List Nat} {i:Nat},¬H i→CR w (S.ren l) (m.ren l) ((l7 l e ks).at i) (v i)
 | [],i,_=>by rw[l7,Env.FH];exact ed
 | j::ks,i,hi=>by
   rw[l7]
   cases hj:Nat.ble j 65535 with
   | false=>exact pV h hi
   | true=>
     simp only
     rw[Env.sD (Nat.le_of_ble_eq_true hj)]
     by_cases e:i=j
     ·subst e;rw[if_pos rfl];exact Ee (h i hi)
     ·rw[if_neg e];exact pV h hi
theorem PX{f:bA}{fr:Frame}{ks:List Nat}(hf:FR w S m f fr)(hm:∀i∈f.marks,i∈l)(hr:∀i,f.da=some i→i∈l)(ht:∀i∈f.todo.flatMap iY,i∈l) :
  FR w (S.ren l) (m.ren l) {f with env:=l7 l f.env ks,todo:=f.todo.map (kZ l),marks:=f.marks.map (idxOf l · 0),da:=f.da.map (idxOf l · 0)} fr:=by
 refine⟨hf.fn,hf.n,hf.small,fun i hi=>pV (H:=fun i=>Hid f fr i) hf.env (fun hh=>hi ?_),Du ht hf.todo,Ja ht hf.live,fun a ha=>?_,?_,fun d hd=>?_,hf.mode,hf.kind,?_,fun i hi=>?_⟩
 ·obtain⟨all,bs,l',k',b,p,e1,e2⟩:=hh
  refine⟨all,bs,l',k',b,p,?_,e2⟩
  rw[←e1]
  cases f.todo with
  | nil=>rfl
  | cons a k=>exact x9
 ·have ha:a∈(f.todo.map (kZ l)).tail:=ha
  rw[←List.map_tail] at ha
  obtain⟨b,hb,rfl⟩:=List.mem_map.1 ha
  rw[sZ];exact hf.flat b hb
 ·rw[hf.defers,List.map_map]
  exact List.map_congr_left fun d hd=>by simp only[Function.comp];rw[(qi (hm d hd))]
 ·obtain⟨d',hd',rfl⟩:=List.mem_map.1 hd
  rw[(oO (hm d' hd')),mD];exact hf.marks d' hd'
 ·rw[hf.da]
  cases hr':f.da with
  | none=>rfl
  | some i=>simp only[Option.map_some];rw[(qi (hr i hr'))]
 ·cases hr':f.da with
  | none=>rw[hr'] at hi;cases hi
  | some j=>
    rw[hr'] at hi
    cases hi
    rw[(oO (hr j hr')),mD];exact hf.lJ j hr'
theorem EY:∀{fs:List bA} {frs:List Frame} {ks:List (List Nat)},(∀i∈kY ks fs,i∈l)→wZ w S m fs frs→wZ w (S.ren l) (m.ren l) (fX l ks fs) frs
 | [],frs,ks,_,h=>by rw[fX];exact h
 | f::fs,frs,ks,hl,h=>by
   obtain⟨fr,r,rfl,h1,h2⟩:=h
   rw[fX]
   have hl':∀i,i∈f.marks++((match f.da with|some l=>[l]|none=>[])++(f.todo.flatMap iY++kY ks.tail fs))→i∈l:=fun i hi=>hl i (by rw[kY];exact List.mem_append.2 (.inr hi))
   refine⟨fr,r,rfl,PX h1 (fun i hi=>hl' i (List.mem_append.2 (.inl hi))) (fun i hi=>hl' i (List.mem_append.2 (.inr (List.mem_append.2 (.inl ?_))))) (fun i hi=>hl' i (List.mem_append.2 (.inr (List.mem_append.2 (.inr (List.mem_append.2 (.inl hi))))))),
    EY (fun i hi=>hl' i (List.mem_append.2 (.inr (List.mem_append.2 (.inr (List.mem_append.2 (.inr hi))))))) h2⟩
   rw[hi];exact List.mem_singleton.2 rfl
theorem Fy{f0:FuncId}:∀{fs:List bA} {ks:List (List Nat)},tN f0 fs→tN f0 (fX l ks fs)
 | [],ks,h=>h.elim
 | [f],ks,h=>h
 | f::g::r,ks,h=>by
   rw[fX,fX]
   have:=Fy (fs:=g::r) (ks:=ks.tail) h
   rw[fX] at this
   exact this
theorem wK{P:Program}{R:Type}{E:gp R}{I0:Nat→Prop}{f0:FuncId}{Fin:R→Value→World→Prop}{Q:R→Prop}(ks:List (List Nat))(f:bA)(fs:List bA)(m:Mem)(hd:∀a∈f.todo.head?,a.vz=false)
  (h:Good P E w0 I0 f0 Fin Q (canon ks {frames:=f::fs,mem:=m})):Good P E w0 I0 f0 Fin Q {frames:=f::fs,mem:=m}:=by
 intro _ S fr frs cs w hW hI hf hB
 obtain⟨h1,h2,h3⟩:=ov (acc:=[]) (r:=kY ks (f::fs)) List.nodup_nil
 obtain⟨h4,h5⟩:=s_ (f:=m.length+1) (m:=m) (p:=0) h1
 refine h ?_ (S.ren (kz (m.length+1) m (lC [] (kY ks (f::fs))) 0)) fr frs cs w (Ri hW h4) hI (EY (fun i hi=>h5 i (h3 i hi)) hf) (Fy hB)
 unfold kP canon
 simp only[fX]
 split
 ·rename_i all ms rest bs k he
  cases ht:f.todo with
  | nil=>rw[ht] at he;cases he
  | cons a k'=>
    rw[ht] at he
    have hda:=hd a (by rw[ht];rfl)
    simp only[List.map_cons,List.cons.injEq] at he
    have:(kZ (kz (m.length+1) m (lC [] (kY ks (f::fs))) 0) a).vz=true:=by rw[he.1];rfl
    rw[sZ,hda] at this
    cases this
 ·trivial
end
end Go.Ev
namespace Go.Ev
section
variable {P:Program} {R:Type} {E:gp R} {w0:World} {I0:Nat→Prop} {f0:FuncId} {Fin:R→Value→World→Prop} {Q:R→Prop}
theorem y5(hP:Fits P E Fin w0 I0){n:Nat}(ih:∀c,Tr.Ok Q (Good P E w0 I0 f0 Fin Q) (run aj E n c)→Good P E w0 I0 f0 Fin Q c)
  {w:World} {S:St} {m:Mem} {fr:Frame} {fs:List bA} {frs cs:List Frame} {f:bA} {jump:Option Code}
  (h:Tr.Ok Q (Good P E w0 I0 f0 Fin Q) (match f.da with
    | none=>match i7 f.marks m with
      | none=>.bad 139 ""
      | some m=>match look E.nC f.fn with
        | none=>.bad 141 ""
        | some F=>match gH aj E f.env m F.results.toList with
          | none=>.bad 142 ""
          | some vs=>match fs with
            | []=>match E.fin (fP vs) m with
              | some y=>.ret y
              | none=>.bad 143 ""
            | g::gs=>match finish g (fP vs) with
              | some g=>mG aj E g m (run aj E n {frames:=g::gs,mem:=m})
              | none=>.bad 144 ""
    | some l=>match m.at l with
      | .loop r=>match fs with
        | g::gs=>match finish g (.bool true (y1 jump)) with
          | some g=>mG aj E g (m.set l (.loop {r with state:=xh jump,pending:=jump})) (run aj E n {frames:=g::gs,mem:=m.set l (.loop {r with state:=xh jump,pending:=jump})})
          | none=>.bad 145 ""
        | []=>.bad 146 ""
      | _=>.bad 147 ""))
  (hnh:∀x,¬Hid f fr x) (hret:f.da=none→step P (lone fr (frs++cs) w)=.next (lone {fr with mode:=.returning} (frs++cs) w))
  (ht:f.da≠none→(fr.todo=[]∧jump=none)∨(∃k,fr.todo=.code .ret::k∧jump=some .ret)∨(∃id k,fr.todo=.code (.exit id)::k∧exitTo id k=none∧jump=some (.exit id))∨(∃id k,fr.todo=.code (.goto id)::k∧gotoIn id k=none∧jump=some (.goto id)))
  (hW:WR w0 w S m) (hI:∀b,S.I b→I0 b∨w0.heap.size≤b) (hf:FR w S m f fr) (hfs:wZ w S m fs frs) (hB:tN f0 (f::fs)) :
  Ends P f0 Fin Q fr frs cs w:=by
 cases hr:f.da with
 | none=>
   rw[hr] at h
   exact B4 hP ih h hnh (hret hr) hW hI hf hfs hB
 | some l=>
   rw[hr] at h
   exact nE ih hr h (ht (by rw[hr];intro e;cases e)) hW hI hf hfs hB
theorem sP(hP:Fits P E Fin w0 I0):∀(n:Nat) (c:gB),Tr.Ok Q (Good P E w0 I0 f0 Fin Q) (run aj E n c)→Good P E w0 I0 f0 Fin Q c
 | 0,c,h=>by rw[run] at h;exact h
 | n+1,c,h=>by
   have ih:=sP hP n
   obtain⟨frames,m⟩:=c
   intro hst S fr frs cs w hW hI hF hB
   cases frames with
   | nil=>exact hB.elim
   | cons f fs=>
     obtain⟨fr',frs',e,hf,hfs⟩:=hF
     cases e
     obtain⟨fn,nn,env,todo,marks,da⟩:=f
     cases todo with
     | nil=>
       have ht:fr.todo=[]:=hf.todo
       refine y5 (jump:=none) hP ih ?_ (fun x=>ik fun a ha=>by cases ha) (fun hr=>M_ hf.mode (by rw[hf.da,hr];rfl) ht) (fun _=>.inl ⟨ht,rfl⟩) hW hI hf hfs hB
       simp only[run] at h
       exact h
     | cons i k=>
       obtain⟨it,kc,ht,h1,h2⟩:=hf.todo.cons_inv
       have plain:=fun hi=>Gz (wK (P:=P) (E:=E) (I0:=I0) (f0:=f0) (Fin:=Fin) (Q:=Q)) ih (i:=i) (k:=k) hi h hst hW hI hf hfs hB (cs:=cs)
       have hnh:i.vz=false→∀x,¬Hid ⟨fn,nn,env,i::k,marks,da⟩ fr x:=fun hne x=>ik fun a ha=>by cases ha;exact hne
       cases i with
       | inBlock id=>exact plain trivial
       | inLoop b=>exact plain trivial
       | inScope b=>exact plain trivial
       | jf l=>simp only[run] at h;exact h.elim
       | ll all ms i rest bs=>simp only[run] at h;exact h.elim
       | ir l=>exact GH ih h hW hI hf hfs hB
       | beginRound=>exact GA ih h hW hI hf hfs hB
       | ops all rest=>
         cases rest with
         | nil=>exact plain trivial
         | cons o rest=>exact NQ hP ih h hW hI hf hfs hB
       | e_ all ms rest bs=>
         cases rest with
         | nil=>exact Gf hP ih h hst hW hI hf hfs hB
         | cons i rest=>exact Iy hP ih h hst hW hI hf hfs hB
       | code x=>
         have h1:it=.code x:=h1
         subst h1
         cases x with
         | skip=>exact plain trivial
         | label l=>exact plain trivial
         | seq a b=>exact plain trivial
         | cond x a b=>exact plain trivial
         | block id b=>exact plain trivial
         | loop b=>exact plain trivial
         | scope b=>exact plain trivial
         | refuse why=>simp only[run] at h;exact h.elim
         | region id os draw=>
           cases draw with
           | false=>exact plain trivial
           | true=>exact Cf hP (wK (P:=P) (E:=E) (I0:=I0) (f0:=f0) (Fin:=Fin) (Q:=Q)) ih h hst hW hI hf hfs hB
         | rangeFunc x ps a b=>exact ya hP ih h hW hI hf hfs hB
         | ret=>
           refine y5 (jump:=some .ret) hP ih ?_ (hnh rfl) (fun hr=>ND hf.mode (by rw[hf.da,hr];rfl) ht) (fun _=>.inr (.inl ⟨kc,ht,rfl⟩)) hW hI hf hfs hB
           simp only[run] at h
           exact h
         | exit id=>
           simp only[run] at h
           cases he:fY id k with
           | some k'=>
             rw[he] at h
             obtain⟨kc',e1,e2,e3,e4⟩:=re (m:=m) h2 he
             exact eQ hW hI hf hfs hB (hnh rfl) (NO hf.mode ht e1) e2 (e3 hf.live.tail) (fun a ha=>hf.flat a (e4 a ha)) (ih _ h)
           | none=>
             rw[he] at h
             simp only at h
             have e1:=nQ h2 he
             cases da with
             | none=>exact h.elim
             | some l=>simp only at h;exact nE (f:=⟨fn,nn,env,.code (.exit id)::k,marks,some l⟩) (jump:=some (.exit id)) ih rfl h (.inr (.inr (.inl ⟨id,kc,ht,e1,rfl⟩))) hW hI hf hfs hB
         | goto id=>
           simp only[run] at h
           cases he:fZ id k with
           | some k'=>
             rw[he] at h
             obtain⟨kc',e1,e2,e3,e4⟩:=qO (m:=m) h2 he
             exact eQ hW hI hf hfs hB (hnh rfl) (MO hf.mode ht e1) e2 (e3 hf.live.tail) (fun a ha=>(e4 a ha).elim (hf.flat a) fun h=>h) (ih _ h)
           | none=>
             rw[he] at h
             simp only at h
             have e1:=nK h2 he
             cases da with
             | none=>exact h.elim
             | some l=>simp only at h;exact nE (f:=⟨fn,nn,env,.code (.goto id)::k,marks,some l⟩) (jump:=some (.goto id)) ih rfl h (.inr (.inr (.inr ⟨id,kc,ht,e1,rfl⟩))) hW hI hf hfs hB
end
end Go.Ev
namespace Go.Ev
mutual
def Ty.has:(t:Ty)→t.T→Prop
 | .int k,x=>k.has x
 | .bool,_=>True
 | .str,x=>(show List UInt8 from x).length≤dx
 | .slice t,x=>(show List t.T from x).length≤dx∧∀y∈(show List t.T from x),Ty.has t y
 | .arr n t,x=>(show List t.T from x).length=n∧∀y∈(show List t.T from x),Ty.has t y
 | .struct ts,x=>Ty.dK ts x
def Ty.dK:(ts:List Ty)→Ty.Ts ts→Prop
 | [],_=>True
 | [t],x=>Ty.has t x
 | t::t2::ts,x=>Ty.has t (Prod.fst (α:=t.T) (β:=Ty.Ts (t2::ts)) x)∧Ty.dK (t2::ts) (Prod.snd (α:=t.T) (β:=Ty.Ts (t2::ts)) x)
end
section
variable {w:World} {I:Nat→Prop}
mutual
theorem a_.has:∀(t:Ty) {cs:List Value} {x:t.T},a_ w I t cs x→t.has x
 | .int k,cs,x,h=>by rw[Ty.has];exact(kq.1 h).2
 | .bool,cs,x,h=>by rw[Ty.has];trivial
 | .str,cs,x,h=>by rw[Ty.has];exact(qt.1 h).2
 | .slice t,cs,x,h=>by
   rw[Ty.has]
   obtain⟨a,cap,h1,h2,h3,h4,h5⟩:=cm.1 h
   refine⟨h3,fun y hy=>?_⟩
   obtain⟨i,hi⟩:=List.getElem?_of_mem hy
   obtain⟨b,off,us,_,_,_,_,hr⟩:=h5 i y hi
   exact a_.has t hr
 | .arr n t,cs,x,h=>by
   rw[Ty.has]
   obtain⟨h1,h2,h3⟩:=q_.1 h
   refine⟨h1,fun y hy=>?_⟩
   obtain⟨i,hi⟩:=List.getElem?_of_mem hy
   exact a_.has t (h3 i y hi)
 | .struct ts,cs,x,h=>by rw[Ty.has];exact c_.has ts (ob.1 h)
theorem c_.has:∀(ts:List Ty) {cs:List Value} {x:Ty.Ts ts},c_ w I ts cs x→Ty.dK ts x
 | [],cs,x,h=>by rw[Ty.dK];trivial
 | [t],cs,x,h=>by rw[Ty.dK];exact a_.has t (sr.1 h)
 | t::t2::ts,cs,x,h=>by
   rw[Ty.dK]
   rw[c_] at h
   obtain⟨us,vs,_,h1,h2⟩:=h
   exact⟨a_.has t h1,c_.has (t2::ts) h2⟩
end
theorem jv.has{t:Ty}{v:Value}{x:t.T}(h:jv w I t v x):t.has x:=by
 unfold jv at h
 split at h
 ·obtain⟨us,_,h⟩:=h;exact h.has
 ·exact h.has
theorem iT.has:∀{ts:List Ty} {vs:List Value} {x:Ty.Ts ts},iT w I ts vs x→Ty.dK ts x
 | [],vs,x,h=>by rw[Ty.dK];trivial
 | [t],vs,x,h=>by
   rw[Ty.dK]
   rw[iT] at h
   obtain⟨v,_,h⟩:=h
   exact h.has
 | t::t2::ts,vs,x,h=>by
   rw[Ty.dK]
   rw[iT] at h
   obtain⟨v,r,_,h1,h2⟩:=h
   exact⟨h1.has,h2.has⟩
end
theorem Dj{os:Array Oper}:(List.range os.size).map (fun i=>os[i]?)=os.toList.map some:=by
 apply List.ext_getElem?
 intro j
 have e:os.toList[j]? = os[j]? :=Array.getElem?_toList
 rw[List.getElem?_map,List.getElem?_map,e]
 by_cases hj:j<os.size
 ·rw[List.getElem?_range hj,Option.map_some,Array.getElem?_eq_getElem hj];rfl
 ·rw[List.getElem?_eq_none (by simpa using hj),Array.getElem?_eq_none (by omega)];rfl
structure Closed{R:Type}(E:gp R)(Q:R→Prop)(G:gB→Prop):Prop where
 go:∀(n:Nat) (c:gB),Tr.Ok Q G (run aj E n (advance E.jA c))→G c
section
variable {P:Program} {R:Type} {E:gp R} {w0:World} {I0:Nat→Prop} {f0:FuncId} {Fin:R→Value→World→Prop} {Q:R→Prop}
theorem AF(hP:Fits P E Fin w0 I0){c:gB}(hg:Good P E w0 I0 f0 Fin Q (advance E.jA c)):Good P E w0 I0 f0 Fin Q c:=by
 obtain⟨frames,m⟩:=c
 cases frames with
 | nil=>exact hg
 | cons f fs=>
   obtain⟨fn,nn,env,todo,marks,da⟩:=f
   cases todo with
   | nil=>exact hg
   | cons i k=>
     cases i with
     | inLoop b=>
       intro _ S fr frs cs w hW hI hF hB
       obtain⟨fr',frs',e,hf,hfs⟩:=hF
       cases e
       obtain⟨it,kc,ht,h1,h2⟩:=hf.todo.cons_inv
       have h1:it=.inLoop b∨it=.code (.loop b):=h1
       have hst:step P (lone fr (frs++cs) w)=.next (lone {fr with todo:=.code b :: .inLoop b::kc} (frs++cs) w):=by
        rcases h1 with rfl|rfl
        ·exact zU hf.mode ht
        ·exact FG hf.mode ht
       refine eQ hW hI hf hfs hB (fun x=>ik fun a ha=>by cases ha;rfl) hst h2.inLoop.code (.mk trivial (.mk trivial hf.live.tail)) (fun a ha=>?_) hg
       rcases List.mem_cons.1 ha with rfl|ha
       ·rfl
       ·rcases List.mem_cons.1 ha with rfl|ha
        ·rfl
        ·exact hf.flat a ha
     | code x=>
       cases x with
       | region id os draw=>
         cases draw with
         | false=>
           intro _ S fr frs cs w hW hI hF hB
           obtain⟨fr',frs',e,hf,hfs⟩:=hF
           cases e
           obtain⟨it,kc,ht,h1,h2⟩:=hf.todo.cons_inv
           have h1:it=.code (.region id os false):=h1
           subst h1
           refine eQ hW hI hf hfs hB (fun x=>ik fun a ha=>by cases ha;rfl) (y7 hf.mode ht) (.mk (a:=.ops os os.toList) ⟨_,rfl,Dj⟩ h2) (.mk trivial hf.live.tail) (fun a ha=>?_) hg
           rcases List.mem_cons.1 ha with rfl|ha
           ·rfl
           ·exact hf.flat a ha
         | true=>
           simp only[advance] at hg
           cases hd:i_ E.jA os with
           | none=>rw[hd] at hg;exact hg
           | some q=>
             obtain⟨ms,is⟩:=q
             rw[hd] at hg
             intro _ S fr frs cs w hW hI hF hB
             obtain⟨fr',frs',e,hf,hfs⟩:=hF
             cases e
             exact vR hP hd hg hW hI hf hfs hB
       | _=>exact hg
     | _=>exact hg
theorem Cp(hP:Fits P E Fin w0 I0):Closed E Q (Good P E w0 I0 f0 Fin Q):=
 ⟨fun n c h=>AF hP (sP hP n _ h)⟩
def Uv(w0:World)(I0:Nat→Prop)(res:List Ty)(y:Ty.Ts res)(v:Value)(w':World):Prop:=
 w'.os=w0.os∧w'.tape=w0.tape∧w'.output=w0.output∧w0.heap.size≤w'.heap.size∧(∀b,b<w0.heap.size→w'.heap[b]? = w0.heap[b]?)∧
  ∃I',(∀b,I' b→I0 b∨(w0.heap.size≤b∧b<w'.heap.size))∧BE w' I' res v y
theorem Eg{S:St}{w:World}{m:Mem}{av:AV}{res:List Ty}{y:Ty.Ts res}{v:Value}(hW:WR w0 w S m)(hI:∀b,S.I b→I0 b∨w0.heap.size≤b)(h:II aj res av m=some y)(hc:CR w S m av v):Uv w0 I0 res y v w:=by
 have main:∀(vs:List AV) (us:List Value),jd res vs=true→bP w S m vs us→(match iD aj res m (vs.flatMap AV.cells) with
   | none=>none
   | some (_,cs)=>match sH res cs with
     | some (y, [])=>some y
     | _=>none)=some y→∃I',(∀b,I' b→I0 b∨(w0.heap.size≤b∧b<w.heap.size))∧iT w I' res us y:=by
  intro vs us hok hcs h
  obtain⟨L,hL,hrep⟩:=vB hok hcs
  cases hf:iD aj res m (vs.flatMap AV.cells) with
  | none=>rw[hf] at h;cases h
  | some q=>
    obtain⟨m1,cs1⟩:=q
    rw[hf] at h
    simp only at h
    obtain⟨S1,s1,hc1⟩:=oo hW hf hL
    cases htd:sH res cs1 with
    | none=>rw[htd] at h;cases h
    | some q=>
      obtain⟨x,r⟩:=q
      rw[htd] at h
      cases r with
      | cons _ _=>cases h
      | nil=>
        cases h
        obtain⟨u1,u2,e,hx,hr⟩:=qG res htd hc1
        have hu2:=bX.1 hr
        rw[hu2,List.append_nil] at e
        rw[←e] at hx
        refine⟨S1.I,fun b hb=>?_,hrep _ y hx⟩
        rcases s1.grows b hb with h|h
        ·rcases hI b h with h|h
         ·exact .inl h
         ·exact .inr ⟨h,s1.wr.oC b hb⟩
        ·exact .inr ⟨h,s1.wr.oC b hb⟩
 refine⟨hW.os,hW.tape,hW.output,hW.size,hW.base,?_⟩
 unfold II at h
 match res,y,h,main with
 | [],y,h1,main=>
   obtain⟨vs,rfl⟩:∃vs,av=.tJ vs:=by cases av<;>first|exact⟨_,rfl⟩|(exact absurd h1 (fun e=>by cases e))
   obtain⟨us,rfl,hcs⟩:=i6.1 hc
   simp only at h1
   cases hok:jd [] vs with
   | false=>rw[hok] at h1;cases h1
   | true=>
     rw[hok] at h1
     obtain⟨I',k1,k2⟩:=main vs us.toList hok hcs h1
     rw[iT] at k2
     exact⟨I',k1,by rw[BE,Array.toList_eq_nil_iff.1 k2]⟩
 | [t],y,h1,main=>
   simp only at h1
   cases hok:jd [t] [av] with
   | false=>rw[hok] at h1;cases h1
   | true=>
     rw[hok] at h1
     obtain⟨I',k1,k2⟩:=main [av] [v] hok (du.2 ⟨v, [],rfl,hc,bX.2 rfl⟩) h1
     rw[iT] at k2
     obtain⟨v',e,k2⟩:=k2
     cases e
     exact⟨I',k1,by rw[BE];exact k2⟩
 | t::t2::ts,y,h1,main=>
   obtain⟨vs,rfl⟩:∃vs,av=.tJ vs:=by cases av<;>first|exact⟨_,rfl⟩|(exact absurd h1 (fun e=>by cases e))
   obtain⟨us,rfl,hcs⟩:=i6.1 hc
   simp only at h1
   cases hok:jd (t::t2::ts) vs with
   | false=>rw[hok] at h1;cases h1
   | true=>
     rw[hok] at h1
     obtain⟨I',k1,k2⟩:=main vs us.toList hok hcs h1
     exact⟨I',k1,by rw[BE];exact⟨us,rfl,k2⟩⟩
structure Base{R:Type}(P:Program)(E:gp R):Prop where
 ti:gv P E.ti
 nC:∀g F,look E.nC g=some F→P.funcs[g]? = some F∧(F.name == "runtime.NumGoroutine")=false
 jA:∀g s,look E.jA g=some s→s.Sound P g
 mixed:P.follows .mixedOrders=true
theorem KD{w:World}{I:Nat→Prop}(hI:∀b,I b→b<w.heap.size):WR w w {σ:=fun _=>0,δ:=fun _=>0,I:=I} []:=
 ⟨rfl,rfl,rfl,Nat.le_refl _,fun _ _=>rfl,hI,fun _=>trivial,fun _ _ h=>(by cases h),fun _ h=>(by cases h),fun _ h=>(by cases h),fun _ h=>(by cases h)⟩
theorem AI{g:FuncId}{F:Func}{s:aD}{E:gp (Ty.Ts s.res)}(hE:Base P E)(hfin:E.fin=II aj s.res)(hg:look E.nC g=some F)(hb:F.body.isSome=true)(n:Nat)
  (h:∀x,s.pre x=true→Ty.dK s.args x→∃h0,iE g F (kR aj s.args x)=some h0∧∀G,Closed E (fun y=>y=s.fn x) G→Tr.Ok (fun y=>y=s.fn x) G (run aj E n {frames:=[h0],mem:=[]})):s.Sound P g:=by
 obtain⟨hF,hn⟩:=hE.nC g F hg
 refine⟨fun w I x aa hI hrep hpre cs=>?_,F,hF,hb,hn⟩
 obtain⟨h0,hen,hok⟩:=h x hpre hrep.has
 have hP:Fits P E (Uv w I s.res) w I:=⟨hE.ti,hE.nC,hE.jA,hE.mixed,fun S w' m av y v hW hI' hf hc=>Eg hW hI' (by rw[←hfin];exact hf) hc⟩
 have hgood:=sP hP (Q:=fun y=>y=s.fn x) (f0:=g) n _ (hok _ (Cp hP))
 have hW:=KD hI
 obtain⟨hfr,_,hnd⟩:=mE hF hen (wm (S:={σ:=fun _=>0,δ:=fun _=>0,I:=I}) (m:=[]) (fun b hb=>hb) hrep)
 have hB:tN g [h0]:=by
  unfold iE at hen
  cases hbb:F.body with
  | none=>rw[hbb] at hen;cases hen
  | some b=>
    rw[hbb] at hen
    simp only at hen
    split at hen
    ·cases hen;exact(rfl:g=g)
    ·cases hen
 obtain⟨y,v,w',fr',hy,hfi,hsteps,hfn,hleave⟩:=hgood (ft hnd) _ _ [] cs w hW (fun b hb=>.inl hb) ⟨_,_,rfl,hfr,rfl⟩ hB
 obtain⟨g1,g2,g3,g4,g5,I',g6,g7⟩:=hfi
 exact⟨.returned v,w',fr',⟨v,rfl,g1,g2,g3,g4,g5,I',g6,by rw[←hy];exact g7⟩,hsteps,hfn,hleave⟩
end
end Go.Ev
namespace Go.Ev
inductive LT (R Y:Type) where
 | ret (r:R)
 | more (y:Y)
 | br (b:Bool) (t e:LT R Y)
 | need (b:Bool) (t:LT R Y)
 | eqs (p:Prop) (t:LT R Y)
 | bad (n:Nat) (pos:String)
def LT.tr{R Y:Type}(cfg:Y→gB):LT R Y→Tr R
 | .ret r=>.ret r
 | .more y=>.more (cfg y)
 | .br b t e=>.br b (t.tr cfg) (e.tr cfg)
 | .need b t=>.need b (t.tr cfg)
 | .eqs p t=>.eqs p (t.tr cfg)
 | .bad n s=>.bad n s
def Tr.full{R:Type}:Tr R→Tr R
 | .br b t e=>.br b t.full e.full
 | .need b t=>.need b t.full
 | .eqs p t=>.eqs p t.full
 | .same l r t=>.eqs (iL l r) t.full
 | t=>t
def AV.alike:AV→AV→Bool
 | .bool c _,.bool d _=>c==d
 | .int _ c _,.int _ d _=>c==d
 | _,_=>true
def Tr.Ak{R:Type}:Tr R→Tr R
 | .br b t e=>.br b t.Ak e.Ak
 | .need b t=>.need b t.Ak
 | .eqs p t=>.eqs p t.Ak
 | .same l r t=>match l.alike r with
   | true=>t.Ak
   | false=>.eqs (iL l r) t.Ak
 | t=>t
def Tr.lefts{R:Type}:Tr R→List AV→List AV
 | .br _ t e,k=>t.lefts (e.lefts k)
 | .need _ t,k=>t.lefts k
 | .eqs _ t,k=>t.lefts k
 | .same l r t,k=>match l.alike r with
   | true=>l::t.lefts k
   | false=>t.lefts k
 | _,k=>k
def Tr.mh{R:Type}:Tr R→List AV→List AV
 | .br _ t e,k=>t.mh (e.mh k)
 | .need _ t,k=>t.mh k
 | .eqs _ t,k=>t.mh k
 | .same l r t,k=>match l.alike r with
   | true=>r::t.mh k
   | false=>t.mh k
 | _,k=>k
theorem Tr.oA{R:Type}{Q:R→Prop}{G:gB→Prop}:∀{t:Tr R},Tr.Ok Q G t.full→Tr.Ok Q G t
 | .ret _,h | .more _,h | .bad _ _,h=>h
 | .br _ t e,h=>⟨fun k=>Tr.oA (t:=t) (h.1 k),fun k=>Tr.oA (t:=e) (h.2 k)⟩
 | .need _ t,h=>⟨h.1,Tr.oA (t:=t) h.2⟩
 | .eqs _ t,h=>⟨h.1,Tr.oA (t:=t) h.2⟩
 | .same _ _ t,h=>⟨h.1,Tr.oA (t:=t) h.2⟩
theorem Tr.mf{R:Type}{Q:R→Prop}{G:gB→Prop}:∀{t:Tr R} {k k':List AV},t.lefts k=t.mh k'→k=k'∧(Tr.Ok Q G t.Ak→Tr.Ok Q G t)
 | .ret _,_,_,h | .more _,_,_,h | .bad _ _,_,_,h=>⟨h,fun x=>x⟩
 | .br _ t e,_,_,h=>by
   obtain⟨h1,h2⟩:=Tr.mf (t:=t) h
   obtain⟨h3,h4⟩:=Tr.mf (t:=e) h1
   exact⟨h3,fun x=>⟨fun k=>h2 (x.1 k),fun k=>h4 (x.2 k)⟩⟩
 | .need _ t,_,_,h=>by
   obtain⟨h1,h2⟩:=Tr.mf (t:=t) h
   exact⟨h1,fun x=>⟨x.1,h2 x.2⟩⟩
 | .eqs _ t,_,_,h=>by
   obtain⟨h1,h2⟩:=Tr.mf (t:=t) h
   exact⟨h1,fun x=>⟨x.1,h2 x.2⟩⟩
 | .same l r t,_,_,h=>by
   simp only[Tr.lefts,Tr.mh] at h
   simp only[Tr.Ak]
   cases ha:l.alike r with
   | true=>
     rw[ha] at h
     simp only[List.cons.injEq] at h
     obtain⟨h1,h2⟩:=Tr.mf (t:=t) h.2
     exact⟨h1,fun x=>⟨h.1▸tP l,h2 x⟩⟩
   | false=>
     rw[ha] at h
     obtain⟨h1,h2⟩:=Tr.mf (t:=t) h
     exact⟨h1,fun x=>⟨x.1,h2 x.2⟩⟩
@[reducible] def Tr.Is {R:Type} (q:Bool) (t u:Tr R):Prop:=match q with
 | true=>t.Ak=u∧t.lefts []=t.mh []
 | false=>t.full=u
theorem zf{R:Type}{t u:Tr R}(h:t.full=u):Tr.Is false t u:=h
theorem Tr.Is.ok{R:Type}{q:Bool}{Q:R→Prop}{G:gB→Prop}{t u:Tr R}(h:Tr.Is q t u)(hu:Tr.Ok Q G u):Tr.Ok Q G t:=by
 cases q with
 | true=>exact(Tr.mf h.2).2 (h.1▸hu)
 | false=>exact Tr.oA (show Tr.Ok Q G t.full from(show t.full=u from h)▸hu)
inductive aA {R Y:Type} (step:Y→LT R Y):LT R Y→R→Prop where
 | ret (r:R):aA step (.ret r) r
 | more {y:Y} {r:R} (h:aA step (step y) r):aA step (.more y) r
 | br {b:Bool} {t e:LT R Y} {r:R} (h:aA step (bif b then t else e) r):aA step (.br b t e) r
 | need {b:Bool} {t:LT R Y} {r:R} (hb:b=true) (h:aA step t r):aA step (.need b t) r
 | eqs {p:Prop} {t:LT R Y} {r:R} (hp:p) (h:aA step t r):aA step (.eqs p t) r
section
variable {R Y:Type} {step:Y→LT R Y} {r:R}
theorem fj{r':R}:aA step (.ret r') r↔r'=r:=⟨fun h=>by cases h;rfl,fun h=>by rw[h];exact .ret r⟩
theorem al{y:Y}:aA step (.more y) r↔aA step (step y) r:=⟨fun h=>by cases h;assumption,.more⟩
theorem lg{b:Bool}{t e:LT R Y}:aA step (.br b t e) r↔aA step (bif b then t else e) r:=⟨fun h=>by cases h;assumption,.br⟩
theorem af{b:Bool}{t:LT R Y}:aA step (.need b t) r↔b=true∧aA step t r:=⟨fun h=>by cases h;exact⟨by assumption,by assumption⟩,fun h=>.need h.1 h.2⟩
theorem fe{p:Prop}{t:LT R Y}:aA step (.eqs p t) r↔p∧aA step t r:=⟨fun h=>by cases h;exact⟨by assumption,by assumption⟩,fun h=>.eqs h.1 h.2⟩
theorem ai{b:Bool}{t e:LT R Y}(hb:b=true):aA step (.br b t e) r↔aA step t r:=by rw[lg,hb];rfl
theorem ah{b:Bool}{t e:LT R Y}(hb:b=false):aA step (.br b t e) r↔aA step e r:=by rw[lg,hb];rfl
end
theorem N2{R Y:Type}{E:gp R}{Q:R→Prop}{G:gB→Prop}{cfg:Y→gB}{step:Y→LT R Y}{q:Bool}(hstep:∀y,∃n,Tr.Is q (run aj E n (advance E.jA (cfg y))) ((step y).tr cfg))(hG:Closed E Q G){t:LT R Y}{r:R}(h:aA step t r)(hr:Q r):Tr.Ok Q G (t.tr cfg):=by
 induction h with
 | ret r=>exact hr
 | more h ih=>
   rename_i y _
   obtain⟨n,hn⟩:=hstep y
   exact hG.go n _ (hn.ok (ih hr))
 | br h ih=>
   rename_i b t e _
   cases b with
   | true=>exact⟨fun _=>ih hr,fun h=>(by cases h)⟩
   | false=>exact⟨fun h=>(by cases h),fun _=>ih hr⟩
 | need hb h ih=>exact⟨hb,ih hr⟩
 | eqs hp h ih=>exact⟨hp,ih hr⟩
structure Walk(P:Program)(g:FuncId)(args res:List Ty)(Y:Type) where
 start:Ty.Ts args→LT (Ty.Ts res) Y
 step:Y→LT (Ty.Ts res) Y
structure Walk.Ok{P:Program}{g:FuncId}{args res:List Ty}{Y:Type}(W:Walk P g args res Y):Prop where
 sound:∀(pre:Ty.Ts args→Bool) (fn:Ty.Ts args→Ty.Ts res),(∀x,pre x=true→Ty.dK args x→aA W.step (W.start x) (fn x))→aD.Sound P g ⟨args,res,pre,fn⟩
theorem qz:∀{ts:List Ty} {x:Ty.Ts ts},(kR aj ts x).length=ts.length
 | [],_=>rfl
 | [_],_=>rfl
 | t::t2::ts,x=>by
   rw[kR,List.length_cons,qz];rfl
theorem Cg{g:FuncId}{F:Func}{aa:List AV}(hb:F.body.isSome=true)(h1:aa.length≤F.ntmps)(h2:F.ntmps≤65535):∃h0,iE g F aa=some h0:=by
 unfold iE
 cases hF:F.body with
 | none=>rw[hF] at hb;cases hb
 | some b=>
   simp only[Nat.ble_eq_true_of_le h1,Nat.ble_eq_true_of_le h2]
   exact⟨_,rfl⟩
theorem NH{P:Program}{g:FuncId}{F:Func}{args res:List Ty}{Y:Type}{E:gp (Ty.Ts res)}(hE:Base P E)(hfin:E.fin=II aj res)(hg:look E.nC g=some F)(hb:F.body.isSome=true)
  (hl:(Nat.ble args.length F.ntmps&&Nat.ble F.ntmps 65535)=true) (W:Walk P g args res Y) (cfg:Y→gB) {q:Bool} (n:Nat) (hstart:∀x,Tr.Is q (run aj E n (vg g F (kR aj args x))) ((W.start x).tr cfg))
  (hstep:∀y,∃n,Tr.Is q (run aj E n (advance E.jA (cfg y))) ((W.step y).tr cfg)):W.Ok:=
 ⟨fun pre fn hr=>AI (s:=⟨args,res,pre,fn⟩) hE hfin hg hb n fun x hp hx=>by
  rw[Bool.and_eq_true] at hl
  obtain⟨h0,hen⟩:=Cg (g:=g) (aa:=kR aj args x) hb (by rw[qz];exact Nat.le_of_ble_eq_true hl.1) (Nat.le_of_ble_eq_true hl.2)
  refine⟨h0,hen,fun G hG=>?_⟩
  have h:=hstart x
  rw[vg,hen] at h
  exact h.ok (N2 hstep hG (hr x hp hx) rfl)⟩
theorem M9{P:Program}:∀g F,look ([]:List (FuncId×Func)) g=some F→P.funcs[g]? = some F∧(F.name == "runtime.NumGoroutine")=false:=fun _ _ h=>by cases h
theorem Jm{P:Program}{f:FuncId}{F:Func}{l:List (FuncId×Func)}(h1:P.funcs[f]? = some F)(h2:(F.name == "runtime.NumGoroutine")=false)(h:∀g F,look l g=some F→P.funcs[g]? = some F∧(F.name == "runtime.NumGoroutine")=false) :
  ∀g G,look ((f,F)::l) g=some G→P.funcs[g]? = some G∧(G.name == "runtime.NumGoroutine")=false:=fun g G hg=>by
 rw[look] at hg
 by_cases e:f=g
 ·subst e;rw[cu.2 rfl] at hg;cases hg;exact⟨h1,h2⟩
 ·rw[cq.2 e] at hg;exact h g G hg
theorem L4{P:Program}:∀g s,look ([]:List (FuncId×aD)) g=some s→s.Sound P g:=fun _ _ h=>by cases h
theorem J3{P:Program}{f:FuncId}{s:aD}{l:List (FuncId×aD)}(h1:s.Sound P f)(h:∀g s,look l g=some s→s.Sound P g):∀g s',look ((f,s)::l) g=some s'→s'.Sound P g:=fun g s' hg=>by
 rw[look] at hg
 by_cases e:f=g
 ·subst e;rw[cu.2 rfl] at hg;cases hg;exact h1
 ·rw[cq.2 e] at hg;exact h g s' hg
def tt{α:Type}:α→Bool:=fun _=>true
theorem aD.Sound.congr{P:Program}{g:FuncId}{args res:List Ty}{pre pre':Ty.Ts args→Bool}{fn fn':Ty.Ts args→Ty.Ts res}(h:aD.Sound P g ⟨args,res,pre,fn⟩)
  (he:∀x,pre' x=true→Ty.dK args x→pre x=true∧fn x=fn' x):aD.Sound P g ⟨args,res,pre',fn'⟩:=by
 refine⟨fun w I x aa hI hrep hpre=>?_,h.body⟩
 obtain⟨h1,h2⟩:=he x hpre hrep.has
 have:=h.calls w I x aa hI hrep h1
 simp only at this ⊢
 rw[h2] at this
 exact this
def Y2(ti:PT TI)(A:bi)(res:List Ty)(nC:List (FuncId×Func))(jA:List (FuncId×aD))(stops p8:List Stop):gp (Ty.Ts res):=⟨ti,nC,jA,stops,p8, [],II A res⟩
def zu(P:Program)(l:List (FuncId×Func)):Prop:=∀g F,look l g=some F→P.funcs[g]? = some F∧(F.name == "runtime.NumGoroutine")=false
def zq(P:Program)(l:List (FuncId×aD)):Prop:=∀g s,look l g=some s→s.Sound P g
theorem fz{P:Program}:zu P []:=M9
theorem fc{P:Program}{f:FuncId}{F:Func}{l:List (FuncId×Func)}(h1:P.funcs[f]? = some F)(h:zu P l)(h2:(F.name == "runtime.NumGoroutine")=false:=by kernel_rfl):zu P ((f,F)::l):=Jm h1 h2 h
theorem sz{P:Program}:zq P []:=L4
theorem sc{P:Program}{f:FuncId}{s:aD}{l:List (FuncId×aD)}(h1:s.Sound P f)(h:zq P l):zq P ((f,s)::l):=J3 h1 h
section
variable {P:Program} {ti:PT TI} (ht:gv P ti) (hm:P.follows .mixedOrders=true) {g:FuncId} {F:Func} {args res:List Ty} {nC:List (FuncId×Func)} {jA:List (FuncId×aD)} {pre:Ty.Ts args→Bool} {fn:Ty.Ts args→Ty.Ts res}
include ht hm
theorem aL(q:Bool){Y:Type}(n:Nat)(stops p8:List Stop)(start:bi→Ty.Ts args→LT (Ty.Ts res) Y)(step:bi→Y→LT (Ty.Ts res) Y)(cfg:Y→gB)(hf:zu P ((g,F)::nC))(hs:zq P jA)
  (hstep:∀A y,∃n,Tr.Is q (run A (Y2 ti A res ((g,F)::nC) jA stops p8) n (advance jA (cfg y))) ((step A y).tr cfg))
  (hr:∀x,pre x=true→Ty.dK args x→aA (step aj) (start aj x) (fn x))
  (hb:F.body.isSome=true:=by kernel_rfl) (hl:(Nat.ble args.length F.ntmps&&Nat.ble F.ntmps 65535)=true:=by kernel_rfl)
  (h0:∀A x,Tr.Is q (run A (Y2 ti A res ((g,F)::nC) jA stops p8) n (vg g F (kR A args x))) ((start A x).tr cfg):=by intro A x;first|exact⟨by kernel_rfl,by kernel_rfl⟩|(show Tr.full _=_;kernel_rfl)):aD.Sound P g ⟨args,res,pre,fn⟩:=
 (NH (E:=Y2 ti aj res ((g,F)::nC) jA stops p8) ⟨ht,hf,hs,hm⟩ rfl (show look ((g,F)::nC) g=some F by rw[look,cu.2 rfl]) hb hl ⟨start aj,step aj⟩ cfg n (h0 aj) (hstep aj)).sound pre fn hr
theorem aK(q:Bool)(n:Nat)(p8:List Stop)(start:bi→Ty.Ts args→LT (Ty.Ts res) Empty)(hf:zu P ((g,F)::nC))(hs:zq P jA)
  (hr:∀x,pre x=true→Ty.dK args x→aA Empty.elim (start aj x) (fn x))
  (hb:F.body.isSome=true:=by kernel_rfl) (hl:(Nat.ble args.length F.ntmps&&Nat.ble F.ntmps 65535)=true:=by kernel_rfl)
  (h0:∀A x,Tr.Is q (run A (Y2 ti A res ((g,F)::nC) jA [] p8) n (vg g F (kR A args x))) ((start A x).tr Empty.elim):=by intro A x;first|exact⟨by kernel_rfl,by kernel_rfl⟩|(show Tr.full _=_;kernel_rfl)):aD.Sound P g ⟨args,res,pre,fn⟩:=
 aL ht hm q n [] p8 start (fun _=>Empty.elim) Empty.elim hf hs (fun _ y=>y.elim) hr hb hl h0
end
end Go.Ev
namespace Go.Ev
def DU:AV→Value→Bool
 | .undef,_=>true
 | .int k _ n,.int k' n'=>gz k k'&&(decide (n=0)&&decide (n'=0))
 | .bool _ b,.bool b'=>b==b'
 | .str _ s,.string s'=>s.isEmpty&&s'.data.toList.isEmpty
 | .bK _,.slice none 0 0=>true
 | .cY,.pointer none=>true
 | .jT,.nilFunc=>true
 | _,_=>false
def qY:List AV→List Value→Bool
 | [], []=>true
 | a::r,v::vs=>DU a v&&qY r vs
 | _,_=>false
theorem CL(k:IntKind):k.has 0:=by cases k<;>exact⟨by decide,by decide⟩
section
variable {w:World} {S:St} {m:Mem} {P:Program}
theorem mo{s:ByteArray}(h:s.data.toList.isEmpty=true):s=⟨#[]⟩:=by
 obtain⟨⟨l⟩⟩:=s
 cases l with
 | nil=>rfl
 | cons _ _=>cases h
theorem F9{a:AV}{v:Value}(h:DU a v=true):CR w S m a v:=by
 unfold DU at h
 split at h
 ·exact ed
 ·simp only[Bool.and_eq_true,decide_eq_true_eq] at h
  obtain⟨h1,rfl,rfl⟩:=h
  rw[gJ h1]
  exact bQ.2 ⟨rfl,CL _⟩
 ·rw[beq_iff_eq] at h;exact dn.2 (by rw[h])
 ·rw[Bool.and_eq_true] at h
  rename_i s s'
  cases s with
  | cons _ _=>cases h.1
  | nil=>exact fC.2 ⟨by rw[mo h.2],Nat.zero_le _⟩
 ·exact fy.2 ⟨none,rfl,fun _=>rfl⟩
 ·exact gI.2 rfl
 ·exact iO.2 rfl
 ·cases h
theorem qQ:∀{as:List AV} {vs:List Value},qY as vs=true→bP w S m as vs
 | [], [],_=>bX.2 rfl
 | a::r,v::vs,h=>by
   rw[qY,Bool.and_eq_true] at h
   exact du.2 ⟨v,vs,rfl,F9 h.1,qQ h.2⟩
 | [],_::_,h=>by cases h
 | _::_, [],h=>by cases h
mutual
def Ty.zeros:Ty→List Value
 | .int k=>[.int k 0]
 | .bool=>[.bool false]
 | .str=>[.string ⟨#[]⟩]
 | .slice _=>[.slice none 0 0]
 | .arr n t=>(List.replicate n t.zeros).flatten
 | .struct ts=>Ty.sR ts
def Ty.sR:List Ty→List Value
 | []=>[]
 | t::ts=>t.zeros++Ty.sR ts
end
mutual
theorem Ty.oD{I:Nat→Prop}:∀(t:Ty),a_ w I t t.zeros t.iA
 | .int k=>kq.2 ⟨rfl,CL k⟩
 | .bool=>rO.2 rfl
 | .str=>qt.2 ⟨rfl,Nat.zero_le _⟩
 | .slice t=>cm.2 ⟨none,0,rfl,Nat.le_refl _,Nat.zero_le _,fun _=>rfl,fun i y h=>by cases h⟩
 | .arr n t=>by
   have ih:=Ty.oD (I:=I) t
   refine q_.2 ⟨List.length_replicate,?_,fun i y h=>?_⟩
   ·show((List.replicate n t.zeros).flatten).length=_
    rw[List.length_flatten,List.map_replicate,List.sum_replicate_nat,ih.length]
   ·have h:(List.replicate n t.iA)[i]? = some y:=h
    obtain⟨h1,h2⟩:=List.getElem?_eq_some_iff.1 h
    rw[List.length_replicate] at h1
    rw[List.getElem_replicate] at h2
    subst h2
    have:=jO (l:=t.zeros) ih.length h1
    show a_ w I t ((((List.replicate n t.zeros).flatten).drop (i*t.size)).take t.size) _
    rw[this];exact ih
 | .struct ts=>ob.2 (Ty.vh ts)
theorem Ty.vh{I:Nat→Prop}:∀(ts:List Ty),c_ w I ts (Ty.sR ts) (Ty.bZ ts)
 | []=>oM.2 rfl
 | [t]=>sr.2 (by
   have:Ty.sR [t]=t.zeros:=by simp only[Ty.sR,List.append_nil]
   rw[this];exact Ty.oD t)
 | t::t2::ts=>pI.2 ⟨t.zeros,Ty.sR (t2::ts),rfl,Ty.oD t,Ty.vh (t2::ts)⟩
end
def K0:Value→Value→Bool
 | .int k n,.int k' n'=>gz k k'&&decide (n=n')
 | .bool b,.bool b'=>b==b'
 | .string s,.string s'=>s.data.toList.isEmpty&&s'.data.toList.isEmpty
 | .slice none 0 0,.slice none 0 0=>true
 | _,_=>false
def Au:List Value→List Value→Bool
 | [], []=>true
 | a::r,v::vs=>K0 a v&&Au r vs
 | _,_=>false
theorem H5{a b:Value}(h:K0 a b=true):a=b:=by
 unfold K0 at h
 split at h
 ·simp only[Bool.and_eq_true,decide_eq_true_eq] at h;rw[gJ h.1,h.2]
 ·rw[beq_iff_eq] at h;rw[h]
 ·rw[Bool.and_eq_true] at h;rw[mo h.1,mo h.2]
 ·rfl
 ·cases h
theorem zX:∀{a b:List Value},Au a b=true→a=b
 | [], [],_=>rfl
 | a::r,v::vs,h=>by
   rw[Au,Bool.and_eq_true] at h
   rw[H5 h.1,zX h.2]
 | [],_::_,h=>by cases h
 | _::_, [],h=>by cases h
def mz(P:Program)(t:TypeId):Option Bool:=
 match P.underlying t with
 | some (.struct _)=>some true
 | some (.array _ _)=>some true
 | some _=>some false
 | none=>none
theorem qT{t:TypeId}{b:Bool}(h:mz P t=some b)(w:World):(isAgg t).run P w=.ok b w:=by
 unfold mz at h
 cases hu:P.underlying t with
 | none=>rw[hu] at h;cases h
 | some d=>
   rw[hu] at h
   unfold isAgg
   rw[Sem.run_bind,run_underlying hu]
   cases d<;>cases h<;>rfl
def vA(a:Option Bool)(b:Bool):Bool:=match a with|some c=>c==b|none=>false
theorem rP{a:Option Bool}{b:Bool}(h:vA a b=true):a=some b:=by
 cases a with
 | none=>cases h
 | some c=>rw[vA,beq_iff_eq] at h;rw[h]
def fieldsB(P:Program):List Field→List (Nat×Nat×Bool)→Bool
 | [], []=>true
 | f::F,(off,sz,ag)::fs=>Nat.beq f.offset off&&(vA (mz P f.type) ag&&((match P.info? f.type with|some j=>Nat.beq j.size sz|none=>false)&&fieldsB P F fs))
 | _,_=>false
theorem uY:∀{F:List Field} {fs:List (Nat×Nat×Bool)},fieldsB P F fs=true→F.length=fs.length∧∀(i off sz:Nat) (ag:Bool),fs[i]? = some (off,sz,ag)→
   ∃f j,F[i]? = some f∧f.offset=off∧P.info? f.type=some j∧j.size=sz∧∀w,(isAgg f.type).run P w=.ok ag w
 | [], [],_=>⟨rfl,fun i off sz ag h=>by cases h⟩
 | [],_::_,h=>by cases h
 | _::_, [],h=>by cases h
 | f::F,(off,sz,ag)::fs,h=>by
   simp only[fieldsB,Bool.and_eq_true] at h
   obtain⟨h1,h2,h3,h4⟩:=h
   obtain⟨g1,g2⟩:=uY h4
   refine⟨by rw[List.length_cons,List.length_cons,g1],fun i off' sz' ag' hi=>?_⟩
   cases i with
   | zero=>
     cases hi
     cases hj:P.info? f.type with
     | none=>rw[hj] at h3;cases h3
     | some j=>
       rw[hj] at h3
       exact⟨f,j,rfl,Nat.eq_of_beq_eq_true h1,hj,Nat.eq_of_beq_eq_true h3,qT (rP h2)⟩
   | succ i=>exact g2 i off' sz' ag' (by simpa using hi)
def LD(P:Program)(T:TypeId):TK→Bool
 | .bool=>match P.underlying T with|some .bool=>true|_=>false
 | .int k=>match P.underlying T with|some (.int k')=>gz k' k|_=>false
 | .str=>match P.underlying T with|some .string=>true|_=>false
 | .slice e=>match P.underlying T with|some (.slice e')=>Nat.beq e' e|_=>false
 | .arr n e=>match P.underlying T with|some (.array n' e')=>Nat.beq n' n&&Nat.beq e' e|_=>false
 | .ptr e=>match P.underlying T with|some (.pointer e')=>Nat.beq e' e|_=>false
 | .func=>match P.underlying T with|some (.func _ _ _)=>true|_=>false
 | .struct fs=>match P.underlying T with|some (.struct F)=>fieldsB P F.toList fs|_=>false
 | .other=>true
theorem Lk{T:TypeId}{k:TK}(h:LD P T k=true):kindOk P T k:=by
 cases k<;>simp only[LD] at h<;>simp only[kindOk]
 case bool=>split at h<;>first|assumption|cases h
 case int k=>
  split at h
  ·rename_i k' hu;rw[hu,gJ h]
  ·cases h
 case str=>split at h<;>first|assumption|cases h
 case slice e=>
  split at h
  ·rename_i e' hu;rw[hu,Nat.eq_of_beq_eq_true h]
  ·cases h
 case arr n e=>
  split at h
  ·rename_i n' e' hu;rw[Bool.and_eq_true] at h;rw[hu,Nat.eq_of_beq_eq_true h.1,Nat.eq_of_beq_eq_true h.2]
  ·cases h
 case struct fs=>
  split at h
  ·rename_i F hu
   obtain⟨h1,h2⟩:=uY h
   exact⟨F,hu,by rw[←h1,Array.length_toList],fun i off sz ag hi=>by
    obtain⟨f,j,e,r⟩:=h2 i off sz ag hi
    exact⟨f,j,by rw[←Array.getElem?_toList];exact e,r⟩⟩
  ·cases h
 case ptr e=>
  split at h
  ·rename_i e' hu;rw[hu,Nat.eq_of_beq_eq_true h]
  ·cases h
 case func=>
  split at h
  ·rename_i a b c hu;exact⟨a,b,c,hu⟩
  ·cases h
def GK(P:Program)(eq:TypeId→List AV→Bool)(z:List AV):Nat→List Field→Option Nat
 | off, []=>some off
 | off,f::fs=>match decide (f.name≠ "_")&&(Nat.beq f.offset off&&eq f.type ((z.drop off).take (P.cellsOf f.type))) with
   | true=>GK P eq z (off+P.cellsOf f.type) fs
   | false=>none
def Oi(a:Option Nat)(b:Nat):Bool:=match a with|some c=>Nat.beq c b|none=>false
theorem LF{a:Option Nat}{b:Nat}(h:Oi a b=true):a=some b:=by
 cases a with
 | none=>cases h
 | some c=>rw[Nat.eq_of_beq_eq_true h]
def LW(P:Program):Nat→TypeId→List AV→Bool
 | 0,_,_=>false
 | d+1,t,z=>match P.underlying t with
   | some .bool=>Nat.beq (P.cellsOf t) 1&&(match z with | [.bool _ _]=>true|_=>false)
   | some (.int _)=>Nat.beq (P.cellsOf t) 1&&(match z with | [.int _ _ _]=>true|_=>false)
   | some .string=>Nat.beq (P.cellsOf t) 1&&(match z with | [.str _ _]=>true|_=>false)
   | some (.struct fs)=>!P.stoodInHeld t&&(Oi (GK P (LW P d) z 0 fs.toList) (P.cellsOf t)&&Nat.beq z.length (P.cellsOf t))
   | _=>false
theorem o4:∀{a b:List AV},gx a b=true→a.length=b.length
 | [], [],_=>rfl
 | a::as,b::bs,h=>by
   rw[gx,Bool.and_eq_true] at h
   rw[List.length_cons,List.length_cons,o4 h.2]
 | [],_::_,h=>by cases h
 | _::_, [],h=>by cases h
theorem tV:∀{a b:List AV} (n:Nat),gx a b=true→gx (a.drop n) (b.drop n)=true
 | _,_,0,h=>h
 | [], [],n+1,_=>rfl
 | a::as,b::bs,n+1,h=>by
   rw[gx,Bool.and_eq_true] at h
   exact tV n h.2
 | [],_::_,_+1,h=>by cases h
 | _::_, [],_+1,h=>by cases h
theorem tj:∀{a b:List AV} (n:Nat),gx a b=true→gx (a.take n) (b.take n)=true
 | _,_,0,_=>rfl
 | [], [],n+1,_=>rfl
 | a::as,b::bs,n+1,h=>by
   rw[gx,Bool.and_eq_true] at h
   rw[List.take_succ_cons,List.take_succ_cons,gx,Bool.and_eq_true]
   exact⟨h.1,tj n h.2⟩
 | [],_::_,_+1,h=>by cases h
 | _::_, [],_+1,h=>by cases h
theorem pF:∀{a b x y:List AV} {c:Bool} {g:bi→Bool},a.length=b.length→bU (a++x) (b++y)=some (c,g)→
  ∃c1 g1 c2 g2,bU a b=some (c1,g1)∧bU x y=some (c2,g2)∧g aj=(g1 aj&&g2 aj)
 | [], [],x,y,c,g,_,h=>⟨true,fun _=>true,c,g,by simp[bU],h,rfl⟩
 | [],_::_,_,_,_,_,h,_=>by cases h
 | _::_, [],_,_,_,_,h,_=>by cases h
 | a::as,b::bs,x,y,c,g,hl,h=>by
   have hl:as.length=bs.length:=by simpa using hl
   have split:∀(c':Bool) (e:bi→Bool),(match bU (as++x) (bs++y) with|none=>none|some (c2,g)=>some (c'&&c2,fun A=>A.and (e A) (g A)))=some (c,g)→
     (∀q:Option (Bool×(bi→Bool)),bU as bs=q→bU (a::as) (b::bs)=(match q with|none=>none|some (c2,g)=>some (c'&&c2,fun A=>A.and (e A) (g A))))→
     ∃c1 g1 c2 g2,bU (a::as) (b::bs)=some (c1,g1)∧bU x y=some (c2,g2)∧g aj=(g1 aj&&g2 aj):=by
    intro c' e h hk
    cases hq:bU (as++x) (bs++y) with
    | none=>rw[hq] at h;cases h
    | some q=>
      obtain⟨c2,g2⟩:=q
      rw[hq] at h
      cases h
      obtain⟨c1,g1,c3,g3,h1,h2,h3⟩:=pF hl hq
      refine⟨_,_,c3,g3,hk _ h1,h2,?_⟩
      show aj.and (e aj) (g2 aj)=(aj.and (e aj) (g1 aj)&&g3 aj)
      rw[h3]
      show(e aj&&(g1 aj&&g3 aj))=((e aj&&g1 aj)&&g3 aj)
      rw[Bool.and_assoc]
   cases a<;>cases b<;>simp only[List.cons_append,bU] at h<;>try (cases h;done)
   case int.int k c1 n1 k' c2 n2=>
    cases hk:gz k k' with
    | false=>rw[hk] at h;cases h
    | true=>
      rw[hk] at h
      exact split (c1&&c2) (fun A=>A.c .eql n1 n2) h (fun q hq=>by simp only[bU,hk,hq];cases q<;>rfl)
   case bool.bool c1 n1 c2 n2=>exact split (c1&&c2) (fun A=>A.q n1 n2) h (fun q hq=>by simp only[bU,hq];cases q<;>rfl)
   case str.str c1 n1 c2 n2=>exact split (c1&&c2) (fun A=>A.z .eql n1 n2) h (fun q hq=>by simp only[bU,hq];cases q<;>rfl)
def ID(P:Program)(t:TypeId)(us:List Value)(v:Value):Prop:=(mz P t=some true∧v=.agg us.toArray)∨(mz P t=some false∧us=[v])
theorem wI{t:TypeId}{us:Array Value}{off:Nat}{b:Bool}(hb:mz P t=some b)(h1:b=false→P.cellsOf t=1)(hi:∃j,P.info? t=some j)(hl:off+P.cellsOf t≤us.size)(w:World) :
  ∃v,(part t us off).run P w=.ok v w∧ID P t ((us.toList.drop off).take (P.cellsOf t)) v:=by
 obtain⟨j,hj⟩:=hi
 have hc:P.cellsOf t=j.size:=by simp[Program.cellsOf,hj]
 have hs:(sizeOf t).run P w=.ok (P.cellsOf t) w:=by simp[sizeOf,typeInfo,hj,hc]
 cases b with
 | true=>
   refine⟨.agg (us.extract off (off+P.cellsOf t)),by simp[part,Sem.run_bind,qT hb,hs],.inl ⟨hb,?_⟩⟩
   congr 1
   apply Array.toList_inj.1
   rw[Array.toList_extract,List.extract_eq_take_drop,show off+P.cellsOf t-off=P.cellsOf t from by omega]
 | false=>
   have h1:=h1 rfl
   rw[h1] at hl ⊢
   have hlt:off<us.size:=by omega
   refine⟨us[off],by simp[part,Sem.run_bind,qT hb,Array.getElem?_eq_getElem hlt],.inr ⟨hb,?_⟩⟩
   have hlt':off<us.toList.length:=by simpa using hlt
   rw[List.drop_eq_getElem_cons hlt',List.take_succ_cons,List.take_zero]
   simp
theorem info_of_underlying{t:TypeId}{d:TypeDesc}(h:P.underlying t=some d):∃j,P.info? t=some j:=by
 unfold Program.underlying at h
 cases hi:P.info? t with
 | none=>rw[hi] at h;cases h
 | some j=>exact⟨j,rfl⟩
theorem H_{d:Nat}{t:TypeId}{z:List AV}(h:LW P d t z=true):(∃j,P.info? t=some j)∧((mz P t=some false∧P.cellsOf t=1)∨mz P t=some true):=by
 cases d with
 | zero=>cases h
 | succ d=>
   unfold LW at h
   cases hu:P.underlying t with
   | none=>rw[hu] at h;cases h
   | some q=>
     refine⟨info_of_underlying hu,?_⟩
     rw[hu] at h
     cases q<;>simp only at h<;>try (cases h;done)
     case struct fs=>exact .inr (by simp[mz,hu])
     all_goals
      rw[Bool.and_eq_true] at h
      exact .inl ⟨by simp[mz,hu],Nat.eq_of_beq_eq_true h.1⟩
theorem zP:∀(d:Nat) {D:Nat} {t:TypeId} {z xs ys:List AV} {us vs:List Value} {u v:Value} {c:Bool} {g:bi→Bool} {w:World},d≤D→LW P d t z=true→gx xs z=true→xs.length=P.cellsOf t→ys.length=P.cellsOf t→bU xs ys=some (c,g)→
  bP w S m xs us→bP w S m ys vs→ID P t us u→ID P t vs v→(Op.equalIn D t u v).run P w=.ok (g aj) w
 | 0,_,_,_,_,_,_,_,_,_,_,_,_,_,h,_,_,_,_,_,_,_,_=>by cases h
 | d+1,0,_,_,_,_,_,_,_,_,_,_,_,hD,_,_,_,_,_,_,_,_,_=>by omega
 | d+1,D+1,t,z,xs,ys,us,vs,u,v,c,g,w,hD,h,hz,hx,hy,he,hxs,hys,hu,hv=>by
   unfold LW at h
   cases hut:P.underlying t with
   | none=>rw[hut] at h;cases h
   | some q=>
     rw[hut] at h
     -- a type of one cell
     have one:mz P t=some false→P.cellsOf t=1→∃a b,xs=[a]∧ys=[b]∧CR w S m a u∧CR w S m b v:=by
      intro ha h1
      rw[h1] at hx hy
      obtain⟨a,rfl⟩:=List.length_eq_one_iff.1 hx
      obtain⟨b,rfl⟩:=List.length_eq_one_iff.1 hy
      rcases hu with ⟨h',_⟩|⟨_,rfl⟩
      ·rw[ha] at h';cases h'
      ·rcases hv with ⟨h',_⟩|⟨_,rfl⟩
       ·rw[ha] at h';cases h'
       ·obtain⟨_,_,e,h1,_⟩:=du.1 hxs
        obtain⟨_,_,e',h1',_⟩:=du.1 hys
        cases e;cases e'
        exact⟨a,b,rfl,rfl,h1,h1'⟩
     cases q<;>simp only at h<;>try (cases h;done)
     case bool=>
      rw[Bool.and_eq_true] at h
      obtain⟨a,b,rfl,rfl,ha,hb⟩:=one (by simp[mz,hut]) (Nat.eq_of_beq_eq_true h.1)
      have h2:=h.2
      split at h2
      ·cases a<;>simp[gx,FC] at hz
       cases b<;>simp[bU] at he
       obtain⟨_,rfl⟩:=he
       rw[dn.1 ha,dn.1 hb,run_equalIn_bool' w D t _ _ hut]
       simp[aj]
      ·cases h2
     case int k0=>
      rw[Bool.and_eq_true] at h
      obtain⟨a,b,rfl,rfl,ha,hb⟩:=one (by simp[mz,hut]) (Nat.eq_of_beq_eq_true h.1)
      have h2:=h.2
      split at h2
      ·cases a<;>simp[gx,FC] at hz
       cases b<;>simp[bU] at he
       rename_i k c1 n1 k' c2 n2
       cases hk:gz k k' with
       | false=>rw[hk] at he;cases he
       | true=>
         rw[hk] at he
         have hkk:=gJ hk
         subst hkk
         simp only[Option.some.injEq,Prod.mk.injEq] at he
         obtain⟨_,rfl⟩:=he
         rw[(bQ.1 ha).1,(bQ.1 hb).1,run_equalIn_int w D t _ k0 _ _ hut]
         simp[aj,oT]
      ·cases h2
     case string=>
      rw[Bool.and_eq_true] at h
      obtain⟨a,b,rfl,rfl,ha,hb⟩:=one (by simp[mz,hut]) (Nat.eq_of_beq_eq_true h.1)
      have h2:=h.2
      split at h2
      ·cases a<;>simp[gx,FC] at hz
       cases b<;>simp[bU] at he
       obtain⟨_,rfl⟩:=he
       rw[(fC.1 ha).1,(fC.1 hb).1,run_equalIn_string w D t _ _ hut]
       simp[aj,Jh,ByteArray.toList_eq]
      ·cases h2
     case struct fs=>
      rw[Bool.and_eq_true,Bool.not_eq_true',Bool.and_eq_true] at h
      obtain⟨hst,hfs,_⟩:=h
      have hfs:=LF hfs
      have hag:mz P t=some true:=by simp[mz,hut]
      have hu:u=.agg us.toArray:=by
       rcases hu with ⟨_,e⟩|⟨h',_⟩
       ·exact e
       ·rw[hag] at h';cases h'
      have hv:v=.agg vs.toArray:=by
       rcases hv with ⟨_,e⟩|⟨h',_⟩
       ·exact e
       ·rw[hag] at h';cases h'
      subst hu;subst hv
      have hfo:P.fieldsOf t=fs:=by simp[Program.fieldsOf,hut]
      rw[run_equalIn_struct w D t _ _ (by rw[hfo];exact hut) hst,hfo]
      -- field by field
      have key:∀(F:List Field) (off:Nat) (g:bi→Bool) (c:Bool),GK P (LW P d) z off F=some (P.cellsOf t)→off≤P.cellsOf t→bU (xs.drop off) (ys.drop off)=some (c,g)→(Op.eqFields D us.toArray vs.toArray F).run P w=.ok (g aj) w:=by
       intro F
       induction F with
       | nil=>
         intro off g c hF _ he
         cases hF
         rw[List.drop_of_length_le (by omega),List.drop_of_length_le (by omega)] at he
         simp only[bU,Option.some.injEq,Prod.mk.injEq] at he
         obtain⟨_,rfl⟩:=he
         simp[Op.eqFields]
       | cons f F ihF=>
         intro off g c hF hoff he
         rw[GK] at hF
         cases hck:decide (f.name≠ "_")&&(Nat.beq f.offset off&&LW P d f.type ((z.drop off).take (P.cellsOf f.type))) with
         | false=>rw[hck] at hF;cases hF
         | true=>
           rw[hck] at hF
           simp only at hF
           rw[Bool.and_eq_true,Bool.and_eq_true,decide_eq_true_eq] at hck
           obtain⟨hname,hfo,heq⟩:=hck
           have hfo:=Nat.eq_of_beq_eq_true hfo
           have hle:off+P.cellsOf f.type≤P.cellsOf t:=by
            have mono:∀(F:List Field) (a b:Nat),GK P (LW P d) z a F=some b→a≤b:=by
             intro F
             induction F with
             | nil=>intro a b h;cases h;exact Nat.le_refl _
             | cons f F ih=>
               intro a b h
               rw[GK] at h
               split at h
               ·exact Nat.le_trans (Nat.le_add_right _ _) (ih _ _ h)
               ·cases h
            exact mono F _ _ hF
           obtain⟨hinf,hone⟩:=H_ heq
           obtain⟨bb,hbb,hb1⟩:∃bb,mz P f.type=some bb∧(bb=false→P.cellsOf f.type=1):=by
            rcases hone with ⟨h1,h2⟩|h1
            ·exact⟨false,h1,fun _=>h2⟩
            ·exact⟨true,h1,fun h=>by cases h⟩
           have hul:us.length=P.cellsOf t:=by rw[hxs.length,hx]
           have hvl:vs.length=P.cellsOf t:=by rw[hys.length,hy]
           obtain⟨a,ha,hav⟩:=wI (us:=us.toArray) (off:=off) hbb hb1 hinf (by rw[List.size_toArray,hul];exact hle) w
           obtain⟨b,hb,hbv⟩:=wI (us:=vs.toArray) (off:=off) hbb hb1 hinf (by rw[List.size_toArray,hvl];exact hle) w
           have ex:xs.drop off=(xs.drop off).take (P.cellsOf f.type)++xs.drop (off+P.cellsOf f.type):=by rw[←List.drop_drop,List.take_append_drop]
           have ey:ys.drop off=(ys.drop off).take (P.cellsOf f.type)++ys.drop (off+P.cellsOf f.type):=by rw[←List.drop_drop,List.take_append_drop]
           have lx:((xs.drop off).take (P.cellsOf f.type)).length=P.cellsOf f.type:=by rw[List.length_take,List.length_drop];omega
           have ly:((ys.drop off).take (P.cellsOf f.type)).length=P.cellsOf f.type:=by rw[List.length_take,List.length_drop];omega
           rw[ex,ey] at he
           obtain⟨c1,g1,c2,g2,e1,e2,e3⟩:=pF (by rw[lx,ly]) he
           have r1:=zP d (D:=D) (by omega) heq (tj _ (tV _ hz)) lx ly e1 ((hxs.drop off).take _) ((hys.drop off).take _) hav hbv
           have r2:=ihF (off+P.cellsOf f.type) g2 c2 hF hle e2
           simp only[Op.eqFields,if_pos hname,Sem.run_bind,hfo,ha,Result.andThen_ok,hb,r1]
           rw[e3]
           cases hg1:g1 aj with
           | true=>simp only[Bool.not_true,Bool.false_eq_true,if_false,Bool.true_and];exact r2
           | false=>simp
      exact key fs.toList 0 g c hfs (Nat.zero_le _) (by simpa using he)
def It(P:Program)(T:TypeId)(z:List AV):Bool:=
 LW P 50 T z&&(vA (mz P T) true&&(Nat.beq (P.cellsOf T) z.length && !P.eqGuardType P.depth T))
theorem Lu{T:TypeId}{z:List AV}(h:It P T z=true):Xh P T z:=by
 simp only[It,Bool.and_eq_true,Bool.not_eq_true'] at h
 obtain⟨h1,h2,h3,h4⟩:=h
 have h2:=rP h2
 have h3:=Nat.eq_of_beq_eq_true h3
 intro w S m xs ys us vs c g hk he hx hy
 have hl:=o4 hk
 have hly:∀{xs ys:List AV} {c:Bool} {g:bi→Bool},bU xs ys=some (c,g)→ys.length=xs.length:=by
  intro xs
  induction xs with
  | nil=>intro ys c g h;cases ys with
    | nil=>rfl
    | cons b _=>cases b<;>simp[bU] at h
  | cons a xs ih=>
    intro ys c g h
    cases ys with
    | nil=>cases a<;>simp[bU] at h
    | cons b ys=>
      have:∃c g,bU xs ys=some (c,g):=by
       cases hq:bU xs ys with
       | some q=>exact⟨q.1,q.2,rfl⟩
       | none=>
         cases a<;>cases b<;>simp only[bU,hq] at h<;>(try (cases h;done))
         split at h<;>cases h
      obtain⟨c',g',h'⟩:=this
      rw[List.length_cons,List.length_cons,ih h']
 refine⟨?_,fun op x y=>?_⟩
 ·exact zP (m:=m) (S:=S) 50 (D:=Op.maxDepth) (by decide) h1 hk (by omega) (by rw[hly he];omega) he hx hy (.inl ⟨h2,rfl⟩) (.inl ⟨h2,rfl⟩)
 ·cases op<;>simp[eqGuard,Sem.run_bind,run_program,h4]
def tiB(P:Program)(T:TypeId)(ti:TI):Bool:=
 (match P.info? T with
   | none=>false
   | some i=>Nat.beq i.size ti.size&&(Nat.beq i.bytes ti.bytes&&(match i.zero with
     | none=>false
     | some z=>qY ti.zero z.cells.toList&&(match ti.ty with
       | none=>true
       | some t=>Au z.cells.toList t.zeros&&(Nat.beq t.size ti.size&&(t.isAgg==ti.agg)))))) &&
 (LD P T ti.kind&&(vA (mz P T) ti.agg&&(Nat.beq ti.zero.length ti.size&&(!(ti.eq&&ti.agg)||It P T ti.zero))))
theorem Pr{T:TypeId}{ti:TI}(h:tiB P T ti=true):uz P T ti:=by
 simp only[tiB,Bool.and_eq_true] at h
 obtain⟨h1,h2,h3,h4,h5⟩:=h
 cases hi:P.info? T with
 | none=>rw[hi] at h1;cases h1
 | some i=>
   rw[hi] at h1
   simp only[Bool.and_eq_true] at h1
   obtain⟨g1,g2,g3⟩:=h1
   cases hz:i.zero with
   | none=>rw[hz] at g3;cases g3
   | some z=>
     rw[hz] at g3
     simp only[Bool.and_eq_true] at g3
     obtain⟨g3,g4⟩:=g3
     have hty:∀t,ti.ty=some t→z.cells.toList=t.zeros∧t.size=ti.size∧t.isAgg=ti.agg:=fun t ht=>by
      rw[ht] at g4
      simp only[Bool.and_eq_true,beq_iff_eq] at g4
      exact⟨zX g4.1,Nat.eq_of_beq_eq_true g4.2.1,g4.2.2⟩
     refine⟨⟨i,z,hi,Nat.eq_of_beq_eq_true g1,Nat.eq_of_beq_eq_true g2,hz,fun w S m=>qQ g3,fun t ht w I=>?_⟩,Lk h2,qT (rP h3),Nat.eq_of_beq_eq_true h4,fun t ht=>(hty t ht).2,fun he ha=>?_⟩
     ·rw[(hty t ht).1];exact Ty.oD t
     ·rw[he,ha] at h5
      exact Lu (by simpa using h5)
def IT(P:Program):Nat→Nat→Nat→PT TI→Bool
 | 0,_,_,t=>match t with | .leaf=>true|_=>false
 | _+1,_,_,.leaf=>true
 | f+1,a,s,.node l v r=>(match v with|some ti=>tiB P a ti|none=>true)&&(IT P f (a+s) (2*s) l&&IT P f (a+2*s) (2*s) r)
theorem BK:∀{f a s:Nat} {t:PT TI},IT P f a s t=true→∀n ti,t.get n=some ti→uz P (a+s*n) ti
 | 0,a,s,.leaf,_,n,ti,hg=>by rw[PT.kD] at hg;cases hg
 | 0,a,s,.node _ _ _,h,_,_,_=>by cases h
 | f+1,a,s,.leaf,_,n,ti,hg=>by rw[PT.kD] at hg;cases hg
 | f+1,a,s,.node l v r,h,n,ti,hg=>by
   simp only[IT,Bool.and_eq_true] at h
   rw[PT.g_] at hg
   split at hg
   ·rename_i hn
    subst hn
    rw[hg] at h
    exact Pr h.1
   ·rename_i hn
    split at hg
    ·rename_i h1
     have:=BK h.2.1 _ _ hg
     have e:a+s+2*s*(n/2)=a+s*n:=by
      have:n=2*(n/2)+1:=by omega
      conv=>rhs;rw[this]
      rw[Nat.mul_add,Nat.mul_one,Nat.mul_comm 2 s,Nat.mul_assoc,Nat.add_assoc,Nat.add_comm s]
     rw[e] at this;exact this
    ·rename_i h1
     have:=BK h.2.2 _ _ hg
     have e:a+2*s+2*s*(n/2-1)=a+s*n:=by
      have:n=2*(n/2-1)+2:=by omega
      conv=>rhs;rw[this]
      rw[Nat.mul_add,Nat.mul_comm 2 s,Nat.mul_assoc,Nat.add_assoc,Nat.add_comm (s*2)]
     rw[e] at this;exact this
theorem SA{t:PT TI}(h:IT P 30 0 1 t=true):gv P t:=fun T ti hg=>by
 have:=BK h T ti hg
 rwa [Nat.zero_add,Nat.one_mul] at this
end
end Go.Ev
namespace Go.Ev
def jq(P:Program)(ty:TypeId→Option Ty):Nat→List Field→Option (List Ty×Nat)
 | off, []=>some ([],off)
 | off,f::fs=>match ty f.type with
   | none=>none
   | some t=>match Nat.beq f.offset off&&Nat.beq (P.cellsOf f.type) t.size with
     | false=>none
     | true=>match jq P ty (off+t.size) fs with
       | none=>none
       | some (ts,n)=>some (t::ts,n)
def uB(P:Program):Nat→TypeId→Option Ty
 | 0,_=>none
 | d+1,t=>match P.underlying t with
   | some .bool=>some .bool
   | some (.int k)=>some (.int k)
   | some .string=>some .str
   | some (.slice e)=>match uB P d e with
     | none=>none
     | some ty=>match Nat.beq (P.cellsOf e) ty.size&&(Nat.blt 0 ty.size&&Nat.blt 0 (P.bytesOf e)) with
       | true=>some (.slice ty)
       | false=>none
   | some (.struct fs)=>match jq P (uB P d) 0 fs.toList with
     | none=>none
     | some (ts,n)=>match Nat.beq (P.cellsOf t) n with
       | true=>some (.struct ts)
       | false=>none
   | _=>none
def zO(P:Program):List TypeId→Option (List Ty)
 | []=>some []
 | t::ts=>match uB P 60 t with
   | none=>none
   | some ty=>match zO P ts with
     | none=>none
     | some xb=>some (ty::xb)
section
variable {H:Type} {enc:TypeId×Value→H} {P:Program} {w:World} {base:Nat} {spare:Nat→Bool} {held:Bool}
theorem qk{ty:TypeId→Option Ty}:∀{fs:List Field} {off n:Nat} {ts:List Ty},jq P ty off fs=some (ts,n)→n=off+Ty.tW ts
 | [],off,n,ts,h=>by cases h;rfl
 | f::fs,off,n,ts,h=>by
   rw[jq] at h
   cases ht:ty f.type with
   | none=>rw[ht] at h;cases h
   | some t=>
     rw[ht] at h
     simp only at h
     split at h
     ·cases h
     ·cases hr:jq P ty (off+t.size) fs with
      | none=>rw[hr] at h;cases h
      | some q=>
        obtain⟨ts',n'⟩:=q
        rw[hr] at h
        cases h
        rw[qk hr,Ty.tW,Nat.add_assoc]
theorem zd{a:Addr}{n:Nat}{us:List Value}(h:w.cells? base a n=some us):us.length=n∧(0<n→a.spot=none∧a.block<w.heap.size)∧(a.spot=none→fK w a.block a.off us):=by
 unfold World.cells? at h
 split at h
 ·have hl:us.length=n:=by simpa using mapM_some_length h
  have hg:∀i,i<n→w.cell? (a.add i)=us[i]? :=fun i hi=>by
   have:=mapM_some_get h i i (by simp[hi])
   exact this
  refine⟨hl,fun hn=>?_,fun hs j u hu=>?_⟩
  ·have h0:=hg 0 hn
   rw[List.getElem?_eq_getElem (by omega)] at h0
   have e:a.add 0=a:=by simp[Addr.add]
   rw[e] at h0
   unfold World.cell? at h0
   split at h0
   ·rename_i c _ _ hb
    split at h0
    ·cases h0
    ·rename_i hsp
     exact⟨by simpa using hsp,(Array.getElem?_eq_some_iff.1 hb).1⟩
   ·cases h0
  ·have hj:j<n:=by rw[←hl];exact(List.getElem?_eq_some_iff.1 hu).1
   have:=hg j hj
   rw[hu] at this
   rw[←this]
   congr 1
   obtain⟨b,o,sp⟩:=a
   have hs:sp=none:=hs
   subst hs
   exact(Addr.add_lit b o j).symm
 ·cases h
theorem tO{α:Type}{p:Nat→α→Prop}:∀(n:Nat),(∀i,i<n→∃x,p i x)→∃l:List α,l.length=n∧∀i x,l[i]? = some x→p i x
 | 0,_=>⟨[],rfl,fun i x h=>by simp at h⟩
 | n+1,h=>by
   obtain⟨l,h1,h2⟩:=tO n fun i hi=>h i (by omega)
   obtain⟨x,hx⟩:=h n (by omega)
   refine⟨l ++ [x],by simp[h1],fun i y hy=>?_⟩
   rcases Nat.lt_trichotomy i l.length with hi|hi|hi
   ·rw[List.getElem?_append_left hi] at hy;exact h2 i y hy
   ·subst hi
    rw[List.getElem?_append_right (Nat.le_refl _),Nat.sub_self] at hy
    cases hy
    rw[h1];exact hx
   ·rw[List.getElem?_eq_none (by simp;omega)] at hy;cases hy
theorem tf{P:Program}{e:TypeId}:∀{l:List (DataW H)} {d:DataW H},d∈l→∀n∈d.weights P e,n∈DataW.weightsAll P e l
 | x::l,d,hd,n,hn=>by
   rw[DataW.weightsAll]
   rcases List.mem_cons.1 hd with rfl|hd
   ·exact List.mem_append.2 (.inl hn)
   ·exact List.mem_append.2 (.inr (tf hd n hn))
theorem qp{P:Program}:∀{ts:List TypeId} {l:List (DataW H)} {i:Nat} {t:TypeId} {d:DataW H},ts[i]? = some t→l[i]? = some d→∀n∈d.weights P t,n∈DataW.weightsEach P ts l
 | [],_,i,t,d,h,_,_,_=>by simp at h
 | _::_, [],i,t,d,_,h,_,_=>by simp at h
 | t0::ts,d0::l,i,t,d,h1,h2,n,hn=>by
   rw[DataW.weightsEach]
   cases i with
   | zero=>cases h1;cases h2;exact List.mem_append.2 (.inl hn)
   | succ i=>exact List.mem_append.2 (.inr (qp (i:=i) (by simpa using h1) (by simpa using h2) n hn))
theorem vC{ty:TypeId→Option Ty}{cs:List Value}{rd:Field→Option (DataW H×List MemPlace)}{I:Nat→Prop} :
  ∀{fs:List Field} {off n:Nat} {ts:List Ty},jq P ty off fs=some (ts,n)→n≤cs.length→
  (∀(i:Nat) (f:Field) (t:Ty),fs[i]? = some f→ty f.type=some t→P.cellsOf f.type=t.size→∃x,a_ w I t ((cs.drop f.offset).take (P.cellsOf f.type)) x)→∃x,c_ w I ts ((cs.drop off).take (n-off)) x
 | [],off,n,ts,h,_,_=>by
   cases h
   exact⟨(),oM.2 (by rw[Nat.sub_self,List.take_zero])⟩
 | f::fs,off,n,ts,h,hn,hx=>by
   have hsz:=qk h
   rw[jq] at h
   cases ht:ty f.type with
   | none=>rw[ht] at h;cases h
   | some t=>
     rw[ht] at h
     simp only at h
     cases hck:Nat.beq f.offset off&&Nat.beq (P.cellsOf f.type) t.size with
     | false=>rw[hck] at h;cases h
     | true=>
       rw[hck] at h
       simp only at h
       rw[Bool.and_eq_true] at hck
       have ho:=Nat.eq_of_beq_eq_true hck.1
       have hc:=Nat.eq_of_beq_eq_true hck.2
       cases hr:jq P ty (off+t.size) fs with
       | none=>rw[hr] at h;cases h
       | some q=>
         obtain⟨ts',n'⟩:=q
         rw[hr] at h
         cases h
         obtain⟨x,h1⟩:=hx 0 f t rfl ht hc
         obtain⟨y,h2⟩:=vC (rd:=rd) hr hn fun i g t' hg=>hx (i+1) g t' (by simpa using hg)
         rw[ho,hc] at h1
         rw[Ty.tW] at hsz
         have e:(cs.drop off).take (n-off)=(cs.drop off).take t.size++(cs.drop (off+t.size)).take (n-(off+t.size)):=by
          rw[show n-off=t.size+(n-(off+t.size)) from by omega,List.take_add,List.drop_drop]
         rw[e]
         cases ts' with
         | nil=>
           have h3:=oM.1 h2
           rw[h3,List.append_nil]
           exact⟨x,sr.2 h1⟩
         | cons t2 ts'=>exact⟨(x,y),pI.2 ⟨_,_,rfl,h1,h2⟩⟩
theorem F_{k:IntKind}{n:Int}(h:(Lit.int k n).wf=true):k.has n:=by
 simp only[Lit.wf,Bool.and_eq_true,decide_eq_true_eq] at h
 exact⟨h.1,h.2⟩
theorem uT:∀(d:Nat) {t:TypeId} {ty:Ty} {fuel:Nat} {cs:List Value} {r:DataW H×List MemPlace},uB P d t=some ty→DataW.trod enc P w base spare held fuel t cs=some r→(∀n∈r.1.weights P t,n≤reachBytes)→
  ∃x,a_ w (fun b=>b<w.heap.size) ty cs x
 | 0,_,_,_,_,_,h,_,_=>by cases h
 | d+1,t,ty,fuel,cs,r,h,htr,hwt=>by
   rw[uB] at h
   cases hu:P.underlying t with
   | none=>rw[hu] at h;cases h
   | some q=>
     rw[hu] at h
     cases q<;>simp only at h<;>try (cases h;done)
     case bool=>
      cases h
      obtain⟨b,rfl,_⟩:=DataW.trod_bool hu htr
      exact⟨b,rO.2 rfl⟩
     case int k=>
      cases h
      obtain⟨n,rfl,_,hw⟩:=DataW.trod_int hu htr
      exact⟨n,kq.2 ⟨rfl,F_ hw⟩⟩
     case string=>
      cases h
      obtain⟨s,rfl,hr,_⟩:=DataW.trod_string hu htr
      refine⟨s.data.toList,qt.2 ⟨by simp,?_⟩⟩
      have:=hwt s.data.toList.length (by rw[hr];simp[DataW.weights])
      exact Nat.le_trans this (by decide)
     case slice e=>
      cases hte:uB P d e with
      | none=>rw[hte] at h;cases h
      | some ty'=>
        rw[hte] at h
        simp only at h
        split at h
        ·rename_i hck
         cases h
         rw[Bool.and_eq_true,Bool.and_eq_true] at hck
         have hce:=Nat.eq_of_beq_eq_true hck.1
         have hpos:0<ty'.size:=Nat.le_of_ble_eq_true hck.2.1
         have hbytes:0<P.bytesOf e:=Nat.le_of_ble_eq_true hck.2.2
         rcases DataW.trod_slice hu htr with ⟨rfl,_⟩|⟨a,len,cap,elems,rest,n,rfl,rfl,hr,_,hlc,_,hel,hget,_,_⟩
         ·exact⟨[],cm.2 ⟨none,0,rfl,Nat.le_refl _,Nat.zero_le _,fun _=>rfl,fun i y h=>by cases h⟩⟩
         ·have hw0:(elems.length+rest.length)*P.bytesOf e≤reachBytes:=hwt _ (by rw[hr];simp[DataW.weights,hu])
          have hlen:len≤dx:=by
           have h1:len*1≤(elems.length+rest.length)*P.bytesOf e:=Nat.mul_le_mul (by omega) hbytes
           have h2:reachBytes≤dx:=by decide
           omega
          have each:∀i,i<len→∃x,∃us,a.spot=none∧a.block<w.heap.size∧us.length=ty'.size∧fK w a.block (a.off+i*ty'.size) us∧a_ w (fun b=>b<w.heap.size) ty' us x:=by
           intro i hi
           have hg:=hget i hi
           rw[List.getElem?_eq_getElem (by omega)] at hg
           obtain⟨us,hcs,hrd⟩:=Option.bind_eq_some_iff.1 hg
           obtain⟨c1,c2,c3⟩:=zd hcs
           rw[hce] at c1 c2 c3
           obtain⟨hsp,hblk⟩:=c2 hpos
           -- the first element's address has no spot
           have hspa:a.spot=none:=by
            have hg0:=hget 0 (by omega)
            rw[List.getElem?_eq_getElem (by omega)] at hg0
            obtain⟨us0,hcs0,_⟩:=Option.bind_eq_some_iff.1 hg0
            rw[Nat.zero_mul] at hcs0
            have e0:a.add 0=a:=by simp[Addr.add]
            rw[e0] at hcs0
            exact((zd hcs0).2.1 (by rw[hce];exact hpos)).1
           have hadd:a.add (i*ty'.size)=⟨a.block,a.off+i*ty'.size,none⟩:=by
            obtain⟨b,o,sp⟩:=a
            have hs:sp=none:=hspa
            subst hs
            exact Addr.add_lit b o _
           rw[hadd] at c3 hblk
           obtain⟨x,hx⟩:=uT d hte hrd fun n hn=>hwt n (by
            rw[hr]
            simp only[DataW.weights,hu]
            refine List.mem_cons_of_mem _ (List.mem_append.2 (.inl (tf (List.mem_map.2 ⟨elems[i],List.getElem_mem _,rfl⟩) n hn))))
           exact⟨x,us,hspa,hblk,c1,c3 rfl,hx⟩
          obtain⟨xs,hxl,hxs⟩:=tO len each
          refine⟨xs,cm.2 ⟨some a,cap,by rw[hxl],by omega,by omega,fun h=>(by cases h),fun i y hy=>?_⟩⟩
          obtain⟨us,g1,g2,g3,g4,g5⟩:=hxs i y hy
          refine⟨a.block,a.off,us,?_,g2,g3,g4,g5⟩
          obtain⟨b,o,sp⟩:=a
          have hs:sp=none:=g1
          rw[hs]
        ·cases h
     case struct fs=>
      cases hf:jq P (uB P d) 0 fs.toList with
      | none=>rw[hf] at h;cases h
      | some q=>
        obtain⟨ts,n⟩:=q
        rw[hf] at h
        simp only at h
        split at h
        ·rename_i hck
         cases h
         have hn:=Nat.eq_of_beq_eq_true hck
         obtain⟨xs,m,rfl,hr,hlen,hxl,hx⟩:=DataW.trod_struct hu htr
         obtain⟨y,hy⟩:=vC (w:=w) (cs:=cs) (I:=fun b=>b<w.heap.size) (rd:=fun _=>(none:Option (DataW H×List MemPlace))) hf (by omega) fun i f t' hi hty hc=>by
          have hi':fs[i]? = some f:=by rw[←Array.getElem?_toList];exact hi
          have hlt:i<xs.length:=by rw[hxl];exact(Array.getElem?_eq_some_iff.1 hi').1
          have:=hx i f hi'
          rw[List.getElem?_eq_getElem hlt] at this
          refine uT d hty this fun n hn=>hwt n ?_
          rw[hr]
          simp only[DataW.weights,hu]
          exact qp (i:=i) (by simp[hi']) (by simp[List.getElem?_eq_getElem hlt]) n hn
         rw[List.drop_zero,Nat.sub_zero,List.take_of_length_le (by omega)] at hy
         exact⟨y,ob.2 hy⟩
        ·cases h
theorem DV{r:Reach}{b0 d:Nat}{t:TypeId}{ty:Ty}{v:Value}{x:ty.T}(ht:uB P d t=some ty)(hok:Value.okWide P w r b0 t v)(hx:a_ w (fun b=>b<w.heap.size) ty v.cells.toList x):jv w (fun b=>b<w.heap.size) ty v x:=by
 cases d with
 | zero=>cases ht
 | succ d=>
   rw[uB] at ht
   unfold Value.okWide at hok
   cases hu:P.underlying t with
   | none=>rw[hu] at ht;cases ht
   | some q=>
     rw[hu] at ht hok
     have flat:ty.isAgg=false→Cell.okWide P w r b0 t v→jv w (fun b=>b<w.heap.size) ty v x:=by
      intro ha hc
      rw[jv,if_neg (by rw[ha];decide)]
      have:v.cells.toList=[v]:=by
       cases v<;>(try rfl)
       unfold Cell.okWide Cell.ok at hc
       rw[hu] at hc
       cases q<;>simp at hc
      rw[this] at hx
      exact hx
     cases q<;>simp only at ht hok<;>try (cases ht;done)
     case bool=>cases ht;exact flat rfl hok
     case int k=>cases ht;exact flat rfl hok
     case string=>cases ht;exact flat rfl hok
     case slice e=>
      have:ty.isAgg=false:=by
       cases hte:uB P d e with
       | none=>rw[hte] at ht;cases ht
       | some ty'=>
         rw[hte] at ht
         simp only at ht
         split at ht
         ·cases ht;rfl
         ·cases ht
      exact flat this hok
     case struct fs=>
      obtain⟨cs,rfl,_,_⟩:=hok
      have:ty.isAgg=true:=by
       cases hf:jq P (uB P d) 0 fs.toList with
       | none=>rw[hf] at ht;cases ht
       | some q=>
         rw[hf] at ht
         simp only at ht
         split at ht
         ·cases ht;rfl
         ·cases ht
      rw[jv,if_pos this]
      exact⟨cs,rfl,hx⟩
theorem rD{r:Reach}{b0:Nat}:∀{ts:List TypeId} {xb:List Ty} {vs:List Value} {ds:List (DataW H)} {ps:List MemPlace},zO P ts=some xb→DataW.TrodAll enc P w base spare held ts vs ds ps→
  (∀(j:Nat) t v,ts[j]? = some t→vs[j]? = some v→Value.okWide P w r b0 t v)→(∀n∈DataW.weightsEach P ts ds,n≤reachBytes)→∃x,iT w (fun b=>b<w.heap.size) xb vs x
 | [],xb, [], [],ps,h,_,_,_=>by cases h;exact⟨(),rfl⟩
 | t::ts,xb,v::vs,d::ds,ps,h,htr,hok,hwt=>by
   rw[zO] at h
   cases hty:uB P 60 t with
   | none=>rw[hty] at h;cases h
   | some ty=>
     rw[hty] at h
     simp only at h
     cases hts:zO P ts with
     | none=>rw[hts] at h;cases h
     | some tys'=>
       rw[hts] at h
       cases h
       obtain⟨p,q,⟨fuel,h1⟩,h2,_⟩:=htr
       rw[DataW.weightsEach] at hwt
       obtain⟨x,hx⟩:=uT 60 hty h1 fun n hn=>hwt n (List.mem_append.2 (.inl hn))
       have hx':=DV hty (hok 0 t v rfl rfl) hx
       obtain⟨y,hy⟩:=rD hts h2 (fun j t v ht hv=>hok (j+1) t v (by simpa using ht) (by simpa using hv)) fun n hn=>hwt n (List.mem_append.2 (.inr hn))
       cases tys' with
       | nil=>
         have hy:vs=[]:=hy
         subst hy
         exact⟨x,v,rfl,hx'⟩
       | cons t2 tys'=>exact⟨(x,y),v,vs,rfl,hx',hy⟩
 | [],_,_::_,_,_,_,h,_,_=>by exact h.elim
 | [],_, [],_::_,_,_,h,_,_=>by exact h.elim
 | _::_,_, [],_,_,_,h,_,_=>by exact h.elim
 | _::_,_,_::_, [],_,_,h,_,_=>by exact h.elim
open Go.RowKit
theorem o_(hl:laidOutB P=true){W W':World}(hb:Below W.heap.size W W'){sp:Nat→Bool}:∀{ts:List TypeId} {vs:List Value} {ds:List (DataW H)} {ps:List MemPlace},(∀t∈ts,P.readableRec t=true∧t<P.types.size)→
  DataW.TrodAll enc P W 0 (fun _=>true) true ts vs ds ps→(∀p∈ps,p.block<W.heap.size)→(∀p∈ps,sp p.block=true)→DataW.TrodAll enc P W' 0 sp true ts vs ds ps
 | [], [], [],ps,_,h,_,_=>h
 | t::ts,v::vs,d::ds,ps,hts,h,hlt,hsp=>by
   obtain⟨p,q,h1,h2,rfl⟩:=h
   refine⟨p,q,WideElems.Trod_stays hl (hts t List.mem_cons_self).1 (hts t List.mem_cons_self).2 h1 (fun x hx=>hb.same (hlt x (List.mem_append.2 (.inl hx)))) (fun x hx=>hsp x (List.mem_append.2 (.inl hx))),?_,rfl⟩
   exact o_ hl hb (fun t ht=>hts t (List.mem_cons_of_mem _ ht)) h2 (fun x hx=>hlt x (List.mem_append.2 (.inr hx))) (fun x hx=>hsp x (List.mem_append.2 (.inr hx)))
 | [],_::_,_,_,_,h,_,_=>by exact h.elim
 | [], [],_::_,_,_,h,_,_=>by exact h.elim
 | _::_, [],_,_,_,h,_,_=>by exact h.elim
 | _::_,_::_, [],_,_,h,_,_=>by exact h.elim
theorem trodAll_length:∀{ts:List TypeId} {vs:List Value} {ds:List (DataW H)} {ps:List MemPlace},DataW.TrodAll enc P w base spare held ts vs ds ps→ds.length=ts.length
 | [], [], [],_,_=>rfl
 | t::ts,v::vs,d::ds,ps,h=>by
   obtain⟨p,q,_,h2,_⟩:=h
   rw[List.length_cons,List.length_cons,trodAll_length h2]
 | [],_::_,_,_,h=>by exact h.elim
 | [], [],_::_,_,h=>by exact h.elim
 | _::_, [],_,_,h=>by exact h.elim
 | _::_,_::_, [],_,h=>by exact h.elim
theorem Jp{f:Func}{s:ChangeSpec}{apart fresh handsOn again:Bool}{W W':World}{args:Array Value}{ds gs:List (DataW H)}{before:List MemPlace}{tb:TypeId}(hvars:s.vars=[])
  (hfn:∀(H:Type) (ds:List (DataW H)),ds.length=f.params.size→s.fn H ds={results:=[.lit (.bool true)],args:=ds}) (hres:f.resultTypes=#[tb]) (htb:P.underlying tb=some .bool)
  (hl:laidOutB P=true) (hts:∀t∈f.params.toList,P.readableRec t=true∧t<P.types.size)
  (hW:DataW.Whole enc P f.params.toList s.vars apart W args.toList ds gs before) (hb:Below W.heap.size W W'):s.post enc P f apart fresh handsOn again W args (.bool true) W':=by
 have hlt:=hW.lt
 have hW0:=hW
 obtain⟨p,q,hA,hV,rfl,hz,hnd⟩:=hW
 rw[hvars] at hV
 have hgs:gs=[]∧q=[]:=by
  cases gs with
  | nil=>exact⟨rfl,hV⟩
  | cons _ _=>exact hV.elim
 obtain⟨rfl,rfl⟩:=hgs
 rw[List.append_nil] at hlt hz hnd hW0
 have hlen:=trodAll_length hA
 have hf:=hfn H (ds ++ []) (by rw[List.append_nil,hlen,Array.length_toList])
 have hf':=hf
 rw[List.append_nil] at hf'
 have hstay:∀sp:Nat→Bool,(∀x∈p,sp x.block=true)→DataW.TrodAll enc P W' 0 sp true f.params.toList args.toList ds p:=fun sp hsp=>o_ hl hb hts hA hlt hsp
 have hresl:((Value.bool true).resultList f.resultTypes.size)=[.bool true]:=by rw[hres];rfl
 have hr:∀(b:Nat) (sp:Nat→Bool) (hd:Bool),DataW.TrodAll enc P W' b sp hd f.resultTypes.toList ((Value.bool true).resultList f.resultTypes.size) (s.fn H (ds ++ [])).results []:=fun b sp hd=>by
  rw[hresl,hres,hf]
  exact⟨[], [],shut_bool htb true,rfl,rfl⟩
 have hold:∀x∈p,(fun b=>decide (b<W.heap.size)) x.block=true:=fun x hx=>by simpa using hlt x hx
 refine⟨ds, [],p, [],p, [],hW0,hr _ _ _,?_,?_,World.keptBut_mono (fun x hx=>⟨hx,.inr (.inl hx)⟩) (hb.frame (· ∈p)),fun _=>⟨fun j t r hj hv=>?_,?_⟩⟩
 ·rw[hf,List.append_nil];exact hstay _ hold
 ·rw[hvars,hf];rfl
 ·exact ok_one hres rfl (okWide_bool_mk htb true) j t r hj hv
 ·have h1:DataW.TrodAll enc P W' 0 (fun _=>true) true (f.resultTypes.toList++f.params.toList) ((Value.bool true).resultList f.resultTypes.size++args.toList) (.lit (.bool true)::ds) p:=by
   rw[hresl,hres]
   exact⟨[],p,shut_bool htb true,hstay _ (fun _ _=>rfl),rfl⟩
  refine⟨.lit (.bool true)::ds, [],p,⟨p, [],h1,by rw[hvars];rfl,by rw[List.append_nil],fun b off hp=>?_,hnd⟩,fun x hx _=>hx⟩
  rw[hb.frozen (hlt _ hp)]
  exact hz b off hp
theorem Gc{f:FuncId}{xb:List Ty}{pre:Ty.Ts xb→Bool}{fn:Ty.Ts xb→Bool}(hs:aD.Sound P f ⟨xb, [.bool],pre,fn⟩)(htrue:∀x,Ty.dK xb x→pre x=true∧fn x=true){F:Func}(htys:zO P F.params.toList=some xb)
  {r:Reach} {b0:Nat} {W:World} {args:Array Value} {ds:List (DataW H)} {ps:List MemPlace} (hA:DataW.TrodAll enc P W base spare held F.params.toList args.toList ds ps)
  (hval:∀(j:Nat) t v,F.params[j]? = some t→args[j]? = some v→Value.okWide P W r b0 t v) (hwt:∀n∈DataW.weightsEach P F.params.toList ds,n≤reachBytes) :
  Calls P f args W fun e W'=>e=.returned (.bool true)∧Below W.heap.size W W':=by
 obtain⟨x,hx⟩:=rD htys hA (fun j t v ht hv=>hval j t v (by rw[←Array.getElem?_toList];exact ht) (by rw[←Array.getElem?_toList];exact hv)) hwt
 obtain⟨h1,h2⟩:=htrue x hx.has
 refine(hs.calls W _ x args (fun b hb=>hb) hx h1).mono ?_
 rintro e W' ⟨v,rfl,g1,g2,g3,g4,g5,I',_,g7⟩
 have g7:jv W' I' .bool v (fn x):=g7
 have g7:[v]=[Value.bool (fn x)]:=g7
 cases g7
 refine⟨by rw[h2],⟨g1,g2,g3,g4,g5⟩⟩
theorem pO{C:Checked}{os:Os}{f:FuncId}{F:Func}{s:ChangeSpec}{conds:List PathCond}{apart fresh handsOn again:Bool}{a:Assume}{tb:TypeId}{xb:List Ty}{pre:Ty.Ts xb→Bool}{fn:Ty.Ts xb→Bool}
  (own:ownKnob C.prog.godebug=none) (started:os.Started) (noInit:C.prog.inits.idxOf? f=none) (hF:C.prog.funcs[f]? = some F)
  (witness:∃(w:World) (tape:Tape) (i:Input),w.os=os∧(w.forCall tape i).Shaped C.prog∧i.vars=[]∧Input.okWide C.prog (w.forCall tape i) .any w.heap.size f i∧
    s.pre6 enc C.prog F conds apart (w.forCall tape i).memory i.args∧a.holds C.prog (lone (Frame.enter C.prog f i.args .normal) [] (w.forCall tape i)))
  (hs:aD.Sound C.prog f ⟨xb, [.bool],pre,fn⟩) (htrue:∀x,Ty.dK xb x→pre x=true∧fn x=true) (htys:zO C.prog F.params.toList=some xb) (hvars:s.vars=[])
  (hfn:∀(H:Type) (ds:List (DataW H)),ds.length=F.params.size→s.fn H ds={results:=[.lit (.bool true)],args:=ds}) (hres:F.resultTypes=#[tb]) (htb:C.prog.underlying tb=some .bool)
  (hl:laidOutB C.prog=true) (hts:F.params.toList.all (fun t=>C.prog.readableRec t&&decide (t<C.prog.types.size))=true) :
  ReturnsInHanded a C os f .any (s.pre6 enc C.prog F conds apart) (s.post enc C.prog F apart fresh handsOn again):=by
 refine returnsInHanded_of_change_sized own started noInit hF witness ?_
 intro W b0 args ds gs before hval hW _ hsz _
 have hW':=hW
 obtain⟨p,q,hA,hV,_,_,_⟩:=hW
 rw[hvars] at hV
 have hgs:gs=[]:=by
  cases gs with
  | nil=>rfl
  | cons _ _=>exact hV.elim
 subst hgs
 have hwt:∀n∈DataW.weightsEach C.prog F.params.toList ds,n≤reachBytes:=by
  have e:s.plain.varTypes C.prog=[]:=by simp[DataSpec.varTypes,ChangeSpec.plain,hvars]
  rw[e,List.append_nil,List.append_nil] at hsz
  intro n hn
  have:=List.all_eq_true.1 hsz n hn
  simpa using this
 refine(Gc hs htrue htys hA hval hwt).mono ?_
 rintro e W' ⟨rfl,hb⟩
 refine⟨_,rfl,Jp hvars hfn hres htb hl (fun t ht=>?_) hW' hb⟩
 have:=List.all_eq_true.1 hts t ht
 simpa using this
end
end Go.Ev
namespace Go.Ev
def LT.val{R Y:Type}(d:R):LT R Y→R
 | .ret r=>r
 | .more _=>d
 | .br b t e=>bif b then t.val d else e.val d
 | .need _ t=>t.val d
 | .eqs _ t=>t.val d
 | .bad _ _=>d
def LT.pre{R Y:Type}:LT R Y→Bool
 | .ret _=>true
 | .more _=>false
 | .br b t e=>bif b then t.pre else e.pre
 | .need b t=>b&&t.pre
 | .eqs _ t=>t.pre
 | .bad _ _=>false
def LT.Po{R Y:Type}:LT R Y→Prop
 | .ret _=>True
 | .more _=>True
 | .br _ t e=>t.Po∧e.Po
 | .need _ t=>t.Po
 | .eqs p t=>p∧t.Po
 | .bad _ _=>True
theorem LT.runs{R Y:Type}{d:R}{step:Y→LT R Y}:∀{t:LT R Y},t.Po→t.pre=true→aA step t (t.val d)
 | .ret r,_,_=>.ret r
 | .more _,_,h=>by cases h
 | .br b t e,h1,h2=>by
   cases b with
   | true=>exact .br (LT.runs h1.1 h2)
   | false=>exact .br (LT.runs h1.2 h2)
 | .need b t,h1,h2=>by
   rw[LT.pre,Bool.and_eq_true] at h2
   exact .need h2.1 (LT.runs h1 h2.2)
 | .eqs p t,h1,h2=>.eqs h1.1 (LT.runs h1.2 h2)
 | .bad _ _,_,h=>by cases h
def LT.all{R Y:Type}(p:R→Prop):LT R Y→Prop
 | .ret r=>p r
 | .more _=>True
 | .br _ t e=>t.all p∧e.all p
 | .need _ t=>t.all p
 | .eqs _ t=>t.all p
 | .bad _ _=>True
theorem LT.jY{R Y:Type}{d:R}{p:R→Prop}(hd:p d):∀{t:LT R Y},t.all p→p (t.val d)
 | .ret r,h=>h
 | .more _,_=>hd
 | .br b t e,h=>by
   cases b with
   | true=>exact LT.jY (t:=t) hd h.1
   | false=>exact LT.jY (t:=e) hd h.2
 | .need b t,h=>LT.jY (t:=t) hd h
 | .eqs _ t,h=>LT.jY (t:=t) hd h
 | .bad _ _,_=>hd
section
variable {a b:Int} {k:IntKind}
theorem aF:aj.c .eql a b=(a==b):=rfl
theorem aJ:aj.c .neq a b=(a != b):=rfl
theorem ar:aj.c .lss a b=decide (a<b):=rfl
theorem aB:aj.c .leq a b=decide (a≤b):=rfl
theorem aG:aj.c .gtr a b=decide (b<a):=rfl
theorem aN:aj.c .geq a b=decide (b≤a):=rfl
theorem aR{x y:Bool}:aj.and x y=(x&&y):=rfl
theorem bD{x:Bool}:aj.not x=!x:=rfl
theorem fx{x y:Bool}:aj.q x y=(x==y):=rfl
theorem ap{α β:Type}{f:α→β}{x:α}:aj.k f x=f x:=rfl
theorem bw:aj.b .add k a b=k.wrap (a+b):=rfl
theorem aZ:aj.b .sub k a b=k.wrap (a-b):=rfl
theorem js:aj.b .mul k a b=k.wrap (a*b):=rfl
theorem FW:aj.b .quo k a b=k.wrap (a.tdiv b):=rfl
theorem AJ:aj.b .rem k a b=a.tmod b:=rfl
theorem bu:aj.v k a=k.wrap a:=rfl
theorem pT:aj.mn a b=if b<a then b else a:=rfl
theorem Hz:aj.mx a b=if b > a then b else a:=rfl
theorem E8{t:Ty}{x:List t.T}:aj.n t x a=x.getD a.toNat t.iA:=rfl
theorem lV{α:Type}{x:List α}:aj.s x a b=(x.take b.toNat).drop a.toNat:=rfl
theorem lY{α:Type}{v:α}:aj.r a v=List.replicate a.toNat v:=rfl
theorem oH{α:Type}{x y:List α}:aj.spl x a y=x.take a.toNat++y++x.drop (a.toNat+y.length):=rfl
theorem fI(h1:-9223372036854775808≤a)(h2:a≤9223372036854775807):IntKind.i64.wrap a=a:=IntWalk.i64_in a ⟨h1,h2⟩
theorem w8(h1:0≤a)(h2:a≤255):IntKind.u8.wrap a=a:=IntWalk.u8_in a ⟨h1,h2⟩
theorem GG(h1:0≤a)(h2:a≤18446744073709551615):IntKind.u64.wrap a=a:=IntWalk.u64_in a ⟨h1,h2⟩
end
theorem n_{n:Int}:IntKind.i64.has n↔ -9223372036854775808≤n∧n≤9223372036854775807:=Iff.rfl
theorem Cr{n:Int}:IntKind.u8.has n↔0≤n∧n≤255:=Iff.rfl
theorem fB{b x y:Bool}:(bif b then x else y)=true↔(b=true→x=true)∧(b=false→y=true):=by cases b<;>cases x<;>cases y<;>decide
theorem mB{α:Type}{b:Bool}{x y r:α}:(bif b then x else y)=r↔(b=true∧x=r)∨(b=false∧y=r):=by cases b<;>simp
theorem cN{α:Type}{x:α}:tt x=true:=rfl
def LT.CF{R Y:Type}:LT R Y→Bool
 | .br _ t e=>t.CF&&e.CF
 | .need _ t=>t.CF
 | .eqs _ _=>false
 | _=>true
theorem LT.qI{R Y:Type}:∀{t:LT R Y},t.CF=true→t.Po
 | .ret _,_=>trivial
 | .more _,_=>trivial
 | .br _ t e,h=>by
   rw[LT.CF,Bool.and_eq_true] at h
   exact⟨LT.qI h.1,LT.qI h.2⟩
 | .need _ t,h=>LT.qI (t:=t) h
 | .bad _ _,_=>trivial
section
variable {P:Program} {ti:PT TI} (ht:gv P ti) (hm:P.follows .mixedOrders=true) {g:FuncId} {F:Func} {args res:List Ty} {nC:List (FuncId×Func)} {jA:List (FuncId×aD)} {pre:Ty.Ts args→Bool} {fn:Ty.Ts args→Ty.Ts res}
include ht hm
theorem aM(q:Bool)(n:Nat)(p8:List Stop)(start:bi→Ty.Ts args→LT (Ty.Ts res) Empty)(hf:zu P ((g,F)::nC))(hs:zq P jA)
  (hr:∀x,pre x=true→Ty.dK args x→(start aj x).pre=true)
  (heq:∀x,(start aj x).Po:=by intro x;exact LT.qI (by kernel_rfl))
  (hb:F.body.isSome=true:=by kernel_rfl) (hl:(Nat.ble args.length F.ntmps&&Nat.ble F.ntmps 65535)=true:=by kernel_rfl)
  (h0:∀A x,Tr.Is q (run A (Y2 ti A res ((g,F)::nC) jA [] p8) n (vg g F (kR A args x))) ((start A x).tr Empty.elim):=by intro A x;first|exact⟨by kernel_rfl,by kernel_rfl⟩|(show Tr.full _=_;kernel_rfl))
  (hfn:∀x,fn x=(start aj x).val (Ty.bZ res):=by intro x;kernel_rfl):aD.Sound P g ⟨args,res,pre,fn⟩:=
 aK ht hm q n p8 start hf hs (fun x hp h=>hfn x▸LT.runs (heq x) (hr x hp h)) hb hl h0
end
def vi(x:Int):AV:=.int .i64 false x
def vb(x:Bool):AV:=.bool false x
def dc(t:Ty)(x:t.T):List AV:=fq aj t x
def en(l:List (Nat×AV)):Env:=l.foldl (fun e p=>e.put p.1 p.2) .leaf
def cw(F:Func)(l:List Nat):Code:=Code.J4 (K2 F) l
def ow(F:Func)(l:List Nat):Array Oper:=opsOf (Code.J4 (K2 F) l)
abbrev yI:Ty:=.int .i64
abbrev yU:Ty:=.int .u8
abbrev yB:Ty:=.slice yU
abbrev Wu:Ty:=.slice yI
end Go.Ev
