/-
  PROVED: the evaluator: regions that draw their order, the theorem on the whole, contracts of functions, and from a contract to a law. Conditions: the type table, the functions and the contracts fit the program.
-/
import Derived.Test.YtjceiokllpmnkaaGreatEvB
import Derived.KernelRfl
import Derived.Laws.StructEq
import Derived.WalkKit
import Derived.ProofKit
import Derived.OpenShut
import Derived.SizedLaws
import Derived.Carry
import Derived.IntWalk
set_option linter.unusedVariables false
set_option linter.unusedSimpArgs false
set_option linter.unusedSectionVars false
namespace Go.Ev
section
variable {P:Program} {R:Type} {E:ek R} {w0:iG} {I0:Nat→Prop} {f0:FuncId} {Fin:R→Value→World→Prop} {Q:R→Prop}
variable {w:World} {S:St} {m:Mem} {fr:Frame} {fs:List bq} {frs cs:List Frame}
variable {n:Nat}
theorem B6:∀{ps:List Nat} {aa:List AV} {us:List Value} {env:Env} {tmps:Array Value} {nn:Nat},bw w S m aa us→ps.length=aa.length→(∀p∈ps,p<nn)→tmps.size=nn→nn≤65535→(∀i,CR w S m (env.at i) (tmps.getD i undef))→
  ((ps.zip us).foldl (fun tmps (t,a)=>tmps.setIfInBounds t a) tmps).size=nn∧∀i,CR w S m ((s5 ps aa env).at i) (((ps.zip us).foldl (fun tmps (t,a)=>tmps.setIfInBounds t a) tmps).getD i undef)
 | [],aa,us,env,tmps,nn,_,_,_,hs,_,he=>by
   simp only[List.zip_nil_left,List.foldl_nil,s5]
   exact⟨hs,he⟩
 | p::ps, [],us,env,tmps,nn,_,hl,_,_,_,_=>by simp at hl
 | p::ps,a::aa,us,env,tmps,nn,hc,hl,hp,hs,hn,he=>by
   obtain⟨u,r,rfl,h1,h2⟩:=aV.1 hc
   simp only[List.zip_cons_cons,List.foldl_cons,s5]
   have hpn:=hp p List.mem_cons_self
   refine B6 (nn:=nn) h2 (by simpa using hl) (fun q hq=>hp q (List.mem_cons_of_mem _ hq)) (by simp[hs]) hn fun i=>?_
   rw[Env.sM (by omega)]
   simp only[Array.getD_eq_getD_getElem?,Array.getElem?_setIfInBounds]
   by_cases hi:i=p
   ·subst hi;simp[hs,hpn,h1]
   ·rw[if_neg hi,if_neg (Ne.symm hi),←Array.getD_eq_getD_getElem?];exact he i
theorem zm{α β γ:Type}(f:γ→α×β→γ)(x:γ)(a:Array α)(b:Array β):(a.zip b).foldl f x=(a.toList.zip b.toList).foldl f x:=by
 rw[←Array.foldl_toList,Array.toList_zip]
theorem Ax{ρ:Operand→Value}{x:Operand}{args:Array Operand}{ats:Array TypeId}{t:TypeId}{l:Nat}{r:Loop}(hx:ρ x=.func (.yield l) #[] #[])(h:w.heap[l]? = some (.loop r))(hs:args.size=r.params.size) :
  (do let d ←resolve ρ {callee:=.value x,args:=args,argTypes:=ats} t;invoke d.target d.args:Sem Next).run P w =
    .ok (.round l r.fn ((r.params.zip (args.map ρ)).foldl (fun tmps (t,a)=>tmps.setIfInBounds t a) r.tmps) r.assign r.body) w:=by
 simp only[resolve,hx,Deferred.ofValue,Sem.run_bind,Sem.run_pure,Result.andThen_ok,invoke,Array.empty_append]
 exact run_yield h (by simpa using hs)
theorem Bz{ρa:Operand→AV}{ρc:Operand→Value}(hρ:∀x,CR w S m (ρa x) (ρc x))(l:Array Operand):bw w S m (l.toList.map ρa) (l.map ρc).toList:=by
 rw[Array.toList_map];exact xB hρ l.toList
theorem KM(hP:Fits P E Fin w0 I0)(ih:∀c,Tr.Ok Q (Good P E w0 I0 f0 Fin Q) (run ah E n c)→Good P E w0 I0 f0 Fin Q c)
  {all:Array Oper} {i:Nat} {l:List Nat} {kc:List Item} {o:Oper} {ρ:Operand→AV} {fn:FuncId} {below:bq} {next:AV→Mem→Tr R}
  (hW:WR w0 w S m) (hI:∀b,S.I b→I0 b∨w0.free b) (hfs:Ag w S m fs frs) (hB:sO f0 (below::fs)) (hm:fr.mode=.run)
  (ht:fr.todo=.inRegion all (i::l)::kc) (ho:all[i]? = some o) (hw:Region.wanted o (yielded all fr.tmps)=true)
  (hρ:∀x∈o.op.operands.toList,CR w S m (ρ x) (fr.eval x)) (hbelow:FR w S m below fr)
  (hnext:∀v m' w' S' z,Step w0 w S m w' S' m'→CR w' S' m' v z→Tr.Ok Q (Good P E w0 I0 f0 Fin Q) (next v m')→Ends P f0 Fin Q (fr.finish z) frs cs w')
  (h:Tr.Ok Q (Good P E w0 I0 f0 Fin Q) (match ny ah E ρ m o with
        | some tv=>tv.bind o.pos fun v=>next v m
        | none=>match o.op with
          | .call {callee:=.value x,args,.. }=>match ρ x with
            | .fn g first caps=>match look E.da g with
              | some s=>(ox ah s m (first++(args.toList.map ρ++caps))).bind o.pos fun p=>next p.1 p.2
              | none=>match mC ah E g m (first++(args.toList.map ρ++caps)) with
               | some tv=>tv.bind o.pos fun p=>next p.1 p.2
               | none=>match look E.dy g with
                | none=>.bad 163 o.pos
                | some G=>match dW g G (first++(args.toList.map ρ++caps)) with
                  | none=>.bad 164 o.pos
                  | some h=>run ah E n {frames:=h::below::fs,mem:=m}
            | .yield l=>match m.at l with
               | .loop r=>match Nat.beq r.params.length (args.toList.map ρ).length&&r.params.all (fun p=>Nat.blt p r.n) with
                 | true=>run ah E n {frames:={fn:=r.fn,n:=r.n,env:=s5 r.params (args.toList.map ρ) r.env,todo:=[.code r.assign,.beginRound,.code r.body],marks:=[],cN:=some l}::below::fs,mem:=m}
                 | false=>.bad 165 o.pos
               | _=>.bad 166 o.pos
            | _=>.bad 167 o.pos
          | _=>(qs ah E fn ρ m o).bind o.pos fun p=>next p.1 p.2)):Ends P f0 Fin Q fr frs cs w:=by
 classical
 -- operands that are not named mean nothing
 let ρ':Operand→AV:=fun x=>if x∈o.op.operands.toList then ρ x else .undef
 have hρ':∀x,CR w S m (ρ' x) (fr.eval x):=fun x=>by
  by_cases hx:x∈o.op.operands.toList
  ·simp only[ρ',if_pos hx];exact hρ x hx
  ·simp only[ρ',if_neg hx];exact dA
 have hsame:∀x∈o.op.operands.toList,ρ x=ρ' x:=fun x hx=>by simp only[ρ',if_pos hx]
 rw[wU hsame,E9 hsame] at h
 cases hev:ny ah E ρ' m o with
 | some tv=>
   rw[hev] at h
   simp only at h
   obtain⟨v,hv,h⟩:=TV.bind_ok h
   obtain⟨z,hz,hc⟩:=wN hP.ti hW hρ' hev hv
   have hd:∀c,o.op≠.defer c:=fun c e=>by simp[ny,e] at hev
   exact .step (GR hm ht ho hw hd hz) (hnext v m w S z (.refl hW) hc h)
 | none=>
   rw[hev] at h
   simp only at h
   have other:Tr.Ok Q (Good P E w0 I0 f0 Fin Q) ((qs ah E fn ρ' m o).bind o.pos fun p=>next p.1 p.2)→Ends P f0 Fin Q fr frs cs w:=by
    intro h
    obtain⟨⟨v,m'⟩,hv,h⟩:=TV.bind_ok h
    obtain⟨nx,z,w',S',hrun,hnx,hs,hc⟩:=Gv hP.ti hW hρ' hv
    have hd:∀c,o.op≠.defer c:=fun c e=>by simp[qs,e,TV.Is] at hv
    rcases hnx with rfl|⟨rfl,rfl⟩
    ·exact .step (GR hm ht ho hw hd hrun) (hnext v m' w' S' z hs hc h)
    ·exact .step (YE hm ht ho hw hd hrun) (hnext _ m' w' S' undef hs dA h)
   split at h
   ·rename_i x args ats hop
    have hd:∀c,o.op≠.defer c:=fun c e=>by rw[hop] at e;cases e
    have hx:CR w S m (ρ x) (fr.eval x):=hρ x (by rw[hop];simp[Op.operands,Call.operands])
    have hargs:bw w S m (args.toList.map ρ) (args.map fr.eval).toList:=by
     have e:args.toList.map ρ=args.toList.map ρ':=nU fun y hy=>hsame y (by rw[hop];simp only[Op.operands,Call.operands];simp at hy ⊢;exact .inr hy)
     rw[e];exact Bz hρ' args
    have hexec:∀nx,(do let d ←resolve fr.eval {callee:=.value x,args:=args,argTypes:=ats} o.type;invoke d.target d.args:Sem Next).run P w=.ok nx w→(execOp fr.eval o).run P w=.ok nx w:=fun nx he=>by
     simp only[execOp,hop];exact he
    cases hv:ρ x<;>rw[hv] at h hx<;>(try simp only at h)<;>try exact h.elim
    ·rename_i g first caps
     obtain⟨us,vs,hxe,hus,hvs⟩:=og.1 hx
     have hall:bw w S m (first++(args.toList.map ρ++caps)) (us++args.map fr.eval++vs).toList:=by
      rw[Array.append_assoc,Array.toList_append,Array.toList_append]
      exact hus.append (hargs.append hvs)
     cases hsp:look E.da g with
     | some s=>
       rw[hsp] at h
       simp only at h
       obtain⟨⟨v,m'⟩,hv,h⟩:=TV.bind_ok h
       obtain⟨F,hF,hb,hn⟩:=(hP.da g s hsp).body
       obtain⟨w',S',z,dO,hs,hc,hsteps,hleave⟩:=uD (hP.da g s hsp) (fun d=>(hP.nod d).1 g s hsp) hW hall hv (fr::(frs++cs))
       have hstep:=Dx (cs:=frs++cs) hm ht ho hw hd (hexec _ (iU hxe hF hn hb w))
       exact .steps ((Steps.head hstep hsteps).trans (.one (step_leave_returned hleave))) (hnext v m' w' S' z hs hc h)
     | none=>
       rw[hsp] at h
       simp only at h
       cases hpp:mC ah E g m (first++(args.toList.map ρ++caps)) with
       | some tv=>
         rw[hpp] at h
         simp only at h
         obtain⟨⟨v,m'⟩,hv,h⟩:=TV.bind_ok h
         obtain⟨⟨F,hF,hb,hn⟩,hcall⟩:=yu hP hpp
         obtain⟨w',S',z,dO,hs,hc,hsteps,hleave⟩:=hcall hW hall hv (fr::(frs++cs))
         have hstep:=Dx (cs:=frs++cs) hm ht ho hw hd (hexec _ (iU hxe hF hn hb w))
         exact .steps ((Steps.head hstep hsteps).trans (.one (step_leave_returned hleave))) (hnext v m' w' S' z hs hc h)
       | none=>
       rw[hpp] at h
       simp only at h
       cases hG:look E.dy g with
       | none=>rw[hG] at h;exact h.elim
       | some G=>
         rw[hG] at h
         simp only at h
         cases hen:dW g G (first++(args.toList.map ρ++caps)) with
         | none=>rw[hen] at h;exact h.elim
         | some h'=>
           rw[hen] at h
           simp only at h
           obtain⟨hGf,hGn⟩:=hP.dy _ _ hG
           obtain⟨hfr,hbody,hnh'⟩:=fD hGf hen hall
           have hstep:=Dx (cs:=frs++cs) hm ht ho hw hd (hexec _ (iU hxe hGf hGn hbody w))
           exact .step (frs2:=fr::frs) hstep (ih _ h (dn hnh') S _ _ cs w hW hI ⟨_,_,rfl,hfr,_,_,rfl,hbelow,hfs⟩ hB)
    ·rename_i lp
     cases hml:m.at lp<;>rw[hml] at h<;>(try simp only at h)<;>try exact h.elim
     rename_i r
     have hxe:fr.eval x=.func (.yield (S.σ lp)) #[] #[]:=by
      rw[CR,hml] at hx;exact hx
     cases hok:Nat.beq r.params.length (args.toList.map ρ).length&&r.params.all (fun p=>Nat.blt p r.n) with
     | false=>rw[hok] at h;exact h.elim
     | true=>
       rw[hok] at h
       simp only at h
       rw[Bool.and_eq_true] at hok
       obtain⟨hlen,hlt⟩:=hok
       have hlen:=Nat.eq_of_beq_eq_true hlen
       have hlt:∀p∈r.params,p<r.n:=fun p hp=>by
        have:=List.all_eq_true.1 hlt p hp
        exact Nat.le_of_ble_eq_true this
       have hb:=hW.box lp
       rw[hml] at hb
       obtain⟨L,g1,g2,g3,g4,g5,g6,g7,⟨g8,g9⟩,g10⟩:=hb
       have hsz:args.size=L.params.size:=by
        have h1:L.params.size=r.params.length:=by rw[g5,List.size_toArray]
        rw[List.length_map,Array.length_toList] at hlen
        omega
       have hstep:=Xd (P:=P) (cs:=frs++cs) hm ht ho hw hd (hexec _ (Ax hxe g1 hsz))
       have hput:=B6 hargs hlen hlt g8 g9 g10
       rw[zm,g4,g5,g6,g7] at hstep
       refine .step (frs2:=fr::frs) hstep (ih _ h (dn fun a ha=>by cases ha;rfl) S _ _ cs w hW hI ⟨_,_,rfl,?_,_,_,rfl,hbelow,hfs⟩ hB)
       refine⟨rfl,hput.1,g9,fun y _=>hput.2 y,cH.code (.mk (a:=.beginRound) rfl (cH.code rfl)),?_,fun a ha=>?_,rfl,fun d hd=>absurd hd List.not_mem_nil,rfl,rfl,rfl,fun q hq=>by cases hq;rw[hml];rfl⟩
       ·exact .mk trivial (.mk trivial (.mk trivial fun a ha=>absurd ha List.not_mem_nil))
       ·simp only[List.tail_cons,List.mem_cons,List.not_mem_nil,or_false] at ha
        rcases ha with rfl|rfl<;>rfl
   ·exact other h
end
end Go.Ev
namespace Go.Ev
section
variable {P:Program} {R:Type} {E:ek R} {w0:iG} {I0:Nat→Prop} {f0:FuncId} {Fin:R→Value→World→Prop} {Q:R→Prop}
variable {w:World} {S:St} {m:Mem} {fr:Frame} {fs:List bq} {frs cs:List Frame}
variable {fn:FuncId} {nn:Nat} {env:Env} {marks:List Nat} {cN:Option Nat} {k:List bK} {n:Nat}
def xA(env env':Env)(D:List Nat):Prop:=∀x,env'.at x=env.at x∨(x∈D∧∃v,env.at x=.bool false v∧env'.at x=.bool true v)
theorem xA.CR{env':Env}{D:List Nat}(h:xA env env' D){x:Nat}{v:Value}(hc:CR w S m (env.at x) v):CR w S m (env'.at x) v:=by
 rcases h x with e|⟨_,b,e1,e2⟩
 ·rw[e];exact hc
 ·rw[e1] at hc;rw[e2];exact c_.2 (c_.1 hc)
theorem FR.I8{env':Env}{D:List Nat}{todo:List bK}(h:xA env env' D)(hf:FR w S m ⟨fn,nn,env,todo,marks,cN⟩ fr):FR w S m ⟨fn,nn,env',todo,marks,cN⟩ fr:=
 ⟨hf.fn,hf.n,hf.small,fun i hi=>h.CR (hf.env i hi),hf.todo,hf.live,hf.flat,hf.defers,hf.marks,hf.mode,hf.kind,hf.cN,hf.mY⟩
theorem QV{todo:List bK}(hf:FR w S m ⟨fn,nn,env,todo,marks,cN⟩ fr){d:Nat}{c v:Bool}(hnh:¬Hid ⟨fn,nn,env,todo,marks,cN⟩ fr d)(h:env.at d=.bool c v):d<nn:=by
 have hc:=hf.env d hnh
 rw[show(bq.env ⟨fn,nn,env,todo,marks,cN⟩).at d=.bool c v from h] at hc
 have hc:=c_.1 hc
 rcases Nat.lt_or_ge d nn with h'|h'
 ·exact h'
 ·rw[Array.getD_eq_getD_getElem?,Array.getElem?_eq_none (by rw[hf.n];exact h')] at hc;cases hc
theorem TT(hP:Fits P E Fin w0 I0)(ih:∀c,Tr.Ok Q (Good P E w0 I0 f0 Fin Q) (run ah E n c)→Good P E w0 I0 f0 Fin Q c){all:Array Oper}{o:Oper}{rest:List Oper}
  (h:Tr.Ok Q (Good P E w0 I0 f0 Fin Q) (run ah E (n+1) {frames:=⟨fn,nn,env,.ops all (o::rest)::k,marks,cN⟩::fs,mem:=m}))
  (hW:WR w0 w S m) (hI:∀b,S.I b→I0 b∨w0.free b) (hf:FR w S m ⟨fn,nn,env,.ops all (o::rest)::k,marks,cN⟩ fr) (hfs:Ag w S m fs frs) (hB:sO f0 (⟨fn,nn,env,.ops all (o::rest)::k,marks,cN⟩::fs)) :
  Ends P f0 Fin Q fr frs cs w:=by
 have hnh:∀{env:Env} y,¬Hid ⟨fn,nn,env,.ops all (o::rest)::k,marks,cN⟩ fr y:=fun y=>jc fun a ha=>by cases ha;rfl
 obtain⟨it,kc,ht,h1,h2⟩:=hf.todo.cons_inv
 obtain⟨l,rfl,hl⟩:∃l:List Nat,it=.inRegion all l∧l.map (fun i=>all[i]?)=(o::rest).map some:=h1
 cases l with
 | nil=>cases hl
 | cons i l=>
   simp only[List.map_cons,List.cons.injEq] at hl
   simp only[run] at h
   cases hd:kw nn o.dst with
   | false=>rw[hd] at h;exact h.elim
   | true=>
     rw[hd] at h
     simp only at h
     obtain⟨env',hre,h⟩:=za h fun d _ c v e=>by have:=QV hf (hnh d) e;have:nn≤65535:=hf.small;omega
     have hf':=hf.I8 (D:=dR all o) hre
     have hw:∀{t:Bool},eU all env' o t→Region.wanted o (yielded all fr.tmps)=t:=fun hg=>mF hg fun d _=>hf'.env d (hnh d)
     have goes:∀{v:AV} {m':Mem} {w':World} {S':St} {z:Value},Step w0 w S m w' S' m'→CR w' S' m' v z→
       Tr.Ok Q (Good P E w0 I0 f0 Fin Q) (run ah E n {frames:=⟨fn,nn,env'.iD o.dst v,.ops all rest::k,marks,cN⟩::fs,mem:=m'})→Ends P f0 Fin Q (fr.finish z) frs cs w':=fun hs hc h=>
      ih _ h (dn fun a ha=>by cases ha;rfl) _ _ _ cs _ hs.wr (fun b hb=>(hs.grows b hb).elim (hI b) .inr) ⟨_,_,rfl,ze (hf'.mono hs.out) hd hc,hfs.mono hs.out⟩ (hB.swap rfl)
     rcases h with ⟨hg,h⟩|⟨hg,h⟩
     ·exact KM (fn:=fn) (ρ:=gN env') (below:=⟨fn,nn,env',.ops all (o::rest)::k,marks,cN⟩) (next:=fun v m=>run ah E n {frames:=⟨fn,nn,env'.iD o.dst v,.ops all rest::k,marks,cN⟩::fs,mem:=m})
       hP ih hW hI hfs (hB.swap rfl) hf.mode ht hl.1 (hw hg) (fun x _=>uT hf' x fun t _=>hnh t) hf' (fun v m' w' S' z hs hc h=>goes hs hc h) h
     ·exact .step (BL hf.mode ht hl.1 (hw hg)) (goes (.refl hW) (fx.2 ⟨#[],rfl,aM.2 rfl⟩) h)
end
end Go.Ev
namespace Go.Ev
theorem Cb(e:Edge):Region.binds .any e=mA e:=by
 obtain⟨on,g⟩:=e
 cases g<;>rfl
theorem qf:∀{os:List Oper} {k i:Nat} {o:Oper},jY k os=true→os[i]? = some o→∀e∈o.after.toList,mA e=true→e.on<k+i
 | [],k,i,o,_,h=>by simp at h
 | p::os,k,i,o,he,h=>by
   rw[jY,Bool.and_eq_true] at he
   cases i with
   | zero=>
     cases h
     intro e hm hb
     have:=List.all_eq_true.1 he.1 e hm
     rw[hb] at this
     simp at this
     omega
   | succ i=>
     intro e hm hb
     have:=qf he.2 (by simpa using h) e hm hb
     omega
theorem nF{all:Array Oper}{i j:Nat}:j∈jd all i↔∃o e,all[i]? = some o∧e∈o.after.toList∧mA e=true∧e.on=j:=by
 unfold jd
 cases h:all[i]? with
 | none=>simp
 | some o=>simp[and_assoc]
theorem pred_lt{all:Array Oper}(h:jY 0 all.toList=true){i j:Nat}(hj:j∈jd all i):j<i:=by
 obtain⟨o,e,h1,h2,h3,rfl⟩:=nF.1 hj
 have:=qf h (by rw[Array.getElem?_toList];exact h1) e h2 h3
 omega
structure aau(all:Array Oper)(acc:List Nat):Prop where
 nodup:acc.Nodup
 lt:∀i∈acc,i<all.size
 Wj:∀i∈acc,∀j∈jd all i,j∈acc
 pw:acc.Pairwise fun i j=>i ∉ jd all j
theorem aau.lin{all:Array Oper}{acc:List Nat}(h:aau all acc)(he:jY 0 all.toList=true)(hc:∀i,i<all.size→i∈acc):Oa all acc.reverse∧∀i,i<all.size→i∈acc.reverse:=
 ⟨⟨List.pairwise_reverse.2 (h.nodup.imp Ne.symm),fun i hi=>h.lt i (List.mem_reverse.1 hi),List.pairwise_reverse.2 h.pw,fun i _ hp=>Nat.lt_irrefl _ (pred_lt he hp),
  fun k hk hn=>absurd (List.mem_reverse.2 (hc k hk)) hn⟩,fun i hi=>List.mem_reverse.2 (hc i hi)⟩
theorem BN{all:Array Oper}{listed:Array Bool}{acc:List Nat}(hl:listed.size=all.size)(hm:∀i,i<all.size→(listed.getD i false=true↔i∈acc))(hlt:∀i∈acc,i<all.size){i:Nat}(hi:i<all.size) :
  (!listed.getD i true&&((all[i]?).map (·.after.all fun e=>!Region.binds .any e||listed.getD e.on false)).getD false)=true↔i ∉ acc∧∀j∈jd all i,j∈acc:=by
 have h1:listed.getD i true=listed.getD i false:=by
  simp only[Array.getD_eq_getD_getElem?,Array.getElem?_eq_getElem (by omega:i<listed.size),Option.getD_some]
 have h2:∀j,listed.getD j false=true↔j∈acc:=fun j=>by
  by_cases hj:j<all.size
  ·exact hm j hj
  ·rw[Array.getD_eq_getD_getElem?,Array.getElem?_eq_none (by omega)]
   exact⟨fun h=>(by cases h),fun h=>absurd (hlt j h) hj⟩
 rw[h1,Bool.and_eq_true,Bool.not_eq_true',Array.getElem?_eq_getElem hi]
 simp only[Option.map_some,Option.getD_some,Array.all_eq_true',Bool.or_eq_true,Bool.not_eq_true']
 constructor
 ·rintro ⟨h3,h4⟩
  refine⟨fun h=>(by rw[(h2 i).2 h] at h3;cases h3),fun j hj=>?_⟩
  obtain⟨o,e,e1,e2,e3,rfl⟩:=nF.1 hj
  rw[Array.getElem?_eq_getElem hi] at e1
  cases e1
  rcases h4 e (by simpa using e2) with h5|h5
  ·rw[Cb,e3] at h5;cases h5
  ·exact(h2 _).1 h5
 ·rintro ⟨h3,h4⟩
  refine⟨?_,fun e he=>?_⟩
  ·cases h:listed.getD i false with
   | false=>rfl
   | true=>exact absurd ((h2 i).1 h) h3
  ·cases hb:Region.binds .any e with
   | false=>exact .inl rfl
   | true=>exact .inr ((h2 _).2 (h4 _ (nF.2 ⟨_,e,Array.getElem?_eq_getElem hi,by simpa using he,by rw[←Cb];exact hb,rfl⟩)))
theorem uf{all:Array Oper}(he:jY 0 all.toList=true):∀(fuel t:Nat) (listed:Array Bool) (acc:List Nat),listed.size=all.size→(∀i,i<all.size→(listed.getD i false=true↔i∈acc))→aau all acc→
  ((List.range all.size).filter fun i=>decide (i ∉ acc)).length≤fuel→Oa all (Region.linearise.go .any all fuel t listed acc)∧∀i,i<all.size→i∈Region.linearise.go .any all fuel t listed acc
 | 0,t,listed,acc,hl,hm,hP,hf=>by
   rw[Region.linearise.go]
   refine hP.lin he fun i hi=>?_
   have:(List.range all.size).filter (fun i=>decide (i ∉ acc))=[]:=List.length_eq_zero_iff.1 (by omega)
   have:=List.filter_eq_nil_iff.1 this i (List.mem_range.2 hi)
   simpa using this
 | fuel+1,t,listed,acc,hl,hm,hP,hf=>by
   rw[Region.linearise.go]
   split
   ·rename_i i hi
    have hmem:=List.mem_of_getElem? hi
    obtain⟨h1,h2⟩:=List.mem_filter.1 hmem
    have hin:=List.mem_range.1 h1
    obtain⟨h3,h4⟩:=(BN hl hm hP.lt hin).1 h2
    refine uf he fuel _ _ _ (by simp[hl]) (fun j hj=>?_) ⟨List.nodup_cons.2 ⟨h3,hP.nodup⟩,fun j hj=>?_,fun j hj k hk=>?_,List.pairwise_cons.2 ⟨fun j hj hp=>h3 (hP.Wj j hj i hp),hP.pw⟩⟩ ?_
    ·simp only[Array.getD_eq_getD_getElem?,Array.getElem?_setIfInBounds]
     by_cases hji:i=j
     ·subst hji;simp[hl,hin]
     ·rw[if_neg hji,←Array.getD_eq_getD_getElem?,hm j hj,List.mem_cons]
      exact⟨.inr,fun h=>h.elim (fun e=>absurd e.symm hji) id⟩
    ·rcases List.mem_cons.1 hj with rfl|hj
     ·exact hin
     ·exact hP.lt j hj
    ·rcases List.mem_cons.1 hj with rfl|hj
     ·exact List.mem_cons_of_mem _ (h4 k hk)
     ·exact List.mem_cons_of_mem _ (hP.Wj j hj k hk)
    ·have e:(List.range all.size).filter (fun j=>decide (j ∉ i::acc))=((List.range all.size).filter fun j=>decide (j ∉ acc)).filter fun j=>decide (j≠i):=by
      rw[List.filter_filter]
      refine List.filter_congr fun j _=>?_
      simp[List.mem_cons,not_or]
     rw[e]
     have:(((List.range all.size).filter fun j=>decide (j ∉ acc)).filter fun j=>decide (j≠i)).length<((List.range all.size).filter fun j=>decide (j ∉ acc)).length:=
      List.length_filter_lt_length_iff_exists.2 ⟨i,List.mem_filter.2 ⟨h1,by simpa using h3⟩,by simp⟩
     omega
   ·rename_i hn
    refine hP.lin he fun i hi=>?_
    -- the least that is not listed could go
    have key:∀i,i<all.size→i∈acc:=fun i=>by
     induction i using Nat.strongRecOn with
     | ind i ihi=>
       intro hi
       by_cases hia:i∈acc
       ·exact hia
       ·have hr:=(BN hl hm hP.lt hi).2 ⟨hia,fun j hj=>ihi j (pred_lt he hj) (by have:=pred_lt he hj;omega)⟩
        have hmem:=List.mem_filter (p:=fun i=>!listed.getD i true&&((all[i]?).map (·.after.all fun e=>!Region.binds .any e||listed.getD e.on false)).getD false) |>.2 ⟨List.mem_range.2 hi,hr⟩
        have hpos:=List.length_pos_of_mem hmem
        exact absurd (List.getElem?_eq_none_iff.1 hn) (by have:=Nat.mod_lt t hpos;omega)
    exact key i hi
theorem Eh{all:Array Oper}(he:jY 0 all.toList=true)(t:Nat):Oa all (Region.schedule true all t)∧∀i,i<all.size→i∈Region.schedule true all t:=by
 unfold Region.schedule
 rw[Bool.true_or,if_pos rfl]
 unfold Region.linearise
 refine uf he _ _ _ _ (by simp) (fun i hi=>?_) ⟨List.nodup_nil,fun _ h=>absurd h List.not_mem_nil,fun _ h=>absurd h List.not_mem_nil,.nil⟩ ?_
 ·simp[Array.getD_eq_getD_getElem?,hi]
 ·have:=List.length_filter_le (fun i=>decide (i ∉ ([]:List Nat))) (List.range all.size)
  rw[List.length_range] at this
  exact this
theorem s7{ms:List Nat}{b:Nat}:∀{es:List Edge},(iM ms es).testBit b=true→∃e∈es,mA e=true∧(b=e.on∨(ms.getD e.on 0).testBit b=true)
 | [],h=>by simp[iM] at h
 | e::es,h=>by
   simp only[iM] at h
   cases hb:mA e with
   | false=>
     rw[hb] at h
     obtain⟨e',h1,h2⟩:=s7 h
     exact⟨e',List.mem_cons_of_mem _ h1,h2⟩
   | true=>
     rw[hb] at h
     simp only[Nat.testBit_or,Bool.or_eq_true] at h
     rcases h with (h|h)|h
     ·exact⟨e,List.mem_cons_self,hb,.inl (by
       rw[Nat.testBit_two_pow] at h
       simpa [eq_comm] using h)⟩
     ·exact⟨e,List.mem_cons_self,hb,.inr h⟩
     ·obtain⟨e',h1,h2⟩:=s7 h
      exact⟨e',List.mem_cons_of_mem _ h1,h2⟩
theorem qi:∀{os:List Oper} {ms:List Nat} {j:Nat},j<ms.length→(iE os ms).getD j 0=ms.getD j 0
 | [],ms,j,_=>by rw[iE]
 | o::os,ms,j,h=>by
   rw[iE,qi (by simp;omega)]
   rw[List.getD_eq_getElem?_getD,List.getD_eq_getElem?_getD,List.getElem?_append_left h]
theorem wS:∀{os:List Oper} {ms:List Nat} {i:Nat} {o:Oper},os[i]? = some o→(∀e∈o.after.toList,mA e=true→e.on<ms.length+i)→(iE os ms).getD (ms.length+i) 0=iM (iE os ms) o.after.toList
 | [],ms,i,o,h,_=>by simp at h
 | p::os,ms,i,o,h,he=>by
   rw[iE]
   have hlen:(ms ++ [iM ms p.after.toList]).length=ms.length+1:=by simp
   cases i with
   | zero=>
     cases h
     rw[Nat.add_zero,qi (by omega)]
     have:(ms ++ [iM ms p.after.toList]).getD ms.length 0=iM ms p.after.toList:=by
      rw[List.getD_eq_getElem?_getD,List.getElem?_append_right (Nat.le_refl _),Nat.sub_self];rfl
     rw[this]
     have hpre:∀j,j<ms.length→(iE os (ms ++ [iM ms p.after.toList])).getD j 0=ms.getD j 0:=fun j hj=>by
      rw[qi (by omega),List.getD_eq_getElem?_getD,List.getD_eq_getElem?_getD,List.getElem?_append_left hj]
     have key:∀es:List Edge,(∀e∈es,mA e=true→e.on<ms.length)→iM ms es=iM (iE os (ms ++ [iM ms p.after.toList])) es:=fun es=>by
      induction es with
      | nil=>intro _;rfl
      | cons e es ih=>
        intro hh
        simp only[iM]
        rw[ih fun e' h'=>hh e' (List.mem_cons_of_mem _ h')]
        cases hb:mA e with
        | false=>rfl
        | true=>simp only;rw[hpre _ (hh e List.mem_cons_self hb)]
     exact key _ he
   | succ i=>
     have:=wS (os:=os) (ms:=ms ++ [iM ms p.after.toList]) (i:=i) (o:=o) (by simpa using h) (fun e hm hb=>by have:=he e hm hb;omega)
     rw[hlen] at this
     rw[←this]
     congr 1
     omega
theorem KT{all:Array Oper}{l:List Nat}(he:jY 0 all.toList=true)(hL:Oa all l):∀{i b:Nat},i<all.size→(∀j∈jd all i,j ∉ l)→((iE all.toList []).getD i 0).testBit b=true→b ∉ l:=by
 intro i
 induction i using Nat.strongRecOn with
 | ind i ihi=>
   intro b hi hp hb
   obtain⟨o,ho⟩:∃o,all[i]? = some o:=⟨_,Array.getElem?_eq_getElem hi⟩
   have ho':all.toList[i]? = some o:=by rw[Array.getElem?_toList];exact ho
   have hedge:=qf he ho'
   have:=wS (ms:=[]) ho' (fun e hm h=>by have:=hedge e hm h;simpa using this)
   rw[List.length_nil,Nat.zero_add] at this
   rw[this] at hb
   obtain⟨e,h1,h2,h3⟩:=s7 hb
   have hj:e.on∈jd all i:=nF.2 ⟨o,e,ho,h1,h2,rfl⟩
   have hlt:=pred_lt he hj
   rcases h3 with rfl|h3
   ·exact hp _ hj
   ·exact ihi e.on hlt (by omega) (hL.closed e.on (by omega) (hp _ hj)) h3
theorem Oa.L0{all:Array Oper}{i:Nat}{l:List Nat}(h:Oa all (i::l)):∀j∈jd all i,j ∉ i::l:=fun j hj hm=>by
 rcases List.mem_cons.1 hm with rfl|hm
 ·exact h.self j List.mem_cons_self hj
 ·exact(List.pairwise_cons.1 h.pw).1 j hm hj
theorem fj.done{n:Nat}{all:Array Oper}{ms rest bs l:List Nat}{i b:Nat}(h:fj n all ms rest bs (i::l))(hb:(ms.getD i 0).testBit b=true):b ∉ i::l:=by
 exact h.msk [] i l rfl b hb
theorem Rj{all:Array Oper}{l:List Nat}(he:jY 0 all.toList=true)(hL:Oa all l):yW (iE all.toList []) l:=fun l1 i l2 e b hb=>by
 subst e
 have hL2:Oa all (i::l2):=by
  clear hb
  induction l1 with
  | nil=>exact hL
  | cons x l1 ih=>exact ih hL.tail
 exact KT he hL2 (hL2.lt i List.mem_cons_self) hL2.L0 hb
end Go.Ev
namespace Go.Ev
section
variable {P:Program} {R:Type} {E:ek R} {w0:iG} {I0:Nat→Prop} {f0:FuncId} {Fin:R→Value→World→Prop} {Q:R→Prop}
variable {w:World} {S:St} {m:Mem} {fr:Frame} {fs:List bq} {frs cs:List Frame}
variable {fn:FuncId} {nn:Nat} {env:Env} {marks:List Nat} {cN:Option Nat} {k:List bK} {n:Nat}
theorem Ld{a b:AV}{z:Value}(h:iP a b)(hc:CR w S m a z):CR w S m b z:=by
 unfold iP at h
 split at h
 ·subst h;exact c_.2 (c_.1 hc)
 ·obtain⟨rfl,rfl⟩:=h;exact bQ.2 (bQ.1 hc)
 ·subst h;exact hc
theorem Es{A:aK}{s:aC}{aa:List AV}{v:AV}{m':Mem}(hp:kP (aa.flatMap AV.cells)=true)(h:(ox A s m aa).Is (v,m')):m'=m:=by
 unfold ox at h
 cases hok:cn s.args aa with
 | false=>rw[hok] at h;exact h.elim
 | true=>
   rw[hok,yg hp] at h
   simp only at h
   cases htd:jL s.args (aa.flatMap AV.cells) with
   | none=>rw[htd] at h;exact h.elim
   | some q=>
     obtain⟨x,r⟩:=q
     rw[htd] at h
     cases r with
     | cons _ _=>exact h.elim
     | nil=>obtain⟨_,h⟩:=h;cases h;rfl
theorem Tn(hP:Fits P E Fin w0 I0){all:Array Oper}{i:Nat}{l:List Nat}{kc:List Item}{o:Oper}{ρ:Operand→AV}{tv:TV AV}{v:AV}(hW:WR w0 w S m)(hm:fr.mode=.run)
  (ht:fr.todo=.inRegion all (i::l)::kc) (ho:all[i]? = some o) (hw:Region.wanted o (yielded all fr.tmps)=true) (hρ:∀x∈o.op.operands.toList,CR w S m (ρ x) (fr.eval x))
  (h:R2 ah E m ρ o=some tv) (hv:tv.Is v) (cs:List Frame):∃w' S' z,Step w0 w S m w' S' m∧CR w' S' m v z∧Steps P (lone fr cs w) (lone (fr.finish z) cs w'):=by
 classical
 let ρ':Operand→AV:=fun x=>if x∈o.op.operands.toList then ρ x else .undef
 have hρ':∀x,CR w S m (ρ' x) (fr.eval x):=fun x=>by
  by_cases hx:x∈o.op.operands.toList
  ·simp only[ρ',if_pos hx];exact hρ x hx
  ·simp only[ρ',if_neg hx];exact dA
 have hsame:∀x∈o.op.operands.toList,ρ x=ρ' x:=fun x hx=>by simp only[ρ',if_pos hx]
 rw[vD hsame] at h
 unfold R2 at h
 cases hev:ny ah E ρ' m o with
 | some tv'=>
   rw[hev] at h
   cases h
   obtain⟨z,hz,hc⟩:=wN hP.ti hW hρ' hev hv
   have hd:∀c,o.op≠.defer c:=fun c e=>by simp[ny,e] at hev
   exact⟨w,S,z,.refl hW,hc,.one (GR hm ht ho hw hd hz)⟩
 | none=>
   rw[hev] at h
   simp only at h
   unfold uN at h
   cases hop:o.op<;>rw[hop] at h<;>(try simp only at h)<;>try (cases h;done)
   rename_i c
   obtain⟨callee,args,ats⟩:=c
   cases callee<;>simp only at h<;>try (cases h;done)
   rename_i x
   have hd:∀c,o.op≠.defer c:=fun c e=>by rw[hop] at e;cases e
   have hx:=hρ' x
   have hargs:bw w S m (args.toList.map ρ') (args.map fr.eval).toList:=Bz hρ' args
   have hexec:∀nx,(do let d ←resolve fr.eval {callee:=.value x,args:=args,argTypes:=ats} o.type;invoke d.target d.args:Sem Next).run P w=.ok nx w→(execOp fr.eval o).run P w=.ok nx w:=fun nx he=>by
    simp only[execOp,hop];exact he
   cases hvx:ρ' x<;>rw[hvx] at h hx<;>(try simp only at h)<;>try (cases h;done)
   rename_i g first caps
   obtain⟨us,vs,hxe,hus,hvs⟩:=og.1 hx
   have hall:bw w S m (first++(args.toList.map ρ'++caps)) (us++args.map fr.eval++vs).toList:=by
    rw[Array.append_assoc,Array.toList_append,Array.toList_append]
    exact hus.append (hargs.append hvs)
   cases hsp:look E.da g with
   | none=>rw[hsp] at h;cases h
   | some s=>
     rw[hsp] at h
     simp only at h
     cases hpl:kP ((first++(args.toList.map ρ'++caps)).flatMap AV.cells) with
     | false=>rw[hpl] at h;cases h
     | true=>
       rw[hpl] at h
       cases h
       obtain⟨⟨v',m'⟩,hv1,rfl⟩:=TV.vt hv
       obtain rfl:=Es hpl hv1
       obtain⟨F,hF,hb,hn⟩:=(hP.da g s hsp).body
       obtain⟨w',S',z,dO,hs,hc,hsteps,hleave⟩:=uD (hP.da g s hsp) (fun d=>(hP.nod d).1 g s hsp) hW hall hv1 (fr::cs)
       have hstep:=Dx (cs:=cs) hm ht ho hw hd (hexec _ (iU hxe hF hn hb w))
       exact⟨w',S',z,hs,hc,(Steps.head hstep hsteps).trans (.one (step_leave_returned hleave))⟩
theorem sW{t:Nat}:∀{l:List Operand},Operand.tmp t∈l→t∈tmpsOf l
 | x::l,h=>by
   rcases List.mem_cons.1 h with rfl|h'
   ·exact List.mem_cons_self
   ·cases x<;>simp only[tmpsOf]
    ·exact List.mem_cons_of_mem _ (sW h')
    all_goals exact sW h'
theorem oN{all:Array Oper}{o:Oper}{t:Nat}(h:Operand.tmp t∈o.op.operands.toList):t∈readsOf all o:=List.mem_append.2 (.inl (sW h))
theorem jr{all:Array Oper}{o:Oper}{t:Nat}(h:t∈dR all o):t∈readsOf all o:=List.mem_append.2 (.inr h)
theorem tL{all:Array Oper}{ms rest bs l:List Nat}{i:Nat}{kc:List Item}{o:Oper}{f:bq}(hD:fj nn all ms rest bs (i::l))(hf:f.todo.head?.bind bK.drawn=some (all,bs))(ht:fr.todo=.inRegion all (i::l)::kc)
  (hro:∀b∈bs,i≠b→∀p d,all[b]? = some p→p.dst=some d→d∈readsOf all o→(ms.getD i 0).testBit b=true) (hown:i∈bs→∀d,∀p,all[i]? = some p→p.dst=some d→d ∉ readsOf all o) {t:Nat} (hr:t∈readsOf all o):¬Hid f fr t:=by
 rintro ⟨all',bs',l',k',b,p,e1,e2,e3,e4,e5,e6⟩
 rw[hf] at e1
 cases e1
 rw[ht] at e2
 cases e2
 by_cases hib:i=b
 ·subst hib;exact hown e3 t p e5 e6 hr
 ·exact hD.done (hro b e3 hib p t e5 e6 hr) e4
theorem fj.drop{all:Array Oper}{ms rest bs l:List Nat}{i:Nat}(h:fj nn all ms rest bs (i::l))(hi:i ∉ rest):fj nn all ms rest bs l:=by
 refine⟨h.msk.tail,(List.nodup_cons.1 h.XW).2,h.nodup,fun j hj=>?_,fun j hj=>h.cov j (List.mem_cons_of_mem _ hj),h.lt,h.read,h.dst,h.own,h.grd,h.Y1⟩
 rcases List.mem_cons.1 (h.sub j hj) with rfl|hm
 ·exact absurd hj hi
 ·exact hm
theorem uW(hP:Fits P E Fin w0 I0){all:Array Oper}{ms rest bs:List Nat}(cs:List Frame)(hst:∀b∈bs,AF E env m all b):∀(l:List Nat) {w:World} {S:St} {fr:Frame} {kc:List Item},WR w0 w S m→FR w S m ⟨fn,nn,env,.fu all ms rest bs::k,marks,cN⟩ fr→
  fr.todo=.inRegion all l::kc→fj nn all ms rest bs l→cH nn S k kc→
  ∃w' S' dO l' kc',Step w0 w S m w' S' m∧FR w' S' m ⟨fn,nn,env,.fu all ms rest bs::k,marks,cN⟩ dO∧Steps P (lone fr cs w) (lone dO cs w')∧dO.todo=.inRegion all l'::kc'∧fj nn all ms rest bs l'∧cH nn S' k kc'∧(∀i,l'.head? = some i→i∈rest)∧dO.fn=fr.fn
 | [],w,S,fr,kc,hW,hf,ht,hD,hk=>⟨w,S,fr, [],kc,.refl hW,hf,.refl _ _,ht,hD,hk,fun i h=>(by cases h),rfl⟩
 | i::l,w,S,fr,kc,hW,hf,ht,hD,hk=>by
   by_cases hir:i∈rest
   ·exact⟨w,S,fr,i::l,kc,.refl hW,hf,.refl _ _,ht,hD,hk,fun j h=>(by cases h;exact hir),rfl⟩
   ·have hib:i∈bs:=(hD.cov i List.mem_cons_self).resolve_left hir
    obtain⟨o,ho,hg⟩:=hst i hib
    have hnh:∀{t:Nat},t∈readsOf all o→¬Hid ⟨fn,nn,env,.fu all ms rest bs::k,marks,cN⟩ fr t:=fun hr=>
     tL hD rfl ht (fun b hb hne p d hp hd hr=>hD.read i hib b hb hne o p d ho hp hd hr) (fun _ d p hp hd=>by rw[ho] at hp;cases hp;exact hD.own i hib o d ho hd) hr
    have hop:∀x∈o.op.operands.toList,CR w S m (gN env x) (fr.eval x):=fun x hx=>uT hf x fun t e=>hnh (by subst e;exact oN hx)
    have hwant:∀{t:Bool},eU all env o t→Region.wanted o (yielded all fr.tmps)=t:=fun hg=>mF hg fun d hd=>hf.env d (hnh (jr hd))
    have hdok:=hD.Y1 i hib o ho
    -- one operation,then on
    have main:∀{w1:World} {S1:St} {v:AV} {z:Value},Step w0 w S m w1 S1 m→CR w1 S1 m v z→oW env o.dst v→Steps P (lone fr cs w) (lone (fr.finish z) cs w1)→
      ∃w' S' dO l' kc',Step w0 w S m w' S' m∧FR w' S' m ⟨fn,nn,env,.fu all ms rest bs::k,marks,cN⟩ dO∧Steps P (lone fr cs w) (lone dO cs w')∧dO.todo=.inRegion all l'::kc'∧fj nn all ms rest bs l'∧cH nn S' k kc'∧(∀i,l'.head? = some i→i∈rest)∧dO.fn=fr.fn:=by
     intro w1 S1 v z hs hc hsd hsteps
     have hD':=hD.drop hir
     have hf1:=hf.mono hs.out
     have hk1:=cH.mono hs.out hf.live.tail hk
     have hfin:=nL (z:=z) ht ho
     rw[hfin] at hsteps
     have hf2:FR w1 S1 m ⟨fn,nn,env,.fu all ms rest bs::k,marks,cN⟩ {fr with tmps:=AB fr.tmps o.dst z,todo:=.inRegion all l::kc}:=by
      refine⟨hf1.fn,vf.trans hf1.n,hf1.small,fun x hx=>?_,.mk (a:=.fu all ms rest bs) ⟨l,rfl,hD'⟩ hk1,hf1.live,hf1.flat,hf1.defers,hf1.marks,hf1.mode,hf1.kind,hf1.cN,hf1.mY⟩
      show CR w1 S1 m (env.at x) ((AB fr.tmps o.dst z).getD x undef)
      rw[Fj (by rw[hf.n];exact hdok)]
      by_cases hdx:o.dst=some x
      ·rw[if_pos hdx]
       rw[hdx] at hsd
       exact Ld hsd hc
      ·rw[if_neg hdx]
       refine hf1.env x fun hh=>hx ?_
       obtain⟨all',bs',l',k',b,p,e1,e2,e3,e4,e5,e6⟩:=hh
       cases e1
       rw[ht] at e2
       cases e2
       rcases List.mem_cons.1 e4 with rfl|e4
       ·rw[ho] at e5;cases e5;exact absurd e6 hdx
       ·exact⟨all,bs,l,kc,b,p,rfl,rfl,e3,e4,e5,e6⟩
     obtain⟨w',S',dO,l',kc',g1,g2,g3,g4,g5,g6,g7,g8⟩:=uW hP cs hst l hs.wr hf2 rfl hD' hk1
     exact⟨w',S',dO,l',kc',hs.trans g1,g2,hsteps.trans g3,g4,g5,g6,g7,g8⟩
    rcases hg with ⟨hg,hsd⟩|⟨hg,tv,v,hev,hv,hsd⟩
    ·exact main (.refl hW) (fx.2 ⟨#[],rfl,aM.2 rfl⟩) hsd (.one (BL hf.mode ht ho (hwant hg)))
    ·obtain⟨w1,S1,z,hs,hc,hsteps⟩:=Tn hP hW hf.mode ht ho (hwant hg) hop hev hv cs
     exact main hs hc hsd hsteps
end
end Go.Ev
namespace Go.Ev
theorem Dk{da:List (FuncId×aC)}{os:Array Oper}{ms is:List Nat}(h:kM da os=some (ms,is)) :
  ms=iE os.toList []∧jY 0 os.toList=true∧is.Nodup∧(∀i∈is,i<os.size)∧∀i,i<os.size→i∈is:=by
 unfold kM at h
 simp only at h
 split at h
 ·rename_i hc
  cases h
  rw[Bool.and_eq_true,Bool.and_eq_true,Bool.and_eq_true] at hc
  obtain⟨h1,h2,h3,h4⟩:=hc
  refine⟨rfl,h1,kF h2,fun i hi=>Nat.le_of_ble_eq_true (List.all_eq_true.1 h3 i hi),fun i hi=>eD.1 (List.all_eq_true.1 h4 i (List.mem_range.2 hi))⟩
 ·cases h
theorem qp(v:AV):iP v v:=by cases v<;>simp[iP]
theorem EZ{v:AV}{b:Bool}(h:iP v (.bool false b)):iP v (.bool true b):=by
 cases v<;>simp[iP] at h ⊢
 exact h
section
variable {P:Program} {R:Type} {E:ek R} {w0:iG} {I0:Nat→Prop} {f0:FuncId} {Fin:R→Value→World→Prop} {Q:R→Prop}
variable {w:World} {S:St} {m:Mem} {fr:Frame} {fs:List bq} {frs cs:List Frame}
variable {fn:FuncId} {nn:Nat} {env:Env} {marks:List Nat} {cN:Option Nat} {k:List bK} {n:Nat}
theorem LG{G:eF→Prop}{all:Array Oper}{bs:List Nat}{o:Oper}{yes no:Env→Tr R}(h:Tr.Ok Q G (GI all bs env o yes no))(hs:∀d∈dR all o,∀c v,env.at d=.bool c v→d≤65535) :
  ∃env':Env,xA env env' (dR all o)∧((∀x,env'.at x=env.at x)∨∀d∈dR all o,q9 all bs d=true)∧((eU all env' o true∧Tr.Ok Q G (yes env'))∨(eU all env' o false∧Tr.Ok Q G (no env'))):=by
 unfold GI at h
 cases hk:kH all env o with
 | some t=>
   rw[hk] at h
   refine⟨env,fun _=>.inl rfl,.inl fun _=>rfl,?_⟩
   cases t with
   | true=>exact .inl ⟨kU hk,h⟩
   | false=>exact .inr ⟨kU hk,h⟩
 | none=>
   rw[hk] at h
   simp only at h
   split at h
   ·rename_i d hd
    cases hn:q9 all bs d with
    | false=>rw[hn] at h;exact h.elim
    | true=>
      rw[hn] at h
      obtain⟨env',h1,h2⟩:=za h hs
      exact⟨env',h1,.inr fun x hx=>by rw[hd] at hx;rw[List.mem_singleton.1 hx];exact hn,h2⟩
   ·exact h.elim
theorem eU.congr{all:Array Oper}{env':Env}{o:Oper}{t:Bool}(h:eU all env o t)(he:∀x∈dR all o,env'.at x=env.at x):eU all env' o t:=by
 unfold eU at h ⊢
 unfold dR at he
 cases hg:o.guard with
 | none=>rw[hg] at h;exact h
 | some q=>
   obtain⟨j,want⟩:=q
   rw[hg] at h he
   simp only at h he ⊢
   obtain⟨p,d,hp,hd,h⟩:=h
   rw[hp] at he
   simp only[hd] at he
   refine⟨p,d,hp,hd,?_⟩
   rw[he d List.mem_cons_self]
   exact h
theorem yp{env':Env}{x:Operand}(h:∀t,x=.tmp t→env'.at t=env.at t):gN env' x=gN env x:=by
 cases x with
 | tmp t=>exact h t rfl
 | const v=>rfl
 | global g=>rfl
 | func f=>rfl
theorem AF.congr{all:Array Oper}{env':Env}{b:Nat}(h:AF E env m all b)(he:∀o,all[b]? = some o→(∀x∈readsOf all o,env'.at x=env.at x)∧∀v d,o.dst=some d→iP v (env.at d)→iP v (env'.at d)):AF E env' m all b:=by
 obtain⟨o,ho,h⟩:=h
 obtain⟨h1,h2⟩:=he o ho
 have hd:∀v,oW env o.dst v→oW env' o.dst v:=fun v hv=>by
  cases hod:o.dst with
  | none=>trivial
  | some d=>rw[hod] at hv;exact h2 v d hod hv
 refine⟨o,ho,?_⟩
 rcases h with ⟨hg,hs⟩|⟨hg,tv,v,hev,hv,hs⟩
 ·exact .inl ⟨hg.congr fun x hx=>h1 x (jr hx),hd _ hs⟩
 ·refine .inr ⟨hg.congr fun x hx=>h1 x (jr hx),tv,v,?_,hv,hd _ hs⟩
  rw[←hev]
  exact vD fun x hx=>yp fun t e=>h1 t (by subst e;exact oN hx)
theorem yR(hP:Fits P E Fin w0 I0){id:Nat}{os:Array Oper}{ms is:List Nat}(hd:kM E.da os=some (ms,is))
  (hg:Good P E w0 I0 f0 Fin Q {frames:=⟨fn,nn,env,.fu os ms is []::k,marks,cN⟩::fs,mem:=m})
  (hW:WR w0 w S m) (hI:∀b,S.I b→I0 b∨w0.free b) (hf:FR w S m ⟨fn,nn,env,.code (.region id os true)::k,marks,cN⟩ fr) (hfs:Ag w S m fs frs) (hB:sO f0 (⟨fn,nn,env,.code (.region id os true)::k,marks,cN⟩::fs)) :
  Ends P f0 Fin Q fr frs cs w:=by
 obtain⟨it,kc,ht,h1,h2⟩:=hf.todo.cons_inv
 have h1:it=.code (.region id os true):=h1
 subst h1
 have hnh:∀y,¬Hid ⟨fn,nn,env,.code (.region id os true)::k,marks,cN⟩ fr y:=fun y=>jc fun a ha=>by cases ha;rfl
 obtain⟨g1,g2,g3,g4,g5⟩:=Dk hd
 have hstep:=IR (P:=P) (cs:=frs++cs) (w:=w) hf.mode ht
 rw[hP.mixed] at hstep
 obtain⟨hL,hall⟩:=Eh g2 (w.tape w.drawn (.order fr.fn id))
 have hs:=Step.drew hW
 have hf1:=hf.mono hs.out
 refine .step hstep (hg (fun b hb=>absurd hb List.not_mem_nil) S _ _ cs _ hs.wr hI ⟨_,_,rfl,?_,hfs.mono hs.out⟩ (hB.swap rfl))
 refine⟨hf1.fn,hf1.n,hf1.small,fun x _=>hf1.env x (fun hh=>hnh x hh),.mk (a:=.fu os ms is []) ⟨_,rfl,?_⟩ (cH.mono hs.out hf.live.tail h2),.mk trivial hf1.live.tail,hf1.flat,hf1.defers,hf1.marks,hf1.mode,hf1.kind,hf1.cN,hf1.mY⟩
 exact⟨g1▸Rj g2 hL,hL.nodup,by rw[List.append_nil];exact g3,fun i hi=>hall i (g4 i hi),fun i hi=>.inl (g5 i (hL.lt i hi)),fun _ h=>absurd h List.not_mem_nil,fun _ h=>absurd h List.not_mem_nil,fun _ h=>absurd h List.not_mem_nil,fun _ h=>absurd h List.not_mem_nil,
  fun _ h=>absurd h List.not_mem_nil,fun _ h=>absurd h List.not_mem_nil⟩
theorem Fq(hP:Fits P E Fin w0 I0)(hcan:∀ks f fs m,(∀a∈f.todo.head?,a.A_=false)→Good P E w0 I0 f0 Fin Q (canon E.keep ks {frames:=f::fs,mem:=m})→Good P E w0 I0 f0 Fin Q {frames:=f::fs,mem:=m})
  (ih:∀c,Tr.Ok Q (Good P E w0 I0 f0 Fin Q) (run ah E n c)→Good P E w0 I0 f0 Fin Q c) {id:Nat} {os:Array Oper}
  (h:Tr.Ok Q (Good P E w0 I0 f0 Fin Q) (run ah E (n+1) {frames:=⟨fn,nn,env,.code (.region id os true)::k,marks,cN⟩::fs,mem:=m}))
  (hst:nh E {frames:=⟨fn,nn,env,.code (.region id os true)::k,marks,cN⟩::fs,mem:=m})
  (hW:WR w0 w S m) (hI:∀b,S.I b→I0 b∨w0.free b) (hf:FR w S m ⟨fn,nn,env,.code (.region id os true)::k,marks,cN⟩ fr) (hfs:Ag w S m fs frs) (hB:sO f0 (⟨fn,nn,env,.code (.region id os true)::k,marks,cN⟩::fs)) :
  Ends P f0 Fin Q fr frs cs w:=by
 simp only[run] at h
 cases hcut:vO E.dp fn (some id) with
 | some ks=>rw[hcut] at h;exact hcan ks _ _ _ (fun a ha=>by cases ha;rfl) h hst S fr frs cs w hW hI ⟨fr,frs,rfl,hf,hfs⟩ hB
 | none=>
   rw[hcut] at h
   simp only at h
   cases hd:kM E.da os with
   | none=>rw[hd] at h;exact h.elim
   | some q=>
     obtain⟨ms,is⟩:=q
     rw[hd] at h
     simp only at h
     exact yR hP hd (ih _ h) hW hI hf hfs hB
theorem L9(hP:Fits P E Fin w0 I0)(ih:∀c,Tr.Ok Q (Good P E w0 I0 f0 Fin Q) (run ah E n c)→Good P E w0 I0 f0 Fin Q c){all:Array Oper}{ms bs:List Nat}
  (h:Tr.Ok Q (Good P E w0 I0 f0 Fin Q) (run ah E (n+1) {frames:=⟨fn,nn,env,.fu all ms [] bs::k,marks,cN⟩::fs,mem:=m}))
  (hst:∀b∈bs,AF E env m all b)
  (hW:WR w0 w S m) (hI:∀b,S.I b→I0 b∨w0.free b) (hf:FR w S m ⟨fn,nn,env,.fu all ms [] bs::k,marks,cN⟩ fr) (hfs:Ag w S m fs frs) (hB:sO f0 (⟨fn,nn,env,.fu all ms [] bs::k,marks,cN⟩::fs)) :
  Ends P f0 Fin Q fr frs cs w:=by
 obtain⟨it,kc,ht,h1,h2⟩:=hf.todo.cons_inv
 obtain⟨l,rfl,hD⟩:∃l:List Nat,it=.inRegion all l∧fj nn all ms [] bs l:=h1
 simp only[run] at h
 obtain⟨w',S',dO,l',kc',hs,hf',hsteps,ht',hD',hk',hhead,_⟩:=uW hP (frs++cs) hst l hW hf ht hD h2
 cases l' with
 | cons i l'=>exact absurd (hhead i rfl) List.not_mem_nil
 | nil=>
   refine .steps (hsteps.trans (.one (zC hf'.mode ht'))) (ih _ h (dn fun a ha=>hf.flat a (List.mem_of_mem_head? ha)) S' _ _ cs _ hs.wr (fun b hb=>(hs.grows b hb).elim (hI b) .inr) ⟨_,_,rfl,hf'.next ?_ hk' hf'.live.tail (fun a ha=>hf.flat a (List.mem_of_mem_tail ha)),hfs.mono hs.out⟩ (hB.swap rfl))
   rintro x ⟨all',bs',l',k',b,p,e1,e2,e3,e4,e5,e6⟩
   rw[ht'] at e2
   cases e2
   exact absurd e4 List.not_mem_nil
theorem sT{all:Array Oper}{bs:List Nat}{d b:Nat}{o:Oper}(h:q9 all bs d=true)(hb:b∈bs)(ho:all[b]? = some o):d ∉ readsOf all o:=by
 have:=List.all_eq_true.1 h b hb
 rw[ho] at this
 simp only[Bool.not_eq_true'] at this
 intro hm
 rw[eD.2 hm] at this
 cases this
theorem vq{all:Array Oper}{bs:List Nat}{d b:Nat}{o:Oper}(h:Hr all bs d=true)(hb:b∈bs)(ho:all[b]? = some o):o.dst≠some d:=by
 have:=List.all_eq_true.1 h b hb
 rw[ho] at this
 simp only[Bool.not_eq_true'] at this
 intro e
 rw[e] at this
 simp only[isDst,aX.2] at this
 cases this
theorem n_{all:Array Oper}{bs:List Nat}{o:Oper}{d:Nat}(h:nK all bs o.dst=true)(hd:o.dst=some d):q9 all bs d=true∧Hr all bs d=true:=by
 rw[hd] at h
 simpa [nK] using h
theorem Gj{all:Array Oper}{o:Oper}{d:Nat}(h:zq all o=true)(hd:o.dst=some d):d ∉ readsOf all o:=by
 unfold zq at h
 rw[hd] at h
 simp only[Bool.not_eq_true'] at h
 intro hm
 rw[eD.2 hm] at h
 cases h
theorem Ke{all:Array Oper}{mk:Nat}{bs:List Nat}{o:Oper}(h:RQ all mk bs o=true){b:Nat}(hb:b∈bs){p:Oper}{d:Nat}(hp:all[b]? = some p)(hd:p.dst=some d)(hr:d∈readsOf all o):mk.testBit b=true:=by
 have:=List.all_eq_true.1 h b hb
 rw[hp] at this
 simp only[hd,eD.2 hr] at this
 simpa using this
theorem fj.add{all:Array Oper}{ms rest bs l:List Nat}{i:Nat}{o:Oper}(h:fj nn all ms (i::rest) bs l)(ho:all[i]? = some o)(hd:kw nn o.dst=true)(hord:RQ all (ms.getD i 0) bs o=true)(hg:rz (ms.getD i 0) o=true)
  (hfr:nK all bs o.dst=true) (hown:zq all o=true):fj nn all ms rest (i::bs) l:=by
 have hnd:=h.nodup
 rw[List.cons_append] at hnd
 have hn:=List.nodup_cons.1 hnd
 refine⟨h.msk,h.XW,?_,fun j hj=>h.sub j (List.mem_cons_of_mem _ hj),fun j hj=>?_,fun j hj=>?_,?_,?_,?_,?_,?_⟩
 ·exact(List.perm_middle.nodup_iff).2 hnd
 ·rcases h.cov j hj with hm|hm
  ·rcases List.mem_cons.1 hm with rfl|hm
   ·exact .inr List.mem_cons_self
   ·exact .inl hm
  ·exact .inr (List.mem_cons_of_mem _ hm)
 ·rcases List.mem_cons.1 hj with rfl|hj
  ·exact(Array.getElem?_eq_some_iff.1 ho).1
  ·exact h.lt j hj
 ·intro a ha b hb hne oa p d hoa hp hpd hr
  rcases List.mem_cons.1 ha with rfl|ha'
  ·rcases List.mem_cons.1 hb with rfl|hb'
   ·exact absurd rfl hne
   ·rw[ho] at hoa;cases hoa
    exact Ke hord hb' hp hpd hr
  ·rcases List.mem_cons.1 hb with rfl|hb'
   ·rw[ho] at hp;cases hp
    exact absurd hr (sT (n_ hfr hpd).1 ha' hoa)
   ·exact h.read a ha' b hb' hne oa p d hoa hp hpd hr
 ·intro a ha b hb hne oa p d hoa hp hpd
  rcases List.mem_cons.1 ha with rfl|ha'
  ·rcases List.mem_cons.1 hb with rfl|hb'
   ·exact absurd rfl hne
   ·rw[ho] at hoa;cases hoa
    intro e
    exact vq (n_ hfr e).2 hb' hp hpd
  ·rcases List.mem_cons.1 hb with rfl|hb'
   ·rw[ho] at hp;cases hp
    exact vq (n_ hfr hpd).2 ha' hoa
   ·exact h.dst a ha' b hb' hne oa p d hoa hp hpd
 ·intro a ha oa d hoa hd
  rcases List.mem_cons.1 ha with rfl|ha
  ·rw[ho] at hoa;cases hoa;exact Gj hown hd
  ·exact h.own a ha oa d hoa hd
 ·intro a ha oa hoa
  rcases List.mem_cons.1 ha with rfl|ha
  ·rw[ho] at hoa;cases hoa;exact hg
  ·exact h.grd a ha oa hoa
 ·intro a ha oa hoa
  rcases List.mem_cons.1 ha with rfl|ha
  ·rw[ho] at hoa;cases hoa;exact hd
  ·exact h.Y1 a ha oa hoa
theorem s8{j:Nat}{rest:List Nat}:∀{ms:List Nat} {k i b:Nat},(((nP j rest k ms).getD i 0).testBit b=true→(ms.getD i 0).testBit b=true∨(b=j∧k+i∈rest∧k+i≠j))∧((ms.getD i 0).testBit b=true→((nP j rest k ms).getD i 0).testBit b=true)
 | [],k,i,b=>by rw[nP];exact⟨.inl,id⟩
 | m::ms,k,0,b=>by
   rw[nP]
   simp only[List.getD_cons_zero]
   cases hc:mB rest k && !Nat.beq k j with
   | false=>exact⟨.inl,id⟩
   | true=>
     rw[Bool.and_eq_true,Bool.not_eq_true'] at hc
     refine⟨fun h=>?_,fun h=>?_⟩
     ·rw[Nat.testBit_or,Bool.or_eq_true] at h
      rcases h with h|h
      ·exact .inl h
      ·refine .inr ⟨?_,eD.1 hc.1,fun e=>?_⟩
       ·rw[Nat.testBit_two_pow] at h;exact(of_decide_eq_true h).symm
       ·rw[Nat.add_zero] at e
        rw[aX.2 e] at hc;cases hc.2
     ·show(m ||| 2^j).testBit b=true
      rw[Nat.testBit_or,h];rfl
 | m::ms,k,i+1,b=>by
   rw[nP]
   simp only[List.getD_cons_succ]
   have:=s8 (j:=j) (rest:=rest) (ms:=ms) (k:=k+1) (i:=i) (b:=b)
   rw[show k+(i+1)=k+1+i by omega]
   exact this
theorem vh{j x:Nat}:∀{l:List Nat},(x∈ob l j→x∈l)∧(x∈l→x=j∨x∈ob l j)
 | []=>by rw[ob];exact⟨id,fun h=>.inr h⟩
 | i::l=>by
   have ih:=vh (j:=j) (x:=x) (l:=l)
   rw[ob]
   by_cases e:i=j
   ·rw[aX.2 e]
    exact⟨List.mem_cons_of_mem _,fun h=>(List.mem_cons.1 h).elim (fun h=>.inl (h.trans e)) .inr⟩
   ·rw[bo.2 e]
    refine⟨fun h=>?_,fun h=>?_⟩
    ·rcases List.mem_cons.1 h with rfl|h
     ·exact List.mem_cons_self
     ·exact List.mem_cons_of_mem _ (ih.1 h)
    ·rcases List.mem_cons.1 h with rfl|h
     ·exact .inr List.mem_cons_self
     ·exact(ih.2 h).imp id (List.mem_cons_of_mem _)
theorem fj.next{da:List (FuncId×aC)}{all:Array Oper}{ms rest bs l ms' is:List Nat}{j:Nat}(h:fj nn all ms rest bs (j::l))(hj:j∈rest)(hn:EK da all ms rest j=some (ms',is)) :
  fj nn all ms' is bs (j::l):=by
 unfold EK at hn
 simp only at hn
 split at hn
 case h_2=>cases hn
 rename_i hc
 cases hn
 rw[Bool.and_eq_true,Bool.and_eq_true] at hc
 obtain⟨h1,h2,h3⟩:=hc
 have hin:∀x,x∈j::eager da all (nP j rest 0 ms) (ob rest j).length (Kz (ob rest j)) (ob rest j)→x∈rest:=fun x hx=>by
  rcases List.mem_cons.1 hx with rfl|hx
  ·exact hj
  ·exact vh.1 (eD.1 (List.all_eq_true.1 h2 x hx))
 have hout:∀x,x∈rest→x∈j::eager da all (nP j rest 0 ms) (ob rest j).length (Kz (ob rest j)) (ob rest j):=fun x hx=>by
  rcases (vh (j:=j)).2 hx with rfl|hx
  ·exact List.mem_cons_self
  ·exact List.mem_cons_of_mem _ (eD.1 (List.all_eq_true.1 h3 x hx))
 have hup:∀i b,(ms.getD i 0).testBit b=true→((nP j rest 0 ms).getD i 0).testBit b=true:=fun i b=>s8.2
 have hnd:=List.nodup_append.1 h.nodup
 refine⟨fun l1 i l2 e b hb=>?_,h.XW,?_,fun x hx=>h.sub x (hin x hx),fun x hx=>(h.cov x hx).imp (hout x) id,h.lt,fun i hi b hb hne o p d ho hp hd hr=>hup _ _ (h.read i hi b hb hne o p d ho hp hd hr),h.dst,h.own,fun i hi o ho=>?_,h.Y1⟩
 ·rcases s8.1 hb with hb|⟨rfl,_,hne⟩
  ·exact h.msk l1 i l2 e b hb
  ·rw[Nat.zero_add] at hne
   cases l1 with
   | nil=>cases e;exact absurd rfl hne
   | cons x l1=>
     cases e
     intro hm
     exact(List.nodup_cons.1 h.XW).1 (List.mem_append.2 (.inr hm))
 ·refine List.nodup_append.2 ⟨kF h1,hnd.2.1,fun a ha b hb=>hnd.2.2 a (hin a ha) b hb⟩
 ·have:=h.grd i hi o ho
  unfold rz at this ⊢
  split
  ·rfl
  ·rename_i q1 q2 hq
   rw[hq] at this
   exact hup _ _ this
theorem FJ{G:eF→Prop}{K:Nat→Tr R}:∀{l:List Nat},Tr.Ok Q G (EJ K l)→∀j∈l,Tr.Ok Q G (K j)
 | [],_,_,h=>absurd h List.not_mem_nil
 | [i],h,j,hj=>by rw[List.mem_singleton.1 hj];exact h
 | i::i2::l,h,j,hj=>by
   obtain⟨h1,h2⟩:Tr.Ok Q G (K i)∧Tr.Ok Q G (EJ K (i2::l)):=h
   rcases List.mem_cons.1 hj with rfl|hj
   ·exact h1
   ·exact FJ h2 j hj
theorem fj.cut{all:Array Oper}{ms rest bs l:List Nat}{i:Nat}(h:fj nn all ms rest bs (i::l)):fj nn all ms rest (mI (ms.getD i 0) bs) (i::l):=by
 have hsub:∀b∈mI (ms.getD i 0) bs,b∈bs:=fun b hb=>(List.mem_filter.1 hb).1
 refine⟨h.msk,h.XW,?_,h.sub,fun j hj=>?_,fun j hj=>h.lt j (hsub j hj),fun a ha b hb=>h.read a (hsub a ha) b (hsub b hb),fun a ha b hb=>h.dst a (hsub a ha) b (hsub b hb),fun a ha=>h.own a (hsub a ha),fun a ha=>h.grd a (hsub a ha),fun a ha=>h.Y1 a (hsub a ha)⟩
 ·exact h.nodup.sublist (List.Sublist.append_left List.filter_sublist rest)
 ·rcases h.cov j hj with hm|hm
  ·exact .inl hm
  ·refine .inr (List.mem_filter.2 ⟨hm,?_⟩)
   cases hb:(ms.getD i 0).testBit j with
   | false=>rfl
   | true=>exact absurd hj (h.done hb)
end
end Go.Ev
namespace Go.Ev
section
variable {P:Program} {R:Type} {E:ek R} {w0:iG} {I0:Nat→Prop} {f0:FuncId} {Fin:R→Value→World→Prop} {Q:R→Prop}
variable {w:World} {S:St} {m:Mem} {fr:Frame} {fs:List bq} {frs cs:List Frame}
variable {fn:FuncId} {nn:Nat} {env:Env} {marks:List Nat} {cN:Option Nat} {k:List bK} {n:Nat}
theorem O9(ih:∀c,Tr.Ok Q (Good P E w0 I0 f0 Fin Q) (run ah E n c)→Good P E w0 I0 f0 Fin Q c){all:Array Oper}{ms rest bs l:List Nat}{i:Nat}{o:Oper}{kc:List Item}{v:AV}
  (h:Tr.Ok Q (Good P E w0 I0 f0 Fin Q) (run ah E n {frames:=⟨fn,nn,env.iD o.dst v,.fu all ms rest (i::bs)::k,marks,cN⟩::fs,mem:=m}))
  (ho:all[i]? = some o) (hdok:kw nn o.dst=true) (hord:RQ all (ms.getD i 0) bs o=true) (hg:rz (ms.getD i 0) o=true) (hfr:nK all bs o.dst=true) (hown:zq all o=true)
  (hst:∀b∈bs,AF E env m all b) (hi:(eU all env o false∧v=.qx [])∨(eU all env o true∧∃tv,R2 ah E m (gN env) o=some tv∧tv.Is v))
  (hW:WR w0 w S m) (hI:∀b,S.I b→I0 b∨w0.free b) (hf:FR w S m ⟨fn,nn,env,.fu all ms (i::rest) bs::k,marks,cN⟩ fr) (hfs:Ag w S m fs frs) (hB:sO f0 (⟨fn,nn,env,.fu all ms (i::rest) bs::k,marks,cN⟩::fs))
  (ht:fr.todo=.inRegion all l::kc) (hD:fj nn all ms (i::rest) bs l) (hk:cH nn S k kc):Ends P f0 Fin Q fr frs cs w:=by
 have hsm:nn≤65535:=hf.small
 have hput:∀x,o.dst≠some x→(env.iD o.dst v).at x=env.at x:=fun x hx=>by rw[Env.C7 hdok hsm,if_neg hx]
 have hself:∀x,o.dst=some x→(env.iD o.dst v).at x=v:=fun x hx=>by rw[Env.C7 hdok hsm,if_pos hx]
 have hreads:∀x∈readsOf all o,(env.iD o.dst v).at x=env.at x:=fun x hx=>hput x fun e=>Gj hown e hx
 have hsd:oW (env.iD o.dst v) o.dst v:=by
  cases hd:o.dst with
  | none=>trivial
  | some d=>show iP v ((env.iD (some d) v).at d);rw[←hd,hself d hd];exact qp v
 refine ih _ h (fun b hb=>?_) S fr frs cs w hW hI ⟨fr,frs,rfl,?_,hfs⟩ (hB.swap rfl)
 ·rcases List.mem_cons.1 hb with rfl|hb'
  ·refine⟨o,ho,?_⟩
   rcases hi with ⟨h1,rfl⟩|⟨h1,tv,h2,h3⟩
   ·exact .inl ⟨h1.congr fun x hx=>hreads x (jr hx),hsd⟩
   ·refine .inr ⟨h1.congr fun x hx=>hreads x (jr hx),tv,v,?_,h3,hsd⟩
    rw[←h2]
    exact vD fun x hx=>yp fun t e=>hreads t (by subst e;exact oN hx)
  ·refine(hst b hb').congr fun p hp=>⟨fun x hx=>hput x fun e=>sT (n_ hfr e).1 hb' hp hx,fun u d hd hs=>?_⟩
   rw[hput d fun e=>vq (n_ hfr e).2 hb' hp hd]
   exact hs
 ·have hil:i∈l:=hD.sub i List.mem_cons_self
  refine⟨hf.fn,hf.n,hf.small,fun x hx=>?_,by rw[ht];exact .mk (a:=.fu all ms rest (i::bs)) ⟨l,rfl,hD.add ho hdok hord hg hfr hown⟩ hk,.mk trivial hf.live.tail,hf.flat,hf.defers,hf.marks,hf.mode,hf.kind,hf.cN,hf.mY⟩
  have hne:o.dst≠some x:=fun e=>hx ⟨all,i::bs,l,kc,i,o,rfl,ht,List.mem_cons_self,hil,ho,e⟩
  show CR w S m ((env.iD o.dst v).at x) (fr.tmps.getD x undef)
  rw[hput x hne]
  refine hf.env x fun hh=>hx ?_
  obtain⟨all',bs',l',k',b,p,e1,e2,e3,e4,e5,e6⟩:=hh
  cases e1
  exact⟨all,i::bs,l',k',b,p,rfl,e2,List.mem_cons_of_mem _ e3,e4,e5,e6⟩
theorem P2(hP:Fits P E Fin w0 I0)(ih:∀c,Tr.Ok Q (Good P E w0 I0 f0 Fin Q) (run ah E n c)→Good P E w0 I0 f0 Fin Q c){all:Array Oper}{ms rest bs:List Nat}{i:Nat}
  (h:Tr.Ok Q (Good P E w0 I0 f0 Fin Q) (run ah E (n+1) {frames:=⟨fn,nn,env,.fu all ms (i::rest) bs::k,marks,cN⟩::fs,mem:=m}))
  (hst:∀b∈bs,AF E env m all b)
  (hW:WR w0 w S m) (hI:∀b,S.I b→I0 b∨w0.free b) (hf:FR w S m ⟨fn,nn,env,.fu all ms (i::rest) bs::k,marks,cN⟩ fr) (hfs:Ag w S m fs frs) (hB:sO f0 (⟨fn,nn,env,.fu all ms (i::rest) bs::k,marks,cN⟩::fs)) :
  Ends P f0 Fin Q fr frs cs w:=by
 obtain⟨it,kc,ht,h1,h2⟩:=hf.todo.cons_inv
 obtain⟨l,rfl,hD⟩:∃l:List Nat,it=.inRegion all l∧fj nn all ms (i::rest) bs l:=h1
 have hsm:nn≤65535:=hf.small
 simp only[run] at h
 cases ho:all[i]? with
 | none=>rw[ho] at h;exact h.elim
 | some o=>
   rw[ho] at h
   simp only at h
   cases hck:kw nn o.dst&&(RQ all (ms.getD i 0) bs o&&rz (ms.getD i 0) o) with
   | false=>rw[hck] at h;exact h.elim
   | true=>
     rw[hck] at h
     simp only at h
     rw[Bool.and_eq_true,Bool.and_eq_true] at hck
     obtain⟨hdok,hord,hgok⟩:=hck
     have hsmall:∀d∈dR all o,∀c v,env.at d=.bool c v→d≤65535:=fun d _ c v e=>by
      by_cases hh:Hid ⟨fn,nn,env,.fu all ms (i::rest) bs::k,marks,cN⟩ fr d
      ·obtain⟨all',bs',l',k',b,p,e1,e2,e3,e4,e5,e6⟩:=hh
       cases e1
       have:=hD.Y1 b e3 p e5
       rw[e6] at this
       have:d<nn:=Nat.le_of_ble_eq_true this
       omega
      ·have:=QV hf hh e
       omega
     obtain⟨env',hre,hnr,h⟩:=LG h hsmall
     have hst':∀b∈bs,AF E env' m all b:=fun b hb=>(hst b hb).congr fun p hp=>by
      rcases hnr with heq|hnr
      ·exact⟨fun x _=>heq x,fun v d _ hs=>by rw[heq d];exact hs⟩
      ·refine⟨fun x hx=>?_,fun v d _ hs=>?_⟩
       ·rcases hre x with e|⟨hxg,_⟩
        ·exact e
        ·exact absurd hx (sT (hnr x hxg) hb hp)
       ·rcases hre d with e|⟨_,b',e1,e2⟩
        ·rw[e];exact hs
        ·rw[e2];rw[e1] at hs;exact EZ hs
     have hf':=hf.I8 (D:=dR all o) hre
     rcases h with ⟨hg,h⟩|⟨hg,h⟩
     ·-- wanted
      have eff:Tr.Ok Q (Good P E w0 I0 f0 Fin Q) (match rest.all (fun j=>(ms.getD j 0).testBit i) with
           | false=>EJ (fun j=>match EK E.da all ms (i::rest) j with
              | some (ms',is)=>run ah E n {frames:=⟨fn,nn,env',.fu all ms' is bs::k,marks,cN⟩::fs,mem:=m}
              | none=>.bad 180 o.pos) ((i::rest).filter (GK ms (i::rest)))
           | true=>match nK all (mI (ms.getD i 0) bs) o.dst with
            | false=>.bad 178 o.pos
            | true=>
              match ny ah E (gN env') m o with
              | some tv=>tv.bind o.pos fun v=>qw ah E (env'.iD o.dst v) m all (mI (ms.getD i 0) bs) (run ah E n {frames:=⟨fn,nn,env'.iD o.dst v,.fu all ms rest (mI (ms.getD i 0) bs)::k,marks,cN⟩::fs,mem:=m})
              | none=>match o.op with
                | .call {callee:=.value x,args,.. }=>match gN env' x with
                  | .fn g first caps=>match look E.da g with
                    | some s=>(ox ah s m (first++(args.toList.map (gN env')++caps))).bind o.pos fun p=>qw ah E (env'.iD o.dst p.1) p.2 all (mI (ms.getD i 0) bs) (run ah E n {frames:=⟨fn,nn,env'.iD o.dst p.1,.fu all ms rest (mI (ms.getD i 0) bs)::k,marks,cN⟩::fs,mem:=p.2})
                    | none=>match mC ah E g m (first++(args.toList.map (gN env')++caps)) with
                     | some tv=>tv.bind o.pos fun p=>qw ah E (env'.iD o.dst p.1) p.2 all (mI (ms.getD i 0) bs) (run ah E n {frames:=⟨fn,nn,env'.iD o.dst p.1,.fu all ms rest (mI (ms.getD i 0) bs)::k,marks,cN⟩::fs,mem:=p.2})
                     | none=>match look E.dy g with
                      | none=>.bad 163 o.pos
                      | some G=>match dW g G (first++(args.toList.map (gN env')++caps)) with
                        | none=>.bad 164 o.pos
                        | some h=>run ah E n {frames:=h::⟨fn,nn,env',.pQ all ms i rest (mI (ms.getD i 0) bs)::k,marks,cN⟩::fs,mem:=m}
                  | .yield l=>match m.at l with
                     | .loop r=>match Nat.beq r.params.length (args.toList.map (gN env')).length&&r.params.all (fun p=>Nat.blt p r.n) with
                       | true=>run ah E n {frames:={fn:=r.fn,n:=r.n,env:=s5 r.params (args.toList.map (gN env')) r.env,todo:=[.code r.assign,.beginRound,.code r.body],marks:=[],cN:=some l}::⟨fn,nn,env',.pQ all ms i rest (mI (ms.getD i 0) bs)::k,marks,cN⟩::fs,mem:=m}
                       | false=>.bad 165 o.pos
                     | _=>.bad 166 o.pos
                  | _=>.bad 167 o.pos
                | _=>(qs ah E fn (gN env') m o).bind o.pos fun p=>qw ah E (env'.iD o.dst p.1) p.2 all (mI (ms.getD i 0) bs) (run ah E n {frames:=⟨fn,nn,env'.iD o.dst p.1,.fu all ms rest (mI (ms.getD i 0) bs)::k,marks,cN⟩::fs,mem:=p.2}))→Ends P f0 Fin Q fr frs cs w:=by
       intro h
       cases hck1:rest.all (fun j=>(ms.getD j 0).testBit i) with
       | false=>
         rw[hck1] at h
         simp only at h
         obtain⟨w1,S1,fr1,l1,kc1,hs1,hf1,hsteps1,ht1,hD1,hk1,hhead,hfn1⟩:=uW hP (frs++cs) hst l hW hf ht hD h2
         have hil:i∈l1:=hD1.sub i List.mem_cons_self
         cases l1 with
         | nil=>exact absurd hil List.not_mem_nil
         | cons j l1=>
           have hj:=hhead j rfl
           have hrd:GK ms (i::rest) j=true:=List.all_eq_true.2 fun b hb=>by
            rw[Bool.not_eq_true']
            cases hbt:(ms.getD j 0).testBit b with
            | false=>rfl
            | true=>exact absurd (hD1.sub b hb) (hD1.done hbt)
           have h:=FJ h j (List.mem_filter.2 ⟨hj,hrd⟩)
           cases hnx:EK E.da all ms (i::rest) j with
           | none=>rw[hnx] at h;exact h.elim
           | some q=>
             obtain⟨ms',is⟩:=q
             rw[hnx] at h
             have hf1':=hf1.I8 (D:=dR all o) hre
             refine .steps hsteps1 (ih _ h hst' S1 _ _ cs w1 hs1.wr (fun b hb=>(hs1.grows b hb).elim (hI b) .inr) ⟨_,_,rfl,?_,hfs.mono hs1.out⟩ (hB.swap rfl))
             refine⟨hf1'.fn,hf1'.n,hf1'.small,fun x hx=>hf1'.env x fun hh=>hx ?_,by rw[ht1];exact .mk (a:=.fu all ms' is bs) ⟨_,rfl,hD1.next hj hnx⟩ hk1,.mk trivial hf1'.live.tail,hf1'.flat,hf1'.defers,hf1'.marks,hf1'.mode,hf1'.kind,hf1'.cN,hf1'.mY⟩
             obtain⟨all',bs',l',k',b,p,e1,e2,e3,e4,e5,e6⟩:=hh
             cases e1
             exact⟨all,bs,l',k',b,p,rfl,e2,e3,e4,e5,e6⟩
       | true=>
        rw[hck1] at h
        simp only at h
        cases hck2:nK all (mI (ms.getD i 0) bs) o.dst with
        | false=>rw[hck2] at h;exact h.elim
        | true=>
         rw[hck2] at h
         simp only at h
         obtain⟨w1,S1,fr1,l1,kc1,hs1,hf1,hsteps1,ht1,hD1,hk1,hhead,hfn1⟩:=uW hP (frs++cs) hst l hW hf ht hD h2
         have hil:i∈l1:=hD1.sub i List.mem_cons_self
         cases l1 with
         | nil=>exact absurd hil List.not_mem_nil
         | cons j l1=>
           have hji:j=i:=by
            rcases List.mem_cons.1 (hhead j rfl) with e|hj
            ·exact e
            ·exact absurd hil (hD1.done (List.all_eq_true.1 hck1 j hj))
           subst hji
           have hjn:j ∉ rest++bs:=(List.nodup_cons.1 (by have:=hD1.nodup;rwa [List.cons_append] at this)).1
           have hjb:j ∉ bs:=fun hm=>hjn (List.mem_append.2 (.inr hm))
           have hf1':=hf1.I8 (D:=dR all o) hre
           have hnh:∀{t:Nat},t∈readsOf all o→¬Hid ⟨fn,nn,env',.fu all ms (j::rest) bs::k,marks,cN⟩ fr1 t:=fun hr=>
            tL hD1 rfl ht1 (fun b hb _ p d hp hd hr=>Ke hord hb hp hd hr) (fun hm=>absurd hm hjb) hr
           have hw:Region.wanted o (yielded all fr1.tmps)=true:=mF hg fun d hd=>hf1'.env d (hnh (jr hd))
           have hbelow:FR w1 S1 m ⟨fn,nn,env',.pQ all ms j rest (mI (ms.getD j 0) bs)::k,marks,cN⟩ fr1:=by
            refine⟨hf1'.fn,hf1'.n,hf1'.small,fun x hx=>hf1'.env x fun hh=>hx ?_,by rw[ht1];exact .mk (a:=.pQ all ms j rest (mI (ms.getD j 0) bs)) ⟨l1,rfl,hD1.cut⟩ hk1,.mk trivial hf1'.live.tail,hf1'.flat,hf1'.defers,hf1'.marks,hf1'.mode,hf1'.kind,hf1'.cN,hf1'.mY⟩
            obtain⟨all',bs',l',k',b,p,e1,e2,e3,e4,e5,e6⟩:=hh
            cases e1
            rw[ht1] at e2
            cases e2
            refine⟨all,_,j::l1,kc1,b,p,rfl,ht1,List.mem_filter.2 ⟨e3,?_⟩,e4,e5,e6⟩
            cases hb:(ms.getD j 0).testBit b with
            | false=>rfl
            | true=>exact absurd e4 (hD1.done hb)
           refine .steps hsteps1 (KM (fn:=fn) (ρ:=gN env') (below:=⟨fn,nn,env',.pQ all ms j rest (mI (ms.getD j 0) bs)::k,marks,cN⟩) (next:=fun v m=>qw ah E (env'.iD o.dst v) m all (mI (ms.getD j 0) bs) (run ah E n {frames:=⟨fn,nn,env'.iD o.dst v,.fu all ms rest (mI (ms.getD j 0) bs)::k,marks,cN⟩::fs,mem:=m}))
            hP ih hs1.wr (fun b hb=>(hs1.grows b hb).elim (hI b) .inr) (hfs.mono hs1.out) (hB.swap rfl) hf1.mode ht1 ho hw (fun x hx=>uT hf1' x fun t e=>hnh (by subst e;exact oN hx)) hbelow (fun v m' w' S' z hs hc h=>?_) h)
           obtain⟨hst2,h⟩:=uJ h
           have hs2:=hs1.trans hs
           exact ih _ h hst2 S' _ _ cs w' hs2.wr (fun b hb=>(hs2.grows b hb).elim (hI b) .inr) ⟨_,_,rfl,wT (hbelow.mono hs.out) ho hdok hc,hfs.mono hs2.out⟩ (hB.swap rfl)
      split at h
      ·rename_i tv hev hfo
       rw[Bool.and_eq_true] at hfo
       obtain⟨v,hv,h⟩:=TV.bind_ok h
       exact O9 ih h ho hdok hord hgok hfo.1 hfo.2 hst' (.inr ⟨hg,tv,hev,hv⟩) hW hI hf' hfs (hB.swap rfl) ht hD h2
      ·exact eff h
     ·-- not wanted
      cases hfo:nK all bs o.dst&&zq all o with
      | false=>rw[hfo] at h;exact h.elim
      | true=>
        rw[hfo] at h
        simp only at h
        rw[Bool.and_eq_true] at hfo
        exact O9 ih h ho hdok hord hgok hfo.1 hfo.2 hst' (.inl ⟨hg,rfl⟩) hW hI hf' hfs (hB.swap rfl) ht hD h2
end
end Go.Ev
namespace Go.Ev
theorem re:∀{l:List Nat} {id k:Nat},id∈l→∃j,idxOf l id k=k+j∧l[j]? = some id∧j<l.length
 | i::l,id,k,h=>by
   rw[idxOf]
   by_cases hi:i=id
   ·subst hi;rw[aX.2 rfl];exact⟨0,rfl,rfl,Nat.succ_pos _⟩
   ·rw[bo.2 hi]
    obtain⟨j,h1,h2,h3⟩:=re (k:=k+1) ((List.mem_cons.1 h).resolve_left (fun e=>hi e.symm))
    exact⟨j+1,by simp only;rw[h1];omega,by simpa using h2,by simpa using h3⟩
theorem Bh:∀{l:List Nat} {id k:Nat},id ∉ l→idxOf l id k=k+l.length
 | [],id,k,_=>rfl
 | i::l,id,k,h=>by
   rw[idxOf,bo.2 fun e=>h (by subst e;exact List.mem_cons_self)]
   simp only
   rw[Bh fun hm=>h (List.mem_cons_of_mem _ hm),List.length_cons]
   omega
theorem qV:∀{r acc:List Nat},acc.Nodup→(jj acc r).Nodup∧(∀i∈acc,i∈jj acc r)∧∀i∈r,i∈jj acc r
 | [],acc,h=>⟨h,fun _ h=>h,fun _ h=>absurd h List.not_mem_nil⟩
 | j::r,acc,h=>by
   rw[jj]
   cases hm:mB acc j with
   | true=>
     simp only
     obtain⟨h1,h2,h3⟩:=qV (r:=r) h
     refine⟨h1,h2,fun i hi=>?_⟩
     rcases List.mem_cons.1 hi with rfl|hi
     ·exact h2 _ (eD.1 hm)
     ·exact h3 i hi
   | false=>
     simp only
     have hn:j ∉ acc:=fun h=>by rw[eD.2 h] at hm;cases hm
     obtain⟨h1,h2,h3⟩:=qV (r:=r) (acc:=acc ++ [j]) (List.nodup_append.2 ⟨h,by simp,fun a ha b hb=>by rintro rfl;rw[List.mem_singleton.1 hb] at ha;exact hn ha⟩)
     refine⟨h1,fun i hi=>h2 i (List.mem_append.2 (.inl hi)),fun i hi=>?_⟩
     rcases List.mem_cons.1 hi with rfl|hi
     ·exact h2 _ (List.mem_append.2 (.inr (List.mem_singleton.2 rfl)))
     ·exact h3 i hi
theorem w6:∀{f:Nat} {m:Mem} {acc:List Nat} {p:Nat},acc.Nodup→(jb f m acc p).Nodup∧∀i∈acc,i∈jb f m acc p
 | 0,m,acc,p,h=>⟨h,fun _ h=>h⟩
 | f+1,m,acc,p,h=>by
   rw[jb]
   cases acc[p]? with
   | none=>exact⟨h,fun _ h=>h⟩
   | some id=>
     simp only
     obtain⟨h1,h2,_⟩:=qV (r:=uG (m.at id)) h
     obtain⟨h3,h4⟩:=w6 (f:=f) (m:=m) (p:=p+1) h1
     exact⟨h3,fun i hi=>h4 i (h2 i hi)⟩
theorem oT:∀{r acc:List Nat},∃t,jj acc r=acc++t
 | [],acc=>⟨[],(List.append_nil _).symm⟩
 | j::r,acc=>by
   rw[jj]
   cases mB acc j with
   | true=>exact oT
   | false=>
     obtain⟨t,h⟩:=oT (r:=r) (acc:=acc ++ [j])
     exact⟨j::t,by simp only;rw[h,List.append_assoc];rfl⟩
theorem tV:∀{f:Nat} {m:Mem} {acc:List Nat} {p:Nat},∃t,jb f m acc p=acc++t
 | 0,m,acc,p=>⟨[],(List.append_nil _).symm⟩
 | f+1,m,acc,p=>by
   rw[jb]
   cases acc[p]? with
   | none=>exact⟨[],(List.append_nil _).symm⟩
   | some id=>
     simp only
     obtain⟨t,h⟩:=oT (r:=uG (m.at id)) (acc:=acc)
     obtain⟨u,h2⟩:=tV (f:=f) (m:=m) (acc:=jj acc (uG (m.at id))) (p:=p+1)
     exact⟨t++u,by rw[h2,h,List.append_assoc]⟩
theorem rU{l:List Nat}:∀{cs:List AV},(lJ l cs).length=cs.length
 | []=>by rw[lJ]
 | a::cs=>by rw[lJ,List.length_cons,List.length_cons,rU]
def St.ren(S:St)(l:List Nat):St:={σ:=fun i=>S.σ (l.getD i 0),δ:=fun i=>S.δ (l.getD i 0),I:=S.I}
def Mem.ren(m:Mem)(l:List Nat):Mem:=(l.map fun id=>lz l (m.at id)) ++ [.dead]
section
variable {w0:iG} {w:World} {S:St} {m:Mem} {l:List Nat}
theorem vG{j id:Nat}(h:l[j]? = some id):(m.ren l).at j=lz l (m.at id):=by
 have hj:j<l.length:=(List.getElem?_eq_some_iff.1 h).1
 rw[Mem.ren,Mem.at,List.getD_eq_getElem?_getD,List.getElem?_append_left (by rw[List.length_map];exact hj),List.getElem?_map,h]
 rfl
theorem yA:(m.ren l).at l.length=.dead:=by
 rw[Mem.ren,Mem.at,List.getD_eq_getElem?_getD,List.getElem?_append_right (by rw[List.length_map];exact Nat.le_refl _),List.length_map,Nat.sub_self]
 rfl
theorem KZ{j:Nat}(h:l.length<j):(m.ren l).at j=.bad:=by
 rw[Mem.ren,Mem.at,List.getD_eq_getElem?_getD,List.getElem?_eq_none (by rw[List.length_append,List.length_map];simp;omega)]
 rfl
theorem wj(j:Nat):(∃id,l[j]? = some id∧(m.ren l).at j=lz l (m.at id)∧(S.ren l).σ j=S.σ id∧(S.ren l).δ j=S.δ id)∨(m.ren l).at j=.dead∨(m.ren l).at j=.bad:=by
 rcases Nat.lt_trichotomy j l.length with h|h|h
 ·have e:=List.getElem?_eq_getElem h
  refine .inl ⟨l[j],e,vG e,?_,?_⟩<;>simp[St.ren,List.getD_eq_getElem?_getD,e]
 ·subst h;exact .inr (.inl yA)
 ·exact .inr (.inr (KZ h))
theorem vx(id:Nat):(id∈l∧(m.ren l).at (idxOf l id 0)=lz l (m.at id)∧(S.ren l).σ (idxOf l id 0)=S.σ id∧(S.ren l).δ (idxOf l id 0)=S.δ id)∨(m.ren l).at (idxOf l id 0)=.dead:=by
 by_cases h:id∈l
 ·obtain⟨j,h1,h2,h3⟩:=re (k:=0) h
  rw[Nat.zero_add] at h1
  rw[h1]
  refine .inl ⟨h,vG h2,?_,?_⟩<;>simp[St.ren,List.getD_eq_getElem?_getD,h2]
 ·rw[Bh h,Nat.zero_add]
  exact .inr yA
mutual
theorem H6:∀{a:AV} {v:Value},CR w S m a v→CR w (S.ren l) (m.ren l) (gk l a) v
 | .undef,v,_=>by rw[gk];exact dA
 | .int k c n,v,h=>by rw[gk];exact bQ.2 (bQ.1 h)
 | .bool c b,v,h=>by rw[gk];exact c_.2 (c_.1 h)
 | .str c s,v,h=>by rw[gk];exact gb.2 (gb.1 h)
 | .sl t x,v,h=>by rw[gk,CR];rw[CR] at h;exact h
 | .dq b,v,h=>by rw[gk];exact ib.2 (ib.1 h)
 | .jl t x off,v,h=>by rw[gk,CR];rw[CR] at h;exact h
 | .fw,v,h=>by rw[gk];exact iq.2 (iq.1 h)
 | .kv,v,h=>by rw[gk];exact jZ.2 (jZ.1 h)
 | .own id,v,h=>by
   rw[gk,CR]
   rw[CR] at h
   rcases vx (S:=S) (m:=m) (l:=l) id with ⟨_,h1,h2,h3⟩|h1
   ·rw[h1,h2,h3]
    cases hb:m.at id<;>rw[hb] at h<;>(try exact h.elim)<;>exact h
   ·rw[h1];trivial
 | .nv id sz c lo len,v,h=>by
   rw[gk,CR]
   rw[CR] at h
   rcases vx (S:=S) (m:=m) (l:=l) id with ⟨_,h1,h2,h3⟩|h1
   ·rw[h1,h2,h3]
    cases hb:m.at id<;>rw[hb] at h<;>(try exact h.elim)<;>(try exact h)
    obtain⟨l0,n,cap,a,e1,e2,e3,e4,e5⟩:=h
    exact⟨l0,n,cap,a,e1,e2,e3,by rw[rU];exact e4,e5⟩
   ·rw[h1];trivial
 | .ptr id off,v,h=>by
   rw[gk,CR]
   rw[CR] at h
   rcases vx (S:=S) (m:=m) (l:=l) id with ⟨_,h1,h2,h3⟩|h1
   ·rw[h1,h2]
    cases hb:m.at id<;>rw[hb] at h<;>(try exact h.elim)<;>exact h
   ·rw[h1];trivial
 | .mU id i off,v,h=>by
   rw[gk,CR]
   rw[CR] at h
   rcases vx (S:=S) (m:=m) (l:=l) id with ⟨_,h1,h2,h3⟩|h1
   ·rw[h1,h2,h3]
    cases hb:m.at id<;>rw[hb] at h<;>(try exact h.elim)<;>exact h
   ·rw[h1];trivial
 | .rL id off n t i,v,h=>by
   rw[gk,CR]
   rw[CR] at h
   rcases vx (S:=S) (m:=m) (l:=l) id with ⟨_,h1,h2,h3⟩|h1
   ·rw[h1,h2]
    cases hb:m.at id<;>rw[hb] at h<;>(try exact h.elim)<;>exact h
   ·rw[h1];trivial
 | .yield id,v,h=>by
   rw[gk,CR]
   rw[CR] at h
   rcases vx (S:=S) (m:=m) (l:=l) id with ⟨_,h1,h2,h3⟩|h1
   ·rw[h1,h2]
    cases hb:m.at id<;>rw[hb] at h<;>(try exact h.elim)<;>exact h
   ·rw[h1];trivial
 | .fn f a c,v,h=>by
   rw[gk]
   obtain⟨us,vs,e,h1,h2⟩:=og.1 h
   exact og.2 ⟨us,vs,e,ry h1,ry h2⟩
 | .agg cs,v,h=>by
   rw[gk]
   obtain⟨us,e,h1⟩:=nM.1 h
   exact nM.2 ⟨us,e,ry h1⟩
 | .qx cs,v,h=>by
   rw[gk]
   obtain⟨us,e,h1⟩:=fx.1 h
   exact fx.2 ⟨us,e,ry h1⟩
theorem ry:∀{cs:List AV} {us:List Value},bw w S m cs us→bw w (S.ren l) (m.ren l) (lJ l cs) us
 | [],us,h=>by rw[lJ];exact aM.2 (aM.1 h)
 | a::cs,us,h=>by
   rw[lJ]
   obtain⟨v,r,e,h1,h2⟩:=aV.1 h
   exact aV.2 ⟨v,r,e,H6 h1,ry h2⟩
end
theorem vo:∀{e:PT AV} {i:Nat},(s_ l e).get i=(e.get i).map (gk l)
 | .leaf,i=>by rw[s_,PT.mo];rfl
 | .node a v b,i=>by
   show(PT.node (s_ l a) (match v with|some x=>some (gk l x)|none=>none) (s_ l b)).get i=_
   rw[PT.iW,PT.iW]
   by_cases h0:i=0
   ·rw[if_pos h0,if_pos h0];cases v<;>rfl
   ·rw[if_neg h0,if_neg h0]
    by_cases h1:i%2=1
    ·rw[if_pos h1,if_pos h1,vo]
    ·rw[if_neg h1,if_neg h1,vo]
theorem M0{e:Env}{i:Nat}:Env.at (s_ l e) i=gk l (e.at i):=by
 rw[Env.at,Env.at,vo]
 cases PT.get e i<;>first|rfl|(simp only[Option.map_none];rw[gk])
theorem SI{id:Nat}(hb:rK w S m id (m.at id)){j:Nat}(hσ:(S.ren l).σ j=S.σ id)(hδ:(S.ren l).δ j=S.δ id):rK w (S.ren l) (m.ren l) j (lz l (m.at id)):=by
 cases hm:m.at id<;>rw[hm] at hb<;>simp only[lz]
 case bad=>trivial
 case dead=>trivial
 case LD=>trivial
 case Ap=>exact(show w.heap[(S.ren l).σ j]? = _ by rw[hσ];exact hb)
 case flat fz cs=>
  obtain⟨us,T,fr,h1,h2,h3⟩:=hb
  exact⟨us,T,fr,by rw[hσ];exact h1,h2,ry h3⟩
 case arr fz t x=>
  refine⟨hb.1,fun hne=>?_⟩
  obtain⟨us,T,fr,h1,h2,h3,h4⟩:=hb.2 hne
  exact⟨us,T,fr,by rw[hσ];exact h1,h2,by rw[hδ];exact h3,by rw[hδ];exact h4⟩
 case loop r=>
  obtain⟨L,h1,h2,h3,h4,h5,h6,h7,h8,h9⟩:=hb
  exact⟨L,by rw[hσ];exact h1,h2,h3,h4,h5,h6,h7,h8,fun i=>by
   show CR w (S.ren l) (m.ren l) (Env.at (s_ l r.env) i) _
   rw[M0];exact H6 (h9 i)⟩
theorem E5{b:gY}:(lz l b).aZ=b.aZ:=by cases b<;>rfl
theorem BF{b:gY}:(lz l b).iR=b.iR:=by cases b<;>rfl
theorem oJ{b:gY}:(lz l b).fC=b.fC:=by cases b<;>rfl
theorem ZO(hW:WR w0 w S m)(hn:l.Nodup)(hp:∀i,i<w0.R.length→l[i]? = some i):WR w0 w (S.ren l) (m.ren l):=by
 have live:∀j,((m.ren l).at j).aZ=true→∃id,l[j]? = some id∧(m.ren l).at j=lz l (m.at id)∧(S.ren l).σ j=S.σ id∧(m.at id).aZ=true:=fun j h=>by
  rcases wj (S:=S) (m:=m) (l:=l) j with ⟨id,h1,h2,h3,_⟩|h1|h1
  ·rw[h2,E5] at h;exact⟨id,h1,h2,h3,h⟩
  ·rw[h1] at h;cases h
  ·rw[h1] at h;cases h
 refine⟨hW.os,hW.tape,hW.output,hW.size,hW.base,hW.ja,fun j=>?_,fun j j' h h' e=>?_,fun j h=>?_,fun j h h'=>?_,fun j h=>?_,fun i b h=>?_,hW.cells⟩
 ·rcases wj (S:=S) (m:=m) (l:=l) j with ⟨id,h1,h2,h3,h4⟩|h1|h1
  ·rw[h2];exact SI (hW.box id) h3 h4
  ·rw[h1];trivial
  ·rw[h1];trivial
 ·obtain⟨id,h1,h2,h3,h4⟩:=live j h
  obtain⟨id',g1,g2,g3,g4⟩:=live j' h'
  have:=hW.inj id id' h4 g4 (by rw[←h3,←g3];exact e)
  subst this
  obtain⟨a1,a2⟩:=List.getElem?_eq_some_iff.1 h1
  obtain⟨b1,b2⟩:=List.getElem?_eq_some_iff.1 g1
  exact(List.getElem_inj hn).1 (a2.trans b2.symm)
 ·obtain⟨id,h1,h2,h3,h4⟩:=live j h
  rw[h3];exact hW.lo id h4
 ·obtain⟨id,h1,h2,h3,h4⟩:=live j h
  rw[h3]
  rw[h2,BF] at h'
  exact hW.lC id h4 h'
 ·rcases wj (S:=S) (m:=m) (l:=l) j with ⟨id,h1,h2,h3,h4⟩|h1|h1
  ·rw[h3]
   rw[h2,BF] at h
   exact hW.Ar id h
  ·rw[h1] at h;cases h
  ·rw[h1] at h;cases h
 ·have hl:=hp i (List.getElem?_eq_some_iff.1 h).1
  refine⟨Nat.lt_of_lt_of_le (List.getElem?_eq_some_iff.1 hl).1 (by simp[Mem.ren]),?_⟩
  obtain⟨_,h2,h3⟩:=hW.root i b h
  rw[←h2]
  exact⟨by simp[St.ren,List.getD_eq_getElem?_getD,hl],fun d hd=>by rw[←h3 d hd];simp[St.ren,List.getD_eq_getElem?_getD,hl]⟩
theorem rh{id:Nat}(h:id∈l):(m.ren l).at (idxOf l id 0)=lz l (m.at id):=by
 obtain⟨j,h1,h2,h3⟩:=re (k:=0) h
 rw[Nat.zero_add] at h1
 rw[h1]
 exact vG h2
theorem u7{id:Nat}(h:id∈l):(S.ren l).σ (idxOf l id 0)=S.σ id:=by
 obtain⟨j,h1,h2,h3⟩:=re (k:=0) h
 rw[Nat.zero_add] at h1
 rw[h1]
 simp[St.ren,List.getD_eq_getElem?_getD,h2]
theorem EG{n:Nat}:∀{k:List bK} {kc:List Item},(∀i∈k.flatMap kN,i∈l)→cH n S k kc→cH n (S.ren l) (k.map (nE l)) kc
 | [],kc,_,h=>h
 | a::k,kc,hl,h=>by
   obtain⟨it,kc1,rfl,h1,h2⟩:=h.cons_inv
   refine .mk ?_ (EG (fun i hi=>hl i (by rw[List.flatMap_cons];exact List.mem_append.2 (.inr hi))) h2)
   have hid:∀i∈kN a,i∈l:=fun i hi=>hl i (by rw[List.flatMap_cons];exact List.mem_append.2 (.inl hi))
   cases a<;>try exact h1
   case ko id=>
    have h1:it=.inRangeFunc (S.σ id):=h1
    show it=.inRangeFunc ((S.ren l).σ (idxOf l id 0))
    rw[(u7 (hid id (List.mem_singleton.2 rfl)))];exact h1
   case kz id=>
    have h1:it=.endRangeFunc (S.σ id):=h1
    show it=.endRangeFunc ((S.ren l).σ (idxOf l id 0))
    rw[(u7 (hid id (List.mem_singleton.2 rfl)))];exact h1
theorem wm{a:bK}:(nE l a).A_=a.A_:=by cases a<;>rfl
theorem A5{a:bK}:(nE l a).drawn=a.drawn:=by cases a<;>rfl
theorem Ou{k:List bK}(hl:∀i∈k.flatMap kN,i∈l)(h:bV m k):bV (m.ren l) (k.map (nE l)):=by
 intro b hb
 obtain⟨a,ha,rfl⟩:=List.mem_map.1 hb
 have h1:=h a ha
 have hid:∀i∈kN a,i∈l:=fun i hi=>hl i (List.mem_flatMap.2 ⟨a,ha,hi⟩)
 cases a<;>(try trivial)
 case ko id=>
  show((m.ren l).at (idxOf l id 0)).fC=true
  rw[(rh (hid id (List.mem_singleton.2 rfl))),oJ];exact h1
 case kz id=>
  show((m.ren l).at (idxOf l id 0)).fC=true
  rw[(rh (hid id (List.mem_singleton.2 rfl))),oJ];exact h1
theorem Pf(e r:Env)(q i:Nat):Env.at (KN e q r) i=Env.at r i∨(i=q∧∃k c n,e.at q=.int k c n∧Env.at (KN e q r) i=.int k c n):=by
 unfold KN
 cases hb:Nat.ble q 65535 with
 | false=>exact .inl rfl
 | true=>
   cases hv:e.at q with
   | int k c n=>
     simp only
     rw[Env.sM (Nat.le_of_ble_eq_true hb)]
     by_cases h:i=q
     ·rw[if_pos h];exact .inr ⟨h,k,c,n,rfl,rfl⟩
     ·rw[if_neg h];exact .inl rfl
   | _=>exact .inl rfl
theorem sP{e:Env}{v:Nat→Value}{H:Nat→Prop}(h:∀i,¬H i→CR w S m (e.at i) (v i)):∀{ks:List Nat} {i:Nat},¬H i→CR w (S.ren l) (m.ren l) ((mZ l e ks).at i) (v i)
 | [],i,_=>by rw[mZ,Env.J2];exact dA
 | j::ks,i,hi=>by
   rw[mZ]
   cases hj:Nat.ble j 65535 with
   | false=>
     simp only
     rcases Pf e (mZ l e ks) (Ko j) i with h1|⟨h1,k,c,n,h2,h3⟩
     ·rw[h1];exact sP h hi
     ·rw[h3]
      subst h1
      have h4:CR w S m (e.at (Ko j)) (v (Ko j)):=h _ hi
      rw[h2] at h4
      exact bQ.2 (bQ.1 h4)
   | true=>
     simp only
     rw[Env.sM (Nat.le_of_ble_eq_true hj)]
     by_cases e:i=j
     ·subst e;rw[if_pos rfl];exact H6 (h i hi)
     ·rw[if_neg e];exact sP h hi
theorem ZQ{f:bq}{fr:Frame}{ks:List Nat}(hf:FR w S m f fr)(hm:∀i∈f.marks,i∈l)(hr:∀i,f.cN=some i→i∈l)(ht:∀i∈f.todo.flatMap kN,i∈l) :
  FR w (S.ren l) (m.ren l) {f with env:=mZ l f.env ks,todo:=f.todo.map (nE l),marks:=f.marks.map (idxOf l · 0),cN:=f.cN.map (idxOf l · 0)} fr:=by
 refine⟨hf.fn,hf.n,hf.small,fun i hi=>sP (H:=fun i=>Hid f fr i) hf.env (fun hh=>hi ?_),EG ht hf.todo,Ou ht hf.live,fun a ha=>?_,?_,fun d hd=>?_,hf.mode,hf.kind,?_,fun i hi=>?_⟩
 ·obtain⟨all,bs,l',k',b,p,e1,e2⟩:=hh
  refine⟨all,bs,l',k',b,p,?_,e2⟩
  rw[←e1]
  cases f.todo with
  | nil=>rfl
  | cons a k=>exact A5
 ·have ha:a∈(f.todo.map (nE l)).tail:=ha
  rw[←List.map_tail] at ha
  obtain⟨b,hb,rfl⟩:=List.mem_map.1 ha
  rw[wm];exact hf.flat b hb
 ·rw[hf.defers,List.map_map]
  exact List.map_congr_left fun d hd=>by simp only[Function.comp];rw[(u7 (hm d hd))]
 ·obtain⟨d',hd',rfl⟩:=List.mem_map.1 hd
  rw[(rh (hm d' hd')),oJ];exact hf.marks d' hd'
 ·rw[hf.cN]
  cases hr':f.cN with
  | none=>rfl
  | some i=>simp only[Option.map_some];rw[(u7 (hr i hr'))]
 ·cases hr':f.cN with
  | none=>rw[hr'] at hi;cases hi
  | some j=>
    rw[hr'] at hi
    cases hi
    rw[(rh (hr j hr')),oJ];exact hf.mY j hr'
theorem Jo:∀{fs:List bq} {frs:List Frame} {ks:List (List Nat)},(∀i∈j5 ks fs,i∈l)→Ag w S m fs frs→Ag w (S.ren l) (m.ren l) (gI l ks fs) frs
 | [],frs,ks,_,h=>by rw[gI];exact h
 | f::fs,frs,ks,hl,h=>by
   obtain⟨fr,r,rfl,h1,h2⟩:=h
   rw[gI]
   have hl':∀i,i∈f.marks++((match f.cN with|some l=>[l]|none=>[])++(f.todo.flatMap kN++j5 ks.tail fs))→i∈l:=fun i hi=>hl i (by rw[j5];exact List.mem_append.2 (.inr hi))
   refine⟨fr,r,rfl,ZQ h1 (fun i hi=>hl' i (List.mem_append.2 (.inl hi))) (fun i hi=>hl' i (List.mem_append.2 (.inr (List.mem_append.2 (.inl ?_))))) (fun i hi=>hl' i (List.mem_append.2 (.inr (List.mem_append.2 (.inr (List.mem_append.2 (.inl hi))))))),
    Jo (fun i hi=>hl' i (List.mem_append.2 (.inr (List.mem_append.2 (.inr (List.mem_append.2 (.inr hi))))))) h2⟩
   rw[hi];exact List.mem_singleton.2 rfl
theorem I5{f0:FuncId}:∀{fs:List bq} {ks:List (List Nat)},sO f0 fs→sO f0 (gI l ks fs)
 | [],ks,h=>h.elim
 | [f],ks,h=>h
 | f::g::r,ks,h=>by
   rw[gI,gI]
   have:=I5 (fs:=g::r) (ks:=ks.tail) h
   rw[gI] at this
   exact this
theorem xX{P:Program}{R:Type}{E:ek R}{I0:Nat→Prop}{f0:FuncId}{Fin:R→Value→World→Prop}{Q:R→Prop}(hk:w0.R.length≤E.keep)(ks:List (List Nat))(f:bq)(fs:List bq)(m:Mem)(hd:∀a∈f.todo.head?,a.A_=false)
  (h:Good P E w0 I0 f0 Fin Q (canon E.keep ks {frames:=f::fs,mem:=m})):Good P E w0 I0 f0 Fin Q {frames:=f::fs,mem:=m}:=by
 intro _ S fr frs cs w hW hI hf hB
 obtain⟨h1,h2,h3⟩:=qV (acc:=List.range E.keep) (r:=j5 ks (f::fs)) List.nodup_range
 obtain⟨h4,h5⟩:=w6 (f:=m.length+1) (m:=m) (p:=0) h1
 have h6:∀i,i<w0.R.length→(jb (m.length+1) m (jj (List.range E.keep) (j5 ks (f::fs))) 0)[i]? = some i:=fun i hi=>by
  obtain⟨t1,e1⟩:=oT (r:=j5 ks (f::fs)) (acc:=List.range E.keep)
  obtain⟨t2,e2⟩:=tV (f:=m.length+1) (m:=m) (acc:=jj (List.range E.keep) (j5 ks (f::fs))) (p:=0)
  rw[e2,e1,List.append_assoc,List.getElem?_append_left (by rw[List.length_range];omega),List.getElem?_range (by omega)]
 refine h ?_ (S.ren (jb (m.length+1) m (jj (List.range E.keep) (j5 ks (f::fs))) 0)) fr frs cs w (ZO hW h4 h6) hI (Jo (fun i hi=>h5 i (h3 i hi)) hf) (I5 hB)
 unfold nh canon
 simp only[gI]
 split
 ·rename_i all ms rest bs k he
  cases ht:f.todo with
  | nil=>rw[ht] at he;cases he
  | cons a k'=>
    rw[ht] at he
    have hda:=hd a (by rw[ht];rfl)
    simp only[List.map_cons,List.cons.injEq] at he
    have:(nE (jb (m.length+1) m (jj (List.range E.keep) (j5 ks (f::fs))) 0) a).A_=true:=by rw[he.1];rfl
    rw[wm,hda] at this
    cases this
 ·trivial
end
end Go.Ev
namespace Go.Ev
section
variable {P:Program} {R:Type} {E:ek R} {w0:iG} {I0:Nat→Prop} {f0:FuncId} {Fin:R→Value→World→Prop} {Q:R→Prop}
theorem Bf(hP:Fits P E Fin w0 I0){n:Nat}(ih:∀c,Tr.Ok Q (Good P E w0 I0 f0 Fin Q) (run ah E n c)→Good P E w0 I0 f0 Fin Q c)
  {w:World} {S:St} {m:Mem} {fr:Frame} {fs:List bq} {frs cs:List Frame} {f:bq} {jump:Option Code}
  (h:Tr.Ok Q (Good P E w0 I0 f0 Fin Q) (match f.cN with
    | none=>match kJ f.marks m with
      | none=>.bad 139 ""
      | some m=>match look E.dy f.fn with
        | none=>.bad 141 ""
        | some F=>match iw ah E f.env m F.results.toList with
          | none=>.bad 142 ""
          | some vs=>match fs with
            | []=>match E.fin (cK vs) m with
              | some y=>.ret y
              | none=>.bad 143 ""
            | g::gs=>match finish g (cK vs) with
              | some g=>oC ah E g m (run ah E n {frames:=g::gs,mem:=m})
              | none=>.bad 144 ""
    | some l=>match m.at l with
      | .loop r=>match fs with
        | g::gs=>match finish g (.bool true (Bt jump)) with
          | some g=>oC ah E g (m.set l (.loop {r with state:=y7 jump,pending:=jump})) (run ah E n {frames:=g::gs,mem:=m.set l (.loop {r with state:=y7 jump,pending:=jump})})
          | none=>.bad 145 ""
        | []=>.bad 146 ""
      | _=>.bad 147 ""))
  (hnh:∀x,¬Hid f fr x) (hret:f.cN=none→step P (lone fr (frs++cs) w)=.next (lone {fr with mode:=.returning} (frs++cs) w))
  (ht:f.cN≠none→(fr.todo=[]∧jump=none)∨(∃k,fr.todo=.code .ret::k∧jump=some .ret)∨(∃id k,fr.todo=.code (.exit id)::k∧exitTo id k=none∧jump=some (.exit id))∨(∃id k,fr.todo=.code (.goto id)::k∧gotoIn id k=none∧jump=some (.goto id)))
  (hW:WR w0 w S m) (hI:∀b,S.I b→I0 b∨w0.free b) (hf:FR w S m f fr) (hfs:Ag w S m fs frs) (hB:sO f0 (f::fs)) :
  Ends P f0 Fin Q fr frs cs w:=by
 cases hr:f.cN with
 | none=>
   rw[hr] at h
   exact FV hP ih h hnh (hret hr) hW hI hf hfs hB
 | some l=>
   rw[hr] at h
   exact wv ih hr h (ht (by rw[hr];intro e;cases e)) hW hI hf hfs hB
theorem jI(hP:Fits P E Fin w0 I0):∀(n:Nat) (c:eF),Tr.Ok Q (Good P E w0 I0 f0 Fin Q) (run ah E n c)→Good P E w0 I0 f0 Fin Q c
 | 0,c,h=>by rw[run] at h;exact h
 | n+1,c,h=>by
   have ih:=jI hP n
   obtain⟨frames,m⟩:=c
   intro hst S fr frs cs w hW hI hF hB
   cases frames with
   | nil=>exact hB.elim
   | cons f fs=>
     obtain⟨dO,frs',e,hf,hfs⟩:=hF
     cases e
     obtain⟨fn,nn,env,todo,marks,cN⟩:=f
     cases todo with
     | nil=>
       have ht:fr.todo=[]:=hf.todo
       refine Bf (jump:=none) hP ih ?_ (fun x=>jc fun a ha=>by cases ha) (fun hr=>Tj hf.mode (by rw[hf.cN,hr];rfl) ht) (fun _=>.inl ⟨ht,rfl⟩) hW hI hf hfs hB
       simp only[run] at h
       exact h
     | cons i k=>
       obtain⟨it,kc,ht,h1,h2⟩:=hf.todo.cons_inv
       have plain:=fun hi=>L1 (xX (P:=P) (E:=E) (I0:=I0) (f0:=f0) (Fin:=Fin) (Q:=Q) hP.keep) ih (i:=i) (k:=k) hi h hst hW hI hf hfs hB (cs:=cs)
       have hnh:i.A_=false→∀x,¬Hid ⟨fn,nn,env,i::k,marks,cN⟩ fr x:=fun hne x=>jc fun a ha=>by cases ha;exact hne
       cases i with
       | inBlock id=>exact plain trivial
       | inLoop b=>exact plain trivial
       | inScope b=>exact plain trivial
       | ko l=>simp only[run] at h;exact h.elim
       | pQ all ms i rest bs=>simp only[run] at h;exact h.elim
       | kz l=>exact Lu ih h hW hI hf hfs hB
       | beginRound=>exact LC ih h hW hI hf hfs hB
       | ops all rest=>
         cases rest with
         | nil=>exact plain trivial
         | cons o rest=>exact TT hP ih h hW hI hf hfs hB
       | fu all ms rest bs=>
         cases rest with
         | nil=>exact L9 hP ih h hst hW hI hf hfs hB
         | cons i rest=>exact P2 hP ih h hst hW hI hf hfs hB
       | code x=>
         have h1:it=.code x:=h1
         subst h1
         cases x with
         | skip=>exact plain trivial
         | label l=>exact plain trivial
         | seq a b=>exact plain trivial
         | cond x a b=>exact plain trivial
         | block id b=>exact plain trivial
         | loop b=>exact plain trivial
         | scope b=>exact plain trivial
         | refuse why=>simp only[run] at h;exact h.elim
         | region id os draw=>
           cases draw with
           | false=>exact plain trivial
           | true=>exact Fq hP (xX (P:=P) (E:=E) (I0:=I0) (f0:=f0) (Fin:=Fin) (Q:=Q) hP.keep) ih h hst hW hI hf hfs hB
         | rangeFunc x ps a b=>exact A8 hP ih h hW hI hf hfs hB
         | ret=>
           refine Bf (jump:=some .ret) hP ih ?_ (hnh rfl) (fun hr=>TJ hf.mode (by rw[hf.cN,hr];rfl) ht) (fun _=>.inr (.inl ⟨kc,ht,rfl⟩)) hW hI hf hfs hB
           simp only[run] at h
           exact h
         | exit id=>
           simp only[run] at h
           cases he:gH id k with
           | some k'=>
             rw[he] at h
             obtain⟨kc',e1,e2,e3,e4⟩:=tu (m:=m) h2 he
             exact fK hW hI hf hfs hB (hnh rfl) (SH hf.mode ht e1) e2 (e3 hf.live.tail) (fun a ha=>hf.flat a (e4 a ha)) (ih _ h)
           | none=>
             rw[he] at h
             simp only at h
             have e1:=qN h2 he
             cases cN with
             | none=>exact h.elim
             | some l=>simp only at h;exact wv (f:=⟨fn,nn,env,.code (.exit id)::k,marks,some l⟩) (jump:=some (.exit id)) ih rfl h (.inr (.inr (.inl ⟨id,kc,ht,e1,rfl⟩))) hW hI hf hfs hB
         | goto id=>simp only[run] at h;exact h.elim
end
end Go.Ev
namespace Go.Ev
mutual
def Ty.has:(t:Ty)→t.T→Prop
 | .int k,x=>k.has x
 | .bool,_=>True
 | .str,x=>(show List UInt8 from x).length≤dB
 | .slice t,x=>(show List t.T from x).length≤dB∧∀y∈(show List t.T from x),Ty.has t y
 | .arr n t,x=>(show List t.T from x).length=n∧∀y∈(show List t.T from x),Ty.has t y
 | .struct ts,x=>Ty.cq ts x
 | .any _,_=>True
def Ty.cq:(ts:List Ty)→Ty.Ts ts→Prop
 | [],_=>True
 | [t],x=>Ty.has t x
 | t::t2::ts,x=>Ty.has t (Prod.fst (α:=t.T) (β:=Ty.Ts (t2::ts)) x)∧Ty.cq (t2::ts) (Prod.snd (α:=t.T) (β:=Ty.Ts (t2::ts)) x)
end
section
variable {w:World} {I:Nat→Prop}
mutual
theorem aR.has:∀(t:Ty) {cs:List Value} {x:t.T},aR w I t cs x→t.has x
 | .int k,cs,x,h=>by rw[Ty.has];exact(mP.1 h).2
 | .bool,cs,x,h=>by rw[Ty.has];trivial
 | .str,cs,x,h=>by rw[Ty.has];exact(uL.1 h).2
 | .slice t,cs,x,h=>by
   rw[Ty.has]
   obtain⟨a,cap,h1,h2,h3,h4,h5⟩:=bF.1 h
   refine⟨h3,fun y hy=>?_⟩
   obtain⟨i,hi⟩:=List.getElem?_of_mem hy
   obtain⟨b,off,us,_,_,_,_,hr⟩:=h5 i y hi
   exact aR.has t hr
 | .arr n t,cs,x,h=>by
   rw[Ty.has]
   obtain⟨h1,h2,h3⟩:=uU.1 h
   refine⟨h1,fun y hy=>?_⟩
   obtain⟨i,hi⟩:=List.getElem?_of_mem hy
   exact aR.has t (h3 i y hi)
 | .struct ts,cs,x,h=>by rw[Ty.has];exact bS.has ts (qd.1 h)
 | .any n,cs,x,h=>by rw[Ty.has];trivial
theorem bS.has:∀(ts:List Ty) {cs:List Value} {x:Ty.Ts ts},bS w I ts cs x→Ty.cq ts x
 | [],cs,x,h=>by rw[Ty.cq];trivial
 | [t],cs,x,h=>by rw[Ty.cq];exact aR.has t (ve.1 h)
 | t::t2::ts,cs,x,h=>by
   rw[Ty.cq]
   rw[bS] at h
   obtain⟨us,vs,_,h1,h2⟩:=h
   exact⟨aR.has t h1,bS.has (t2::ts) h2⟩
end
theorem gy.has{t:Ty}{v:Value}{x:t.T}(h:gy w I t v x):t.has x:=by
 unfold gy at h
 split at h
 ·obtain⟨us,_,h⟩:=h;exact h.has
 ·exact h.has
theorem dE.has:∀{ts:List Ty} {vs:List Value} {x:Ty.Ts ts},dE w I ts vs x→Ty.cq ts x
 | [],vs,x,h=>by rw[Ty.cq];trivial
 | [t],vs,x,h=>by
   rw[Ty.cq]
   rw[dE] at h
   obtain⟨v,_,h⟩:=h
   exact h.has
 | t::t2::ts,vs,x,h=>by
   rw[Ty.cq]
   rw[dE] at h
   obtain⟨v,r,_,h1,h2⟩:=h
   exact⟨h1.has,h2.has⟩
end
theorem EU{os:Array Oper}:(List.range os.size).map (fun i=>os[i]?)=os.toList.map some:=by
 apply List.ext_getElem?
 intro j
 have e:os.toList[j]? = os[j]? :=Array.getElem?_toList
 rw[List.getElem?_map,List.getElem?_map,e]
 by_cases hj:j<os.size
 ·rw[List.getElem?_range hj,Option.map_some,Array.getElem?_eq_getElem hj];rfl
 ·rw[List.getElem?_eq_none (by simpa using hj),Array.getElem?_eq_none (by omega)];rfl
structure Closed{R:Type}(E:ek R)(Q:R→Prop)(G:eF→Prop):Prop where
 go:∀(n:Nat) (c:eF),Tr.Ok Q G (run ah E n (advance E.da c))→G c
section
variable {P:Program} {R:Type} {E:ek R} {w0:iG} {I0:Nat→Prop} {f0:FuncId} {Fin:R→Value→World→Prop} {Q:R→Prop}
theorem Ej(hP:Fits P E Fin w0 I0){c:eF}(hg:Good P E w0 I0 f0 Fin Q (advance E.da c)):Good P E w0 I0 f0 Fin Q c:=by
 obtain⟨frames,m⟩:=c
 cases frames with
 | nil=>exact hg
 | cons f fs=>
   obtain⟨fn,nn,env,todo,marks,cN⟩:=f
   cases todo with
   | nil=>exact hg
   | cons i k=>
     cases i with
     | inLoop b=>
       intro _ S fr frs cs w hW hI hF hB
       obtain⟨dO,frs',e,hf,hfs⟩:=hF
       cases e
       obtain⟨it,kc,ht,h1,h2⟩:=hf.todo.cons_inv
       have h1:it=.inLoop b∨it=.code (.loop b):=h1
       have hst:step P (lone fr (frs++cs) w)=.next (lone {fr with todo:=.code b :: .inLoop b::kc} (frs++cs) w):=by
        rcases h1 with rfl|rfl
        ·exact B9 hf.mode ht
        ·exact J_ hf.mode ht
       refine fK hW hI hf hfs hB (fun x=>jc fun a ha=>by cases ha;rfl) hst h2.inLoop.code (.mk trivial (.mk trivial hf.live.tail)) (fun a ha=>?_) hg
       rcases List.mem_cons.1 ha with rfl|ha
       ·rfl
       ·rcases List.mem_cons.1 ha with rfl|ha
        ·rfl
        ·exact hf.flat a ha
     | code x=>
       cases x with
       | region id os draw=>
         cases draw with
         | false=>
           intro _ S fr frs cs w hW hI hF hB
           obtain⟨dO,frs',e,hf,hfs⟩:=hF
           cases e
           obtain⟨it,kc,ht,h1,h2⟩:=hf.todo.cons_inv
           have h1:it=.code (.region id os false):=h1
           subst h1
           refine fK hW hI hf hfs hB (fun x=>jc fun a ha=>by cases ha;rfl) (BZ hf.mode ht) (.mk (a:=.ops os os.toList) ⟨_,rfl,EU⟩ h2) (.mk trivial hf.live.tail) (fun a ha=>?_) hg
           rcases List.mem_cons.1 ha with rfl|ha
           ·rfl
           ·exact hf.flat a ha
         | true=>
           simp only[advance] at hg
           cases hd:kM E.da os with
           | none=>rw[hd] at hg;exact hg
           | some q=>
             obtain⟨ms,is⟩:=q
             rw[hd] at hg
             intro _ S fr frs cs w hW hI hF hB
             obtain⟨dO,frs',e,hf,hfs⟩:=hF
             cases e
             exact yR hP hd hg hW hI hf hfs hB
       | _=>exact hg
     | _=>exact hg
theorem jA(hP:Fits P E Fin w0 I0):Closed E Q (Good P E w0 I0 f0 Fin Q):=
 ⟨fun n c h=>Ej hP (jI hP n _ h)⟩
def TW(w0:World)(I0:Nat→Prop)(res:List Ty)(y:Ty.Ts res)(v:Value)(w':World):Prop:=
 w'.os=w0.os∧w'.tape=w0.tape∧w'.output=w0.output∧w0.heap.size≤w'.heap.size∧(∀b,b<w0.heap.size→w'.heap[b]? = w0.heap[b]?)∧
  ∃I',(∀b,I' b→I0 b∨(w0.heap.size≤b∧b<w'.heap.size))∧kl w' I' res v y
theorem jo{w1:World}{b:Nat}(h:(World.whole w1).free b):w1.heap.size≤b:=h.elim id fun k=>k.elim
theorem sI{w1:World}{S:St}{w:World}{m:Mem}{av:AV}{res:List Ty}{y:Ty.Ts res}{v:Value}(hW:WR (World.whole w1) w S m)(hI:∀b,S.I b→I0 b∨(World.whole w1).free b)(h:yb ah res av m=some y)(hc:CR w S m av v):TW w1 I0 res y v w:=by
 have main:∀(vs:List AV) (us:List Value),cn res vs=true→bw w S m vs us→(match bT ah res m (vs.flatMap AV.cells) with
   | none=>none
   | some (_,cs)=>match jL res cs with
     | some (y, [])=>some y
     | _=>none)=some y→∃I',(∀b,I' b→I0 b∨(w1.heap.size≤b∧b<w.heap.size))∧dE w I' res us y:=by
  intro vs us hok hcs h
  obtain⟨L,hL,hrep⟩:=iY hok hcs
  cases hf:bT ah res m (vs.flatMap AV.cells) with
  | none=>rw[hf] at h;cases h
  | some q=>
    obtain⟨m1,cs1⟩:=q
    rw[hf] at h
    simp only at h
    obtain⟨S1,s1,hc1⟩:=dH hW hf hL
    cases htd:jL res cs1 with
    | none=>rw[htd] at h;cases h
    | some q=>
      obtain⟨x,r⟩:=q
      rw[htd] at h
      cases r with
      | cons _ _=>cases h
      | nil=>
        cases h
        obtain⟨u1,u2,e,hx,hr⟩:=h_ res htd hc1
        have hu2:=aM.1 hr
        rw[hu2,List.append_nil] at e
        rw[←e] at hx
        refine⟨S1.I,fun b hb=>?_,hrep _ y hx⟩
        rcases s1.grows b hb with h|h
        ·rcases hI b h with h|h
         ·exact .inl h
         ·exact .inr ⟨jo h,s1.wr.ja b hb⟩
        ·exact .inr ⟨jo h,s1.wr.ja b hb⟩
 refine⟨hW.os,hW.tape.1,hW.output,hW.size,fun b hb=>hW.base b fun k=>absurd (jo k) (Nat.not_le_of_lt hb),?_⟩
 unfold yb at h
 match res,y,h,main with
 | [],y,h1,main=>
   obtain⟨vs,rfl⟩:∃vs,av=.qx vs:=by cases av<;>first|exact⟨_,rfl⟩|(exact absurd h1 (fun e=>by cases e))
   obtain⟨us,rfl,hcs⟩:=fx.1 hc
   simp only at h1
   cases hok:cn [] vs with
   | false=>rw[hok] at h1;cases h1
   | true=>
     rw[hok] at h1
     obtain⟨I',k1,k2⟩:=main vs us.toList hok hcs h1
     rw[dE] at k2
     exact⟨I',k1,by rw[kl,Array.toList_eq_nil_iff.1 k2]⟩
 | [t],y,h1,main=>
   simp only at h1
   cases hok:cn [t] [av] with
   | false=>rw[hok] at h1;cases h1
   | true=>
     rw[hok] at h1
     obtain⟨I',k1,k2⟩:=main [av] [v] hok (aV.2 ⟨v, [],rfl,hc,aM.2 rfl⟩) h1
     rw[dE] at k2
     obtain⟨v',e,k2⟩:=k2
     cases e
     exact⟨I',k1,by rw[kl];exact k2⟩
 | t::t2::ts,y,h1,main=>
   obtain⟨vs,rfl⟩:∃vs,av=.qx vs:=by cases av<;>first|exact⟨_,rfl⟩|(exact absurd h1 (fun e=>by cases e))
   obtain⟨us,rfl,hcs⟩:=fx.1 hc
   simp only at h1
   cases hok:cn (t::t2::ts) vs with
   | false=>rw[hok] at h1;cases h1
   | true=>
     rw[hok] at h1
     obtain⟨I',k1,k2⟩:=main vs us.toList hok hcs h1
     exact⟨I',k1,by rw[kl];exact⟨us,rfl,k2⟩⟩
structure Base{R:Type}(P:Program)(E:ek R):Prop where
 ti:iJ P E.ti
 dy:∀g F,look E.dy g=some F→P.funcs[g]? = some F∧(F.name == "runtime.NumGoroutine")=false
 da:∀g s,look E.da g=some s→s.Sound P g
 mixed:P.follows .mixedOrders=true
 ju:∀g s,look E.ju g=some s→s.Sound P g
 kG:∀g s,look E.kG g=some s→s.Sound P g
 jy:∀g s,look E.jy g=some s→s.Sound P g
 ops:∀g s,look E.ops g=some s→s.Sound P g
theorem zh{w:World}{I:Nat→Prop}(hI:∀b,I b→b<w.heap.size):WR (World.whole w) w {σ:=fun _=>0,δ:=fun _=>0,I:=I} []:=
 ⟨rfl,⟨rfl,fun _=>Nat.le_refl _⟩,rfl,Nat.le_refl _,fun _ _=>rfl,hI,fun _=>trivial,fun _ _ h=>(by cases h),fun _ h=>(by cases h),fun _ h=>(by cases h),fun _ h=>(by cases h),fun _ _ h=>(by simp[World.whole] at h),fun b us T fr h=>⟨us,T,fr,h,rfl⟩⟩
theorem u6{g:FuncId}{F:Func}{s:aC}{E:ek (Ty.Ts s.res)}(hE:Base P E)(hfin:E.fin=yb ah s.res)(hg:look E.dy g=some F)(hb:F.body.isSome=true)(n:Nat)
  (h:∀x,s.pre x=true→Ty.cq s.args x→∃h0,dW g F (cr ah s.args x)=some h0∧∀G,Closed E (fun y=>y=s.fn x) G→Tr.Ok (fun y=>y=s.fn x) G (run ah E n {frames:=[h0],mem:=[]})):s.Sound P g:=by
 obtain⟨hF,hn⟩:=hE.dy g F hg
 refine⟨fun w I x aa hI hrep hpre cs=>?_,F,hF,hb,hn⟩
 obtain⟨h0,hen,hok⟩:=h x hpre hrep.has
 have hP:Fits P E (TW w I s.res) (World.whole w) I:=⟨hE.ti,hE.dy,hE.da,hE.mixed,fun S w' m av y v hW hI' hf hc=>sI hW hI' (by rw[←hfin];exact hf) hc,hE.ju,hE.kG,hE.jy,hE.ops,Nat.zero_le _,fun k=>False.elim k⟩
 have hgood:=jI hP (Q:=fun y=>y=s.fn x) (f0:=g) n _ (hok _ (jA hP))
 have hW:=zh hI
 obtain⟨hfr,_,hnd⟩:=fD hF hen (i7 (S:={σ:=fun _=>0,δ:=fun _=>0,I:=I}) (m:=[]) (fun b hb=>hb) hrep)
 have hB:sO g [h0]:=by
  unfold dW at hen
  cases hbb:F.body with
  | none=>rw[hbb] at hen;cases hen
  | some b=>
    rw[hbb] at hen
    simp only at hen
    split at hen
    ·cases hen;exact(rfl:g=g)
    ·cases hen
 obtain⟨y,v,w',dO,hy,hfi,hsteps,hfn,hleave⟩:=hgood (dn hnd) _ _ [] cs w hW (fun b hb=>.inl hb) ⟨_,_,rfl,hfr,rfl⟩ hB
 obtain⟨g1,g2,g3,g4,g5,I',g6,g7⟩:=hfi
 exact⟨.returned v,w',dO,⟨v,rfl,g1,g2,g3,g4,g5,I',g6,by rw[←hy];exact g7⟩,hsteps,hfn,hleave⟩
theorem WR.plain{o w:World}{S:St}{m:Mem}(h:WR (World.Cn o) w S m):WR (World.whole o) w S m:=
 ⟨h.os,⟨h.tape.1,fun k=>False.elim k⟩,h.output,h.size,h.base,h.ja,h.box,h.inj,h.lo,h.lC,h.Ar,h.root,h.cells⟩
theorem K_{w:World}{I:Nat→Prop}(hI:∀b,I b→b<w.heap.size):WR (World.Cn w) w {σ:=fun _=>0,δ:=fun _=>0,I:=I} []:=
 ⟨rfl,⟨rfl,fun _=>Nat.le_refl _⟩,rfl,Nat.le_refl _,fun _ _=>rfl,hI,fun _=>trivial,fun _ _ h=>(by cases h),fun _ h=>(by cases h),fun _ h=>(by cases h),fun _ h=>(by cases h),fun _ _ h=>(by simp[World.Cn] at h),fun b us T fr h=>⟨us,T,fr,h,rfl⟩⟩
theorem Aj{g:FuncId}{F:Func}{s:aC}{E:ek (Ty.Ts s.res)}(hE:Base P E)(hfin:E.fin=yb ah s.res)(hg:look E.dy g=some F)(hno:(∀g s,look E.da g=some s→s.jk P g)∧E.ju=[]∧E.kG=[]∧E.jy=[]∧E.ops=[])(n:Nat)
  (h:∀x,s.pre x=true→Ty.cq s.args x→∃h0,dW g F (cr ah s.args x)=some h0∧∀G,Closed E (fun y=>y=s.fn x) G→Tr.Ok (fun y=>y=s.fn x) G (run ah E n {frames:=[h0],mem:=[]})):s.jk P g:=by
 obtain⟨hF,hn⟩:=hE.dy g F hg
 intro w I x aa hI hrep hpre cs
 obtain⟨h0,hen,hok⟩:=h x hpre hrep.has
 have hP:Fits P E (fun y v w'=>w.drawn≤w'.drawn∧TW w I s.res y v w') (World.Cn w) I:=⟨hE.ti,hE.dy,hE.da,hE.mixed,fun S w' m av y v hW hI' hf hc=>⟨hW.tape.2 trivial,sI hW.plain hI' (by rw[←hfin];exact hf) hc⟩,hE.ju,hE.kG,hE.jy,hE.ops,Nat.zero_le _,fun _=>hno⟩
 have hgood:=jI hP (Q:=fun y=>y=s.fn x) (f0:=g) n _ (hok _ (jA hP))
 have hW:=K_ hI
 obtain⟨hfr,_,hnd⟩:=fD hF hen (i7 (S:={σ:=fun _=>0,δ:=fun _=>0,I:=I}) (m:=[]) (fun b hb=>hb) hrep)
 have hB:sO g [h0]:=by
  unfold dW at hen
  cases hbb:F.body with
  | none=>rw[hbb] at hen;cases hen
  | some b=>
    rw[hbb] at hen
    simp only at hen
    split at hen
    ·cases hen;exact(rfl:g=g)
    ·cases hen
 obtain⟨y,v,w',dO,hy,hfi,hsteps,hfn,hleave⟩:=hgood (dn hnd) _ _ [] cs w hW (fun b hb=>.inl hb) ⟨_,_,rfl,hfr,rfl⟩ hB
 obtain⟨g0,g1,g2,g3,g4,g5,I',g6,g7⟩:=hfi
 exact⟨.returned v,w',dO,⟨g0,v,rfl,g1,g2,g3,g4,g5,I',g6,by rw[←hy];exact g7⟩,hsteps,hfn,hleave⟩
mutual
theorem aR.anyI{w:World}{I I':Nat→Prop}:∀(t:Ty) {cs:List Value} {x:t.T},t.scalar=true→aR w I t cs x→aR w I' t cs x
 | .int k,cs,x,_,h=>by rw[aR] at h ⊢;exact h
 | .bool,cs,x,_,h=>by rw[aR] at h ⊢;exact h
 | .str,cs,x,_,h=>by rw[aR] at h ⊢;exact h
 | .slice t,cs,x,ht,h=>by cases ht
 | .arr n t,cs,x,ht,h=>by
   rw[aR] at h ⊢
   exact⟨h.1,h.2.1,fun i y hy=>aR.anyI t (by rw[Ty.scalar] at ht;exact ht) (h.2.2 i y hy)⟩
 | .struct ts,cs,x,ht,h=>by rw[aR] at h ⊢;exact bS.anyI ts (by rw[Ty.scalar] at ht;exact ht) h
 | .any n,cs,x,ht,h=>by cases ht
theorem bS.anyI{w:World}{I I':Nat→Prop}:∀(ts:List Ty) {cs:List Value} {x:Ty.Ts ts},Ty.scalars ts=true→bS w I ts cs x→bS w I' ts cs x
 | [],cs,x,_,h=>by rw[bS] at h ⊢;exact h
 | [t],cs,x,ht,h=>by rw[bS] at h ⊢;exact aR.anyI t (by simpa [Ty.scalars] using ht) h
 | t::t2::ts,cs,x,ht,h=>by
   rw[bS] at h ⊢
   rw[Ty.scalars,Bool.and_eq_true] at ht
   obtain⟨us,vs,h0,h1,h2⟩:=h
   exact⟨us,vs,h0,aR.anyI t ht.1 h1,bS.anyI (t2::ts) ht.2 h2⟩
end
theorem gy.anyI{w:World}{I I':Nat→Prop}{t:Ty}{v:Value}{x:t.T}(ht:t.scalar=true)(h:gy w I t v x):gy w I' t v x:=by
 unfold gy at h ⊢
 split at h
 ·rename_i hg;rw[if_pos hg];obtain⟨us,e,h⟩:=h;exact⟨us,e,aR.anyI t ht h⟩
 ·rename_i hg;rw[if_neg hg];exact aR.anyI t ht h
theorem dE.anyI{w:World}{I I':Nat→Prop}:∀{ts:List Ty} {vs:List Value} {x:Ty.Ts ts},Ty.scalars ts=true→dE w I ts vs x→dE w I' ts vs x
 | [],vs,x,_,h=>by rw[dE] at h ⊢;exact h
 | [t],vs,x,ht,h=>by
   rw[dE] at h ⊢
   obtain⟨v,e,h⟩:=h
   exact⟨v,e,gy.anyI (by simpa [Ty.scalars] using ht) h⟩
 | t::t2::ts,vs,x,ht,h=>by
   rw[dE] at h ⊢
   rw[Ty.scalars,Bool.and_eq_true] at ht
   obtain⟨v,r,e,h1,h2⟩:=h
   exact⟨v,r,e,gy.anyI ht.1 h1,dE.anyI ht.2 h2⟩
theorem kl.anyI{w:World}{I I':Nat→Prop}:∀{res:List Ty} {v:Value} {y:Ty.Ts res},Ty.scalars res=true→kl w I res v y→kl w I' res v y
 | [],v,y,_,h=>by rw[kl] at h ⊢;exact h
 | [t],v,y,ht,h=>by rw[kl] at h ⊢;exact gy.anyI (by simpa [Ty.scalars] using ht) h
 | t::t2::ts,v,y,ht,h=>by
   rw[kl] at h ⊢
   obtain⟨us,e,h⟩:=h
   exact⟨us,e,dE.anyI ht h⟩
theorem AL{g:FuncId}{F:Func}{s:gl}{E:ek (Ty.Ts s.res)}(hE:Base P E)(hfin:E.fin=yb ah s.res)(hg:look E.dy g=some F)(hb:F.body.isSome=true)(n:Nat)(hsc:Ty.scalars s.res=true)
  (h:∀x y,s.pre (x,y)=true→s.view.has x→Ty.cq s.args y→∃h0,dW g F (.jl s.view x 0::cr ah s.args y)=some h0∧∀G,Closed E (fun r=>r=s.fn (x,y)) G→Tr.Ok (fun r=>r=s.fn (x,y)) G (run ah E n {frames:=[h0],mem:=[]})):s.Sound P g:=by
 obtain⟨hF,hn⟩:=hE.dy g F hg
 refine⟨fun w I x y b us T fr aa hI hh hx hy hpre cs=>?_,F,hF,hb,hn⟩
 obtain⟨h0,hen,hok⟩:=h x y hpre hx.has hy.has
 have hbw:b<w.heap.size:=(Array.getElem?_eq_some_iff.1 hh).1
 have hI0:∀c,(I c∨c=b)→c<w.heap.size:=fun c hc=>hc.elim (hI c) (fun e=>e▸hbw)
 have hmn:∀c,I c→(I c∨c=b)∧w.heap[c]? = w.heap[c]? :=fun c hc=>⟨.inl hc,rfl⟩
 have hP:Fits P E (TW w (fun c=>I c∨c=b) s.res) (World.whole w) (fun c=>I c∨c=b):=⟨hE.ti,hE.dy,hE.da,hE.mixed,fun S w' m av y v hW hI' hf hc=>sI hW hI' (by rw[←hfin];exact hf) hc,hE.ju,hE.kG,hE.jy,hE.ops,Nat.zero_le _,fun k=>False.elim k⟩
 have hgood:=jI hP (Q:=fun r=>r=s.fn (x,y)) (f0:=g) n _ (hok _ (jA hP))
 have hW:=zh hI0
 have hargs:bw w {σ:=fun _=>0,δ:=fun _=>0,I:=fun c=>I c∨c=b} [] (.jl s.view x 0::cr ah s.args y) (Value.pointer (some ⟨b,0,none⟩)::aa).toArray.toList:=by
  refine aV.2 ⟨_,_,rfl,nz.2 ⟨b,0,us.toList,rfl,.inr rfl,aR.length _ hx,?_,aR.mono hmn _ hx⟩,i7 (I:=I) (fun c hc=>Or.inl hc) hy⟩
  have:=dT (w:=w) hh 0 us.size
  rwa [List.drop_zero,List.take_of_length_le (by simp)] at this
 obtain⟨hfr,_,hnd⟩:=fD hF hen hargs
 have hB:sO g [h0]:=by
  unfold dW at hen
  cases hbb:F.body with
  | none=>rw[hbb] at hen;cases hen
  | some b=>
    rw[hbb] at hen
    simp only at hen
    split at hen
    ·cases hen;exact(rfl:g=g)
    ·cases hen
 obtain⟨r,v,w',dO,hr,hfi,hsteps,hfn,hleave⟩:=hgood (dn hnd) _ _ [] cs w hW (fun b hb=>.inl hb) ⟨_,_,rfl,hfr,rfl⟩ hB
 obtain⟨g1,g2,g3,g4,g5,I',g6,g7⟩:=hfi
 exact⟨.returned v,w',dO,⟨v,rfl,g1,g2,g3,g4,g5,by rw[←hr];exact kl.anyI hsc g7⟩,hsteps,hfn,hleave⟩
end
def World.with(w:World)(B:List Nat)(rs:List (Nat×Option Nat)):iG:={w with X:=fun b=>b∈B,R:=rs}
def AP(rs:List Nat):List (Nat×Option Nat):=rs.map fun b=>(b,none)
def ac1(w0:World)(I0:Nat→Prop)(B rs:List Nat)(rp:Bool)(ptrs:List VF)(res:List Ty)(y:Ty.Ts (VF.fM ptrs)×Ty.Ts res)(v:Value)(w':World):Prop:=
 w'.os=w0.os∧w'.tape=w0.tape∧w'.output=w0.output∧w0.heap.size≤w'.heap.size∧(∀b,b<w0.heap.size→b ∉ B→w'.heap[b]? = w0.heap[b]?)∧
  ∃(I':Nat→Prop) (B':List Nat),(∀b,I' b→(I0 b∨b∈B∨w0.heap.size≤b)∧b<w'.heap.size)∧(∀(b:Nat) (us:Array Value) (T:TypeId) (fr:Nat×Nat),w0.heap[b]? = some (.cells us T fr)→∃(dV:Array Value) (T':TypeId) (dO:Nat×Nat),w'.heap[b]? = some (.cells dV T' dO)∧dV.size=us.size)∧mQ w' I' ptrs (gS rs) y.1 B'∧B'.Nodup∧(∀b∈B',(b∈B∨w0.heap.size≤b)∧¬I' b)∧MK w' I' rp rs res v y.2
theorem zo{w0:iG}{w:World}{S:St}{m:Mem}(hW:WR w0 w S m):∀{ptrs:List VF} {k:Nat} {rs:List Nat} {x:Ty.Ts (VF.fM ptrs)} {ids:List Nat},dF ptrs=true→(∀i b,rs[i]? = some b→S.σ (k+i)=b)→rs.length=ptrs.length→
  VF.reads m ptrs ((List.range ptrs.length).map fun i=>AV.ptr (k+i) 0)=some (x,ids, [])→bw w S m ((List.range ptrs.length).map fun i=>AV.ptr (k+i) 0) (gS rs)
 | [],k,rs,x,ids,_,_,hl,_=>by
   have:rs=[]:=List.length_eq_zero_iff.1 hl
   subst this
   exact aM.2 rfl
 | f::fs,k, [],x,ids,_,_,hl,_=>by cases hl
 | f::fs,k,r::rs,x,ids,hp,hr,hl,h=>by
   have e:(List.range (f::fs).length).map (fun i=>AV.ptr (k+i) 0)=AV.ptr k 0::(List.range fs.length).map fun i=>AV.ptr (k+1+i) 0:=by
    rw[List.length_cons,List.range_succ_eq_map,List.map_cons,List.map_map]
    congr 1
    refine List.map_congr_left fun i _=>?_
    simp only[Function.comp,Nat.succ_eq_add_one]
    rw[Nat.add_assoc,Nat.add_comm 1 i]
   rw[e] at h ⊢
   obtain⟨hf,hp⟩:=dG hp
   have one:∀{y:f.ty.T} {is:List Nat} {r1:List AV},VF.read m f (AV.ptr k 0::(List.range fs.length).map fun i=>AV.ptr (k+1+i) 0)=some (y,is,r1)→CR w S m (.ptr k 0) (.pointer (some ⟨r,0,none⟩))∧r1=(List.range fs.length).map fun i=>AV.ptr (k+1+i) 0:=by
    intro y is r1 h
    generalize f.sub=gs at hf
    rcases hf with rfl|rfl
    all_goals
     simp only[VF.read] at h
     cases hm:m.at k<;>rw[hm] at h<;>(try simp only at h)<;>try (cases h;done)
     case flat fz l=>
      cases fz<;>(try (cases h;done))
      simp only at h
      refine⟨?_,?_⟩
      ·rw[CR,hm]
       show Value.pointer _=_
       rw[←hr 0 r rfl];rfl
      ·cases hrd:VF.reads m gs l with
       | none=>rw[hrd] at h;cases h
       | some q=>
         obtain⟨y',is',r'⟩:=q
         rw[hrd] at h
         cases r' with
         | cons _ _=>cases h
         | nil=>
           cases h
           rfl
   cases fs with
   | nil=>
     have hrs:rs=[]:=List.length_eq_zero_iff.1 (by simpa using hl)
     subst hrs
     simp only[VF.reads] at h
     exact aV.2 ⟨_,_,rfl,(one h).1,aM.2 rfl⟩
   | cons g fs=>
     simp only[VF.reads] at h
     cases h1:VF.read m f (AV.ptr k 0::(List.range (g::fs).length).map fun i=>AV.ptr (k+1+i) 0) with
     | none=>rw[h1] at h;cases h
     | some p=>
       obtain⟨a,i1,r1⟩:=p
       rw[h1] at h
       simp only at h
       obtain⟨c1,e1⟩:=one h1
       cases h2:VF.reads m (g::fs) r1 with
       | none=>rw[h2] at h;cases h
       | some q=>
         obtain⟨b,i2,r2⟩:=q
         rw[h2] at h
         simp only[Option.some.injEq,Prod.mk.injEq] at h
         obtain⟨_,_,rfl⟩:=h
         rw[e1] at h2
         exact aV.2 ⟨_,_,rfl,c1,zo hW hp (fun i b hb=>by rw[Nat.add_assoc,Nat.add_comm 1 i];exact hr (i+1) b hb) (by simpa using hl) h2⟩
theorem GD{k n:Nat}:ck ((List.range n).map fun i=>AV.ptr (k+i) 0)=(List.range n).map (k + ·):=by
 induction List.range n with
 | nil=>rfl
 | cons a l ih=>rw[List.map_cons,ck,List.map_cons,ih]
theorem G0{w1:World}{S:St}{w:World}{m:Mem}{av:AV}{I0:Nat→Prop}{B rs:List Nat}{rp:Bool}{ptrs:List VF}{res:List Ty}{y:Ty.Ts (VF.fM ptrs)×Ty.Ts res}{v:Value}(hk:rs.length=ptrs.length)(hW:WR (World.with w1 B (AP rs)) w S m)
  (hI:∀b,S.I b→I0 b∨(World.with w1 B (AP rs)).free b) (h:Tz ah rp ptrs res av m=some y) (hc:CR w S m av v):ac1 w1 I0 B rs rp ptrs res y v w:=by
 have main:∀(vs:List AV) (us:List Value),cn res vs=true→bw w S m vs us→(match bT ah res m (vs.flatMap AV.cells) with
   | none=>none
   | some (m,cs)=>match jL res cs with
     | some (y, [])=>match VF.reads m ptrs (fy ptrs.length) with
       | some (x,ids, [])=>match nodupB ids&&dF ptrs with
         | true=>some (x,y)
         | false=>none
       | _=>none
     | _=>none)=some y→∃(I':Nat→Prop) (B':List Nat),(∀b,I' b→(I0 b∨b∈B∨w1.heap.size≤b)∧b<w.heap.size)∧mQ w I' ptrs (gS rs) y.1 B'∧B'.Nodup∧(∀b∈B',(b∈B∨w1.heap.size≤b)∧¬I' b)∧dE w I' res us y.2:=by
  intro vs us hok hcs h
  obtain⟨L,hL,hrep⟩:=iY hok hcs
  cases hf:bT ah res m (vs.flatMap AV.cells) with
  | none=>rw[hf] at h;cases h
  | some q=>
    obtain⟨m1,cs1⟩:=q
    rw[hf] at h
    simp only at h
    obtain⟨S1,s1,hc1⟩:=dH hW hf hL
    cases htd:jL res cs1 with
    | none=>rw[htd] at h;cases h
    | some q=>
      obtain⟨x,r⟩:=q
      rw[htd] at h
      cases r with
      | cons _ _=>cases h
      | nil=>
        simp only at h
        obtain⟨u1,u2,e,hx,hr⟩:=h_ res htd hc1
        have hu2:=aM.1 hr
        rw[hu2,List.append_nil] at e
        rw[←e] at hx
        cases hrd:VF.reads m1 ptrs (fy ptrs.length) with
        | none=>rw[hrd] at h;cases h
        | some q=>
          obtain⟨z,ids,r⟩:=q
          rw[hrd] at h
          cases r with
          | cons _ _=>cases h
          | nil=>
            simp only at h
            cases hck:nodupB ids&&dF ptrs with
            | false=>rw[hck] at h;cases h
            | true=>
              rw[hck] at h
              cases h
              rw[Bool.and_eq_true] at hck
              have e0:fy ptrs.length=(List.range ptrs.length).map fun i=>AV.ptr (0+i) 0:=by
               rw[fy];exact List.map_congr_left fun i _=>by rw[Nat.zero_add]
              have hcr:bw w S1 m1 (fy ptrs.length) (gS rs):=by
               rw[e0] at hrd ⊢
               exact zo s1.wr hck.2 (fun i b hb=>by rw[Nat.zero_add];exact(s1.wr.root i (b,none) (by show(AP rs)[i]? = _;rw[AP,List.getElem?_map,hb];rfl)).2.1) hk hrd
              obtain⟨v1,v2,js,e3,hr3,hsub,hlv,hob,hvr⟩:=VF.jJ s1.wr ptrs hrd hcr
              rw[aM.1 hr3,List.append_nil] at e3
              rw[←e3] at hvr
              obtain⟨b1,b2,b3,b4⟩:=oQ s1.wr (kF hck.1) hsub hlv
              refine⟨S1.I,js.map S1.σ,fun b hb=>⟨?_,s1.wr.ja b hb⟩,hvr,b1,fun b hb=>⟨(b3 b hb).elim .inr .inl,b2 b hb⟩,hrep _ _ hx⟩
              rcases s1.grows b hb with h|h
              ·rcases hI b h with h|h
               ·exact .inl h
               ·exact .inr (h.elim .inr .inl)
              ·exact .inr (h.elim .inr .inl)
 refine⟨hW.os,hW.tape.1,hW.output,hW.size,fun b hb hB=>hW.base b fun k=>k.elim (fun k=>absurd k (Nat.not_le_of_lt hb)) hB,?_⟩
 unfold Tz at h
 cases rp with
 | true=>
   simp only at h
   unfold afX at h
   cases av<;>try (cases h;done)
   rename_i i d
   simp only at h
   cases hq:Nat.beq i 0&&(Nat.beq d 0&&Nat.ble 1 ptrs.length) with
   | false=>rw[hq] at h;cases h
   | true=>
     rw[hq] at h
     simp only at h
     have hq:=(Bool.and_eq_true _ _).mp hq
     have hq2:=(Bool.and_eq_true _ _).mp hq.2
     cases Nat.eq_of_beq_eq_true hq.1
     cases Nat.eq_of_beq_eq_true hq2.1
     have h1:=Nat.le_of_ble_eq_true hq2.2
     cases hm:m.at 0<;>rw[hm] at h<;>try (cases h;done)
     simp only at h
     cases hok:cn res [] with
     | false=>rw[hok] at h;cases h
     | true=>
       rw[hok] at h
       obtain⟨I',B',k1,k2,k3,k4,_⟩:=main [] [] hok (aM.2 rfl) h
       refine⟨I',B',k1,hW.cells,k2,k3,k4,?_⟩
       cases rs with
       | nil=>rw[←hk] at h1;cases h1
       | cons b rs=>
         have e:=(hW.root 0 (b,none) rfl).2.1
         rw[CR,hm] at hc
         rw[hc]
         show some (Value.pointer (some ⟨b,0,none⟩))=_
         rw[show S.σ 0=b from e]
 | false=>
 simp only at h
 match res,y,h,main with
 | [],y,h1,main=>
   obtain⟨vs,rfl⟩:∃vs,av=.qx vs:=by cases av<;>first|exact⟨_,rfl⟩|(exact absurd h1 (fun e=>by cases e))
   obtain⟨us,rfl,hcs⟩:=fx.1 hc
   simp only at h1
   cases hok:cn [] vs with
   | false=>rw[hok] at h1;cases h1
   | true=>
     rw[hok] at h1
     obtain⟨I',B',k1,k2,k3,k4,k5⟩:=main vs us.toList hok hcs h1
     rw[dE] at k5
     exact⟨I',B',k1,hW.cells,k2,k3,k4,by rw[MK,kl,Array.toList_eq_nil_iff.1 k5]⟩
 | [t],y,h1,main=>
   simp only at h1
   cases hok:cn [t] [av] with
   | false=>rw[hok] at h1;cases h1
   | true=>
     rw[hok] at h1
     obtain⟨I',B',k1,k2,k3,k4,k5⟩:=main [av] [v] hok (aV.2 ⟨v, [],rfl,hc,aM.2 rfl⟩) h1
     rw[dE] at k5
     obtain⟨v',e,k5⟩:=k5
     cases e
     exact⟨I',B',k1,hW.cells,k2,k3,k4,by rw[MK,kl];exact k5⟩
 | t::t2::ts,y,h1,main=>
   obtain⟨vs,rfl⟩:∃vs,av=.qx vs:=by cases av<;>first|exact⟨_,rfl⟩|(exact absurd h1 (fun e=>by cases e))
   obtain⟨us,rfl,hcs⟩:=fx.1 hc
   simp only at h1
   cases hok:cn (t::t2::ts) vs with
   | false=>rw[hok] at h1;cases h1
   | true=>
     rw[hok] at h1
     obtain⟨I',B',k1,k2,k3,k4,k5⟩:=main vs us.toList hok hcs h1
     exact⟨I',B',k1,hW.cells,k2,k3,k4,by rw[MK,kl];exact⟨us,rfl,k5⟩⟩
mutual
theorem VR.has{w:World}{I:Nat→Prop}:∀(f:VF) {us:List Value} {x:f.ty.T} {B:List Nat},VR w I f us x B→f.ty.has x
 | .d t,us,x,B,h=>(Sr.1 h).1.has
 | .own t,us,x,B,h=>by
   show(Ty.slice t).has x
   rcases gL.1 h with ⟨e,_⟩|⟨_,b,dl,cap,_,_,_,h2,vs,T,fr,_,_,_,h6⟩
   ·have e:x=([]:List t.T):=e
    subst e
    exact⟨Nat.zero_le _,fun y hy=>absurd hy List.not_mem_nil⟩
   ·refine⟨h2,fun y hy=>?_⟩
    obtain⟨i,hi⟩:=List.getElem?_of_mem hy
    exact(h6 i y hi).has
 | .ptr fs,us,x,B,h=>by
   obtain⟨b,B',_,_,vs,T,fr,_,_,h3⟩:=vW.1 h
   show Ty.cq (VF.fM fs) x
   exact mQ.has fs h3
 | .kq fs,us,x,B,h=>by
   obtain⟨b,_,_,vs,T,fr,_,_,h3⟩:=qT.1 h
   show Ty.cq (VF.fM fs) x
   exact mQ.has fs h3
theorem mQ.has{w:World}{I:Nat→Prop}:∀(fs:List VF) {us:List Value} {x:Ty.Ts (VF.fM fs)} {B:List Nat},mQ w I fs us x B→Ty.cq (VF.fM fs) x
 | [],us,x,B,h=>trivial
 | [f],us,x,B,h=>VR.has f (nu.1 h)
 | f::g::fs,us,x,B,h=>by
   obtain⟨u1,u2,B1,B2,_,_,h1,h2⟩:=p8.1 h
   exact⟨VR.has f h1,mQ.has (g::fs) h2⟩
end
theorem yh:∀{ptrs:List VF} {m:Mem} {i:Nat},(m++holds ptrs).at (m.length+i)=match ptrs[i]? with|some f=>zX f|none=>.bad
 | [],m,i=>by
   rw[holds,List.append_nil,List.getElem?_nil]
   rw[Mem.at,List.getD_eq_getElem?_getD,List.getElem?_eq_none (by omega)];rfl
 | f::fs,m,0=>by
   rw[Mem.at,holds,List.getElem?_cons_zero,Nat.add_zero,List.getD_eq_getElem?_getD,List.getElem?_append_right (Nat.le_refl _),Nat.sub_self]
   rfl
 | f::fs,m,i+1=>by
   rw[holds,List.getElem?_cons_succ,←yh (m:=m ++ [zX f])]
   rw[List.append_assoc,List.length_append]
   congr 1
   simp only[List.length_cons,List.length_nil];omega
theorem ya{A:aK}:∀{ptrs:List VF} {vs:List AV} {x:Ty.Ts (VF.fM ptrs)} {m:Mem},dF ptrs=true→vs.length=ptrs.length→(∀v∈vs,∃id off,v=.ptr id off)→∃m',VF.pq A ptrs vs x m=some m'
 | [],vs,x,m,_,_,_=>⟨m,by rw[VF.pq]⟩
 | f::fs, [],x,m,_,hl,_=>by cases hl
 | [f],v::vs,x,m,hp,hl,hv=>by
   obtain⟨id,off,rfl⟩:=hv v List.mem_cons_self
   cases f<;>simp only[dF] at hp<;>try (cases hp;done)
   all_goals exact⟨_,by simp only[VF.pq,VF.back];rfl⟩
 | f::g::fs,v::vs,x,m,hp,hl,hv=>by
   obtain⟨id,off,rfl⟩:=hv v List.mem_cons_self
   have hp':=(dG hp).2
   cases f<;>simp only[dF] at hp<;>try (cases hp;done)
   all_goals
    simp only[VF.pq,VF.back]
    exact ya (ptrs:=g::fs) hp' (by simpa using hl) fun v h=>hv v (List.mem_cons_of_mem _ h)
theorem mQ.IC{w:World}{I:Nat→Prop}:∀{ptrs:List VF} {rs:List Nat} {x:Ty.Ts (VF.fM ptrs)} {B:List Nat},dF ptrs=true→mQ w I ptrs (gS rs) x B→rs.length=ptrs.length∧
  ∀(i:Nat) (f:VF),ptrs[i]? = some f→∃(b:Nat) (us:Array Value) (T:TypeId) (fr:Nat×Nat),rs[i]? = some b∧(f.fz=false→b∈B)∧(f.fz=true→I b)∧w.heap[b]? = some (.cells us T fr)∧fq fr us.size∧us.size=VF.fZ f.sub
 | [],rs,x,B,_,h=>by
   have:rs=[]:=List.map_eq_nil_iff.1 (xE.1 h).1
   subst this
   exact⟨rfl,fun i fs h=>by simp at h⟩
 | [f], [],x,B,hp,h=>by
   have:=mQ.length _ h
   obtain⟨hf,_⟩:=dG hp
   rw[show VF.fZ [f]=1 from by rcases hf with h|h<;>rw[h]<;>rfl] at this
   cases this
 | f::g::fs, [],x,B,hp,h=>by
   have:=mQ.length _ h
   obtain⟨hf,_⟩:=dG hp
   have h1:f.size=1:=by rcases hf with h|h<;>rw[h]<;>rfl
   rw[VF.fZ,h1] at this
   have this:0=1+VF.fZ (g::fs):=this
   omega
 | [f],r::rs,x,B,hp,h=>by
   obtain⟨hf,_⟩:=dG hp
   obtain⟨e,d1,d2,us,T,fr,d3,d4,d5⟩:=VR.blk hf (nu.1 h)
   have hrs:rs=[]:=List.map_eq_nil_iff.1 e
   subst hrs
   refine⟨rfl,fun i f' hi=>?_⟩
   cases i with
   | succ i=>simp at hi
   | zero=>
     simp only[List.getElem?_cons_zero,Option.some.injEq] at hi
     subst hi
     exact⟨r,us,T,fr,rfl,d1,d2,d3,d4,d5⟩
 | f::g::fs,r::rs,x,B,hp,h=>by
   obtain⟨hf,hp'⟩:=dG hp
   obtain⟨B1,B2,rfl,k1,k2⟩:=mQ.head hf h
   obtain⟨e,d1,d2,us,T,fr,d3,d4,d5⟩:=VR.blk hf k1
   obtain⟨q1,q3⟩:=mQ.IC (ptrs:=g::fs) hp' k2
   refine⟨by rw[List.length_cons,q1];rfl,fun i f' hi=>?_⟩
   cases i with
   | succ i=>
     rw[List.getElem?_cons_succ] at hi
     obtain⟨b,us,T,fr,a1,a2,a3⟩:=q3 i f' hi
     exact⟨b,us,T,fr,by rw[List.getElem?_cons_succ];exact a1,fun h=>List.mem_append.2 (.inr (a2 h)),a3⟩
   | zero=>
     simp only[List.getElem?_cons_zero,Option.some.injEq] at hi
     subst hi
     exact⟨r,us,T,fr,rfl,fun h=>List.mem_append.2 (.inl (d1 h)),d2,d3,d4,d5⟩
theorem zZ:∀{ptrs:List VF} {i:Nat} {f:VF},dF ptrs=true→ptrs[i]? = some f→f=.ptr f.sub∨f=.kq f.sub
 | [],i,f,_,h=>by simp at h
 | g::ptrs,0,f,hp,h=>by
   simp only[List.getElem?_cons_zero,Option.some.injEq] at h
   exact h▸(dG hp).1
 | g::ptrs,i+1,f,hp,h=>by
   rw[List.getElem?_cons_succ] at h
   exact zZ (dG hp).2 h
theorem BH{f:VF}(hf:f=.ptr f.sub∨f=.kq f.sub):zX f=.flat f.fz (List.replicate (VF.fZ f.sub) .undef):=by
 generalize f.sub=gs at hf ⊢
 rcases hf with rfl|rfl<;>rfl
theorem od{ptrs:List VF}{i:Nat}(hp:dF ptrs=true):(∃f,ptrs[i]? = some f∧(holds ptrs).at i=.flat f.fz (List.replicate (VF.fZ f.sub) .undef))∨(ptrs[i]? = none∧(holds ptrs).at i=.bad):=by
 have h:=yh (ptrs:=ptrs) (m:=[]) (i:=i)
 rw[List.nil_append,List.length_nil,Nat.zero_add] at h
 cases hi:ptrs[i]? with
 | none=>rw[hi] at h;exact .inr ⟨rfl,h⟩
 | some f=>
   rw[hi] at h
   exact .inl ⟨f,rfl,h.trans (BH (zZ hp hi))⟩
theorem tK:∀{ptrs:List VF},(holds ptrs).length=ptrs.length
 | []=>rfl
 | f::fs=>by rw[holds,List.length_cons,List.length_cons,tK]
def pE(rs:List Nat)(I:Nat→Prop):St:={σ:=fun i=>rs.getD i 0,δ:=fun _=>0,I:=I}
theorem OP{w:World}{I:Nat→Prop}{ptrs:List VF}{rs:List Nat}{x:Ty.Ts (VF.fM ptrs)}{B:List Nat}(hI:∀b,I b→b<w.heap.size)(hp:dF ptrs=true)(hv:mQ w I ptrs (gS rs) x B)(hrn:rs.Nodup)(hB:∀b∈B,¬I b) :
  WR (World.with w B (AP rs)) w (pE rs I) (holds ptrs):=by
 obtain⟨h1,h3⟩:=hv.IC hp
 have live:∀i,((holds ptrs).at i).aZ=true→∃(f:VF) (b:Nat) (us:Array Value) (T:TypeId) (fr:Nat×Nat),((holds ptrs).at i).iR=f.fz∧rs[i]? = some b∧(pE rs I).σ i=b∧w.heap[b]? = some (.cells us T fr)∧(f.fz=false→b∈B)∧(f.fz=true→I b):=fun i hl=>by
  rcases od (i:=i) hp with ⟨f,k1,k2⟩|⟨k1,k2⟩
  ·obtain⟨b,us,T,fr,a1,a2,a3,a4,_⟩:=h3 i f k1
   exact⟨f,b,us,T,fr,by rw[k2];rfl,a1,by simp[pE,List.getD_eq_getElem?_getD,a1],a4,a2,a3⟩
  ·rw[k2] at hl;cases hl
 refine⟨rfl,⟨rfl,fun _=>Nat.le_refl _⟩,rfl,Nat.le_refl _,fun _ _=>rfl,hI,fun i=>?_,fun i j k1 k2 e=>?_,fun i k1=>?_,fun i k1 k0 hb=>?_,fun i k1=>?_,fun i b hb=>?_,fun b us T fr h=>⟨us,T,fr,h,rfl⟩⟩
 ·rcases od (i:=i) hp with ⟨f,k1,k2⟩|⟨k1,k2⟩
  ·rw[k2]
   obtain⟨b,us,T,fr,a1,_,_,a2,a3,a4⟩:=h3 i f k1
   exact⟨us,T,fr,by rw[show(pE rs I).σ i=b by simp[pE,List.getD_eq_getElem?_getD,a1]];exact a2,a3,vS (by rw[Array.length_toList];exact a4)⟩
  ·rw[k2];trivial
 ·obtain⟨_,b,_,_,_,_,a1,a2,_⟩:=live i k1
  obtain⟨_,c,_,_,_,_,b1,b2,_⟩:=live j k2
  rw[a2,b2] at e
  subst e
  obtain⟨l1,l2⟩:=List.getElem?_eq_some_iff.1 a1
  obtain⟨l3,l4⟩:=List.getElem?_eq_some_iff.1 b1
  exact(List.getElem_inj hrn).1 (l2.trans l4.symm)
 ·obtain⟨f,b,_,_,_,_,a1,a2,a3,a4,a5⟩:=live i k1
  rw[a2]
  refine⟨?_,tJ a3⟩
  cases hz:f.fz with
  | false=>exact .inr (.inr (a4 hz))
  | true=>exact .inl (a5 hz)
 ·obtain⟨f,b,_,_,_,a0,a1,a2,a3,a4,a5⟩:=live i k1
  rw[a2] at hb
  rw[a0] at k0
  exact hB b (a4 k0) hb
 ·rcases od (i:=i) hp with ⟨f,e1,e2⟩|⟨_,e2⟩
  ·obtain⟨f,b,_,_,_,a0,a1,a2,a3,a4,a5⟩:=live i (by rw[e2];rfl)
   rw[a0] at k1
   rw[a2];exact a5 k1
  ·rw[e2] at k1;cases k1
 ·have hb:(AP rs)[i]? = some b:=hb
  rw[AP,List.getElem?_map] at hb
  cases hr:rs[i]? with
  | none=>rw[hr] at hb;cases hb
  | some c=>
    rw[hr] at hb
    cases hb
    exact⟨by rw[tK,←h1];exact(List.getElem?_eq_some_iff.1 hr).1,by simp[pE,List.getD_eq_getElem?_getD,hr],fun d hd=>(by cases hd)⟩
theorem wQ{S:St}:∀{ptrs:List VF} {rs:List Nat} {m:Mem},dF ptrs=true→rs.length=ptrs.length→(∀i b,rs[i]? = some b→S.σ (m.length+i)=b)→
  j3 S (m++holds ptrs) ptrs ((List.range ptrs.length).map fun i=>AV.ptr (m.length+i) 0) rs
 | [],rs,m,_,hl,_=>⟨rfl,List.length_eq_zero_iff.1 hl⟩
 | f::fs, [],m,_,hl,_=>by cases hl
 | f::fs,r::rs,m,hp,hl,hr=>by
   have h0:=yh (ptrs:=f::fs) (m:=m) (i:=0)
   obtain⟨hf,hp⟩:=dG hp
   have h0:=h0.trans (BH hf)
   rw[show holds (f::fs)=zX f::holds fs from rfl] at h0 ⊢
   have e:(List.range (f::fs).length).map (fun i=>AV.ptr (m.length+i) 0)=AV.ptr m.length 0::(List.range fs.length).map fun i=>AV.ptr ((m ++ [zX f]).length+i) 0:=by
    rw[List.length_cons,List.range_succ_eq_map,List.map_cons,List.map_map]
    congr 1
    refine List.map_congr_left fun i _=>?_
    simp only[Function.comp,Nat.succ_eq_add_one,List.length_append,List.length_cons,List.length_nil]
    congr 1;omega
   rw[e]
   refine⟨m.length,0,_,rs,_,hf,rfl,by rw[←hr 0 r rfl];rfl,h0,List.length_replicate,?_⟩
   have:=wQ (S:=S) (ptrs:=fs) (rs:=rs) (m:=m ++ [zX f]) hp (by simpa using hl) fun i b hb=>by
    rw[←hr (i+1) b hb]
    congr 1
    simp only[List.length_append,List.length_cons,List.length_nil];omega
   rw[List.append_assoc] at this
   exact this
section
variable {P:Program}
theorem rY{g:FuncId}{F:Func}{s:bI}{E:ek (Ty.Ts (VF.fM s.ptrs)×Ty.Ts s.res)}(hE:Base P E)(hfin:E.fin=Tz ah s.rp s.ptrs s.res)(hkeep:s.ptrs.length≤E.keep)(hpo:dF s.ptrs=true)(hg:look E.dy g=some F)(hb:F.body.isSome=true)(n:Nat)
  (h:∀x y,s.pre (x,y)=true→Ty.cq (VF.fM s.ptrs) x→Ty.cq s.args y→∃h0,dW g F (fy s.ptrs.length++cr ah s.args y)=some h0∧∀G,Closed E (fun r=>r=s.fn (x,y)) G→Tr.Ok (fun r=>r=s.fn (x,y)) G (run ah E n {frames:=[h0],mem:=DO ah s.ptrs x})):s.Sound P g:=by
 obtain⟨hF,hn⟩:=hE.dy g F hg
 refine⟨fun w I x y rs aa B hI hv hrn hnB hBI hy hpre cs=>?_,F,hF,hb,hn⟩
 obtain⟨h0,hen,hok⟩:=h x y hpre hv.has hy.has
 obtain⟨hl,_⟩:=hv.IC hpo
 have e0:fy s.ptrs.length=(List.range s.ptrs.length).map fun i=>AV.ptr (0+i) 0:=by
  rw[fy];exact List.map_congr_left fun i _=>by rw[Nat.zero_add]
 obtain⟨m0,hm0⟩:=ya (A:=ah) (ptrs:=s.ptrs) (vs:=fy s.ptrs.length) (x:=x) (m:=holds s.ptrs) hpo (by simp[fy]) fun v hv=>by
  obtain⟨i,_,rfl⟩:=List.mem_map.1 hv
  exact⟨i,0,rfl⟩
 have hs0:DO ah s.ptrs x=m0:=by rw[DO,hm0];rfl
 rw[hs0] at hok
 have hR:j3 (pE rs I) (holds s.ptrs) s.ptrs (fy s.ptrs.length) rs:=by
  have:=wQ (S:=pE rs I) (ptrs:=s.ptrs) (rs:=rs) (m:=[]) hpo hl fun i b hb=>by
   rw[List.length_nil,Nat.zero_add];simp[pE,List.getD_eq_getElem?_getD,hb]
  rw[List.nil_append,List.length_nil,←e0] at this
  exact this
 have hW0:=OP hI hpo hv hrn hBI
 have hids:ck (fy s.ptrs.length)=List.range s.ptrs.length:=by
  rw[e0,GD]
  simp
 obtain⟨S,st,hSI⟩:=VF.qK (I:=I) s.ptrs hW0 (fun _ h=>h) hv hnB (fun b hb=>⟨.inr hb,hBI b hb⟩) hR (by rw[hids];exact List.nodup_range) (fun b hb j hj he=>by
  rw[hids]
  rcases od (i:=j) hpo with ⟨f,k1,_⟩|⟨_,k2⟩
  ·exact List.mem_range.2 (List.getElem?_eq_some_iff.1 k1).1
  ·rw[k2] at hj;cases hj) hm0
 have hP:Fits P E (ac1 w I B rs s.rp s.ptrs s.res) (World.with w B (AP rs)) I:=⟨hE.ti,hE.dy,hE.da,hE.mixed,fun S w' m av y v hW hI' hf hc=>G0 hl hW hI' (by rw[←hfin];exact hf) hc,hE.ju,hE.kG,hE.jy,hE.ops,by
  show(AP rs).length≤E.keep
  rw[AP,List.length_map,hl];exact hkeep,fun k=>False.elim k⟩
 have hgood:=jI hP (Q:=fun r=>r=s.fn (x,y)) (f0:=g) n _ (hok _ (jA hP))
 have hroot:bw w S m0 (fy s.ptrs.length) (gS rs):=by
  refine bw.mono st.out ?_
  have e1:gS rs=(List.range s.ptrs.length).map fun i=>.pointer (some ⟨(pE rs I).σ i,0,none⟩):=by
   rw[hR.ids,hids,gS,List.map_map]
   exact List.map_congr_left fun i _=>by
    simp only[Function.comp]
    congr 3
    rw[←hids,←hR.ids]
  rw[e1,fy]
  have:∀l:List Nat,(∀i∈l,i<s.ptrs.length)→bw w (pE rs I) (holds s.ptrs) (l.map fun i=>AV.ptr i 0) (l.map fun i=>.pointer (some ⟨(pE rs I).σ i,0,none⟩)):=by
   intro l
   induction l with
   | nil=>intro _;exact aM.2 rfl
   | cons i l ih=>
     intro hh
     refine aV.2 ⟨_,_,rfl,?_,ih fun j hj=>hh j (List.mem_cons_of_mem _ hj)⟩
     rw[CR]
     rcases od (i:=i) hpo with ⟨fs,_,k2⟩|⟨k1,_⟩
     ·rw[k2]
     ·exact absurd (hh i List.mem_cons_self) (by have:=List.getElem?_eq_none_iff.1 k1;omega)
  exact this _ fun i hi=>List.mem_range.1 hi
 have hargs:bw w S m0 (fy s.ptrs.length++cr ah s.args y) (gS rs++aa).toArray.toList:=by
  exact hroot.append (i7 (I:=I) (fun b hb=>(st.out.ja b hb).1) hy)
 obtain⟨hfr,_,hnd⟩:=fD hF hen hargs
 have hB:sO g [h0]:=by
  unfold dW at hen
  cases hbb:F.body with
  | none=>rw[hbb] at hen;cases hen
  | some b=>
    rw[hbb] at hen
    simp only at hen
    split at hen
    ·cases hen;exact(rfl:g=g)
    ·cases hen
 obtain⟨r,v,w',dO,hr,hfi,hsteps,hfn,hleave⟩:=hgood (dn hnd) _ _ [] cs w st.wr (fun b hb=>.inl (hSI b hb)) ⟨_,_,rfl,hfr,rfl⟩ hB
 obtain⟨g1,g2,g3,g4,g5,I',B',g6,gc,g7,g8,g9,g10⟩:=hfi
 exact⟨.returned v,w',dO,⟨v,rfl,g1,g2,g3,g4,g5,I',B',g6,gc,by rw[←hr];exact g7,g8,g9,by rw[←hr];exact g10⟩,hsteps,hfn,hleave⟩
end
def agC(w0:World)(I0:Nat→Prop)(B:List Nat)(v0:Value)(t:Ty)(res:List Ty)(y:List t.T×Ty.Ts res)(v:Value)(w':World):Prop:=
 w'.os=w0.os∧w'.tape=w0.tape∧w'.output=w0.output∧w0.heap.size≤w'.heap.size∧(∀b,b<w0.heap.size→b ∉ B→w'.heap[b]? = w0.heap[b]?)∧
  ∃I':Nat→Prop,(∀b,I' b→(I0 b∨b∈B∨w0.heap.size≤b)∧b<w'.heap.size)∧(∀(b:Nat) (us:Array Value) (T:TypeId) (fr:Nat×Nat),w0.heap[b]? = some (.cells us T fr)→∃(dV:Array Value) (T':TypeId) (dO:Nat×Nat),w'.heap[b]? = some (.cells dV T' dO)∧dV.size=us.size)∧
   (∀x:List t.T,y.1.length=x.length→VR w0 I0 (.own t) [v0] x B→VR w' I' (.own t) [v0] y.1 B∧∀b∈B,¬I' b)∧kl w' I' res v y.2
theorem GG{w1:World}{S:St}{w:World}{m:Mem}{av:AV}{I0:Nat→Prop}{B:List Nat}{R:List (Nat×Option Nat)}{v0:Value}{t:Ty}{res:List Ty}{y:List t.T×Ty.Ts res}{v:Value}(hR:∀x:List t.T,VR w1 I0 (.own t) [v0] x B→x≠ []→∃b d cap,R=[(b,some d)]∧B=[b]∧v0=.slice (some ⟨b,d,none⟩) x.length cap)
  (hW:WR (World.with w1 B R) w S m) (hI:∀b,S.I b→I0 b∨(World.with w1 B R).free b) (h:R9 ah t res av m=some y) (hc:CR w S m av v):agC w1 I0 B v0 t res y v w:=by
 have main:∀(vs:List AV) (us:List Value),cn res vs=true→bw w S m vs us→(match bT ah res m (vs.flatMap AV.cells) with
   | none=>none
   | some (m,cs)=>match jL res cs with
     | some (y, [])=>match m.at 0 with
       | .arr false t' x=>if h:t'.beq t=true then some ((Ty.eq_of_beq h▸x:List t.T),y) else none
       | _=>none
     | _=>none)=some y→∃I':Nat→Prop,(∀b,I' b→(I0 b∨b∈B∨w1.heap.size≤b)∧b<w.heap.size)∧
   (∀x:List t.T,y.1.length=x.length→VR w1 I0 (.own t) [v0] x B→VR w I' (.own t) [v0] y.1 B∧∀b∈B,¬I' b)∧dE w I' res us y.2:=by
  intro vs us hok hcs h
  obtain⟨L,hL,hrep⟩:=iY hok hcs
  cases hf:bT ah res m (vs.flatMap AV.cells) with
  | none=>rw[hf] at h;cases h
  | some q=>
    obtain⟨m1,cs1⟩:=q
    rw[hf] at h
    simp only at h
    obtain⟨S1,s1,hc1⟩:=dH hW hf hL
    cases htd:jL res cs1 with
    | none=>rw[htd] at h;cases h
    | some q=>
      obtain⟨z,r⟩:=q
      rw[htd] at h
      cases r with
      | cons _ _=>cases h
      | nil=>
        simp only at h
        obtain⟨u1,u2,e,hx,hr⟩:=h_ res htd hc1
        rw[aM.1 hr,List.append_nil] at e
        rw[←e] at hx
        cases hm:m1.at 0<;>rw[hm] at h<;>(try simp only at h)<;>(try (cases h;done))
        rename_i fz t' x'
        cases fz with
        | true=>cases h
        | false=>
          simp only at h
          by_cases hb:t'.beq t=true
          ·rw[dif_pos hb] at h
           have ht:=Ty.eq_of_beq hb
           subst ht
           cases h
           refine⟨S1.I,fun b hb=>⟨?_,s1.wr.ja b hb⟩,fun x hl hv=>?_,hrep _ _ hx⟩
           ·rcases s1.grows b hb with h|h
            ·rcases hI b h with h|h
             ·exact .inl h
             ·exact .inr (h.elim .inr .inl)
            ·exact .inr (h.elim .inr .inl)
           ·have hl:x'.length=x.length:=hl
            by_cases hx0:x=[]
            ·have hx1:x'=[]:=List.length_eq_zero_iff.1 (by rw[hl,hx0];rfl)
             rcases gL.1 hv with ⟨_,k2,k3⟩|⟨k1,_⟩
             ·exact⟨gL.2 (.inl ⟨hx1,k2,k3⟩),fun b hb=>by rw[k2] at hb;exact absurd hb List.not_mem_nil⟩
             ·exact absurd hx0 k1
            ·have hx1:x'≠ []:=fun e=>hx0 (List.length_eq_zero_iff.1 (by rw[←hl,e];rfl))
             obtain⟨b,d,cap,q1,q2,q3⟩:=hR x hv hx0
             obtain⟨_,r1,r2⟩:=s1.wr.root 0 (b,some d) (by show R[0]? = _;rw[q1];rfl)
             have r2:=r2 d rfl
             have hbx:=s1.wr.box 0
             rw[hm] at hbx
             obtain⟨c1,c2⟩:=hbx
             obtain⟨us,T,fr,c3,c4,c5,c6⟩:=c2 hx1
             rcases gL.1 hv with ⟨k1,_⟩|⟨_,b',dl,cap',k2,k3,k4,k5,vs0,T0,fr0,k6,k7,k8,_⟩
             ·exact absurd k1 hx0
             ·rw[q3] at k3
              simp only[List.cons.injEq,Value.slice.injEq,Option.some.injEq,Addr.mk.injEq,and_true] at k3
              obtain⟨⟨p1,p2⟩,_,p4⟩:=k3
              have r1:S1.σ 0=b:=r1
              obtain⟨us2,T2,fr2,d1,d2⟩:=s1.wr.cells b vs0 T0 fr0 (by rw[p1];exact k6)
              rw[r1,d1] at c3
              cases c3
              refine⟨gL.2 (.inr ⟨hx1,b,d,cap,q2,by rw[q3,hl],by rw[hl,p4];exact k4,c1,us,T,fr,d1,c4,?_,by rw[←r2];exact c6⟩),fun c hc=>?_⟩
              ·rw[d2,p2,p4];exact k8
              ·rw[q2] at hc
               rw[List.mem_singleton.1 hc,←r1]
               exact s1.wr.lC 0 (by rw[hm];exact jP hx1) (by rw[hm];exact gn)
          ·rw[dif_neg hb] at h;cases h
 refine⟨hW.os,hW.tape.1,hW.output,hW.size,fun b hb hB=>hW.base b fun k=>k.elim (fun k=>absurd k (Nat.not_le_of_lt hb)) hB,?_⟩
 unfold R9 at h
 match res,y,h,main with
 | [],y,h1,main=>
   obtain⟨vs,rfl⟩:∃vs,av=.qx vs:=by cases av<;>first|exact⟨_,rfl⟩|(exact absurd h1 (fun e=>by cases e))
   obtain⟨us,rfl,hcs⟩:=fx.1 hc
   simp only at h1
   cases hok:cn [] vs with
   | false=>rw[hok] at h1;cases h1
   | true=>
     rw[hok] at h1
     obtain⟨I',k1,k2,k5⟩:=main vs us.toList hok hcs h1
     rw[dE] at k5
     exact⟨I',k1,hW.cells,k2,by rw[kl,Array.toList_eq_nil_iff.1 k5]⟩
 | [t'],y,h1,main=>
   simp only at h1
   cases hok:cn [t'] [av] with
   | false=>rw[hok] at h1;cases h1
   | true=>
     rw[hok] at h1
     obtain⟨I',k1,k2,k5⟩:=main [av] [v] hok (aV.2 ⟨v, [],rfl,hc,aM.2 rfl⟩) h1
     rw[dE] at k5
     obtain⟨v',e,k5⟩:=k5
     cases e
     exact⟨I',k1,hW.cells,k2,by rw[kl];exact k5⟩
 | t'::t2::ts,y,h1,main=>
   obtain⟨vs,rfl⟩:∃vs,av=.qx vs:=by cases av<;>first|exact⟨_,rfl⟩|(exact absurd h1 (fun e=>by cases e))
   obtain⟨us,rfl,hcs⟩:=fx.1 hc
   simp only at h1
   cases hok:cn (t'::t2::ts) vs with
   | false=>rw[hok] at h1;cases h1
   | true=>
     rw[hok] at h1
     obtain⟨I',k1,k2,k5⟩:=main vs us.toList hok hcs h1
     exact⟨I',k1,hW.cells,k2,by rw[kl];exact⟨us,rfl,k5⟩⟩
theorem K1{w:World}{I:Nat→Prop}{t:Ty}{x:List t.T}{v:Value}{B:List Nat}(hI:∀b,I b→b<w.heap.size)(hv:VR w I (.own t) [v] x B)(hB:∀b∈B,¬I b) :
  ∃(S:St) (R:List (Nat×Option Nat)),R.length≤1∧S.I=I∧WR (World.with w B R) w S [.arr false t x]∧CR w S [.arr false t x] (.own 0) v∧∀y:List t.T,VR w I (.own t) [v] y B→y≠ []→∃b d cap,R=[(b,some d)]∧B=[b]∧v=.slice (some ⟨b,d,none⟩) y.length cap:=by
 have out:∀j,j≠0→Mem.at [gY.arr false t x] j=.bad:=fun j hj=>by
  cases j with
  | zero=>exact absurd rfl hj
  | succ j=>rfl
 rcases gL.1 hv with ⟨hx,rfl,a,e⟩|⟨hne,b,dl,cap,rfl,e,h1,h2,vs,T,fr,h3,h4,h5,h6⟩
 ·subst hx
  simp only[List.cons.injEq,and_true] at e
  subst e
  have nl:∀j,(Mem.at [gY.arr false t ([]:List t.T)] j).aZ=true→False:=fun j h=>by
   cases j with
   | zero=>cases h
   | succ j=>cases h
  refine⟨{σ:=fun _=>0,δ:=fun _=>0,I:=I}, [],by decide,rfl,⟨rfl,⟨rfl,fun _=>Nat.le_refl _⟩,rfl,Nat.le_refl _,fun _ _=>rfl,hI,fun j=>?_,fun i j h=>(nl i h).elim,fun i h=>(nl i h).elim,fun i h=>(nl i h).elim,fun i h=>?_,fun i b h=>?_,fun b us T fr h=>⟨us,T,fr,h,rfl⟩⟩,?_,fun y hy hne=>?_⟩
  ·cases j with
   | zero=>exact⟨Nat.zero_le _,fun h=>absurd rfl h⟩
   | succ j=>trivial
  ·cases i with
   | zero=>cases h
   | succ i=>cases h
  ·have h:([]:List (Nat×Option Nat))[i]? = some b:=h
   simp at h
  ·rw[CR];exact .inl ⟨rfl,a,rfl⟩
  ·rcases gL.1 hy with ⟨k,_⟩|⟨_,b,dl,cap,k,_⟩
   ·exact absurd k hne
   ·cases k
 ·simp only[List.cons.injEq,and_true] at e
  subst e
  have live0:∀j,(Mem.at [gY.arr false t x] j).aZ=true→j=0:=fun j h=>by
   cases j with
   | zero=>rfl
   | succ j=>cases h
  refine⟨{σ:=fun _=>b,δ:=fun _=>dl,I:=I}, [(b,some dl)],Nat.le_refl 1,rfl,⟨rfl,⟨rfl,fun _=>Nat.le_refl _⟩,rfl,Nat.le_refl _,fun _ _=>rfl,hI,fun j=>?_,fun i j k1 k2 _=>(live0 i k1).trans (live0 j k2).symm,fun i _=>⟨.inr (.inr (List.mem_singleton.2 rfl)),tJ h3⟩,fun i _ _=>hB b (List.mem_singleton.2 rfl),fun i h=>?_,fun i c h=>?_,fun b us T fr h=>⟨us,T,fr,h,rfl⟩⟩,?_,fun y hy hny=>?_⟩
  ·cases j with
   | zero=>exact⟨h2,fun _=>⟨vs,T,fr,h3,h4,Nat.le_trans (Nat.add_le_add_left (Nat.mul_le_mul_right _ h1) _) h5,h6⟩⟩
   | succ j=>trivial
  ·cases i with
   | zero=>rw[show Mem.at [gY.arr false t x] 0=.arr false t x from rfl,gn] at h;cases h
   | succ i=>cases h
  ·have h:[(b,some dl)][i]? = some c:=h
   cases i with
   | zero=>cases h;exact⟨Nat.zero_lt_one,rfl,fun d hd=>by cases hd;rfl⟩
   | succ i=>simp at h
  ·rw[CR];exact .inr ⟨hne,cap,rfl,h1,vs,T,fr,h3,h5⟩
  ·rcases gL.1 hy with ⟨_,k,_⟩|⟨_,b',dl',cap',k,k2,_⟩
   ·cases k
   ·simp only[List.cons.injEq,Value.slice.injEq,Option.some.injEq,Addr.mk.injEq,and_true] at k2
    exact⟨b,dl,cap,rfl,rfl,by rw[k2.2.1]⟩
theorem Jz{w:World}{S:St}{m:Mem}:∀{fs:List FuncId},bw w S m (fs.map fun f=>.fn f [] []) (fnV fs)
 | []=>aM.2 rfl
 | f::fs=>aV.2 ⟨_,_,rfl,og.2 ⟨#[],#[],rfl,aM.2 rfl,aM.2 rfl⟩,Jz⟩
section
variable {P:Program}
theorem A1{g:FuncId}{F:Func}{s:dD}{E:ek (List s.elem.T×Ty.Ts s.res)}(hE:Base P E)(hfin:E.fin=R9 ah s.elem s.res)(hkeep:1≤E.keep)(hg:look E.dy g=some F)(hb:F.body.isSome=true)(n:Nat)
  (hlen:∀x y,s.pre (x,y)=true→Ty.has (.slice s.elem) x→Ty.cq s.args y→(s.fn (x,y)).1.length=x.length)
  (h:∀x y,s.pre (x,y)=true→Ty.has (.slice s.elem) x→Ty.cq s.args y→∃h0,dW g F (.own 0::(cr ah s.args y++s.dy.map fun f=>.fn f [] []))=some h0∧∀G,Closed E (fun r=>r=s.fn (x,y)) G→Tr.Ok (fun r=>r=s.fn (x,y)) G (run ah E n {frames:=[h0],mem:=[.arr false s.elem x]})):s.Sound P g:=by
 obtain⟨hF,hn⟩:=hE.dy g F hg
 refine⟨fun w I x y v aa B hI hv hBI hy hpre cs=>?_,F,hF,hb,hn⟩
 have hx:Ty.has (.slice s.elem) x:=VR.has (.own s.elem) hv
 obtain⟨h0,hen,hok⟩:=h x y hpre hx hy.has
 obtain⟨S,R,hRl,hSI,hW,hc0,hR⟩:=K1 hI hv hBI
 have hP:Fits P E (agC w I B v s.elem s.res) (World.with w B R) I:=⟨hE.ti,hE.dy,hE.da,hE.mixed,fun S w' m av y v hW hI' hf hc=>GG hR hW hI' (by rw[←hfin];exact hf) hc,hE.ju,hE.kG,hE.jy,hE.ops,Nat.le_trans hRl hkeep,fun k=>False.elim k⟩
 have hgood:=jI hP (Q:=fun r=>r=s.fn (x,y)) (f0:=g) n _ (hok _ (jA hP))
 have hargs:bw w S [.arr false s.elem x] (.own 0::(cr ah s.args y++s.dy.map fun f=>.fn f [] [])) (v::(aa++fnV s.dy)).toArray.toList:=
  aV.2 ⟨v,_,rfl,hc0,(i7 (I:=I) (fun b hb=>by rw[hSI];exact hb) hy).append Jz⟩
 obtain⟨hfr,_,hnd⟩:=fD hF hen hargs
 have hB:sO g [h0]:=by
  unfold dW at hen
  cases hbb:F.body with
  | none=>rw[hbb] at hen;cases hen
  | some b=>
    rw[hbb] at hen
    simp only at hen
    split at hen
    ·cases hen;exact(rfl:g=g)
    ·cases hen
 obtain⟨r,z,w',dO,hr,hfi,hsteps,hfn,hleave⟩:=hgood (dn hnd) _ _ [] cs w hW (fun b hb=>.inl (by rw[←hSI];exact hb)) ⟨_,_,rfl,hfr,rfl⟩ hB
 obtain⟨g1,g2,g3,g4,g5,I',g6,gc,g7,g8⟩:=hfi
 rw[hr] at g7 g8
 obtain⟨k1,k2⟩:=g7 x (hlen x y hpre hx hy.has) hv
 exact⟨.returned z,w',dO,⟨z,rfl,g1,g2,g3,g4,g5,I',fun b hb=>⟨(g6 b hb).1.elim .inl fun k=>k.elim (fun k=>absurd hb (k2 b k)) .inr,(g6 b hb).2⟩,gc,k1,g8⟩,hsteps,hfn,hleave⟩
def ac7(w0:World)(I0:Nat→Prop)(f:VF)(opt:Bool)(res:List Ty)(y:Bool×f.ty.T×Ty.Ts res)(v:Value)(w':World):Prop:=
 w'.os=w0.os∧w'.tape=w0.tape∧w'.output=w0.output∧w0.heap.size≤w'.heap.size∧(∀b,b<w0.heap.size→w'.heap[b]? = w0.heap[b]?)∧Sm w0 w' I0 f opt res v y
theorem GU{w1:World}{S:St}{w:World}{m:Mem}{av:AV}{I0:Nat→Prop}{f:VF}{opt:Bool}{res:List Ty}{y:Bool×f.ty.T×Ty.Ts res}{v:Value}(hW:WR (World.whole w1) w S m)(hI:∀b,S.I b→I0 b∨(World.whole w1).free b)(h:TM ah f opt res av m=some y)(hc:CR w S m av v):ac7 w1 I0 f opt res y v w:=by
 refine⟨hW.os,hW.tape.1,hW.output,hW.size,fun b hb=>hW.base b fun k=>absurd (jo k) (Nat.not_le_of_lt hb),?_⟩
 have main:∀(a:AV) (vs:List AV) (u:Value) (us:List Value),CR w S m a u→bw w S m vs us→v=XG (u::us)→(match cn res vs with
  | false=>none
  | true=>match bT ah res m (vs.flatMap AV.cells) with
    | none=>none
    | some (m,cs)=>match jL res cs with
      | some (y, [])=>match (generalizing:=false) opt,a with
        | true,.fw=>some (false,Ty.eQ f.ty,y)
        | _,v=>match VF.read m f [v] with
          | some (x,ids, [])=>match nodupB ids with
            | true=>some (true,x,y)
            | false=>none
          | _=>none
      | _=>none:Option (Bool×f.ty.T×Ty.Ts res))=some y→Sm w1 w I0 f opt res v y:=by
  intro a vs u us hu hus hv h
  cases hok:cn res vs with
  | false=>rw[hok] at h;cases h
  | true=>
    rw[hok] at h
    simp only at h
    obtain⟨L,hL,hrep⟩:=iY hok hus
    cases hf:bT ah res m (vs.flatMap AV.cells) with
    | none=>rw[hf] at h;cases h
    | some q=>
      obtain⟨m1,cs1⟩:=q
      rw[hf] at h
      simp only at h
      obtain⟨S1,s1,hc1⟩:=dH hW hf hL
      cases htd:jL res cs1 with
      | none=>rw[htd] at h;cases h
      | some q=>
        obtain⟨z,r⟩:=q
        rw[htd] at h
        cases r with
        | cons _ _=>cases h
        | nil=>
          simp only at h
          obtain⟨u1,u2,e,hx,hr⟩:=h_ res htd hc1
          have hu2:=aM.1 hr
          rw[hu2,List.append_nil] at e
          rw[←e] at hx
          have hI1:∀b,S1.I b→I0 b∨(w1.heap.size≤b∧b<w.heap.size):=fun b hb=>by
           rcases s1.grows b hb with h|h
           ·rcases hI b h with h|h
            ·exact .inl h
            ·exact .inr ⟨jo h,s1.wr.ja b hb⟩
           ·exact .inr ⟨jo h,s1.wr.ja b hb⟩
          have ha1:=hu.mono s1.out
          have rd:(match VF.read m1 f [a] with
            | some (x,ids, [])=>match nodupB ids with
              | true=>some (true,x,z)
              | false=>none
            | _=>none:Option (Bool×f.ty.T×Ty.Ts res))=some y→Sm w1 w I0 f opt res v y:=by
           intro h
           cases hrd:VF.read m1 f [a] with
           | none=>rw[hrd] at h;cases h
           | some q=>
             obtain⟨x',ids,r⟩:=q
             rw[hrd] at h
             cases r with
             | cons _ _=>cases h
             | nil=>
               simp only at h
               cases hn:nodupB ids with
               | false=>rw[hn] at h;cases h
               | true=>
                 rw[hn] at h
                 cases h
                 obtain⟨w1',w2',js,e,h2,h3,h4,_,h6⟩:=VF.oK s1.wr f hrd (aV.2 ⟨u, [],rfl,ha1,aM.2 rfl⟩)
                 rw[aM.1 h2,List.append_nil] at e
                 rw[←e] at h6
                 obtain⟨b1,b2,b3,b4⟩:=oQ s1.wr (kF hn) h3 h4
                 refine⟨S1.I,js.map S1.σ,u,us,hv,hI1,.inr ⟨fun _=>rfl,h6,b1,fun b hb=>⟨jo (b3 b hb),b2 b hb⟩⟩,hrep _ z hx⟩
          cases opt with
          | false=>exact rd h
          | true=>
            cases a<;>first|exact rd h|(cases h;rw[CR] at hu;exact⟨S1.I, [],u,us,hv,hI1,.inl ⟨rfl,rfl,hu⟩,hrep _ z hx⟩)
 unfold TM at h
 match res,y,h,main with
 | [],y,h1,main=>exact main av [] v [] hc (aM.2 rfl) rfl h1
 | t::ts,y,h1,main=>
   obtain⟨vs,rfl⟩:∃vs,av=.qx vs:=by cases av<;>first|exact⟨_,rfl⟩|(exact absurd h1 (fun e=>by cases e))
   obtain⟨us,rfl,hcs⟩:=fx.1 hc
   simp only at h1
   cases vs with
   | nil=>cases h1
   | cons a vs=>
     obtain⟨u,dV,e,hu,hr⟩:=aV.1 hcs
     have hlen:dV≠ []:=by
      rintro rfl
      cases vs with
      | nil=>simp only at h1;rw[show cn (t::ts) ([]:List AV)=false from rfl] at h1;cases h1
      | cons b vs=>obtain⟨_,_,e,_⟩:=aV.1 hr;cases e
     refine main a vs u dV hu hr ?_ h1
     rw[←Array.toArray_toList (xs:=us),e]
     cases dV with
     | nil=>exact absurd rfl hlen
     | cons _ _=>rfl
theorem As{g:FuncId}{F:Func}{s:jT}{E:ek (Bool×s.out.ty.T×Ty.Ts s.res)}(hE:Base P E)(hfin:E.fin=TM ah s.out s.opt s.res)(hg:look E.dy g=some F)(hb:F.body.isSome=true)(n:Nat)
  (h:∀x,s.pre x=true→Ty.cq s.args x→∃h0,dW g F (cr ah s.args x)=some h0∧∀G,Closed E (fun y=>y=s.fn x) G→Tr.Ok (fun y=>y=s.fn x) G (run ah E n {frames:=[h0],mem:=[]})):s.Sound P g:=by
 obtain⟨hF,hn⟩:=hE.dy g F hg
 refine⟨fun w I x aa hI hrep hpre cs=>?_,F,hF,hb,hn⟩
 obtain⟨h0,hen,hok⟩:=h x hpre hrep.has
 have hP:Fits P E (ac7 w I s.out s.opt s.res) (World.whole w) I:=⟨hE.ti,hE.dy,hE.da,hE.mixed,fun S w' m av y v hW hI' hf hc=>GU hW hI' (by rw[←hfin];exact hf) hc,hE.ju,hE.kG,hE.jy,hE.ops,Nat.zero_le _,fun k=>False.elim k⟩
 have hgood:=jI hP (Q:=fun y=>y=s.fn x) (f0:=g) n _ (hok _ (jA hP))
 have hW:=zh hI
 obtain⟨hfr,_,hnd⟩:=fD hF hen (i7 (S:={σ:=fun _=>0,δ:=fun _=>0,I:=I}) (m:=[]) (fun b hb=>hb) hrep)
 have hB:sO g [h0]:=by
  unfold dW at hen
  cases hbb:F.body with
  | none=>rw[hbb] at hen;cases hen
  | some b=>
    rw[hbb] at hen
    simp only at hen
    split at hen
    ·cases hen;exact(rfl:g=g)
    ·cases hen
 obtain⟨y,v,w',dO,hy,hfi,hsteps,hfn,hleave⟩:=hgood (dn hnd) _ _ [] cs w hW (fun b hb=>.inl hb) ⟨_,_,rfl,hfr,rfl⟩ hB
 obtain⟨g1,g2,g3,g4,g5,g6⟩:=hfi
 exact⟨.returned v,w',dO,⟨v,rfl,g1,g2,g3,g4,g5,by rw[←hy];exact g6⟩,hsteps,hfn,hleave⟩
end
end Go.Ev
namespace Go.Ev
inductive LT (R Y:Type) where
 | ret (r:R)
 | more (y:Y)
 | br (b:Bool) (t e:LT R Y)
 | need (b:Bool) (t:LT R Y)
 | eqs (p:Prop) (t:LT R Y)
 | and (a b:LT R Y)
 | bad (n:Nat) (pos:String)
def LT.tr{R Y:Type}(cfg:Y→eF):LT R Y→Tr R
 | .ret r=>.ret r
 | .more y=>.more (cfg y)
 | .br b t e=>.br b (t.tr cfg) (e.tr cfg)
 | .need b t=>.need b (t.tr cfg)
 | .eqs p t=>.eqs p (t.tr cfg)
 | .and a b=>.and (a.tr cfg) (b.tr cfg)
 | .bad n s=>.bad n s
def Tr.full{R:Type}:Tr R→Tr R
 | .br b t e=>.br b t.full e.full
 | .need b t=>.need b t.full
 | .eqs p t=>.eqs p t.full
 | .same l r t=>.eqs (iP l r) t.full
 | .and _ _=>.bad 182 ""
 | t=>t
def AV.alike:AV→AV→Bool
 | .bool c _,.bool d _=>c==d
 | .int _ c _,.int _ d _=>c==d
 | _,_=>true
def Tr.pR{R:Type}:Tr R→Tr R
 | .br b t e=>.br b t.pR e.pR
 | .need b t=>.need b t.pR
 | .eqs p t=>.eqs p t.pR
 | .same l r t=>match l.alike r with
   | true=>t.pR
   | false=>.eqs (iP l r) t.pR
 | .and a _=>a.pR
 | t=>t
def Tr.nH{R:Type}:Tr R→Tr R
 | .br b t e=>.br b t.nH e.nH
 | .need b t=>.need b t.nH
 | .eqs p t=>.eqs p t.nH
 | .same l r t=>match l.alike r with
   | true=>t.nH
   | false=>.eqs (iP l r) t.nH
 | .and a _=>a.nH
 | t=>t
theorem Tr.mM{R:Type}:∀{t:Tr R},t.nH=t.pR
 | .ret _ | .more _ | .bad _ _=>rfl
 | .br _ t e=>by rw[Tr.nH,Tr.pR,Tr.mM (t:=t),Tr.mM (t:=e)]
 | .need _ t=>by rw[Tr.nH,Tr.pR,Tr.mM (t:=t)]
 | .eqs _ t=>by rw[Tr.nH,Tr.pR,Tr.mM (t:=t)]
 | .same l r t=>by rw[Tr.nH,Tr.pR,Tr.mM (t:=t)]
 | .and a _=>by rw[Tr.nH,Tr.pR,Tr.mM (t:=a)]
def Tr.lefts{R:Type}:Tr R→List (Sum AV (Tr R))→List (Sum AV (Tr R))
 | .br _ t e,k=>t.lefts (e.lefts k)
 | .need _ t,k=>t.lefts k
 | .eqs _ t,k=>t.lefts k
 | .same l r t,k=>match l.alike r with
   | true=>.inl l::t.lefts k
   | false=>t.lefts k
 | .and a b,k=>.inr a.pR::a.lefts (b.lefts k)
 | _,k=>k
def Tr.lK{R:Type}:Tr R→List (Sum AV (Tr R))→List (Sum AV (Tr R))
 | .br _ t e,k=>t.lK (e.lK k)
 | .need _ t,k=>t.lK k
 | .eqs _ t,k=>t.lK k
 | .same l r t,k=>match l.alike r with
   | true=>.inl r::t.lK k
   | false=>t.lK k
 | .and a b,k=>.inr b.nH::a.lK (b.lK k)
 | _,k=>k
theorem Tr.rE{R:Type}{Q:R→Prop}{G:eF→Prop}:∀{t:Tr R},Tr.Ok Q G t.full→Tr.Ok Q G t
 | .ret _,h | .more _,h | .bad _ _,h=>h
 | .br _ t e,h=>⟨fun k=>Tr.rE (t:=t) (h.1 k),fun k=>Tr.rE (t:=e) (h.2 k)⟩
 | .need _ t,h=>⟨h.1,Tr.rE (t:=t) h.2⟩
 | .eqs _ t,h=>⟨h.1,Tr.rE (t:=t) h.2⟩
 | .same _ _ t,h=>⟨h.1,Tr.rE (t:=t) h.2⟩
 | .and _ _,h=>h.elim
theorem Tr.lW{R:Type}{Q:R→Prop}{G:eF→Prop}:∀{t:Tr R} {k k':List (Sum AV (Tr R))},t.lefts k=t.lK k'→k=k'∧(Tr.Ok Q G t.pR→Tr.Ok Q G t)
 | .ret _,_,_,h | .more _,_,_,h | .bad _ _,_,_,h=>⟨h,fun x=>x⟩
 | .br _ t e,_,_,h=>by
   obtain⟨h1,h2⟩:=Tr.lW (t:=t) h
   obtain⟨h3,h4⟩:=Tr.lW (t:=e) h1
   exact⟨h3,fun x=>⟨fun k=>h2 (x.1 k),fun k=>h4 (x.2 k)⟩⟩
 | .need _ t,_,_,h=>by
   obtain⟨h1,h2⟩:=Tr.lW (t:=t) h
   exact⟨h1,fun x=>⟨x.1,h2 x.2⟩⟩
 | .eqs _ t,_,_,h=>by
   obtain⟨h1,h2⟩:=Tr.lW (t:=t) h
   exact⟨h1,fun x=>⟨x.1,h2 x.2⟩⟩
 | .same l r t,_,_,h=>by
   simp only[Tr.lefts,Tr.lK] at h
   simp only[Tr.pR]
   cases ha:l.alike r with
   | true=>
     rw[ha] at h
     simp only[List.cons.injEq,Sum.inl.injEq] at h
     obtain⟨h1,h2⟩:=Tr.lW (t:=t) h.2
     exact⟨h1,fun x=>⟨h.1▸qp l,h2 x⟩⟩
   | false=>
     rw[ha] at h
     obtain⟨h1,h2⟩:=Tr.lW (t:=t) h
     exact⟨h1,fun x=>⟨x.1,h2 x.2⟩⟩
 | .and a b,_,_,h=>by
   simp only[Tr.lefts,Tr.lK,List.cons.injEq,Sum.inr.injEq,Tr.mM] at h
   obtain⟨h1,h2⟩:=Tr.lW (t:=a) h.2
   obtain⟨h3,h4⟩:=Tr.lW (t:=b) h1
   exact⟨h3,fun x=>⟨h2 x,h4 (h.1▸x)⟩⟩
@[reducible] def Tr.Is {R:Type} (q:Bool) (t u:Tr R):Prop:=match q with
 | true=>t.pR=u∧t.lefts []=t.lK []
 | false=>t.full=u
theorem Tr.Is.ok{R:Type}{q:Bool}{Q:R→Prop}{G:eF→Prop}{t u:Tr R}(h:Tr.Is q t u)(hu:Tr.Ok Q G u):Tr.Ok Q G t:=by
 cases q with
 | true=>exact(Tr.lW h.2).2 (h.1▸hu)
 | false=>exact Tr.rE (show Tr.Ok Q G t.full from(show t.full=u from h)▸hu)
def Tr.wide{R:Type}:Tr R→Tr R
 | .br b t e=>.br b t.wide e.wide
 | .need b t=>.need b t.wide
 | .eqs p t=>.eqs p t.wide
 | .same l r t=>match l.alike r with
   | true=>t.wide
   | false=>.eqs (iP l r) t.wide
 | .and a b=>.and a.wide b.wide
 | t=>t
def Tr.qM{R:Type}:Tr R→List AV→List AV
 | .br _ t e,k=>t.qM (e.qM k)
 | .need _ t,k=>t.qM k
 | .eqs _ t,k=>t.qM k
 | .same l r t,k=>match l.alike r with
   | true=>l::t.qM k
   | false=>t.qM k
 | .and a b,k=>a.qM (b.qM k)
 | _,k=>k
def Tr.mD{R:Type}:Tr R→List AV→List AV
 | .br _ t e,k=>t.mD (e.mD k)
 | .need _ t,k=>t.mD k
 | .eqs _ t,k=>t.mD k
 | .same l r t,k=>match l.alike r with
   | true=>r::t.mD k
   | false=>t.mD k
 | .and a b,k=>a.mD (b.mD k)
 | _,k=>k
theorem Tr.mg{R:Type}{Q:R→Prop}{G:eF→Prop}:∀{t:Tr R} {k k':List AV},t.qM k=t.mD k'→k=k'∧(Tr.Ok Q G t.wide→Tr.Ok Q G t)
 | .ret _,_,_,h | .more _,_,_,h | .bad _ _,_,_,h=>⟨h,fun x=>x⟩
 | .br _ t e,_,_,h=>by
   obtain⟨h1,h2⟩:=Tr.mg (t:=t) h
   obtain⟨h3,h4⟩:=Tr.mg (t:=e) h1
   exact⟨h3,fun x=>⟨fun k=>h2 (x.1 k),fun k=>h4 (x.2 k)⟩⟩
 | .need _ t,_,_,h=>by
   obtain⟨h1,h2⟩:=Tr.mg (t:=t) h
   exact⟨h1,fun x=>⟨x.1,h2 x.2⟩⟩
 | .eqs _ t,_,_,h=>by
   obtain⟨h1,h2⟩:=Tr.mg (t:=t) h
   exact⟨h1,fun x=>⟨x.1,h2 x.2⟩⟩
 | .same l r t,_,_,h=>by
   simp only[Tr.qM,Tr.mD] at h
   simp only[Tr.wide]
   cases ha:l.alike r with
   | true=>
     rw[ha] at h
     simp only[List.cons.injEq] at h
     obtain⟨h1,h2⟩:=Tr.mg (t:=t) h.2
     exact⟨h1,fun x=>⟨h.1▸qp l,h2 x⟩⟩
   | false=>
     rw[ha] at h
     obtain⟨h1,h2⟩:=Tr.mg (t:=t) h
     exact⟨h1,fun x=>⟨x.1,h2 x.2⟩⟩
 | .and a b,_,_,h=>by
   obtain⟨h1,h2⟩:=Tr.mg (t:=a) h
   obtain⟨h3,h4⟩:=Tr.mg (t:=b) h1
   exact⟨h3,fun x=>⟨h2 x.1,h4 x.2⟩⟩
@[reducible] def Tr.IsW {R:Type} (t u:Tr R):Prop:=t.wide=u∧t.qM []=t.mD []
theorem Tr.IsW.ok{R:Type}{Q:R→Prop}{G:eF→Prop}{t u:Tr R}(h:Tr.IsW t u)(hu:Tr.Ok Q G u):Tr.Ok Q G t:=(Tr.mg h.2).2 (h.1▸hu)
inductive aB {R Y:Type} (step:Y→LT R Y):LT R Y→R→Prop where
 | ret (r:R):aB step (.ret r) r
 | more {y:Y} {r:R} (h:aB step (step y) r):aB step (.more y) r
 | br {b:Bool} {t e:LT R Y} {r:R} (h:aB step (bif b then t else e) r):aB step (.br b t e) r
 | need {b:Bool} {t:LT R Y} {r:R} (hb:b=true) (h:aB step t r):aB step (.need b t) r
 | eqs {p:Prop} {t:LT R Y} {r:R} (hp:p) (h:aB step t r):aB step (.eqs p t) r
 | and {a b:LT R Y} {r:R} (h1:aB step a r) (h2:aB step b r):aB step (.and a b) r
section
variable {R Y:Type} {step:Y→LT R Y} {r:R}
theorem fE{r':R}:aB step (.ret r') r↔r'=r:=⟨fun h=>by cases h;rfl,fun h=>by rw[h];exact .ret r⟩
theorem ak{y:Y}:aB step (.more y) r↔aB step (step y) r:=⟨fun h=>by cases h;assumption,.more⟩
theorem uM{b:Bool}{t e:LT R Y}:aB step (.br b t e) r↔aB step (bif b then t else e) r:=⟨fun h=>by cases h;assumption,.br⟩
theorem af{b:Bool}{t:LT R Y}:aB step (.need b t) r↔b=true∧aB step t r:=⟨fun h=>by cases h;exact⟨by assumption,by assumption⟩,fun h=>.need h.1 h.2⟩
theorem tX{p:Prop}{t:LT R Y}:aB step (.eqs p t) r↔p∧aB step t r:=⟨fun h=>by cases h;exact⟨by assumption,by assumption⟩,fun h=>.eqs h.1 h.2⟩
theorem aj{b:Bool}{t e:LT R Y}(hb:b=true):aB step (.br b t e) r↔aB step t r:=by rw[uM,hb];rfl
theorem ai{b:Bool}{t e:LT R Y}(hb:b=false):aB step (.br b t e) r↔aB step e r:=by rw[uM,hb];rfl
end
theorem oE{R Y:Type}{E:ek R}{Q:R→Prop}{G:eF→Prop}{cfg:Y→eF}{step:Y→LT R Y}{q:Bool}(hstep:∀y,∃n,Tr.Is q (run ah E n (advance E.da (cfg y))) ((step y).tr cfg))(hG:Closed E Q G){t:LT R Y}{r:R}(h:aB step t r)(hr:Q r):Tr.Ok Q G (t.tr cfg):=by
 induction h with
 | ret r=>exact hr
 | more h ih=>
   rename_i y _
   obtain⟨n,hn⟩:=hstep y
   exact hG.go n _ (hn.ok (ih hr))
 | br h ih=>
   rename_i b t e _
   cases b with
   | true=>exact⟨fun _=>ih hr,fun h=>(by cases h)⟩
   | false=>exact⟨fun h=>(by cases h),fun _=>ih hr⟩
 | need hb h ih=>exact⟨hb,ih hr⟩
 | eqs hp h ih=>exact⟨hp,ih hr⟩
 | and h1 h2 ih1 ih2=>exact⟨ih1 hr,ih2 hr⟩
theorem PW{R Y:Type}{E:ek R}{Q:R→Prop}{G:eF→Prop}{cfg:Y→eF}{step:Y→LT R Y}(hstep:∀y,∃n,Tr.IsW (run ah E n (advance E.da (cfg y))) ((step y).tr cfg))(hG:Closed E Q G){t:LT R Y}{r:R}(h:aB step t r)(hr:Q r):Tr.Ok Q G (t.tr cfg):=by
 induction h with
 | ret r=>exact hr
 | more h ih=>
   rename_i y _
   obtain⟨n,hn⟩:=hstep y
   exact hG.go n _ (hn.ok (ih hr))
 | br h ih=>
   rename_i b t e _
   cases b with
   | true=>exact⟨fun _=>ih hr,fun h=>(by cases h)⟩
   | false=>exact⟨fun h=>(by cases h),fun _=>ih hr⟩
 | need hb h ih=>exact⟨hb,ih hr⟩
 | eqs hp h ih=>exact⟨hp,ih hr⟩
 | and h1 h2 ih1 ih2=>exact⟨ih1 hr,ih2 hr⟩
structure Walk(P:Program)(g:FuncId)(args res:List Ty)(Y:Type) where
 start:Ty.Ts args→LT (Ty.Ts res) Y
 step:Y→LT (Ty.Ts res) Y
structure Walk.Ok{P:Program}{g:FuncId}{args res:List Ty}{Y:Type}(W:Walk P g args res Y):Prop where
 sound:∀(pre:Ty.Ts args→Bool) (fn:Ty.Ts args→Ty.Ts res),(∀x,pre x=true→Ty.cq args x→aB W.step (W.start x) (fn x))→aC.Sound P g ⟨args,res,pre,fn⟩
theorem eO:∀{ts:List Ty} {x:Ty.Ts ts},(cr ah ts x).length=ts.length
 | [],_=>rfl
 | [_],_=>rfl
 | t::t2::ts,x=>by
   rw[cr,List.length_cons,eO];rfl
theorem gh{g:FuncId}{F:Func}{aa:List AV}(hb:F.body.isSome=true)(h1:aa.length≤F.ntmps)(h2:F.ntmps≤65535):∃h0,dW g F aa=some h0:=by
 unfold dW
 cases hF:F.body with
 | none=>rw[hF] at hb;cases hb
 | some b=>
   simp only[Nat.ble_eq_true_of_le h1,Nat.ble_eq_true_of_le h2]
   exact⟨_,rfl⟩
theorem CH{P:Program}{g:FuncId}{F:Func}{args res:List Ty}{Y:Type}{E:ek (Ty.Ts res)}(hE:Base P E)(hfin:E.fin=yb ah res)(hg:look E.dy g=some F)(hb:F.body.isSome=true)
  (hl:(Nat.ble args.length F.ntmps&&Nat.ble F.ntmps 65535)=true) (W:Walk P g args res Y) (cfg:Y→eF) {q0 q:Bool} (n:Nat) (hstart:∀x,Tr.Is q0 (run ah E n (iN g F (cr ah args x))) ((W.start x).tr cfg))
  (hstep:∀y,∃n,Tr.Is q (run ah E n (advance E.da (cfg y))) ((W.step y).tr cfg)):W.Ok:=
 ⟨fun pre fn hr=>u6 (s:=⟨args,res,pre,fn⟩) hE hfin hg hb n fun x hp hx=>by
  rw[Bool.and_eq_true] at hl
  obtain⟨h0,hen⟩:=gh (g:=g) (aa:=cr ah args x) hb (by rw[eO];exact Nat.le_of_ble_eq_true hl.1) (Nat.le_of_ble_eq_true hl.2)
  refine⟨h0,hen,fun G hG=>?_⟩
  have h:=hstart x
  rw[iN,hen] at h
  exact h.ok (oE hstep hG (hr x hp hx) rfl)⟩
theorem Py{P:Program}{g:FuncId}{F:Func}{args res:List Ty}{Y:Type}{E:ek (Ty.Ts res)}(hE:Base P E)(hno:(∀g s,look E.da g=some s→s.jk P g)∧E.ju=[]∧E.kG=[]∧E.jy=[]∧E.ops=[])(hfin:E.fin=yb ah res)(hg:look E.dy g=some F)(hb:F.body.isSome=true)
  (hl:(Nat.ble args.length F.ntmps&&Nat.ble F.ntmps 65535)=true) (W:Walk P g args res Y) (cfg:Y→eF) {q:Bool} (n:Nat) (hstart:∀x,Tr.Is q (run ah E n (iN g F (cr ah args x))) ((W.start x).tr cfg))
  (hstep:∀y,∃n,Tr.Is q (run ah E n (advance E.da (cfg y))) ((W.step y).tr cfg)) {pre:Ty.Ts args→Bool} {fn:Ty.Ts args→Ty.Ts res} (hr:∀x,pre x=true→Ty.cq args x→aB W.step (W.start x) (fn x)) :
  aC.jk P g ⟨args,res,pre,fn⟩∧aC.Sound P g ⟨args,res,pre,fn⟩:=by
 have h:aC.jk P g ⟨args,res,pre,fn⟩:=Aj (s:=⟨args,res,pre,fn⟩) hE hfin hg hno n fun x hp hx=>by
  rw[Bool.and_eq_true] at hl
  obtain⟨h0,hen⟩:=gh (g:=g) (aa:=cr ah args x) hb (by rw[eO];exact Nat.le_of_ble_eq_true hl.1) (Nat.le_of_ble_eq_true hl.2)
  refine⟨h0,hen,fun G hG=>?_⟩
  have h:=hstart x
  rw[iN,hen] at h
  exact h.ok (oE hstep hG (hr x hp hx) rfl)
 exact⟨h,fun w I x aa hI hv hp=>(h w I x aa hI hv hp).mono fun _ _ k=>k.2,F,(hE.dy g F hg).1,hb,(hE.dy g F hg).2⟩
theorem U3{P:Program}:∀g F,look ([]:List (FuncId×Func)) g=some F→P.funcs[g]? = some F∧(F.name == "runtime.NumGoroutine")=false:=fun _ _ h=>by cases h
theorem P6{P:Program}{f:FuncId}{F:Func}{l:List (FuncId×Func)}(h1:P.funcs[f]? = some F)(h2:(F.name == "runtime.NumGoroutine")=false)(h:∀g F,look l g=some F→P.funcs[g]? = some F∧(F.name == "runtime.NumGoroutine")=false) :
  ∀g G,look ((f,F)::l) g=some G→P.funcs[g]? = some G∧(G.name == "runtime.NumGoroutine")=false:=fun g G hg=>by
 rw[look] at hg
 by_cases e:f=g
 ·subst e;rw[aX.2 rfl] at hg;cases hg;exact⟨h1,h2⟩
 ·rw[bo.2 e] at hg;exact h g G hg
theorem TL{P:Program}:∀g s,look ([]:List (FuncId×aC)) g=some s→s.Sound P g:=fun _ _ h=>by cases h
theorem PN{P:Program}{f:FuncId}{s:aC}{l:List (FuncId×aC)}(h1:s.Sound P f)(h:∀g s,look l g=some s→s.Sound P g):∀g s',look ((f,s)::l) g=some s'→s'.Sound P g:=fun g s' hg=>by
 rw[look] at hg
 by_cases e:f=g
 ·subst e;rw[aX.2 rfl] at hg;cases hg;exact h1
 ·rw[bo.2 e] at hg;exact h g s' hg
def tt{α:Type}:α→Bool:=fun _=>true
theorem aC.Sound.congr{P:Program}{g:FuncId}{args res:List Ty}{pre pre':Ty.Ts args→Bool}{fn fn':Ty.Ts args→Ty.Ts res}(h:aC.Sound P g ⟨args,res,pre,fn⟩)
  (he:∀x,pre' x=true→Ty.cq args x→pre x=true∧fn x=fn' x):aC.Sound P g ⟨args,res,pre',fn'⟩:=by
 refine⟨fun w I x aa hI hrep hpre=>?_,h.body⟩
 obtain⟨h1,h2⟩:=he x hpre hrep.has
 have:=h.calls w I x aa hI hrep h1
 simp only at this ⊢
 rw[h2] at this
 exact this
def Vg(ti:PT TI)(A:aK)(res:List Ty)(dy:List (FuncId×Func))(da:List (FuncId×aC))(stops dp:List Stop):ek (Ty.Ts res):=⟨ti,dy,da,stops,dp, [],yb A res, [], [],0, [], []⟩
def mkP(ju:List (FuncId×gl))(ti:PT TI)(A:aK)(res:List Ty)(dy:List (FuncId×Func))(da:List (FuncId×aC))(stops dp:List Stop):ek (Ty.Ts res):=⟨ti,dy,da,stops,dp, [],yb A res,ju, [],0, [], []⟩
def mkW(t:Ty)(jy:List (FuncId×dD))(ti:PT TI)(A:aK)(res:List Ty)(dy:List (FuncId×Func))(da:List (FuncId×aC))(stops dp:List Stop):ek (List t.T×Ty.Ts res):=⟨ti,dy,da,stops,dp, [],R9 A t res, [], [],1,jy, []⟩
def mkQ(jy:List (FuncId×dD))(kG:List (FuncId×bI))(ju:List (FuncId×gl))(ti:PT TI)(A:aK)(res:List Ty)(dy:List (FuncId×Func))(da:List (FuncId×aC))(stops dp:List Stop):ek (Ty.Ts res):=⟨ti,dy,da,stops,dp, [],yb A res,ju,kG,0,jy, []⟩
def mkM(rp:Bool)(ptrs:List VF)(jy:List (FuncId×dD))(kG:List (FuncId×bI))(ju:List (FuncId×gl))(ti:PT TI)(A:aK)(res:List Ty)(dy:List (FuncId×Func))(da:List (FuncId×aC))(stops dp:List Stop):ek (Ty.Ts (VF.fM ptrs)×Ty.Ts res):=⟨ti,dy,da,stops,dp, [],Tz A rp ptrs res,ju,kG,ptrs.length,jy, []⟩
def mkN(ops:List (FuncId×jT))(jy:List (FuncId×dD))(kG:List (FuncId×bI))(ju:List (FuncId×gl))(ti:PT TI)(A:aK)(res:List Ty)(dy:List (FuncId×Func))(da:List (FuncId×aC))(stops dp:List Stop):ek (Ty.Ts res):=⟨ti,dy,da,stops,dp, [],yb A res,ju,kG,0,jy,ops⟩
def mkO(out:VF)(opt:Bool)(ops:List (FuncId×jT))(jy:List (FuncId×dD))(kG:List (FuncId×bI))(ju:List (FuncId×gl))(ti:PT TI)(A:aK)(res:List Ty)(dy:List (FuncId×Func))(da:List (FuncId×aC))(stops dp:List Stop):ek (Bool×out.ty.T×Ty.Ts res):=⟨ti,dy,da,stops,dp, [],TM A out opt res,ju,kG,0,jy,ops⟩
def mG(P:Program)(l:List (FuncId×Func)):Prop:=∀g F,look l g=some F→P.funcs[g]? = some F∧(F.name == "runtime.NumGoroutine")=false
def nf(P:Program)(l:List (FuncId×aC)):Prop:=∀g s,look l g=some s→s.Sound P g
def rR(P:Program)(l:List (FuncId×gl)):Prop:=∀g s,look l g=some s→s.Sound P g
def tQ(P:Program)(l:List (FuncId×bI)):Prop:=∀g s,look l g=some s→s.Sound P g
def r8(P:Program)(l:List (FuncId×dD)):Prop:=∀g s,look l g=some s→s.Sound P g
def Bg(P:Program)(l:List (FuncId×jT)):Prop:=∀g s,look l g=some s→s.Sound P g
theorem oz{P:Program}:Bg P []:=fun _ _ h=>by cases h
theorem oc{P:Program}{f:FuncId}{s:jT}{l:List (FuncId×jT)}(h1:s.Sound P f)(h:Bg P l):Bg P ((f,s)::l):=fun g s' hg=>by
 rw[look] at hg
 by_cases e:f=g
 ·subst e;rw[aX.2 rfl] at hg;cases hg;exact h1
 ·rw[bo.2 e] at hg;exact h g s' hg
def D6(P:Program)(l:List (FuncId×aC)):Prop:=∀g s,look l g=some s→s.jk P g∧s.Sound P g
theorem szD{P:Program}:D6 P []:=fun _ _ h=>by cases h
theorem scD{P:Program}{f:FuncId}{s:aC}{l:List (FuncId×aC)}(h1:s.jk P f∧s.Sound P f)(h:D6 P l):D6 P ((f,s)::l):=fun g s' hg=>by
 rw[look] at hg
 by_cases e:f=g
 ·subst e;rw[aX.2 rfl] at hg;cases hg;exact h1
 ·rw[bo.2 e] at hg;exact h g s' hg
theorem iz{P:Program}:r8 P []:=fun _ _ h=>by cases h
theorem ic{P:Program}{f:FuncId}{s:dD}{l:List (FuncId×dD)}(h1:s.Sound P f)(h:r8 P l):r8 P ((f,s)::l):=fun g s' hg=>by
 rw[look] at hg
 by_cases e:f=g
 ·subst e;rw[aX.2 rfl] at hg;cases hg;exact h1
 ·rw[bo.2 e] at hg;exact h g s' hg
theorem mz{P:Program}:tQ P []:=fun _ _ h=>by cases h
theorem mc{P:Program}{f:FuncId}{s:bI}{l:List (FuncId×bI)}(h1:s.Sound P f)(h:tQ P l):tQ P ((f,s)::l):=fun g s' hg=>by
 rw[look] at hg
 by_cases e:f=g
 ·subst e;rw[aX.2 rfl] at hg;cases hg;exact h1
 ·rw[bo.2 e] at hg;exact h g s' hg
theorem pz{P:Program}:rR P []:=fun _ _ h=>by cases h
theorem pc{P:Program}{f:FuncId}{s:gl}{l:List (FuncId×gl)}(h1:s.Sound P f)(h:rR P l):rR P ((f,s)::l):=fun g s' hg=>by
 rw[look] at hg
 by_cases e:f=g
 ·subst e;rw[aX.2 rfl] at hg;cases hg;exact h1
 ·rw[bo.2 e] at hg;exact h g s' hg
theorem fz{P:Program}:mG P []:=U3
theorem fc{P:Program}{f:FuncId}{F:Func}{l:List (FuncId×Func)}(h1:P.funcs[f]? = some F)(h:mG P l)(h2:(F.name == "runtime.NumGoroutine")=false:=by kernel_rfl):mG P ((f,F)::l):=P6 h1 h2 h
theorem sz{P:Program}:nf P []:=TL
theorem sc{P:Program}{f:FuncId}{s:aC}{l:List (FuncId×aC)}(h1:s.Sound P f)(h:nf P l):nf P ((f,s)::l):=PN h1 h
section
variable {P:Program} {ti:PT TI} (ht:iJ P ti) (hm:P.follows .mixedOrders=true) {g:FuncId} {F:Func} {args res:List Ty} {dy:List (FuncId×Func)} {da:List (FuncId×aC)} {pre:Ty.Ts args→Bool} {fn:Ty.Ts args→Ty.Ts res}
include ht hm
theorem aU(q:Bool){Y:Type}(n:Nat)(stops dp:List Stop)(start:aK→Ty.Ts args→LT (Ty.Ts res) Y)(step:aK→Y→LT (Ty.Ts res) Y)(cfg:Y→eF)(hf:mG P ((g,F)::dy))(hs:nf P da)
  (hstep:∀A y,∃n,Tr.Is q (run A (Vg ti A res ((g,F)::dy) da stops dp) n (advance da (cfg y))) ((step A y).tr cfg))
  (hr:∀x,pre x=true→Ty.cq args x→aB (step ah) (start ah x) (fn x))
  (hb:F.body.isSome=true:=by kernel_rfl) (hl:(Nat.ble args.length F.ntmps&&Nat.ble F.ntmps 65535)=true:=by kernel_rfl)
  (h0:∀A x,Tr.Is q (run A (Vg ti A res ((g,F)::dy) da stops dp) n (iN g F (cr A args x))) ((start A x).tr cfg):=by intro A x;first|exact⟨by kernel_rfl,by kernel_rfl⟩|(show Tr.full _=_;kernel_rfl)):aC.Sound P g ⟨args,res,pre,fn⟩:=
 (CH (E:=Vg ti ah res ((g,F)::dy) da stops dp) ⟨ht,hf,hs,hm,fun _ _ h=>(by cases h),fun _ _ h=>(by cases h),fun _ _ h=>(by cases h),fun _ _ h=>(by cases h)⟩ rfl (show look ((g,F)::dy) g=some F by rw[look,aX.2 rfl]) hb hl ⟨start ah,step ah⟩ cfg n (h0 ah) (hstep ah)).sound pre fn hr
theorem l8(q:Bool){Y:Type}(n:Nat)(stops dp:List Stop)(start:aK→Ty.Ts args→LT (Ty.Ts res) Y)(step:aK→Y→LT (Ty.Ts res) Y)(cfg:Y→eF)(hf:mG P ((g,F)::dy))(hs:D6 P da)
  (hstep:∀A y,∃n,Tr.Is q (run A (Vg ti A res ((g,F)::dy) da stops dp) n (advance da (cfg y))) ((step A y).tr cfg))
  (hr:∀x,pre x=true→Ty.cq args x→aB (step ah) (start ah x) (fn x))
  (hb:F.body.isSome=true:=by kernel_rfl) (hl:(Nat.ble args.length F.ntmps&&Nat.ble F.ntmps 65535)=true:=by kernel_rfl)
  (h0:∀A x,Tr.Is q (run A (Vg ti A res ((g,F)::dy) da stops dp) n (iN g F (cr A args x))) ((start A x).tr cfg):=by intro A x;first|exact⟨by kernel_rfl,by kernel_rfl⟩|(show Tr.full _=_;kernel_rfl)):aC.jk P g ⟨args,res,pre,fn⟩∧aC.Sound P g ⟨args,res,pre,fn⟩:=
 Py (E:=Vg ti ah res ((g,F)::dy) da stops dp) ⟨ht,hf,fun g s h=>(hs g s h).2,hm,fun _ _ h=>(by cases h),fun _ _ h=>(by cases h),fun _ _ h=>(by cases h),fun _ _ h=>(by cases h)⟩ ⟨fun g s h=>(hs g s h).1,rfl,rfl,rfl,rfl⟩ rfl (show look ((g,F)::dy) g=some F by rw[look,aX.2 rfl]) hb hl ⟨start ah,step ah⟩ cfg n (h0 ah) (hstep ah) hr
theorem oA(q:Bool){Y:Type}(n:Nat){jy:List (FuncId×dD)}(hip:r8 P jy){kG:List (FuncId×bI)}(hmp:tQ P kG){ju:List (FuncId×gl)}(hpp:rR P ju)(stops dp:List Stop)(start:aK→Ty.Ts args→LT (Ty.Ts res) Y)(step:aK→Y→LT (Ty.Ts res) Y)(cfg:Y→eF)(hf:mG P ((g,F)::dy))(hs:nf P da)
  (hstep:∀A y,∃n,Tr.Is q (run A (mkQ jy kG ju ti A res ((g,F)::dy) da stops dp) n (advance da (cfg y))) ((step A y).tr cfg))
  (hr:∀x,pre x=true→Ty.cq args x→aB (step ah) (start ah x) (fn x))
  (hb:F.body.isSome=true:=by kernel_rfl) (hl:(Nat.ble args.length F.ntmps&&Nat.ble F.ntmps 65535)=true:=by kernel_rfl)
  (h0:∀A x,Tr.Is q (run A (mkQ jy kG ju ti A res ((g,F)::dy) da stops dp) n (iN g F (cr A args x))) ((start A x).tr cfg):=by intro A x;first|exact⟨by kernel_rfl,by kernel_rfl⟩|(show Tr.full _=_;kernel_rfl)):aC.Sound P g ⟨args,res,pre,fn⟩:=
 (CH (E:=mkQ jy kG ju ti ah res ((g,F)::dy) da stops dp) ⟨ht,hf,hs,hm,hpp,hmp,hip,fun _ _ h=>(by cases h)⟩ rfl (show look ((g,F)::dy) g=some F by rw[look,aX.2 rfl]) hb hl ⟨start ah,step ah⟩ cfg n (h0 ah) (hstep ah)).sound pre fn hr
theorem uj(q0 q:Bool){Y:Type}(n:Nat){ops:List (FuncId×jT)}(hop:Bg P ops){jy:List (FuncId×dD)}(hip:r8 P jy){kG:List (FuncId×bI)}(hmp:tQ P kG){ju:List (FuncId×gl)}(hpp:rR P ju)(stops dp:List Stop)(start:aK→Ty.Ts args→LT (Ty.Ts res) Y)(step:aK→Y→LT (Ty.Ts res) Y)(cfg:Y→eF)(hf:mG P ((g,F)::dy))(hs:nf P da)
  (hstep:∀A y,∃n,Tr.Is q (run A (mkN ops jy kG ju ti A res ((g,F)::dy) da stops dp) n (advance da (cfg y))) ((step A y).tr cfg))
  (hr:∀x,pre x=true→Ty.cq args x→aB (step ah) (start ah x) (fn x))
  (hb:F.body.isSome=true:=by kernel_rfl) (hl:(Nat.ble args.length F.ntmps&&Nat.ble F.ntmps 65535)=true:=by kernel_rfl)
  (h0:∀A x,Tr.Is q0 (run A (mkN ops jy kG ju ti A res ((g,F)::dy) da stops dp) n (iN g F (cr A args x))) ((start A x).tr cfg):=by intro A x;first|exact⟨by kernel_rfl,by kernel_rfl⟩|(show Tr.full _=_;kernel_rfl)):aC.Sound P g ⟨args,res,pre,fn⟩:=
 (CH (E:=mkN ops jy kG ju ti ah res ((g,F)::dy) da stops dp) ⟨ht,hf,hs,hm,hpp,hmp,hip,hop⟩ rfl (show look ((g,F)::dy) g=some F by rw[look,aX.2 rfl]) hb hl ⟨start ah,step ah⟩ cfg n (h0 ah) (hstep ah)).sound pre fn hr
theorem A7(q:Bool){Y:Type}(n:Nat){ops:List (FuncId×jT)}(hop:Bg P ops){jy:List (FuncId×dD)}(hip:r8 P jy){kG:List (FuncId×bI)}(hmp:tQ P kG){ju:List (FuncId×gl)}(hpp:rR P ju)(stops dp:List Stop)(start:aK→Ty.Ts args→LT (Ty.Ts res) Y)(step:aK→Y→LT (Ty.Ts res) Y)(cfg:Y→eF)(hf:mG P ((g,F)::dy))(hs:nf P da)
  (hstep:∀A y,∃n,Tr.Is q (run A (mkN ops jy kG ju ti A res ((g,F)::dy) da stops dp) n (advance da (cfg y))) ((step A y).tr cfg))
  (hr:∀x,pre x=true→Ty.cq args x→aB (step ah) (start ah x) (fn x))
  (hb:F.body.isSome=true:=by kernel_rfl) (hl:(Nat.ble args.length F.ntmps&&Nat.ble F.ntmps 65535)=true:=by kernel_rfl)
  (h0:∀A x,Tr.IsW (run A (mkN ops jy kG ju ti A res ((g,F)::dy) da stops dp) n (iN g F (cr A args x))) ((start A x).tr cfg):=by intro A x;exact⟨by kernel_rfl,by kernel_rfl⟩):aC.Sound P g ⟨args,res,pre,fn⟩:=
 u6 (s:=⟨args,res,pre,fn⟩) (E:=mkN ops jy kG ju ti ah res ((g,F)::dy) da stops dp) ⟨ht,hf,hs,hm,hpp,hmp,hip,hop⟩ rfl (show look ((g,F)::dy) g=some F by rw[look,aX.2 rfl]) hb n fun x hp hx=>by
  rw[Bool.and_eq_true] at hl
  obtain⟨h1,hen⟩:=gh (g:=g) (aa:=cr ah args x) hb (by rw[eO];exact Nat.le_of_ble_eq_true hl.1) (Nat.le_of_ble_eq_true hl.2)
  refine⟨h1,hen,fun G hG=>?_⟩
  have h:=h0 ah x
  rw[iN,hen] at h
  exact h.ok (oE (hstep ah) hG (hr x hp hx) rfl)
theorem tP(q:Bool){Y:Type}{out:VF}{opt:Bool}{ofn:Ty.Ts args→Bool×out.ty.T×Ty.Ts res}(n:Nat){ops:List (FuncId×jT)}(hop:Bg P ops){jy:List (FuncId×dD)}(hip:r8 P jy){kG:List (FuncId×bI)}(hmp:tQ P kG){ju:List (FuncId×gl)}(hpp:rR P ju)(stops dp:List Stop)(start:aK→Ty.Ts args→LT (Bool×out.ty.T×Ty.Ts res) Y)(step:aK→Y→LT (Bool×out.ty.T×Ty.Ts res) Y)(cfg:Y→eF)(hf:mG P ((g,F)::dy))(hs:nf P da)
  (hstep:∀A y,∃n,Tr.Is q (run A (mkO out opt ops jy kG ju ti A res ((g,F)::dy) da stops dp) n (advance da (cfg y))) ((step A y).tr cfg))
  (hr:∀x,pre x=true→Ty.cq args x→aB (step ah) (start ah x) (ofn x))
  (hb:F.body.isSome=true:=by kernel_rfl) (hl:(Nat.ble args.length F.ntmps&&Nat.ble F.ntmps 65535)=true:=by kernel_rfl)
  (h0:∀A x,Tr.Is q (run A (mkO out opt ops jy kG ju ti A res ((g,F)::dy) da stops dp) n (iN g F (cr A args x))) ((start A x).tr cfg):=by intro A x;first|exact⟨by kernel_rfl,by kernel_rfl⟩|(show Tr.full _=_;kernel_rfl)):jT.Sound P g ⟨args,out,opt,res,pre,ofn⟩:=
 As (s:=⟨args,out,opt,res,pre,ofn⟩) (E:=mkO out opt ops jy kG ju ti ah res ((g,F)::dy) da stops dp) ⟨ht,hf,hs,hm,hpp,hmp,hip,hop⟩ rfl (show look ((g,F)::dy) g=some F by rw[look,aX.2 rfl]) hb n fun x hp hx=>by
  rw[Bool.and_eq_true] at hl
  obtain⟨h1,hen⟩:=gh (g:=g) (aa:=cr ah args x) hb (by rw[eO];exact Nat.le_of_ble_eq_true hl.1) (Nat.le_of_ble_eq_true hl.2)
  refine⟨h1,hen,fun G hG=>?_⟩
  have h:=h0 ah x
  rw[iN,hen] at h
  exact h.ok (oE (hstep ah) hG (hr x hp hx) rfl)
theorem bH(q:Bool){Y:Type}{rp:Bool}{ptrs:List VF}{ppre:Ty.Ts (VF.fM ptrs)×Ty.Ts args→Bool}{pfn:Ty.Ts (VF.fM ptrs)×Ty.Ts args→Ty.Ts (VF.fM ptrs)×Ty.Ts res}(n:Nat){jy:List (FuncId×dD)}(hip:r8 P jy){kG:List (FuncId×bI)}(hmp:tQ P kG){ju:List (FuncId×gl)}(hpp:rR P ju)(stops dp:List Stop)(start:aK→Ty.Ts (VF.fM ptrs)×Ty.Ts args→LT (Ty.Ts (VF.fM ptrs)×Ty.Ts res) Y)(step:aK→Y→LT (Ty.Ts (VF.fM ptrs)×Ty.Ts res) Y)(cfg:Y→eF)(hf:mG P ((g,F)::dy))(hs:nf P da)
  (hstep:∀A y,∃n,Tr.Is q (run A (mkM rp ptrs jy kG ju ti A res ((g,F)::dy) da stops dp) n (advance da (cfg y))) ((step A y).tr cfg))
  (hr:∀x,ppre x=true→Ty.cq (VF.fM ptrs) x.1→Ty.cq args x.2→aB (step ah) (start ah x) (pfn x))
  (hb:F.body.isSome=true:=by kernel_rfl) (hl:(Nat.ble (ptrs.length+args.length) F.ntmps&&Nat.ble F.ntmps 65535)=true:=by kernel_rfl) (hpo:dF ptrs=true:=by kernel_rfl)
  (h0:∀A x,Tr.Is q (run A (mkM rp ptrs jy kG ju ti A res ((g,F)::dy) da stops dp) n (xO A g F ptrs x.1 (cr A args x.2))) ((start A x).tr cfg):=by intro A x;first|exact⟨by kernel_rfl,by kernel_rfl⟩|(show Tr.full _=_;kernel_rfl)):bI.Sound P g ⟨ptrs,args,res,ppre,pfn,rp⟩:=
 rY (s:=⟨ptrs,args,res,ppre,pfn,rp⟩) (E:=mkM rp ptrs jy kG ju ti ah res ((g,F)::dy) da stops dp) ⟨ht,hf,hs,hm,hpp,hmp,hip,fun _ _ h=>(by cases h)⟩ rfl (Nat.le_refl _) hpo (show look ((g,F)::dy) g=some F by rw[look,aX.2 rfl]) hb n fun x y hp hx hy=>by
  rw[Bool.and_eq_true] at hl
  obtain⟨h1,hen⟩:=gh (g:=g) (aa:=fy ptrs.length++cr ah args y) hb (by rw[List.length_append,eO,fy,List.length_map,List.length_range];exact Nat.le_of_ble_eq_true hl.1) (Nat.le_of_ble_eq_true hl.2)
  refine⟨h1,hen,fun G hG=>?_⟩
  have h:=h0 ah (x,y)
  rw[xO,hen] at h
  exact h.ok (oE (hstep ah) hG (hr (x,y) hp hx hy) rfl)
theorem Ao{Y:Type}{rp:Bool}{ptrs:List VF}{ppre:Ty.Ts (VF.fM ptrs)×Ty.Ts args→Bool}{pfn:Ty.Ts (VF.fM ptrs)×Ty.Ts args→Ty.Ts (VF.fM ptrs)×Ty.Ts res}(n:Nat){jy:List (FuncId×dD)}(hip:r8 P jy){kG:List (FuncId×bI)}(hmp:tQ P kG){ju:List (FuncId×gl)}(hpp:rR P ju)(stops dp:List Stop)(start:aK→Ty.Ts (VF.fM ptrs)×Ty.Ts args→LT (Ty.Ts (VF.fM ptrs)×Ty.Ts res) Y)(step:aK→Y→LT (Ty.Ts (VF.fM ptrs)×Ty.Ts res) Y)(cfg:Y→eF)(hf:mG P ((g,F)::dy))(hs:nf P da)
  (hstep:∀A y,∃n,Tr.IsW (run A (mkM rp ptrs jy kG ju ti A res ((g,F)::dy) da stops dp) n (advance da (cfg y))) ((step A y).tr cfg))
  (hr:∀x,ppre x=true→Ty.cq (VF.fM ptrs) x.1→Ty.cq args x.2→aB (step ah) (start ah x) (pfn x))
  (hb:F.body.isSome=true:=by kernel_rfl) (hl:(Nat.ble (ptrs.length+args.length) F.ntmps&&Nat.ble F.ntmps 65535)=true:=by kernel_rfl) (hpo:dF ptrs=true:=by kernel_rfl)
  (h0:∀A x,Tr.IsW (run A (mkM rp ptrs jy kG ju ti A res ((g,F)::dy) da stops dp) n (xO A g F ptrs x.1 (cr A args x.2))) ((start A x).tr cfg):=by intro A x;exact⟨by kernel_rfl,by kernel_rfl⟩):bI.Sound P g ⟨ptrs,args,res,ppre,pfn,rp⟩:=
 rY (s:=⟨ptrs,args,res,ppre,pfn,rp⟩) (E:=mkM rp ptrs jy kG ju ti ah res ((g,F)::dy) da stops dp) ⟨ht,hf,hs,hm,hpp,hmp,hip,fun _ _ h=>(by cases h)⟩ rfl (Nat.le_refl _) hpo (show look ((g,F)::dy) g=some F by rw[look,aX.2 rfl]) hb n fun x y hp hx hy=>by
  rw[Bool.and_eq_true] at hl
  obtain⟨h1,hen⟩:=gh (g:=g) (aa:=fy ptrs.length++cr ah args y) hb (by rw[List.length_append,eO,fy,List.length_map,List.length_range];exact Nat.le_of_ble_eq_true hl.1) (Nat.le_of_ble_eq_true hl.2)
  refine⟨h1,hen,fun G hG=>?_⟩
  have h:=h0 ah (x,y)
  rw[xO,hen] at h
  exact h.ok (PW (hstep ah) hG (hr (x,y) hp hx hy) rfl)
theorem im(q:Bool){Y:Type}{el:Ty}{cfs:List FuncId}{ipre:List el.T×Ty.Ts args→Bool}{ifn:List el.T×Ty.Ts args→List el.T×Ty.Ts res}(n:Nat){jy:List (FuncId×dD)}(hip:r8 P jy)(stops dp:List Stop)(start:aK→List el.T×Ty.Ts args→LT (List el.T×Ty.Ts res) Y)(step:aK→Y→LT (List el.T×Ty.Ts res) Y)(cfg:Y→eF)(hf:mG P ((g,F)::dy))(hs:nf P da)
  (hstep:∀A y,∃n,Tr.Is q (run A (mkW el jy ti A res ((g,F)::dy) da stops dp) n (advance da (cfg y))) ((step A y).tr cfg))
  (hr:∀x,ipre x=true→Ty.has (.slice el) x.1→Ty.cq args x.2→(ifn x).1.length=x.1.length∧aB (step ah) (start ah x) (ifn x))
  (hb:F.body.isSome=true:=by kernel_rfl) (hl:(Nat.ble (1+(args.length+cfs.length)) F.ntmps&&Nat.ble F.ntmps 65535)=true:=by kernel_rfl)
  (h0:∀A x,Tr.Is q (run A (mkW el jy ti A res ((g,F)::dy) da stops dp) n (Ki A g F el x.1 (cr A args x.2) cfs)) ((start A x).tr cfg):=by intro A x;first|exact⟨by kernel_rfl,by kernel_rfl⟩|(show Tr.full _=_;kernel_rfl)):dD.Sound P g ⟨el,args,cfs,res,ipre,ifn⟩:=
 A1 (s:=⟨el,args,cfs,res,ipre,ifn⟩) (E:=mkW el jy ti ah res ((g,F)::dy) da stops dp) ⟨ht,hf,hs,hm,fun _ _ h=>(by cases h),fun _ _ h=>(by cases h),hip,fun _ _ h=>(by cases h)⟩ rfl (Nat.le_refl _) (show look ((g,F)::dy) g=some F by rw[look,aX.2 rfl]) hb n (fun x y hp hx hy=>(hr (x,y) hp hx hy).1) fun x y hp hx hy=>by
  rw[Bool.and_eq_true] at hl
  obtain⟨h1,hen⟩:=gh (g:=g) (aa:=.own 0::(cr ah args y++cfs.map fun f=>.fn f [] [])) hb (by rw[List.length_cons,List.length_append,eO,List.length_map,Nat.add_comm];exact Nat.le_of_ble_eq_true hl.1) (Nat.le_of_ble_eq_true hl.2)
  refine⟨h1,hen,fun G hG=>?_⟩
  have h:=h0 ah (x,y)
  rw[Ki,hen] at h
  exact h.ok (oE (hstep ah) hG (hr (x,y) hp hx hy).2 rfl)
theorem tH(q:Bool){Y:Type}{view:Ty}{ppre:view.T×Ty.Ts args→Bool}{pfn:view.T×Ty.Ts args→Ty.Ts res}(n:Nat){ju:List (FuncId×gl)}(hpp:rR P ju)(stops dp:List Stop)(start:aK→view.T×Ty.Ts args→LT (Ty.Ts res) Y)(step:aK→Y→LT (Ty.Ts res) Y)(cfg:Y→eF)(hf:mG P ((g,F)::dy))(hs:nf P da)
  (hstep:∀A y,∃n,Tr.Is q (run A (mkP ju ti A res ((g,F)::dy) da stops dp) n (advance da (cfg y))) ((step A y).tr cfg))
  (hr:∀x,ppre x=true→view.has x.1→Ty.cq args x.2→aB (step ah) (start ah x) (pfn x))
  (hb:F.body.isSome=true:=by kernel_rfl) (hl:(Nat.ble (args.length+1) F.ntmps&&Nat.ble F.ntmps 65535)=true:=by kernel_rfl) (hsc:Ty.scalars res=true:=by kernel_rfl)
  (h0:∀A x,Tr.Is q (run A (mkP ju ti A res ((g,F)::dy) da stops dp) n (iN g F (.jl view x.1 0::cr A args x.2))) ((start A x).tr cfg):=by intro A x;first|exact⟨by kernel_rfl,by kernel_rfl⟩|(show Tr.full _=_;kernel_rfl)):gl.Sound P g ⟨view,args,res,ppre,pfn⟩:=
 AL (s:=⟨view,args,res,ppre,pfn⟩) (E:=mkP ju ti ah res ((g,F)::dy) da stops dp) ⟨ht,hf,hs,hm,hpp,fun _ _ h=>(by cases h),fun _ _ h=>(by cases h),fun _ _ h=>(by cases h)⟩ rfl (show look ((g,F)::dy) g=some F by rw[look,aX.2 rfl]) hb n hsc fun x y hp hx hy=>by
  rw[Bool.and_eq_true] at hl
  obtain⟨h1,hen⟩:=gh (g:=g) (aa:=.jl view x 0::cr ah args y) hb (by rw[List.length_cons,eO];exact Nat.le_of_ble_eq_true hl.1) (Nat.le_of_ble_eq_true hl.2)
  refine⟨h1,hen,fun G hG=>?_⟩
  have h:=h0 ah (x,y)
  rw[iN,hen] at h
  exact h.ok (oE (hstep ah) hG (hr (x,y) hp hx hy) rfl)
theorem aQ(q:Bool)(n:Nat)(dp:List Stop)(start:aK→Ty.Ts args→LT (Ty.Ts res) Empty)(hf:mG P ((g,F)::dy))(hs:nf P da)
  (hr:∀x,pre x=true→Ty.cq args x→aB Empty.elim (start ah x) (fn x))
  (hb:F.body.isSome=true:=by kernel_rfl) (hl:(Nat.ble args.length F.ntmps&&Nat.ble F.ntmps 65535)=true:=by kernel_rfl)
  (h0:∀A x,Tr.Is q (run A (Vg ti A res ((g,F)::dy) da [] dp) n (iN g F (cr A args x))) ((start A x).tr Empty.elim):=by intro A x;first|exact⟨by kernel_rfl,by kernel_rfl⟩|(show Tr.full _=_;kernel_rfl)):aC.Sound P g ⟨args,res,pre,fn⟩:=
 aU ht hm q n [] dp start (fun _=>Empty.elim) Empty.elim hf hs (fun _ y=>y.elim) hr hb hl h0
end
end Go.Ev
namespace Go.Ev
def Ib:AV→Value→Bool
 | .undef,_=>true
 | .int k _ n,.int k' n'=>ij k k'&&(decide (n=0)&&decide (n'=0))
 | .bool _ b,.bool b'=>b==b'
 | .str _ s,.string s'=>s.isEmpty&&s'.data.toList.isEmpty
 | .dq _,.slice none 0 0=>true
 | .sl _ [],.slice none 0 0=>true
 | .fw,.pointer none=>true
 | .kv,.nilFunc=>true
 | _,_=>false
def tW:List AV→List Value→Bool
 | [], []=>true
 | a::r,v::vs=>Ib a v&&tW r vs
 | _,_=>false
theorem F7(k:IntKind):k.has 0:=by cases k<;>exact⟨by decide,by decide⟩
section
variable {w:World} {S:St} {m:Mem} {P:Program}
theorem oL{s:ByteArray}(h:s.data.toList.isEmpty=true):s=⟨#[]⟩:=by
 obtain⟨⟨l⟩⟩:=s
 cases l with
 | nil=>rfl
 | cons _ _=>cases h
theorem Lw{a:AV}{v:Value}(h:Ib a v=true):CR w S m a v:=by
 unfold Ib at h
 split at h
 ·exact dA
 ·simp only[Bool.and_eq_true,decide_eq_true_eq] at h
  obtain⟨h1,rfl,rfl⟩:=h
  rw[iy h1]
  exact bQ.2 ⟨rfl,F7 _⟩
 ·rw[beq_iff_eq] at h;exact c_.2 (by rw[h])
 ·rw[Bool.and_eq_true] at h
  rename_i s s'
  cases s with
  | cons _ _=>cases h.1
  | nil=>exact gb.2 ⟨by rw[oL h.2],Nat.zero_le _⟩
 ·exact ib.2 ⟨none,rfl,fun _=>rfl⟩
 ·exact lm.2 (bF.2 ⟨none,0,rfl,Nat.le_refl _,Nat.zero_le _,fun _=>rfl,fun i y h=>by cases h⟩)
 ·exact iq.2 rfl
 ·exact jZ.2 rfl
 ·cases h
theorem uo:∀{as:List AV} {vs:List Value},tW as vs=true→bw w S m as vs
 | [], [],_=>aM.2 rfl
 | a::r,v::vs,h=>by
   rw[tW,Bool.and_eq_true] at h
   exact aV.2 ⟨v,vs,rfl,Lw h.1,uo h.2⟩
 | [],_::_,h=>by cases h
 | _::_, [],h=>by cases h
mutual
def Ty.zeros:Ty→List Value
 | .int k=>[.int k 0]
 | .bool=>[.bool false]
 | .str=>[.string ⟨#[]⟩]
 | .slice _=>[.slice none 0 0]
 | .arr n t=>(List.replicate n t.zeros).flatten
 | .struct ts=>Ty.vI ts
 | .any n=>List.replicate n (.int .i64 0)
def Ty.vI:List Ty→List Value
 | []=>[]
 | t::ts=>t.zeros++Ty.vI ts
end
mutual
theorem Ty.q_{I:Nat→Prop}:∀(t:Ty),aR w I t t.zeros t.eQ
 | .int k=>mP.2 ⟨rfl,F7 k⟩
 | .bool=>wi.2 rfl
 | .str=>uL.2 ⟨rfl,Nat.zero_le _⟩
 | .slice t=>bF.2 ⟨none,0,rfl,Nat.le_refl _,Nat.zero_le _,fun _=>rfl,fun i y h=>by cases h⟩
 | .arr n t=>by
   have ih:=Ty.q_ (I:=I) t
   refine uU.2 ⟨List.length_replicate,?_,fun i y h=>?_⟩
   ·show((List.replicate n t.zeros).flatten).length=_
    rw[List.length_flatten,List.map_replicate,List.sum_replicate_nat,ih.length]
   ·have h:(List.replicate n t.eQ)[i]? = some y:=h
    obtain⟨h1,h2⟩:=List.getElem?_eq_some_iff.1 h
    rw[List.length_replicate] at h1
    rw[List.getElem_replicate] at h2
    subst h2
    have:=jg (l:=t.zeros) ih.length h1
    show aR w I t ((((List.replicate n t.zeros).flatten).drop (i*t.size)).take t.size) _
    rw[this];exact ih
 | .struct ts=>qd.2 (Ty.zr ts)
 | .any n=>by rw[aR];exact List.length_replicate
theorem Ty.zr{I:Nat→Prop}:∀(ts:List Ty),bS w I ts (Ty.vI ts) (Ty.bl ts)
 | []=>qW.2 rfl
 | [t]=>ve.2 (by
   have:Ty.vI [t]=t.zeros:=by simp only[Ty.vI,List.append_nil]
   rw[this];exact Ty.q_ t)
 | t::t2::ts=>sG.2 ⟨t.zeros,Ty.vI (t2::ts),rfl,Ty.q_ t,Ty.zr (t2::ts)⟩
end
def Pn:Value→Value→Bool
 | .int k n,.int k' n'=>ij k k'&&decide (n=n')
 | .bool b,.bool b'=>b==b'
 | .string s,.string s'=>s.data.toList.isEmpty&&s'.data.toList.isEmpty
 | .slice none 0 0,.slice none 0 0=>true
 | _,_=>false
def Cy:List Value→List Value→Bool
 | [], []=>true
 | a::r,v::vs=>Pn a v&&Cy r vs
 | _,_=>false
theorem Nu{a b:Value}(h:Pn a b=true):a=b:=by
 unfold Pn at h
 split at h
 ·simp only[Bool.and_eq_true,decide_eq_true_eq] at h;rw[iy h.1,h.2]
 ·rw[beq_iff_eq] at h;rw[h]
 ·rw[Bool.and_eq_true] at h;rw[oL h.1,oL h.2]
 ·rfl
 ·cases h
theorem BJ:∀{a b:List Value},Cy a b=true→a=b
 | [], [],_=>rfl
 | a::r,v::vs,h=>by
   rw[Cy,Bool.and_eq_true] at h
   rw[Nu h.1,BJ h.2]
 | [],_::_,h=>by cases h
 | _::_, [],h=>by cases h
def oZ(P:Program)(t:TypeId):Option Bool:=
 match P.underlying t with
 | some (.struct _)=>some true
 | some (.array _ _)=>some true
 | some _=>some false
 | none=>none
theorem ul{t:TypeId}{b:Bool}(h:oZ P t=some b)(w:World):(isAgg t).run P w=.ok b w:=by
 unfold oZ at h
 cases hu:P.underlying t with
 | none=>rw[hu] at h;cases h
 | some d=>
   rw[hu] at h
   unfold isAgg
   rw[Sem.run_bind,run_underlying hu]
   cases d<;>cases h<;>rfl
def zx(a:Option Bool)(b:Bool):Bool:=match a with|some c=>c==b|none=>false
theorem vT{a:Option Bool}{b:Bool}(h:zx a b=true):a=some b:=by
 cases a with
 | none=>cases h
 | some c=>rw[zx,beq_iff_eq] at h;rw[h]
def fieldsB(P:Program):List Field→List (Nat×Nat×Bool)→Bool
 | [], []=>true
 | f::F,(off,sz,ag)::fs=>Nat.beq f.offset off&&(zx (oZ P f.type) ag&&((match P.info? f.type with|some j=>Nat.beq j.size sz|none=>false)&&fieldsB P F fs))
 | _,_=>false
theorem zg:∀{F:List Field} {fs:List (Nat×Nat×Bool)},fieldsB P F fs=true→F.length=fs.length∧∀(i off sz:Nat) (ag:Bool),fs[i]? = some (off,sz,ag)→
   ∃f j,F[i]? = some f∧f.offset=off∧P.info? f.type=some j∧j.size=sz∧∀w,(isAgg f.type).run P w=.ok ag w
 | [], [],_=>⟨rfl,fun i off sz ag h=>by cases h⟩
 | [],_::_,h=>by cases h
 | _::_, [],h=>by cases h
 | f::F,(off,sz,ag)::fs,h=>by
   simp only[fieldsB,Bool.and_eq_true] at h
   obtain⟨h1,h2,h3,h4⟩:=h
   obtain⟨g1,g2⟩:=zg h4
   refine⟨by rw[List.length_cons,List.length_cons,g1],fun i off' sz' ag' hi=>?_⟩
   cases i with
   | zero=>
     cases hi
     cases hj:P.info? f.type with
     | none=>rw[hj] at h3;cases h3
     | some j=>
       rw[hj] at h3
       exact⟨f,j,rfl,Nat.eq_of_beq_eq_true h1,hj,Nat.eq_of_beq_eq_true h3,ul (vT h2)⟩
   | succ i=>exact g2 i off' sz' ag' (by simpa using hi)
def Mp(P:Program)(T:TypeId):TK→Bool
 | .bool=>match P.underlying T with|some .bool=>true|_=>false
 | .int k=>match P.underlying T with|some (.int k')=>ij k' k|_=>false
 | .str=>match P.underlying T with|some .string=>true|_=>false
 | .slice e=>match P.underlying T with|some (.slice e')=>Nat.beq e' e|_=>false
 | .arr n e=>match P.underlying T with|some (.array n' e')=>Nat.beq n' n&&Nat.beq e' e|_=>false
 | .ptr e=>match P.underlying T with|some (.pointer e')=>Nat.beq e' e|_=>false
 | .func=>match P.underlying T with|some (.func _ _ _)=>true|_=>false
 | .struct fs=>match P.underlying T with|some (.struct F)=>fieldsB P F.toList fs|_=>false
 | .other=>true
theorem QU{T:TypeId}{k:TK}(h:Mp P T k=true):kindOk P T k:=by
 cases k<;>simp only[Mp] at h<;>simp only[kindOk]
 case bool=>split at h<;>first|assumption|cases h
 case int k=>
  split at h
  ·rename_i k' hu;rw[hu,iy h]
  ·cases h
 case str=>split at h<;>first|assumption|cases h
 case slice e=>
  split at h
  ·rename_i e' hu;rw[hu,Nat.eq_of_beq_eq_true h]
  ·cases h
 case arr n e=>
  split at h
  ·rename_i n' e' hu;rw[Bool.and_eq_true] at h;rw[hu,Nat.eq_of_beq_eq_true h.1,Nat.eq_of_beq_eq_true h.2]
  ·cases h
 case struct fs=>
  split at h
  ·rename_i F hu
   obtain⟨h1,h2⟩:=zg h
   exact⟨F,hu,by rw[←h1,Array.length_toList],fun i off sz ag hi=>by
    obtain⟨f,j,e,r⟩:=h2 i off sz ag hi
    exact⟨f,j,by rw[←Array.getElem?_toList];exact e,r⟩⟩
  ·cases h
 case ptr e=>
  split at h
  ·rename_i e' hu;rw[hu,Nat.eq_of_beq_eq_true h]
  ·cases h
 case func=>
  split at h
  ·rename_i a b c hu;exact⟨a,b,c,hu⟩
  ·cases h
def K5(P:Program)(eq:TypeId→List AV→Bool)(z:List AV):Nat→List Field→Option Nat
 | off, []=>some off
 | off,f::fs=>match decide (f.name≠ "_")&&(Nat.beq f.offset off&&eq f.type ((z.drop off).take (P.cellsOf f.type))) with
   | true=>K5 P eq z (off+P.cellsOf f.type) fs
   | false=>none
def Vl(a:Option Nat)(b:Nat):Bool:=match a with|some c=>Nat.beq c b|none=>false
theorem MY{a:Option Nat}{b:Nat}(h:Vl a b=true):a=some b:=by
 cases a with
 | none=>cases h
 | some c=>rw[Nat.eq_of_beq_eq_true h]
def R4(P:Program):Nat→TypeId→List AV→Bool
 | 0,_,_=>false
 | d+1,t,z=>match P.underlying t with
   | some .bool=>Nat.beq (P.cellsOf t) 1&&(match z with | [.bool _ _]=>true|_=>false)
   | some (.int _)=>Nat.beq (P.cellsOf t) 1&&(match z with | [.int _ _ _]=>true|_=>false)
   | some .string=>Nat.beq (P.cellsOf t) 1&&(match z with | [.str _ _]=>true|_=>false)
   | some (.struct fs)=>!P.stoodInHeld t&&(Vl (K5 P (R4 P d) z 0 fs.toList) (P.cellsOf t)&&Nat.beq z.length (P.cellsOf t))
   | _=>false
theorem r9:∀{a b:List AV},ig a b=true→a.length=b.length
 | [], [],_=>rfl
 | a::as,b::bs,h=>by
   rw[ig,Bool.and_eq_true] at h
   rw[List.length_cons,List.length_cons,r9 h.2]
 | [],_::_,h=>by cases h
 | _::_, [],h=>by cases h
theorem wJ:∀{a b:List AV} (n:Nat),ig a b=true→ig (a.drop n) (b.drop n)=true
 | _,_,0,h=>h
 | [], [],n+1,_=>rfl
 | a::as,b::bs,n+1,h=>by
   rw[ig,Bool.and_eq_true] at h
   exact wJ n h.2
 | [],_::_,_+1,h=>by cases h
 | _::_, [],_+1,h=>by cases h
theorem wF:∀{a b:List AV} (n:Nat),ig a b=true→ig (a.take n) (b.take n)=true
 | _,_,0,_=>rfl
 | [], [],n+1,_=>rfl
 | a::as,b::bs,n+1,h=>by
   rw[ig,Bool.and_eq_true] at h
   rw[List.take_succ_cons,List.take_succ_cons,ig,Bool.and_eq_true]
   exact⟨h.1,wF n h.2⟩
 | [],_::_,_+1,h=>by cases h
 | _::_, [],_+1,h=>by cases h
theorem rO:∀{a b x y:List AV} {c:Bool} {g:aK→Bool},a.length=b.length→bP (a++x) (b++y)=some (c,g)→
  ∃c1 g1 c2 g2,bP a b=some (c1,g1)∧bP x y=some (c2,g2)∧g ah=(g1 ah&&g2 ah)
 | [], [],x,y,c,g,_,h=>⟨true,fun _=>true,c,g,by simp[bP],h,rfl⟩
 | [],_::_,_,_,_,_,h,_=>by cases h
 | _::_, [],_,_,_,_,h,_=>by cases h
 | a::as,b::bs,x,y,c,g,hl,h=>by
   have hl:as.length=bs.length:=by simpa using hl
   have split:∀(c':Bool) (e:aK→Bool),(match bP (as++x) (bs++y) with|none=>none|some (c2,g)=>some (c'&&c2,fun A=>A.and (e A) (g A)))=some (c,g)→
     (∀q:Option (Bool×(aK→Bool)),bP as bs=q→bP (a::as) (b::bs)=(match q with|none=>none|some (c2,g)=>some (c'&&c2,fun A=>A.and (e A) (g A))))→
     ∃c1 g1 c2 g2,bP (a::as) (b::bs)=some (c1,g1)∧bP x y=some (c2,g2)∧g ah=(g1 ah&&g2 ah):=by
    intro c' e h hk
    cases hq:bP (as++x) (bs++y) with
    | none=>rw[hq] at h;cases h
    | some q=>
      obtain⟨c2,g2⟩:=q
      rw[hq] at h
      cases h
      obtain⟨c1,g1,c3,g3,h1,h2,h3⟩:=rO hl hq
      refine⟨_,_,c3,g3,hk _ h1,h2,?_⟩
      show ah.and (e ah) (g2 ah)=(ah.and (e ah) (g1 ah)&&g3 ah)
      rw[h3]
      show(e ah&&(g1 ah&&g3 ah))=((e ah&&g1 ah)&&g3 ah)
      rw[Bool.and_assoc]
   cases a<;>cases b<;>simp only[List.cons_append,bP] at h<;>try (cases h;done)
   case int.int k c1 n1 k' c2 n2=>
    cases hk:ij k k' with
    | false=>rw[hk] at h;cases h
    | true=>
      rw[hk] at h
      exact split (c1&&c2) (fun A=>A.c .eql n1 n2) h (fun q hq=>by simp only[bP,hk,hq];cases q<;>rfl)
   case bool.bool c1 n1 c2 n2=>exact split (c1&&c2) (fun A=>A.q n1 n2) h (fun q hq=>by simp only[bP,hq];cases q<;>rfl)
   case str.str c1 n1 c2 n2=>exact split (c1&&c2) (fun A=>A.z .eql n1 n2) h (fun q hq=>by simp only[bP,hq];cases q<;>rfl)
def Oh(P:Program)(t:TypeId)(us:List Value)(v:Value):Prop:=(oZ P t=some true∧v=.agg us.toArray)∨(oZ P t=some false∧us=[v])
theorem zY{t:TypeId}{us:Array Value}{off:Nat}{b:Bool}(hb:oZ P t=some b)(h1:b=false→P.cellsOf t=1)(hi:∃j,P.info? t=some j)(hl:off+P.cellsOf t≤us.size)(w:World) :
  ∃v,(part t us off).run P w=.ok v w∧Oh P t ((us.toList.drop off).take (P.cellsOf t)) v:=by
 obtain⟨j,hj⟩:=hi
 have hc:P.cellsOf t=j.size:=by simp[Program.cellsOf,hj]
 have hs:(sizeOf t).run P w=.ok (P.cellsOf t) w:=by simp[sizeOf,typeInfo,hj,hc]
 cases b with
 | true=>
   refine⟨.agg (us.extract off (off+P.cellsOf t)),by simp[part,Sem.run_bind,ul hb,hs],.inl ⟨hb,?_⟩⟩
   congr 1
   apply Array.toList_inj.1
   rw[Array.toList_extract,List.extract_eq_take_drop,show off+P.cellsOf t-off=P.cellsOf t from by omega]
 | false=>
   have h1:=h1 rfl
   rw[h1] at hl ⊢
   have hlt:off<us.size:=by omega
   refine⟨us[off],by simp[part,Sem.run_bind,ul hb,Array.getElem?_eq_getElem hlt],.inr ⟨hb,?_⟩⟩
   have hlt':off<us.toList.length:=by simpa using hlt
   rw[List.drop_eq_getElem_cons hlt',List.take_succ_cons,List.take_zero]
   simp
theorem info_of_underlying{t:TypeId}{d:TypeDesc}(h:P.underlying t=some d):∃j,P.info? t=some j:=by
 unfold Program.underlying at h
 cases hi:P.info? t with
 | none=>rw[hi] at h;cases h
 | some j=>exact⟨j,rfl⟩
theorem Qh{d:Nat}{t:TypeId}{z:List AV}(h:R4 P d t z=true):(∃j,P.info? t=some j)∧((oZ P t=some false∧P.cellsOf t=1)∨oZ P t=some true):=by
 cases d with
 | zero=>cases h
 | succ d=>
   unfold R4 at h
   cases hu:P.underlying t with
   | none=>rw[hu] at h;cases h
   | some q=>
     refine⟨info_of_underlying hu,?_⟩
     rw[hu] at h
     cases q<;>simp only at h<;>try (cases h;done)
     case struct fs=>exact .inr (by simp[oZ,hu])
     all_goals
      rw[Bool.and_eq_true] at h
      exact .inl ⟨by simp[oZ,hu],Nat.eq_of_beq_eq_true h.1⟩
theorem Ch:∀(d:Nat) {D:Nat} {t:TypeId} {z xs ys:List AV} {us vs:List Value} {u v:Value} {c:Bool} {g:aK→Bool} {w:World},d≤D→R4 P d t z=true→ig xs z=true→xs.length=P.cellsOf t→ys.length=P.cellsOf t→bP xs ys=some (c,g)→
  bw w S m xs us→bw w S m ys vs→Oh P t us u→Oh P t vs v→(Op.equalIn D t u v).run P w=.ok (g ah) w
 | 0,_,_,_,_,_,_,_,_,_,_,_,_,_,h,_,_,_,_,_,_,_,_=>by cases h
 | d+1,0,_,_,_,_,_,_,_,_,_,_,_,hD,_,_,_,_,_,_,_,_,_=>by omega
 | d+1,D+1,t,z,xs,ys,us,vs,u,v,c,g,w,hD,h,hz,hx,hy,he,hxs,hys,hu,hv=>by
   unfold R4 at h
   cases hut:P.underlying t with
   | none=>rw[hut] at h;cases h
   | some q=>
     rw[hut] at h
     -- a type of one cell
     have one:oZ P t=some false→P.cellsOf t=1→∃a b,xs=[a]∧ys=[b]∧CR w S m a u∧CR w S m b v:=by
      intro ha h1
      rw[h1] at hx hy
      obtain⟨a,rfl⟩:=List.length_eq_one_iff.1 hx
      obtain⟨b,rfl⟩:=List.length_eq_one_iff.1 hy
      rcases hu with ⟨h',_⟩|⟨_,rfl⟩
      ·rw[ha] at h';cases h'
      ·rcases hv with ⟨h',_⟩|⟨_,rfl⟩
       ·rw[ha] at h';cases h'
       ·obtain⟨_,_,e,h1,_⟩:=aV.1 hxs
        obtain⟨_,_,e',h1',_⟩:=aV.1 hys
        cases e;cases e'
        exact⟨a,b,rfl,rfl,h1,h1'⟩
     cases q<;>simp only at h<;>try (cases h;done)
     case bool=>
      rw[Bool.and_eq_true] at h
      obtain⟨a,b,rfl,rfl,ha,hb⟩:=one (by simp[oZ,hut]) (Nat.eq_of_beq_eq_true h.1)
      have h2:=h.2
      split at h2
      ·cases a<;>simp[ig,IY] at hz
       cases b<;>simp[bP] at he
       obtain⟨_,rfl⟩:=he
       rw[c_.1 ha,c_.1 hb,run_equalIn_bool' w D t _ _ hut]
       simp[ah]
      ·cases h2
     case int k0=>
      rw[Bool.and_eq_true] at h
      obtain⟨a,b,rfl,rfl,ha,hb⟩:=one (by simp[oZ,hut]) (Nat.eq_of_beq_eq_true h.1)
      have h2:=h.2
      split at h2
      ·cases a<;>simp[ig,IY] at hz
       cases b<;>simp[bP] at he
       rename_i k c1 n1 k' c2 n2
       cases hk:ij k k' with
       | false=>rw[hk] at he;cases he
       | true=>
         rw[hk] at he
         have hkk:=iy hk
         subst hkk
         simp only[Option.some.injEq,Prod.mk.injEq] at he
         obtain⟨_,rfl⟩:=he
         rw[(bQ.1 ha).1,(bQ.1 hb).1,run_equalIn_int w D t _ k0 _ _ hut]
         simp[ah,pM]
      ·cases h2
     case string=>
      rw[Bool.and_eq_true] at h
      obtain⟨a,b,rfl,rfl,ha,hb⟩:=one (by simp[oZ,hut]) (Nat.eq_of_beq_eq_true h.1)
      have h2:=h.2
      split at h2
      ·cases a<;>simp[ig,IY] at hz
       cases b<;>simp[bP] at he
       obtain⟨_,rfl⟩:=he
       rw[(gb.1 ha).1,(gb.1 hb).1,run_equalIn_string w D t _ _ hut]
       simp[ah,QB,ByteArray.toList_eq]
      ·cases h2
     case struct fs=>
      rw[Bool.and_eq_true,Bool.not_eq_true',Bool.and_eq_true] at h
      obtain⟨hst,hfs,_⟩:=h
      have hfs:=MY hfs
      have hag:oZ P t=some true:=by simp[oZ,hut]
      have hu:u=.agg us.toArray:=by
       rcases hu with ⟨_,e⟩|⟨h',_⟩
       ·exact e
       ·rw[hag] at h';cases h'
      have hv:v=.agg vs.toArray:=by
       rcases hv with ⟨_,e⟩|⟨h',_⟩
       ·exact e
       ·rw[hag] at h';cases h'
      subst hu;subst hv
      have hfo:P.fieldsOf t=fs:=by simp[Program.fieldsOf,hut]
      rw[run_equalIn_struct w D t _ _ (by rw[hfo];exact hut) hst,hfo]
      -- field by field
      have key:∀(F:List Field) (off:Nat) (g:aK→Bool) (c:Bool),K5 P (R4 P d) z off F=some (P.cellsOf t)→off≤P.cellsOf t→bP (xs.drop off) (ys.drop off)=some (c,g)→(Op.eqFields D us.toArray vs.toArray F).run P w=.ok (g ah) w:=by
       intro F
       induction F with
       | nil=>
         intro off g c hF _ he
         cases hF
         rw[List.drop_of_length_le (by omega),List.drop_of_length_le (by omega)] at he
         simp only[bP,Option.some.injEq,Prod.mk.injEq] at he
         obtain⟨_,rfl⟩:=he
         simp[Op.eqFields]
       | cons f F ihF=>
         intro off g c hF hoff he
         rw[K5] at hF
         cases hck:decide (f.name≠ "_")&&(Nat.beq f.offset off&&R4 P d f.type ((z.drop off).take (P.cellsOf f.type))) with
         | false=>rw[hck] at hF;cases hF
         | true=>
           rw[hck] at hF
           simp only at hF
           rw[Bool.and_eq_true,Bool.and_eq_true,decide_eq_true_eq] at hck
           obtain⟨hname,hfo,heq⟩:=hck
           have hfo:=Nat.eq_of_beq_eq_true hfo
           have hle:off+P.cellsOf f.type≤P.cellsOf t:=by
            have mono:∀(F:List Field) (a b:Nat),K5 P (R4 P d) z a F=some b→a≤b:=by
             intro F
             induction F with
             | nil=>intro a b h;cases h;exact Nat.le_refl _
             | cons f F ih=>
               intro a b h
               rw[K5] at h
               split at h
               ·exact Nat.le_trans (Nat.le_add_right _ _) (ih _ _ h)
               ·cases h
            exact mono F _ _ hF
           obtain⟨hinf,hone⟩:=Qh heq
           obtain⟨bb,hbb,hb1⟩:∃bb,oZ P f.type=some bb∧(bb=false→P.cellsOf f.type=1):=by
            rcases hone with ⟨h1,h2⟩|h1
            ·exact⟨false,h1,fun _=>h2⟩
            ·exact⟨true,h1,fun h=>by cases h⟩
           have hul:us.length=P.cellsOf t:=by rw[hxs.length,hx]
           have hvl:vs.length=P.cellsOf t:=by rw[hys.length,hy]
           obtain⟨a,ha,hav⟩:=zY (us:=us.toArray) (off:=off) hbb hb1 hinf (by rw[List.size_toArray,hul];exact hle) w
           obtain⟨b,hb,hbv⟩:=zY (us:=vs.toArray) (off:=off) hbb hb1 hinf (by rw[List.size_toArray,hvl];exact hle) w
           have ex:xs.drop off=(xs.drop off).take (P.cellsOf f.type)++xs.drop (off+P.cellsOf f.type):=by rw[←List.drop_drop,List.take_append_drop]
           have ey:ys.drop off=(ys.drop off).take (P.cellsOf f.type)++ys.drop (off+P.cellsOf f.type):=by rw[←List.drop_drop,List.take_append_drop]
           have lx:((xs.drop off).take (P.cellsOf f.type)).length=P.cellsOf f.type:=by rw[List.length_take,List.length_drop];omega
           have ly:((ys.drop off).take (P.cellsOf f.type)).length=P.cellsOf f.type:=by rw[List.length_take,List.length_drop];omega
           rw[ex,ey] at he
           obtain⟨c1,g1,c2,g2,e1,e2,e3⟩:=rO (by rw[lx,ly]) he
           have r1:=Ch d (D:=D) (by omega) heq (wF _ (wJ _ hz)) lx ly e1 ((hxs.drop off).take _) ((hys.drop off).take _) hav hbv
           have r2:=ihF (off+P.cellsOf f.type) g2 c2 hF hle e2
           simp only[Op.eqFields,if_pos hname,Sem.run_bind,hfo,ha,Result.andThen_ok,hb,r1]
           rw[e3]
           cases hg1:g1 ah with
           | true=>simp only[Bool.not_true,Bool.false_eq_true,if_false,Bool.true_and];exact r2
           | false=>simp
      exact key fs.toList 0 g c hfs (Nat.zero_le _) (by simpa using he)
def Na(P:Program)(T:TypeId)(z:List AV):Bool:=
 R4 P 50 T z&&(zx (oZ P T) true&&(Nat.beq (P.cellsOf T) z.length && !P.eqGuardType P.depth T))
theorem Oo{T:TypeId}{z:List AV}(h:Na P T z=true):adj P T z:=by
 simp only[Na,Bool.and_eq_true,Bool.not_eq_true'] at h
 obtain⟨h1,h2,h3,h4⟩:=h
 have h2:=vT h2
 have h3:=Nat.eq_of_beq_eq_true h3
 intro w S m xs ys us vs c g hk he hx hy
 have hl:=r9 hk
 have hly:∀{xs ys:List AV} {c:Bool} {g:aK→Bool},bP xs ys=some (c,g)→ys.length=xs.length:=by
  intro xs
  induction xs with
  | nil=>intro ys c g h;cases ys with
    | nil=>rfl
    | cons b _=>cases b<;>simp[bP] at h
  | cons a xs ih=>
    intro ys c g h
    cases ys with
    | nil=>cases a<;>simp[bP] at h
    | cons b ys=>
      have:∃c g,bP xs ys=some (c,g):=by
       cases hq:bP xs ys with
       | some q=>exact⟨q.1,q.2,rfl⟩
       | none=>
         cases a<;>cases b<;>simp only[bP,hq] at h<;>(try (cases h;done))
         split at h<;>cases h
      obtain⟨c',g',h'⟩:=this
      rw[List.length_cons,List.length_cons,ih h']
 refine⟨?_,fun op x y=>?_⟩
 ·exact Ch (m:=m) (S:=S) 50 (D:=Op.maxDepth) (by decide) h1 hk (by omega) (by rw[hly he];omega) he hx hy (.inl ⟨h2,rfl⟩) (.inl ⟨h2,rfl⟩)
 ·cases op<;>simp[eqGuard,Sem.run_bind,run_program,h4]
def tiB(P:Program)(T:TypeId)(ti:TI):Bool:=
 (match P.info? T with
   | none=>false
   | some i=>Nat.beq i.size ti.size&&(Nat.beq i.bytes ti.bytes&&(match i.zero with
     | none=>false
     | some z=>tW ti.zero z.cells.toList&&(match ti.ty with
       | none=>true
       | some t=>Cy z.cells.toList t.zeros&&(Nat.beq t.size ti.size&&((t.isAgg==ti.agg)&&t.lL)))))) &&
 (Mp P T ti.kind&&(zx (oZ P T) ti.agg&&(Nat.beq ti.zero.length ti.size&&(!(ti.eq&&ti.agg)||Na P T ti.zero))))
theorem Zm{T:TypeId}{ti:TI}(h:tiB P T ti=true):vp P T ti:=by
 simp only[tiB,Bool.and_eq_true] at h
 obtain⟨h1,h2,h3,h4,h5⟩:=h
 cases hi:P.info? T with
 | none=>rw[hi] at h1;cases h1
 | some i=>
   rw[hi] at h1
   simp only[Bool.and_eq_true] at h1
   obtain⟨g1,g2,g3⟩:=h1
   cases hz:i.zero with
   | none=>rw[hz] at g3;cases g3
   | some z=>
     rw[hz] at g3
     simp only[Bool.and_eq_true] at g3
     obtain⟨g3,g4⟩:=g3
     have hty:∀t,ti.ty=some t→z.cells.toList=t.zeros∧(t.size=ti.size∧t.isAgg=ti.agg)∧t.lL=true:=fun t ht=>by
      rw[ht] at g4
      simp only[Bool.and_eq_true,beq_iff_eq] at g4
      exact⟨BJ g4.1,⟨Nat.eq_of_beq_eq_true g4.2.1,g4.2.2.1⟩,g4.2.2.2⟩
     refine⟨⟨i,z,hi,Nat.eq_of_beq_eq_true g1,Nat.eq_of_beq_eq_true g2,hz,fun w S m=>uo g3,fun t ht w I=>?_⟩,QU h2,ul (vT h3),Nat.eq_of_beq_eq_true h4,fun t ht=>(hty t ht).2.1,fun he ha=>?_,fun t ht=>(hty t ht).2.2⟩
     ·rw[(hty t ht).1];exact Ty.q_ t
     ·rw[he,ha] at h5
      exact Oo (by simpa using h5)
def Oy(P:Program):Nat→Nat→Nat→PT TI→Bool
 | 0,_,_,t=>match t with | .leaf=>true|_=>false
 | _+1,_,_,.leaf=>true
 | f+1,a,s,.node l v r=>(match v with|some ti=>tiB P a ti|none=>true)&&(Oy P f (a+s) (2*s) l&&Oy P f (a+2*s) (2*s) r)
theorem CB:∀{f a s:Nat} {t:PT TI},Oy P f a s t=true→∀n ti,t.get n=some ti→vp P (a+s*n) ti
 | 0,a,s,.leaf,_,n,ti,hg=>by rw[PT.mo] at hg;cases hg
 | 0,a,s,.node _ _ _,h,_,_,_=>by cases h
 | f+1,a,s,.leaf,_,n,ti,hg=>by rw[PT.mo] at hg;cases hg
 | f+1,a,s,.node l v r,h,n,ti,hg=>by
   simp only[Oy,Bool.and_eq_true] at h
   rw[PT.iW] at hg
   split at hg
   ·rename_i hn
    subst hn
    rw[hg] at h
    exact Zm h.1
   ·rename_i hn
    split at hg
    ·rename_i h1
     have:=CB h.2.1 _ _ hg
     have e:a+s+2*s*(n/2)=a+s*n:=by
      have:n=2*(n/2)+1:=by omega
      conv=>rhs;rw[this]
      rw[Nat.mul_add,Nat.mul_one,Nat.mul_comm 2 s,Nat.mul_assoc,Nat.add_assoc,Nat.add_comm s]
     rw[e] at this;exact this
    ·rename_i h1
     have:=CB h.2.2 _ _ hg
     have e:a+2*s+2*s*(n/2-1)=a+s*n:=by
      have:n=2*(n/2-1)+2:=by omega
      conv=>rhs;rw[this]
      rw[Nat.mul_add,Nat.mul_comm 2 s,Nat.mul_assoc,Nat.add_assoc,Nat.add_comm (s*2)]
     rw[e] at this;exact this
theorem Xy{t:PT TI}(h:Oy P 30 0 1 t=true):iJ P t:=fun T ti hg=>by
 have:=CB h T ti hg
 rwa [Nat.zero_add,Nat.one_mul] at this
end
end Go.Ev
namespace Go.Ev
def kT(P:Program)(ty:TypeId→Option Ty):Nat→List Field→Option (List Ty×Nat)
 | off, []=>some ([],off)
 | off,f::fs=>match ty f.type with
   | none=>none
   | some t=>match Nat.beq f.offset off&&Nat.beq (P.cellsOf f.type) t.size with
     | false=>none
     | true=>match kT P ty (off+t.size) fs with
       | none=>none
       | some (ts,n)=>some (t::ts,n)
def xv(P:Program):Nat→TypeId→Option Ty
 | 0,_=>none
 | d+1,t=>match P.underlying t with
   | some .bool=>some .bool
   | some (.int k)=>some (.int k)
   | some .string=>some .str
   | some (.slice e)=>match xv P d e with
     | none=>none
     | some ty=>match Nat.beq (P.cellsOf e) ty.size&&(Nat.blt 0 ty.size&&Nat.blt 0 (P.bytesOf e)) with
       | true=>some (.slice ty)
       | false=>none
   | some (.struct fs)=>match kT P (xv P d) 0 fs.toList with
     | none=>none
     | some (ts,n)=>match Nat.beq (P.cellsOf t) n with
       | true=>some (.struct ts)
       | false=>none
   | _=>none
def BB(P:Program):List TypeId→Option (List Ty)
 | []=>some []
 | t::ts=>match xv P 60 t with
   | none=>none
   | some ty=>match BB P ts with
     | none=>none
     | some fM=>some (ty::fM)
section
variable {H:Type} {enc:TypeId×Value→H} {P:Program} {w:World} {base:Nat} {spare:Nat→Bool} {held:Bool}
theorem tf{ty:TypeId→Option Ty}:∀{fs:List Field} {off n:Nat} {ts:List Ty},kT P ty off fs=some (ts,n)→n=off+Ty.fZ ts
 | [],off,n,ts,h=>by cases h;rfl
 | f::fs,off,n,ts,h=>by
   rw[kT] at h
   cases ht:ty f.type with
   | none=>rw[ht] at h;cases h
   | some t=>
     rw[ht] at h
     simp only at h
     split at h
     ·cases h
     ·cases hr:kT P ty (off+t.size) fs with
      | none=>rw[hr] at h;cases h
      | some q=>
        obtain⟨ts',n'⟩:=q
        rw[hr] at h
        cases h
        rw[tf hr,Ty.fZ,Nat.add_assoc]
theorem BP{a:Addr}{n:Nat}{us:List Value}(h:w.cells? base a n=some us):us.length=n∧(0<n→a.spot=none∧a.block<w.heap.size)∧(a.spot=none→gm w a.block a.off us):=by
 unfold World.cells? at h
 split at h
 ·have hl:us.length=n:=by simpa using mapM_some_length h
  have hg:∀i,i<n→w.cell? (a.add i)=us[i]? :=fun i hi=>by
   have:=mapM_some_get h i i (by simp[hi])
   exact this
  refine⟨hl,fun hn=>?_,fun hs j u hu=>?_⟩
  ·have h0:=hg 0 hn
   rw[List.getElem?_eq_getElem (by omega)] at h0
   have e:a.add 0=a:=by simp[Addr.add]
   rw[e] at h0
   unfold World.cell? at h0
   split at h0
   ·rename_i c _ _ hb
    split at h0
    ·cases h0
    ·rename_i hsp
     exact⟨by simpa using hsp,(Array.getElem?_eq_some_iff.1 hb).1⟩
   ·cases h0
  ·have hj:j<n:=by rw[←hl];exact(List.getElem?_eq_some_iff.1 hu).1
   have:=hg j hj
   rw[hu] at this
   rw[←this]
   congr 1
   obtain⟨b,o,sp⟩:=a
   have hs:sp=none:=hs
   subst hs
   exact(Addr.add_lit b o j).symm
 ·cases h
theorem w7{α:Type}{p:Nat→α→Prop}:∀(n:Nat),(∀i,i<n→∃x,p i x)→∃l:List α,l.length=n∧∀i x,l[i]? = some x→p i x
 | 0,_=>⟨[],rfl,fun i x h=>by simp at h⟩
 | n+1,h=>by
   obtain⟨l,h1,h2⟩:=w7 n fun i hi=>h i (by omega)
   obtain⟨x,hx⟩:=h n (by omega)
   refine⟨l ++ [x],by simp[h1],fun i y hy=>?_⟩
   rcases Nat.lt_trichotomy i l.length with hi|hi|hi
   ·rw[List.getElem?_append_left hi] at hy;exact h2 i y hy
   ·subst hi
    rw[List.getElem?_append_right (Nat.le_refl _),Nat.sub_self] at hy
    cases hy
    rw[h1];exact hx
   ·rw[List.getElem?_eq_none (by simp;omega)] at hy;cases hy
theorem wG{P:Program}{e:TypeId}:∀{l:List (DataW H)} {d:DataW H},d∈l→∀n∈d.weights P e,n∈DataW.weightsAll P e l
 | x::l,d,hd,n,hn=>by
   rw[DataW.weightsAll]
   rcases List.mem_cons.1 hd with rfl|hd
   ·exact List.mem_append.2 (.inl hn)
   ·exact List.mem_append.2 (.inr (wG hd n hn))
theorem tT{P:Program}:∀{ts:List TypeId} {l:List (DataW H)} {i:Nat} {t:TypeId} {d:DataW H},ts[i]? = some t→l[i]? = some d→∀n∈d.weights P t,n∈DataW.weightsEach P ts l
 | [],_,i,t,d,h,_,_,_=>by simp at h
 | _::_, [],i,t,d,_,h,_,_=>by simp at h
 | t0::ts,d0::l,i,t,d,h1,h2,n,hn=>by
   rw[DataW.weightsEach]
   cases i with
   | zero=>cases h1;cases h2;exact List.mem_append.2 (.inl hn)
   | succ i=>exact List.mem_append.2 (.inr (tT (i:=i) (by simpa using h1) (by simpa using h2) n hn))
theorem y1{ty:TypeId→Option Ty}{cs:List Value}{rd:Field→Option (DataW H×List MemPlace)}{I:Nat→Prop} :
  ∀{fs:List Field} {off n:Nat} {ts:List Ty},kT P ty off fs=some (ts,n)→n≤cs.length→
  (∀(i:Nat) (f:Field) (t:Ty),fs[i]? = some f→ty f.type=some t→P.cellsOf f.type=t.size→∃x,aR w I t ((cs.drop f.offset).take (P.cellsOf f.type)) x)→∃x,bS w I ts ((cs.drop off).take (n-off)) x
 | [],off,n,ts,h,_,_=>by
   cases h
   exact⟨(),qW.2 (by rw[Nat.sub_self,List.take_zero])⟩
 | f::fs,off,n,ts,h,hn,hx=>by
   have hsz:=tf h
   rw[kT] at h
   cases ht:ty f.type with
   | none=>rw[ht] at h;cases h
   | some t=>
     rw[ht] at h
     simp only at h
     cases hck:Nat.beq f.offset off&&Nat.beq (P.cellsOf f.type) t.size with
     | false=>rw[hck] at h;cases h
     | true=>
       rw[hck] at h
       simp only at h
       rw[Bool.and_eq_true] at hck
       have ho:=Nat.eq_of_beq_eq_true hck.1
       have hc:=Nat.eq_of_beq_eq_true hck.2
       cases hr:kT P ty (off+t.size) fs with
       | none=>rw[hr] at h;cases h
       | some q=>
         obtain⟨ts',n'⟩:=q
         rw[hr] at h
         cases h
         obtain⟨x,h1⟩:=hx 0 f t rfl ht hc
         obtain⟨y,h2⟩:=y1 (rd:=rd) hr hn fun i g t' hg=>hx (i+1) g t' (by simpa using hg)
         rw[ho,hc] at h1
         rw[Ty.fZ] at hsz
         have e:(cs.drop off).take (n-off)=(cs.drop off).take t.size++(cs.drop (off+t.size)).take (n-(off+t.size)):=by
          rw[show n-off=t.size+(n-(off+t.size)) from by omega,List.take_add,List.drop_drop]
         rw[e]
         cases ts' with
         | nil=>
           have h3:=qW.1 h2
           rw[h3,List.append_nil]
           exact⟨x,ve.2 h1⟩
         | cons t2 ts'=>exact⟨(x,y),sG.2 ⟨_,_,rfl,h1,h2⟩⟩
theorem LU{k:IntKind}{n:Int}(h:(Lit.int k n).wf=true):k.has n:=by
 simp only[Lit.wf,Bool.and_eq_true,decide_eq_true_eq] at h
 exact⟨h.1,h.2⟩
theorem zK:∀(d:Nat) {t:TypeId} {ty:Ty} {fuel:Nat} {cs:List Value} {r:DataW H×List MemPlace},xv P d t=some ty→DataW.trod enc P w base spare held fuel t cs=some r→(∀n∈r.1.weights P t,n≤reachBytes)→
  ∃x,aR w (fun b=>b<w.heap.size) ty cs x
 | 0,_,_,_,_,_,h,_,_=>by cases h
 | d+1,t,ty,fuel,cs,r,h,htr,hwt=>by
   rw[xv] at h
   cases hu:P.underlying t with
   | none=>rw[hu] at h;cases h
   | some q=>
     rw[hu] at h
     cases q<;>simp only at h<;>try (cases h;done)
     case bool=>
      cases h
      obtain⟨b,rfl,_⟩:=DataW.trod_bool hu htr
      exact⟨b,wi.2 rfl⟩
     case int k=>
      cases h
      obtain⟨n,rfl,_,hw⟩:=DataW.trod_int hu htr
      exact⟨n,mP.2 ⟨rfl,LU hw⟩⟩
     case string=>
      cases h
      obtain⟨s,rfl,hr,_⟩:=DataW.trod_string hu htr
      refine⟨s.data.toList,uL.2 ⟨by simp,?_⟩⟩
      have:=hwt s.data.toList.length (by rw[hr];simp[DataW.weights])
      exact Nat.le_trans this (by decide)
     case slice e=>
      cases hte:xv P d e with
      | none=>rw[hte] at h;cases h
      | some ty'=>
        rw[hte] at h
        simp only at h
        split at h
        ·rename_i hck
         cases h
         rw[Bool.and_eq_true,Bool.and_eq_true] at hck
         have hce:=Nat.eq_of_beq_eq_true hck.1
         have hpos:0<ty'.size:=Nat.le_of_ble_eq_true hck.2.1
         have hbytes:0<P.bytesOf e:=Nat.le_of_ble_eq_true hck.2.2
         rcases DataW.trod_slice hu htr with ⟨rfl,_⟩|⟨a,len,cap,elems,rest,n,rfl,rfl,hr,_,hlc,_,hel,hget,_,_⟩
         ·exact⟨[],bF.2 ⟨none,0,rfl,Nat.le_refl _,Nat.zero_le _,fun _=>rfl,fun i y h=>by cases h⟩⟩
         ·have hw0:(elems.length+rest.length)*P.bytesOf e≤reachBytes:=hwt _ (by rw[hr];simp[DataW.weights,hu])
          have hlen:len≤dB:=by
           have h1:len*1≤(elems.length+rest.length)*P.bytesOf e:=Nat.mul_le_mul (by omega) hbytes
           have h2:reachBytes≤dB:=by decide
           omega
          have each:∀i,i<len→∃x,∃us,a.spot=none∧a.block<w.heap.size∧us.length=ty'.size∧gm w a.block (a.off+i*ty'.size) us∧aR w (fun b=>b<w.heap.size) ty' us x:=by
           intro i hi
           have hg:=hget i hi
           rw[List.getElem?_eq_getElem (by omega)] at hg
           obtain⟨us,hcs,hrd⟩:=Option.bind_eq_some_iff.1 hg
           obtain⟨c1,c2,c3⟩:=BP hcs
           rw[hce] at c1 c2 c3
           obtain⟨hsp,hblk⟩:=c2 hpos
           -- the first element's address has no spot
           have hspa:a.spot=none:=by
            have hg0:=hget 0 (by omega)
            rw[List.getElem?_eq_getElem (by omega)] at hg0
            obtain⟨us0,hcs0,_⟩:=Option.bind_eq_some_iff.1 hg0
            rw[Nat.zero_mul] at hcs0
            have e0:a.add 0=a:=by simp[Addr.add]
            rw[e0] at hcs0
            exact((BP hcs0).2.1 (by rw[hce];exact hpos)).1
           have hadd:a.add (i*ty'.size)=⟨a.block,a.off+i*ty'.size,none⟩:=by
            obtain⟨b,o,sp⟩:=a
            have hs:sp=none:=hspa
            subst hs
            exact Addr.add_lit b o _
           rw[hadd] at c3 hblk
           obtain⟨x,hx⟩:=zK d hte hrd fun n hn=>hwt n (by
            rw[hr]
            simp only[DataW.weights,hu]
            refine List.mem_cons_of_mem _ (List.mem_append.2 (.inl (wG (List.mem_map.2 ⟨elems[i],List.getElem_mem _,rfl⟩) n hn))))
           exact⟨x,us,hspa,hblk,c1,c3 rfl,hx⟩
          obtain⟨xs,hxl,hxs⟩:=w7 len each
          refine⟨xs,bF.2 ⟨some a,cap,by rw[hxl],by omega,by omega,fun h=>(by cases h),fun i y hy=>?_⟩⟩
          obtain⟨us,g1,g2,g3,g4,g5⟩:=hxs i y hy
          refine⟨a.block,a.off,us,?_,g2,g3,g4,g5⟩
          obtain⟨b,o,sp⟩:=a
          have hs:sp=none:=g1
          rw[hs]
        ·cases h
     case struct fs=>
      cases hf:kT P (xv P d) 0 fs.toList with
      | none=>rw[hf] at h;cases h
      | some q=>
        obtain⟨ts,n⟩:=q
        rw[hf] at h
        simp only at h
        split at h
        ·rename_i hck
         cases h
         have hn:=Nat.eq_of_beq_eq_true hck
         obtain⟨xs,m,rfl,hr,hlen,hxl,hx⟩:=DataW.trod_struct hu htr
         obtain⟨y,hy⟩:=y1 (w:=w) (cs:=cs) (I:=fun b=>b<w.heap.size) (rd:=fun _=>(none:Option (DataW H×List MemPlace))) hf (by omega) fun i f t' hi hty hc=>by
          have hi':fs[i]? = some f:=by rw[←Array.getElem?_toList];exact hi
          have hlt:i<xs.length:=by rw[hxl];exact(Array.getElem?_eq_some_iff.1 hi').1
          have:=hx i f hi'
          rw[List.getElem?_eq_getElem hlt] at this
          refine zK d hty this fun n hn=>hwt n ?_
          rw[hr]
          simp only[DataW.weights,hu]
          exact tT (i:=i) (by simp[hi']) (by simp[List.getElem?_eq_getElem hlt]) n hn
         rw[List.drop_zero,Nat.sub_zero,List.take_of_length_le (by omega)] at hy
         exact⟨y,qd.2 hy⟩
        ·cases h
theorem IL{r:Reach}{b0 d:Nat}{t:TypeId}{ty:Ty}{v:Value}{x:ty.T}(ht:xv P d t=some ty)(hok:Value.okWide P w r b0 t v)(hx:aR w (fun b=>b<w.heap.size) ty v.cells.toList x):gy w (fun b=>b<w.heap.size) ty v x:=by
 cases d with
 | zero=>cases ht
 | succ d=>
   rw[xv] at ht
   unfold Value.okWide at hok
   cases hu:P.underlying t with
   | none=>rw[hu] at ht;cases ht
   | some q=>
     rw[hu] at ht hok
     have flat:ty.isAgg=false→Cell.okWide P w r b0 t v→gy w (fun b=>b<w.heap.size) ty v x:=by
      intro ha hc
      rw[gy,if_neg (by rw[ha];decide)]
      have:v.cells.toList=[v]:=by
       cases v<;>(try rfl)
       unfold Cell.okWide Cell.ok at hc
       rw[hu] at hc
       cases q<;>simp at hc
      rw[this] at hx
      exact hx
     cases q<;>simp only at ht hok<;>try (cases ht;done)
     case bool=>cases ht;exact flat rfl hok
     case int k=>cases ht;exact flat rfl hok
     case string=>cases ht;exact flat rfl hok
     case slice e=>
      have:ty.isAgg=false:=by
       cases hte:xv P d e with
       | none=>rw[hte] at ht;cases ht
       | some ty'=>
         rw[hte] at ht
         simp only at ht
         split at ht
         ·cases ht;rfl
         ·cases ht
      exact flat this hok
     case struct fs=>
      obtain⟨cs,rfl,_,_⟩:=hok
      have:ty.isAgg=true:=by
       cases hf:kT P (xv P d) 0 fs.toList with
       | none=>rw[hf] at ht;cases ht
       | some q=>
         rw[hf] at ht
         simp only at ht
         split at ht
         ·cases ht;rfl
         ·cases ht
      rw[gy,if_pos this]
      exact⟨cs,rfl,hx⟩
theorem uP{r:Reach}{b0:Nat}:∀{ts:List TypeId} {fM:List Ty} {vs:List Value} {ds:List (DataW H)} {ps:List MemPlace},BB P ts=some fM→DataW.TrodAll enc P w base spare held ts vs ds ps→
  (∀(j:Nat) t v,ts[j]? = some t→vs[j]? = some v→Value.okWide P w r b0 t v)→(∀n∈DataW.weightsEach P ts ds,n≤reachBytes)→∃x,dE w (fun b=>b<w.heap.size) fM vs x
 | [],fM, [], [],ps,h,_,_,_=>by cases h;exact⟨(),rfl⟩
 | t::ts,fM,v::vs,d::ds,ps,h,htr,hok,hwt=>by
   rw[BB] at h
   cases hty:xv P 60 t with
   | none=>rw[hty] at h;cases h
   | some ty=>
     rw[hty] at h
     simp only at h
     cases hts:BB P ts with
     | none=>rw[hts] at h;cases h
     | some tys'=>
       rw[hts] at h
       cases h
       obtain⟨p,q,⟨fuel,h1⟩,h2,_⟩:=htr
       rw[DataW.weightsEach] at hwt
       obtain⟨x,hx⟩:=zK 60 hty h1 fun n hn=>hwt n (List.mem_append.2 (.inl hn))
       have hx':=IL hty (hok 0 t v rfl rfl) hx
       obtain⟨y,hy⟩:=uP hts h2 (fun j t v ht hv=>hok (j+1) t v (by simpa using ht) (by simpa using hv)) fun n hn=>hwt n (List.mem_append.2 (.inr hn))
       cases tys' with
       | nil=>
         have hy:vs=[]:=hy
         subst hy
         exact⟨x,v,rfl,hx'⟩
       | cons t2 tys'=>exact⟨(x,y),v,vs,rfl,hx',hy⟩
 | [],_,_::_,_,_,_,h,_,_=>by exact h.elim
 | [],_, [],_::_,_,_,h,_,_=>by exact h.elim
 | _::_,_, [],_,_,_,h,_,_=>by exact h.elim
 | _::_,_,_::_, [],_,_,h,_,_=>by exact h.elim
open Go.RowKit
theorem rQ(hl:laidOutB P=true){W W':World}(hb:Below W.heap.size W W'){sp:Nat→Bool}:∀{ts:List TypeId} {vs:List Value} {ds:List (DataW H)} {ps:List MemPlace},(∀t∈ts,P.readableRec t=true∧t<P.types.size)→
  DataW.TrodAll enc P W 0 (fun _=>true) true ts vs ds ps→(∀p∈ps,p.block<W.heap.size)→(∀p∈ps,sp p.block=true)→DataW.TrodAll enc P W' 0 sp true ts vs ds ps
 | [], [], [],ps,_,h,_,_=>h
 | t::ts,v::vs,d::ds,ps,hts,h,hlt,hsp=>by
   obtain⟨p,q,h1,h2,rfl⟩:=h
   refine⟨p,q,WideElems.Trod_stays hl (hts t List.mem_cons_self).1 (hts t List.mem_cons_self).2 h1 (fun x hx=>hb.same (hlt x (List.mem_append.2 (.inl hx)))) (fun x hx=>hsp x (List.mem_append.2 (.inl hx))),?_,rfl⟩
   exact rQ hl hb (fun t ht=>hts t (List.mem_cons_of_mem _ ht)) h2 (fun x hx=>hlt x (List.mem_append.2 (.inr hx))) (fun x hx=>hsp x (List.mem_append.2 (.inr hx)))
 | [],_::_,_,_,_,h,_,_=>by exact h.elim
 | [], [],_::_,_,_,h,_,_=>by exact h.elim
 | _::_, [],_,_,_,h,_,_=>by exact h.elim
 | _::_,_::_, [],_,_,h,_,_=>by exact h.elim
theorem trodAll_length:∀{ts:List TypeId} {vs:List Value} {ds:List (DataW H)} {ps:List MemPlace},DataW.TrodAll enc P w base spare held ts vs ds ps→ds.length=ts.length
 | [], [], [],_,_=>rfl
 | t::ts,v::vs,d::ds,ps,h=>by
   obtain⟨p,q,_,h2,_⟩:=h
   rw[List.length_cons,List.length_cons,trodAll_length h2]
 | [],_::_,_,_,h=>by exact h.elim
 | [], [],_::_,_,h=>by exact h.elim
 | _::_, [],_,_,h=>by exact h.elim
 | _::_,_::_, [],_,h=>by exact h.elim
theorem Mw{f:Func}{s:ChangeSpec}{apart fresh handsOn again:Bool}{W W':World}{args:Array Value}{ds gs:List (DataW H)}{before:List MemPlace}{tb:TypeId}(hvars:s.vars=[])
  (hfn:∀(H:Type) (ds:List (DataW H)),ds.length=f.params.size→s.fn H ds={results:=[.lit (.bool true)],args:=ds}) (hres:f.resultTypes=#[tb]) (htb:P.underlying tb=some .bool)
  (hl:laidOutB P=true) (hts:∀t∈f.params.toList,P.readableRec t=true∧t<P.types.size)
  (hW:DataW.Whole enc P f.params.toList s.vars apart W args.toList ds gs before) (hb:Below W.heap.size W W'):s.post enc P f apart fresh handsOn again W args (.bool true) W':=by
 have hlt:=hW.lt
 have hW0:=hW
 obtain⟨p,q,hA,hV,rfl,hz,hnd⟩:=hW
 rw[hvars] at hV
 have hgs:gs=[]∧q=[]:=by
  cases gs with
  | nil=>exact⟨rfl,hV⟩
  | cons _ _=>exact hV.elim
 obtain⟨rfl,rfl⟩:=hgs
 rw[List.append_nil] at hlt hz hnd hW0
 have hlen:=trodAll_length hA
 have hf:=hfn H (ds ++ []) (by rw[List.append_nil,hlen,Array.length_toList])
 have hf':=hf
 rw[List.append_nil] at hf'
 have hstay:∀sp:Nat→Bool,(∀x∈p,sp x.block=true)→DataW.TrodAll enc P W' 0 sp true f.params.toList args.toList ds p:=fun sp hsp=>rQ hl hb hts hA hlt hsp
 have hresl:((Value.bool true).resultList f.resultTypes.size)=[.bool true]:=by rw[hres];rfl
 have hr:∀(b:Nat) (sp:Nat→Bool) (hd:Bool),DataW.TrodAll enc P W' b sp hd f.resultTypes.toList ((Value.bool true).resultList f.resultTypes.size) (s.fn H (ds ++ [])).results []:=fun b sp hd=>by
  rw[hresl,hres,hf]
  exact⟨[], [],shut_bool htb true,rfl,rfl⟩
 have hold:∀x∈p,(fun b=>decide (b<W.heap.size)) x.block=true:=fun x hx=>by simpa using hlt x hx
 refine⟨ds, [],p, [],p, [],hW0,hr _ _ _,?_,?_,World.keptBut_mono (fun x hx=>⟨hx,.inr (.inl hx)⟩) (hb.frame (· ∈p)),fun _=>⟨fun j t r hj hv=>?_,?_⟩⟩
 ·rw[hf,List.append_nil];exact hstay _ hold
 ·rw[hvars,hf];rfl
 ·exact ok_one hres rfl (okWide_bool_mk htb true) j t r hj hv
 ·have h1:DataW.TrodAll enc P W' 0 (fun _=>true) true (f.resultTypes.toList++f.params.toList) ((Value.bool true).resultList f.resultTypes.size++args.toList) (.lit (.bool true)::ds) p:=by
   rw[hresl,hres]
   exact⟨[],p,shut_bool htb true,hstay _ (fun _ _=>rfl),rfl⟩
  refine⟨.lit (.bool true)::ds, [],p,⟨p, [],h1,by rw[hvars];rfl,by rw[List.append_nil],fun b off hp=>?_,hnd⟩,fun x hx _=>hx⟩
  rw[hb.frozen (hlt _ hp)]
  exact hz b off hp
theorem LS{f:FuncId}{fM:List Ty}{pre:Ty.Ts fM→Bool}{fn:Ty.Ts fM→Bool}(hs:aC.Sound P f ⟨fM, [.bool],pre,fn⟩)(htrue:∀x,Ty.cq fM x→pre x=true∧fn x=true){F:Func}(htys:BB P F.params.toList=some fM)
  {r:Reach} {b0:Nat} {W:World} {args:Array Value} {ds:List (DataW H)} {ps:List MemPlace} (hA:DataW.TrodAll enc P W base spare held F.params.toList args.toList ds ps)
  (hval:∀(j:Nat) t v,F.params[j]? = some t→args[j]? = some v→Value.okWide P W r b0 t v) (hwt:∀n∈DataW.weightsEach P F.params.toList ds,n≤reachBytes) :
  Calls P f args W fun e W'=>e=.returned (.bool true)∧Below W.heap.size W W':=by
 obtain⟨x,hx⟩:=uP htys hA (fun j t v ht hv=>hval j t v (by rw[←Array.getElem?_toList];exact ht) (by rw[←Array.getElem?_toList];exact hv)) hwt
 obtain⟨h1,h2⟩:=htrue x hx.has
 refine(hs.calls W _ x args (fun b hb=>hb) hx h1).mono ?_
 rintro e W' ⟨v,rfl,g1,g2,g3,g4,g5,I',_,g7⟩
 have g7:gy W' I' .bool v (fn x):=g7
 have g7:[v]=[Value.bool (fn x)]:=g7
 cases g7
 refine⟨by rw[h2],⟨g1,g2,g3,g4,g5⟩⟩
theorem IM{C:Checked}{os:Os}{f:FuncId}{F:Func}{s:ChangeSpec}{conds:List PathCond}{apart fresh handsOn again:Bool}{a:Assume}{tb:TypeId}{fM:List Ty}{pre:Ty.Ts fM→Bool}{fn:Ty.Ts fM→Bool}
  (own:ownKnob C.prog.godebug=none) (started:os.Started) (noInit:C.prog.inits.idxOf? f=none) (hF:C.prog.funcs[f]? = some F)
  (witness:∃(w:World) (tape:Tape) (i:Input),w.os=os∧(w.forCall tape i).Shaped C.prog∧i.vars=[]∧Input.okWide C.prog (w.forCall tape i) .any w.heap.size f i∧
    s.pre6 enc C.prog F conds apart (w.forCall tape i).memory i.args∧a.holds C.prog (lone (Frame.enter C.prog f i.args .normal) [] (w.forCall tape i)))
  (hs:aC.Sound C.prog f ⟨fM, [.bool],pre,fn⟩) (htrue:∀x,Ty.cq fM x→pre x=true∧fn x=true) (htys:BB C.prog F.params.toList=some fM) (hvars:s.vars=[])
  (hfn:∀(H:Type) (ds:List (DataW H)),ds.length=F.params.size→s.fn H ds={results:=[.lit (.bool true)],args:=ds}) (hres:F.resultTypes=#[tb]) (htb:C.prog.underlying tb=some .bool)
  (hl:laidOutB C.prog=true) (hts:F.params.toList.all (fun t=>C.prog.readableRec t&&decide (t<C.prog.types.size))=true) :
  ReturnsInHanded a C os f .any (s.pre6 enc C.prog F conds apart) (s.post enc C.prog F apart fresh handsOn again):=by
 refine returnsInHanded_of_change_sized own started noInit hF witness ?_
 intro W b0 args ds gs before hval hW _ hsz _
 have hW':=hW
 obtain⟨p,q,hA,hV,_,_,_⟩:=hW
 rw[hvars] at hV
 have hgs:gs=[]:=by
  cases gs with
  | nil=>rfl
  | cons _ _=>exact hV.elim
 subst hgs
 have hwt:∀n∈DataW.weightsEach C.prog F.params.toList ds,n≤reachBytes:=by
  have e:s.plain.varTypes C.prog=[]:=by simp[DataSpec.varTypes,ChangeSpec.plain,hvars]
  rw[e,List.append_nil,List.append_nil] at hsz
  intro n hn
  have:=List.all_eq_true.1 hsz n hn
  simpa using this
 refine(LS hs htrue htys hA hval hwt).mono ?_
 rintro e W' ⟨rfl,hb⟩
 refine⟨_,rfl,Mw hvars hfn hres htb hl (fun t ht=>?_) hW' hb⟩
 have:=List.all_eq_true.1 hts t ht
 simpa using this
end
end Go.Ev
namespace Go.Ev
def LT.val{R Y:Type}(d:R):LT R Y→R
 | .ret r=>r
 | .more _=>d
 | .br b t e=>bif b then t.val d else e.val d
 | .need _ t=>t.val d
 | .eqs _ t=>t.val d
 | .and a _=>a.val d
 | .bad _ _=>d
def LT.pre{R Y:Type}:LT R Y→Bool
 | .ret _=>true
 | .more _=>false
 | .br b t e=>bif b then t.pre else e.pre
 | .need b t=>b&&t.pre
 | .eqs _ t=>t.pre
 | .and _ _=>false
 | .bad _ _=>false
def LT.YY{R Y:Type}:LT R Y→Prop
 | .ret _=>True
 | .more _=>True
 | .br _ t e=>t.YY∧e.YY
 | .need _ t=>t.YY
 | .eqs p t=>p∧t.YY
 | .and _ _=>True
 | .bad _ _=>True
theorem LT.runs{R Y:Type}{d:R}{step:Y→LT R Y}:∀{t:LT R Y},t.YY→t.pre=true→aB step t (t.val d)
 | .ret r,_,_=>.ret r
 | .more _,_,h=>by cases h
 | .br b t e,h1,h2=>by
   cases b with
   | true=>exact .br (LT.runs h1.1 h2)
   | false=>exact .br (LT.runs h1.2 h2)
 | .need b t,h1,h2=>by
   rw[LT.pre,Bool.and_eq_true] at h2
   exact .need h2.1 (LT.runs h1 h2.2)
 | .eqs p t,h1,h2=>.eqs h1.1 (LT.runs h1.2 h2)
 | .and _ _,_,h=>by cases h
 | .bad _ _,_,h=>by cases h
def LT.all{R Y:Type}(p:R→Prop):LT R Y→Prop
 | .ret r=>p r
 | .more _=>True
 | .br _ t e=>t.all p∧e.all p
 | .need _ t=>t.all p
 | .eqs _ t=>t.all p
 | .and a b=>a.all p∧b.all p
 | .bad _ _=>True
theorem LT.kR{R Y:Type}{d:R}{p:R→Prop}(hd:p d):∀{t:LT R Y},t.all p→p (t.val d)
 | .ret r,h=>h
 | .more _,_=>hd
 | .br b t e,h=>by
   cases b with
   | true=>exact LT.kR (t:=t) hd h.1
   | false=>exact LT.kR (t:=e) hd h.2
 | .need b t,h=>LT.kR (t:=t) hd h
 | .eqs _ t,h=>LT.kR (t:=t) hd h
 | .and a _,h=>LT.kR hd (t:=a) h.1
 | .bad _ _,_=>hd
section
variable {a b:Int} {k:IntKind}
theorem ax:ah.c .eql a b=(a==b):=rfl
theorem aD:ah.c .neq a b=(a != b):=rfl
theorem al:ah.c .lss a b=decide (a<b):=rfl
theorem ap:ah.c .leq a b=decide (a≤b):=rfl
theorem aH:ah.c .gtr a b=decide (b<a):=rfl
theorem aN:ah.c .geq a b=decide (b≤a):=rfl
theorem aG{x y:Bool}:ah.and x y=(x&&y):=rfl
theorem bE{x:Bool}:ah.not x=!x:=rfl
theorem dC{x y:Bool}:ah.q x y=(x==y):=rfl
theorem au{α β:Type}{f:α→β}{x:α}:ah.k f x=f x:=rfl
theorem bd:ah.b .add k a b=k.wrap (a+b):=rfl
theorem bf:ah.b .sub k a b=k.wrap (a-b):=rfl
theorem gV:ah.b .mul k a b=k.wrap (a*b):=rfl
theorem Jb:ah.b .quo k a b=k.wrap (a.tdiv b):=rfl
theorem Ux:ah.b .rem k a b=a.tmod b:=rfl
theorem bG:ah.v k a=k.wrap a:=rfl
theorem nR:ah.mn a b=if b<a then b else a:=rfl
theorem Iz:ah.mx a b=if b > a then b else a:=rfl
theorem Jr{t:Ty}{x:List t.T}:ah.n t x a=x.getD a.toNat t.eQ:=rfl
theorem fY{α:Type}{x:List α}:ah.s x a b=(x.take b.toNat).drop a.toNat:=rfl
theorem xP{α:Type}{x:List α}{v:α}:ah.set x a v=x.set a.toNat v:=rfl
theorem nD{α:Type}{v:α}:ah.r a v=List.replicate a.toNat v:=rfl
theorem jf{α:Type}{x y:List α}:ah.spl x a y=x.take a.toNat++y++x.drop (a.toNat+y.length):=rfl
theorem gZ(h1:-9223372036854775808≤a)(h2:a≤9223372036854775807):IntKind.i64.wrap a=a:=IntWalk.i64_in a ⟨h1,h2⟩
theorem Q7(h1:0≤a)(h2:a≤18446744073709551615):IntKind.u64.wrap a=a:=IntWalk.u64_in a ⟨h1,h2⟩
end
theorem ku{n:Int}:IntKind.i64.has n↔ -9223372036854775808≤n∧n≤9223372036854775807:=Iff.rfl
theorem vF{n:Int}:IntKind.u8.has n↔0≤n∧n≤255:=Iff.rfl
theorem cy{b x y:Bool}:(bif b then x else y)=true↔(b=true→x=true)∧(b=false→y=true):=by cases b<;>cases x<;>cases y<;>decide
theorem oO{α:Type}{b:Bool}{x y r:α}:(bif b then x else y)=r↔(b=true∧x=r)∨(b=false∧y=r):=by cases b<;>simp
theorem cm{α:Type}{x:α}:tt x=true:=rfl
def LT.Gr{R Y:Type}:LT R Y→Bool
 | .br _ t e=>t.Gr&&e.Gr
 | .need _ t=>t.Gr
 | .eqs _ _=>false
 | _=>true
theorem LT.fX{R Y:Type}:∀{t:LT R Y},t.Gr=true→t.YY
 | .ret _,_=>trivial
 | .more _,_=>trivial
 | .br _ t e,h=>by
   rw[LT.Gr,Bool.and_eq_true] at h
   exact⟨LT.fX h.1,LT.fX h.2⟩
 | .need _ t,h=>LT.fX (t:=t) h
 | .and _ _,_=>trivial
 | .bad _ _,_=>trivial
section
variable {P:Program} {ti:PT TI} (ht:iJ P ti) (hm:P.follows .mixedOrders=true) {g:FuncId} {F:Func} {args res:List Ty} {dy:List (FuncId×Func)} {da:List (FuncId×aC)} {pre:Ty.Ts args→Bool} {fn:Ty.Ts args→Ty.Ts res}
include ht hm
theorem aL(q:Bool)(n:Nat)(dp:List Stop)(start:aK→Ty.Ts args→LT (Ty.Ts res) Empty)(hf:mG P ((g,F)::dy))(hs:nf P da)
  (hr:∀x,pre x=true→Ty.cq args x→(start ah x).pre=true)
  (heq:∀x,(start ah x).YY:=by intro x;exact LT.fX (by kernel_rfl))
  (hb:F.body.isSome=true:=by kernel_rfl) (hl:(Nat.ble args.length F.ntmps&&Nat.ble F.ntmps 65535)=true:=by kernel_rfl)
  (h0:∀A x,Tr.Is q (run A (Vg ti A res ((g,F)::dy) da [] dp) n (iN g F (cr A args x))) ((start A x).tr Empty.elim):=by intro A x;first|exact⟨by kernel_rfl,by kernel_rfl⟩|(show Tr.full _=_;kernel_rfl))
  (hfn:∀x,fn x=(start ah x).val (Ty.bl res):=by intro x;kernel_rfl):aC.Sound P g ⟨args,res,pre,fn⟩:=
 aQ ht hm q n dp start hf hs (fun x hp h=>hfn x▸LT.runs (heq x) (hr x hp h)) hb hl h0
end
def vi(x:Int):AV:=.int .i64 false x
def vb(x:Bool):AV:=.bool false x
def dc(t:Ty)(x:t.T):List AV:=e_ ah t x
def en(l:List (Nat×AV)):Env:=l.foldl (fun e p=>e.put p.1 p.2) .leaf
def cw(F:Func)(l:List Nat):Code:=Code.Q9 (OV F) l
def ow(F:Func)(l:List Nat):Array Oper:=opsOf (Code.Q9 (OV F) l)
abbrev yI:Ty:=.int .i64
abbrev yU:Ty:=.int .u8
abbrev yB:Ty:=.slice yU
abbrev BW:Ty:=.slice yI
end Go.Ev
