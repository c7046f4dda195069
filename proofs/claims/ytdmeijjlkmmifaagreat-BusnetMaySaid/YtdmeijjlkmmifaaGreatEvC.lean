/-
  PROVED: the evaluator: regions that draw their order, the theorem on the whole, contracts of functions, and from a contract to a law. Conditions: the type table, the functions and the contracts fit the program.
-/
import Derived.Test.YtdmeijjlkmmifaaGreatEvB
import Derived.KernelRfl
import Derived.Laws.StructEq
import Derived.WalkKit
import Derived.ProofKit
import Derived.OpenShut
import Derived.SizedLaws
import Derived.Carry
import Derived.IntWalk
set_option linter.unusedVariables false
set_option linter.unusedSimpArgs false
set_option linter.unusedSectionVars false
namespace Go.Ev
section
variable {P:Program} {R:Type} {E:kF R} {w0:nu} {I0:Nat->Prop} {f0:FuncId} {Fin:R->Value->World->Prop} {Q:R->Prop}
variable {w:World} {S:St} {m:Mem} {fr:Frame} {fs:List dK} {frs cs:List Frame}
variable {n:Nat}
theorem J8:∀{f:List Nat} {j:List AV} {h:List Value} {env:Env} {c:Array Value} {nn:Nat},dZ w S m j h->f.length=j.length->(∀p∈f,p<nn)->c.size=nn->nn<=65535->(∀i,CR w S m (env.at i) (c.getD i undef))->
  ((f.zip h).foldl (λc (t,a)=>c.setIfInBounds t a) c).size=nn/\∀i,CR w S m ((Ak f j env).at i) (((f.zip h).foldl (λc (t,a)=>c.setIfInBounds t a) c).getD i undef)
 | [],j,h,env,c,nn,_,_,_,hs,_,he=>by simp_all [Ak]
 | p::f, [],h,env,c,nn,_,hl,_,_,_,_=>by simp_all
 | p::f,a::j,h,env,c,nn,hc,hl,hp,hs,hn,he=>by
   obtain⟨u,r,rfl,y,o⟩:=bQ.1 hc;simp only[Ak];have v:=hp p aQ;refine J8 (nn:=nn) o (by simp_all) (λq x=>hp q (aC _ x)) (by grind) hn λi=>?_;rw[Env.zO (by omega)];by_cases z:i=p
   all_goals simp_all [gX]
theorem F2{α β γ:Type}(f:γ->α×β->γ)(x:γ)(a:Array α)(b:Array β):(a.zip b).foldl f x=(a.toList.zip b.toList).foldl f x:=by
 rw[<-Array.foldl_toList,Array.toList_zip]
theorem Jb{ρ:Operand->Value}{x:Operand}{args:Array Operand}{f:Array TypeId}{t:TypeId}{l:Nat}{r:Loop}(i:ρ x=.func (.yield l) #[] #[])(h:w.heap[l]? = some (.loop r))(j:args.size=r.params.size) :
  (do let d <-resolve ρ {callee:=.value x,args:=args,argTypes:=f} t;invoke d.target d.args:Sem Next).run P w =
    .ok (.round l r.fn ((r.params.zip (args.map ρ)).foldl (λc (t,a)=>c.setIfInBounds t a) r.tmps) r.assign r.body) w:=by
 simp only[resolve,i,Deferred.ofValue,Array.empty_append];exact run_yield h (by grind)
theorem Jr{c:Operand->AV}{f:Operand->Value}(h:∀x,CR w S m (c x) (f x))(l:Array Operand):dZ w S m (l.toList.map c) (l.map f).toList:=by grind [Array.toList_map,EF]
theorem Tp(hP:Fits P E Fin w0 I0)(ih:∀c,Tr.Ok Q (Good P E w0 I0 f0 Fin Q) (run af E n c)->Good P E w0 I0 f0 Fin Q c)
  {all:Array Oper} {i:Nat} {l:List Nat} {kc:List Item} {o:Oper} {ρ:Operand->AV} {fn:FuncId} {below:dK} {next:AV->Mem->Tr R}
  (hW:WR w0 w S m) (hI:∀b,S.I b->I0 b\/w0.free b) (as:E3 w S m fs frs) (hB:zG f0 (below::fs)) (hm:fr.mode=.run)
  (ht:fr.todo=.inRegion all (i::l)::kc) (ho:all[i]? = some o) (hw:Region.wanted o (yielded all fr.tmps)=true)
  (hρ:∀x∈o.op.operands.toList,CR w S m (ρ x) (fr.eval x)) (J:FR w S m below fr)
  (u:∀v Z w' S' z,Step w0 w S m w' S' Z->CR w' S' Z v z->Tr.Ok Q (Good P E w0 I0 f0 Fin Q) (next v Z)->Ends P f0 Fin Q (fr.finish z) frs cs w')
  (h:Tr.Ok Q (Good P E w0 I0 f0 Fin Q) (match tP af E ρ m o with
        | some tv=>tv.bind o.pos λv=>next v m
        | none=>match o.op with
          | .call {callee:=.value x,args,.. }=>match ρ x with
            | .fn g first j=>match look E.jZ g with
              | some s=>(vB af s m (first++(args.toList.map ρ++j))).bind o.pos λp=>next p.1 p.2
              | none=>match sO af E g m (first++(args.toList.map ρ++j)) with
               | some tv=>tv.bind o.pos λp=>next p.1 p.2
               | none=>match look E.lL g with
                | none=>.bZ 163 o.pos
                | some G=>match jh g G (first++(args.toList.map ρ++j)) with
                  | none=>.bZ 164 o.pos
                  | some h=>run af E n {bF:=h::below::fs,mem:=m}
            | .yield l=>match m.at l with
               | .loop r=>match Nat.beq r.params.length (args.toList.map ρ).length&&r.params.all (λp=>Nat.blt p r.n) with
                 | true=>run af E n {bF:={fn:=r.fn,n:=r.n,env:=Ak r.params (args.toList.map ρ) r.env,todo:=[.code r.assign,.beginRound,.code r.body],marks:=[],gi:=some l}::below::fs,mem:=m}
                 | false=>.bZ 165 o.pos
               | _=>.bZ 166 o.pos
            | _=>.bZ 167 o.pos
          | _=>(xf af E fn ρ m o).bind o.pos λp=>next p.1 p.2)):Ends P f0 Fin Q fr frs cs w:=by
 classical
 let ρ':Operand->AV:=λx=>if x∈o.op.operands.toList then ρ x else .undef
 have b0:∀x,CR w S m (ρ' x) (fr.eval x):=λx=>by
  by_cases hx:x∈o.op.operands.toList
  ·grind
  ·simp only[ρ',if_neg hx];exact gK
 have D:∀x∈o.op.operands.toList,ρ x=ρ' x:=λx hx=>by grind
 rw[DG D,Ns D] at h;cases hev:tP af E ρ' m o with
 | some tv=>
   rw[hev] at h;obtain⟨v,X,h⟩:=TV.bind_ok h;obtain⟨z,hz,hc⟩:=DI hP.ti hW b0 hev X;have O:∀c,o.op≠.defer c:=λc e=>by grind [tP]
   exact .step (Re hm ht ho hw O hz) (u v m w S z (.refl hW) hc h)
 | none=>
   rw[hev] at h;simp only at h;have other:Tr.Ok Q (Good P E w0 I0 f0 Fin Q) ((xf af E fn ρ' m o).bind o.pos λp=>next p.1 p.2)->Ends P f0 Fin Q fr frs cs w:=by
    intro h;obtain⟨⟨v,Z⟩,X,h⟩:=TV.bind_ok h;obtain⟨nx,z,w',S',a6,b9,hs,hc⟩:=Nt hP.ti hW b0 X;have O:∀c,o.op≠.defer c:=λc e=>by simp[xf,e,TV.Is] at X
    rcases b9 with rfl|⟨rfl,rfl⟩
    ·exact .step (Re hm ht ho hw O a6) (u v Z w' S' z hs hc h)
    ·exact .step (alT hm ht ho hw O a6) (u _ Z w' S' undef hs gK h)
   split at h
   ·rename_i x args b3 ac
    have O:∀c,o.op≠.defer c:=λc e=>by rw[ac] at e;cases e
    have hx:CR w S m (ρ x) (fr.eval x):=hρ x (by rw[ac];simp[Op.operands,Call.operands]);have N:dZ w S m (args.toList.map ρ) (args.map fr.eval).toList:=by
     have e:args.toList.map ρ=args.toList.map ρ':=uX λy hy=>D y (by grind [Op.operands,Call.operands])
     grind [Jr]
    have A:∀nx,(do let d <-resolve fr.eval {callee:=.value x,args:=args,argTypes:=b3} o.type;invoke d.target d.args:Sem Next).run P w=.ok nx w->(execOp fr.eval o).run P w=.ok nx w:=λnx he=>by
     simp only[execOp,ac];exact he
    cases X:ρ x<;>rw[X] at h hx<;>(try simp only at h)<;>try exact h.elim
    ·rename_i g first j
     obtain⟨us,vs,W,bb,bc⟩:=uU.1 hx;have K:dZ w S m (first++(args.toList.map ρ++j)) (us++args.map fr.eval++vs).toList:=by
      rw[Array.append_assoc,f_,f_];exact bb.append (N.append bc)
     cases hsp:look E.jZ g with
     | some s=>
       rw[hsp] at h;obtain⟨⟨v,Z⟩,X,h⟩:=TV.bind_ok h;obtain⟨F,hF,hb,hn⟩:=(hP.jZ g s hsp).body;obtain⟨w',S',z,iH,hs,hc,C,B⟩:=AU (hP.jZ g s hsp) (λd=>(hP.yA d).1 g s hsp) hW K X (fr::(frs++cs));have f:=Mu (cs:=frs++cs) hm ht ho hw O (A _ (ox W hF hn hb w));exact .steps ((Steps.head f C).trans (.one (step_leave_returned B))) (u v Z w' S' z hs hc h)
     | none=>
       rw[hsp] at h;cases hpp:sO af E g m (first++(args.toList.map ρ++j)) with
       | some tv=>
         rw[hpp] at h;obtain⟨⟨v,Z⟩,X,h⟩:=TV.bind_ok h;obtain⟨⟨F,hF,hb,hn⟩,aa⟩:=Fx hP hpp;obtain⟨w',S',z,iH,hs,hc,C,B⟩:=aa hW K X (fr::(frs++cs));have f:=Mu (cs:=frs++cs) hm ht ho hw O (A _ (ox W hF hn hb w));exact .steps ((Steps.head f C).trans (.one (step_leave_returned B))) (u v Z w' S' z hs hc h)
       | none=>
       rw[hpp] at h;simp only at h;cases hG:look E.lL g with
       | none=>rw[hG] at h;exact h.elim
       | some G=>
         rw[hG] at h;simp only at h;cases hen:jh g G (first++(args.toList.map ρ++j)) with
         | none=>rw[hen] at h;exact h.elim
         | some h'=>
           rw[hen] at h;simp only at h;obtain⟨aq,b6⟩:=hP.lL _ _ hG;obtain⟨b7,a8,aw⟩:=kG aq hen K;have f:=Mu (cs:=frs++cs) hm ht ho hw O (A _ (ox W aq b6 a8 w));exact .step (frs2:=fr::frs) f (ih _ h (gJ aw) S _ _ cs w hW hI ⟨_,_,rfl,b7,_,_,rfl,J,as⟩ hB)
    ·rename_i lp
     cases hml:m.at lp<;>rw[hml] at h<;>(try simp only at h)<;>try exact h.elim
     rename_i r;have W:fr.eval x=.func (.yield (S.σ lp)) #[] #[]:=by grind [CR]
     cases hok:Nat.beq r.params.length (args.toList.map ρ).length&&r.params.all (λp=>Nat.blt p r.n) with
     | false=>rw[hok] at h;exact h.elim
     | true=>
       rw[hok] at h;simp only at h;rw[fv] at hok;obtain⟨V,av⟩:=hok;have V:=vH V;have av:∀p∈r.params,p<r.n:=λp hp=>by simp_all
       have hb:=hW.box lp;rw[hml] at hb;obtain⟨L,g1,g2,g3,g4,g5,g6,g7,⟨g8,g9⟩,b4⟩:=hb;have ba:args.size=L.params.size:=by grind
       have f:=alS (P:=P) (cs:=frs++cs) hm ht ho hw O (A _ (Jb W g1 ba));have a5:=J8 N V av g8 g9 b4;rw[F2,g4,g5,g6,g7] at f;refine .step (frs2:=fr::frs) f (ih _ h (gJ λa ha=>by cases ha;rfl) S _ _ cs w hW hI ⟨_,_,rfl,?_,_,_,rfl,J,as⟩ hB);refine⟨rfl,a5.1,g9,λy _=>a5.2 y,fL.code (.mk (a:=.beginRound) rfl (fL.code rfl)),?_,λa ha=>?_,rfl,λd O=>absurd O aI,rfl,rfl,rfl,λq hq=>by cases hq;rw[hml];rfl⟩
       ·exact .mk trivial (.mk trivial (.mk trivial λa ha=>absurd ha aI))
       ·simp only[List.tail_cons,aG,aI,or_false] at ha
        rcases ha with rfl|rfl<;>rfl
   ·exact other h
end
end Go.Ev
namespace Go.Ev
variable{D:List Nat}
section
variable {P:Program} {R:Type} {E:kF R} {w0:nu} {I0:Nat->Prop} {f0:FuncId} {Fin:R->Value->World->Prop} {Q:R->Prop}
variable {w:World} {S:St} {m:Mem} {fr:Frame} {fs:List dK} {frs cs:List Frame}
variable {fn:FuncId} {nn:Nat} {env:Env} {marks:List Nat} {gi:Option Nat} {k:List dR} {n:Nat}
def EG(env c:Env)(D:List Nat):Prop:=∀x,c.at x=env.at x\/(x∈D/\∃v,env.at x=.bool false v/\c.at x=.bool true v)
theorem EG.CR{c:Env}(h:EG env c D){x:Nat}{v:Value}(f:CR w S m (env.at x) v):CR w S m (c.at x) v:=by
 rcases h x with e|⟨_,b,i,j⟩
 ·grind
 ·rw[i] at f;rw[j];exact ij.2 (ij.1 f)
theorem FR.TE{f:Env}{j:List dR}(h:EG env f D)(c:FR w S m ⟨fn,nn,env,j,marks,gi⟩ fr):FR w S m ⟨fn,nn,f,j,marks,gi⟩ fr:=
 ⟨c.fn,c.n,c.small,λi o=>h.CR (c.env i o),c.todo,c.live,c.ay,c.defers,c.marks,c.mode,c.kind,c.gi,c.uu⟩
theorem aco{f:List dR}(o:FR w S m ⟨fn,nn,env,f,marks,gi⟩ fr){d:Nat}{c v:Bool}(j:¬Hid ⟨fn,nn,env,f,marks,gi⟩ fr d)(h:env.at d=.bool c v):d<nn:=by
 have i:=o.env d j;rw[show(dK.env ⟨fn,nn,env,f,marks,gi⟩).at d=.bool c v from h] at i;rcases Nat.lt_or_ge d nn with p|p
 ·omega
 ·rw[dQ,Array.getElem?_eq_none (by rw[o.n];omega)] at i;cases i
theorem ae5(hP:Fits P E Fin w0 I0)(ih:∀c,Tr.Ok Q (Good P E w0 I0 f0 Fin Q) (run af E n c)->Good P E w0 I0 f0 Fin Q c){all:Array Oper}{o:Oper}{f:List Oper}
  (h:Tr.Ok Q (Good P E w0 I0 f0 Fin Q) (run af E (n+1) {bF:=⟨fn,nn,env,.ops all (o::f)::k,marks,gi⟩::fs,mem:=m}))
  (hW:WR w0 w S m) (hI:∀b,S.I b->I0 b\/w0.free b) (B:FR w S m ⟨fn,nn,env,.ops all (o::f)::k,marks,gi⟩ fr) (G:E3 w S m fs frs) (hB:zG f0 (⟨fn,nn,env,.ops all (o::f)::k,marks,gi⟩::fs)) :
  Ends P f0 Fin Q fr frs cs w:=by
 have A:∀{env:Env} y,¬Hid ⟨fn,nn,env,.ops all (o::f)::k,marks,gi⟩ fr y:=λy=>oD λa V=>by cases V;rfl
 obtain⟨it,kc,ht,h1,h2⟩:=B.todo.cons_inv;obtain⟨l,rfl,X⟩:∃l:List Nat,it=.inRegion all l/\l.map (λi=>all[i]?)=(o::f).map some:=h1;cases l with
 | nil=>grind
 | cons i l=>
   simp at X;simp only[run] at h;split at h;exact h.elim;rename_i hd;obtain⟨j,Z,h⟩:=F9 h λd _ c v e=>by have:=aco B (A d) e;have:nn<=65535:=B.small;omega
   have p:=B.TE (D:=iv all o) Z;have hw:∀{t:Bool},jw all j o t->Region.wanted o (yielded all fr.tmps)=t:=λJ=>sU J λd _=>p.env d (A d)
   have u:∀{v:AV} {K:Mem} {N:World} {O:St} {z:Value},Step w0 w S m N O K->CR N O K v z->
     Tr.Ok Q (Good P E w0 I0 f0 Fin Q) (run af E n {bF:=⟨fn,nn,j.ov o.dst v,.ops all f::k,marks,gi⟩::fs,mem:=K})->Ends P f0 Fin Q (fr.finish z) frs cs N:=λC W h=>
    ih _ h (gJ λa V=>by cases V;rfl) _ _ _ cs _ C.wr (λb hb=>(C.grows b hb).elim (hI b) .inr) ⟨_,_,rfl,FH (p.mono C.out) hd W,G.mono C.out⟩ (hB.swap rfl)
   rcases h with ⟨J,h⟩|⟨J,h⟩
   ·exact Tp (fn:=fn) (ρ:=mC j) (below:=⟨fn,nn,j,.ops all (o::f)::k,marks,gi⟩) (next:=λv m=>run af E n {bF:=⟨fn,nn,j.ov o.dst v,.ops all f::k,marks,gi⟩::fs,mem:=m})
     hP ih hW hI G (hB.swap rfl) B.mode ht X.1 (hw J) (λx _=>BG p x λt _=>A t) p (λv K N O z C W h=>u C W h) h
   ·exact .step (Kk B.mode ht X.1 (hw J)) (u (.refl hW) (kl.2 ⟨#[],rfl,bC.2 rfl⟩) h)
end
end Go.Ev
namespace Go.Ev
theorem JA(e:Edge):Region.binds .any e=uF e:=by rfl
theorem xd:∀{c:List Oper} {k i:Nat} {o:Oper},pO k c=true->c[i]? = some o->∀e∈o.after.toList,uF e=true->e.on<k+i
 | [],k,i,o,_,h=>by grind
 | p::c,k,i,o,he,h=>by
   rw[pO,fv] at he;cases i with
   | zero=>
     cases h;intro e hm f;have:=bH.1 he.1 e hm
     simp_all
   | succ i=>
     intro e hm f;have:=xd he.2 (by simpa using h) e hm f;omega
variable{i:Nat}
theorem uk{all:Array Oper}{j:Nat}:j∈oE all i↔∃o e,all[i]? = some o/\e∈o.after.toList/\uF e=true/\e.on=j:=by grind [oE]
theorem pred_lt{all:Array Oper}(h:pO 0 all.toList=true){j:Nat}(u:j∈oE all i):j<i:=by
 obtain⟨o,e,c,f,p,rfl⟩:=uk.1 u;have:=xd h (by rw[Array.getElem?_toList];exact c) e f p;omega
structure ahF(all:Array Oper)(acc:List Nat):Prop where
 nodup:acc.Nodup
 lt:∀i∈acc,i<all.size
 agT:∀i∈acc,∀j∈oE all i,j∈acc
 pw:acc.Pairwise λi j=>i ∉ oE all j
theorem ahF.lin{all:Array Oper}{c:List Nat}(h:ahF all c)(o:pO 0 all.toList=true)(j:∀i,i<all.size->i∈c):V7 all c.reverse/\∀i,i<all.size->i∈c.reverse:=
 ⟨⟨List.pairwise_reverse.2 (h.nodup.imp gX),λi f=>h.lt i (nT.1 f),List.pairwise_reverse.2 h.pw,λi _ v=>eD _ (pred_lt o v),
  λk p u=>absurd (nT.2 (j k p)) u⟩,λi f=>nT.2 (j i f)⟩
theorem J9{all:Array Oper}{c:Array Bool}{f:List Nat}(J:c.size=all.size)(hm:∀i,i<all.size->(c.getD i false=true↔i∈f))(A:∀i∈f,i<all.size)(u:i<all.size):
  (!c.getD i true&&((all[i]?).map (·.after.all λe=>!Region.binds .any e||c.getD e.on false)).getD false)=true↔i ∉ f/\∀j∈oE all i,j∈f:=by
 have v:c.getD i true=c.getD i false:=by simp_all
 have x:∀j,c.getD j false=true↔j∈f:=λj=>by grind
 rw[v,fv,fB,gE u];simp only[oV,Option.getD_some,Array.all_eq_true',oS];constructor
 ·rintro ⟨y,p⟩
  refine⟨λh=>(by grind),λj z=>?_⟩;obtain⟨o,e,B,C,D,rfl⟩:=uk.1 z
  grind [JA]
 ·rintro ⟨y,p⟩
  refine⟨?_,λe G=>?_⟩
  ·grind
  ·cases hb:Region.binds .any e with
   | false=>simp_all
   | true=>exact .inr ((x _).2 (p _ (uk.2 ⟨_,e,gE u,by simp_all,by grind [JA],rfl⟩)))
theorem Bp{all:Array Oper}(x:pO 0 all.toList=true):∀(h t:Nat) (c:Array Bool) (f:List Nat),c.size=all.size->(∀i,i<all.size->(c.getD i false=true↔i∈f))->ahF all f->
  ((List.range all.size).filter λi=>decide (i ∉ f)).length<=h->V7 all (Region.linearise.go .any all h t c f)/\∀i,i<all.size->i∈Region.linearise.go .any all h t c f
 | 0,t,c,f,hl,hm,hP,hf=>by
   refine hP.lin x λi v=>?_
   simp_all
 | h+1,t,c,f,hl,hm,hP,hf=>by
   rw[Region.linearise.go];split
   ·rename_i i v
    have u:=jb v;obtain⟨D,G⟩:=gH.1 u;have A:=gm.1 D;obtain⟨z,V⟩:=(J9 hl hm hP.lt A).1 G;refine Bp x h _ _ _ (by grind) (λj o=>?_) ⟨bS.2 ⟨z,hP.nodup⟩,λj o=>?_,λj o k J=>?_,mG.2 ⟨λj o K=>z (hP.agT j o i K),hP.pw⟩⟩ ?_
    ·simp only[dQ,Array.getElem?_setIfInBounds]
     by_cases B:i=j
     ·simp_all
     ·rw[if_neg B,<-dQ,hm j o,aG]
      grind
    ·rcases aG.1 o with rfl|o
     ·omega
     ·exact hP.lt j o
    ·rcases aG.1 o with rfl|o
     ·simp_all
     ·exact aC _ (hP.agT j o k J)
    ·have e:(List.range all.size).filter (λj=>decide (j ∉ i::f))=((List.range all.size).filter λj=>decide (j ∉ f)).filter λj=>decide (j≠i):=by simp_all
     rw[e]
     have:(((List.range all.size).filter λj=>decide (j ∉ f)).filter λj=>decide (j≠i)).length<((List.range all.size).filter λj=>decide (j ∉ f)).length:=
      List.length_filter_lt_length_iff_exists.2 ⟨i,gH.2 ⟨D,by simpa using z⟩,by simp⟩
     omega
   ·rename_i W
    refine hP.lin x λi v=>?_;have O:∀i,i<all.size->i∈f:=λi=>by
     induction i using Nat.strongRecOn with
     | ind i C=>
       intro v;by_cases y:i∈f
       ·exact y
       ·have N:=(J9 hl hm hP.lt v).2 ⟨y,λj o=>C j (pred_lt x o) (by have:=pred_lt x o;omega)⟩
        have u:=gH (p:=λi=>!c.getD i true&&((all[i]?).map (·.after.all λe=>!Region.binds .any e||c.getD e.on false)).getD false) |>.2 ⟨gm.2 v,N⟩
        grind [Nat.mod_lt]
    grind
theorem Ml{all:Array Oper}(c:pO 0 all.toList=true)(t:Nat):V7 all (Region.schedule true all t)/\∀i,i<all.size->i∈Region.schedule true all t:=by
 refine Bp c _ _ _ _ (by simp) (λi f=>?_) ⟨pY,λ_ h=>absurd h aI,λ_ h=>absurd h aI,.nil⟩ ?_
 ·simp_all
 grind
theorem Aa{f:List Nat}{b:Nat}:∀{c:List Edge},(pU f c).testBit b=true->∃e∈c,uF e=true/\(b=e.on\/(f.getD e.on 0).testBit b=true)
 | [],h=>by grind [pU]
 | e::c,h=>by
   simp only[pU] at h;cases hb:uF e with
   | false=>
     rw[hb] at h;obtain⟨i,j,o⟩:=Aa h
     grind
   | true=>
     rw[hb] at h;simp at h;rcases h with (h|h)|h
     ·grind
     ·simp_all
     ·obtain⟨i,j,o⟩:=Aa h
      grind
theorem xG:∀{f:List Oper} {c:List Nat} {j:Nat},j<c.length->(oB f c).getD j 0=c.getD j 0
 | [],c,j,_=>by rfl
 | o::f,c,j,h=>by
   rw[oB,xG (by simp;omega)]
   grind
theorem DZ:∀{os:List Oper} {ms:List Nat} {i:Nat} {o:Oper},os[i]? = some o->(∀e∈o.after.toList,uF e=true->e.on<ms.length+i)->(oB os ms).getD (ms.length+i) 0=pU (oB os ms) o.after.toList
 | [],ms,i,o,h,_=>by grind
 | p::os,ms,i,o,h,he=>by
   rw[oB];have f:(ms ++ [pU ms p.after.toList]).length=ms.length+1:=by simp
   cases i with
   | zero=>
     rw[ky,xG (by omega)];have u:∀j,j<ms.length->(oB os (ms ++ [pU ms p.after.toList])).getD j 0=ms.getD j 0:=λj y=>by grind [xG]
     have v:∀c:List Edge,(∀e∈c,uF e=true->e.on<ms.length)->pU ms c=pU (oB os (ms ++ [pU ms p.after.toList])) c:=λc=>by
      induction c with
      | nil=>intro _;rfl
      | cons e c ih=>
        grind [pU]
     grind
   | succ i=>
     have:=DZ (os:=os) (ms:=ms ++ [pU ms p.after.toList]) (i:=i) (o:=o) (by simp_all) (λe hm x=>by grind)
     grind
variable{l:List Nat}
theorem UZ{all:Array Oper}(y:pO 0 all.toList=true)(C:V7 all l):∀{i b:Nat},i<all.size->(∀j∈oE all i,j ∉ l)->((oB all.toList []).getD i 0).testBit b=true->b ∉ l:=by
 intro i
 induction i using Nat.strongRecOn with
 | ind i v=>
   intro b D J x;obtain⟨o,G⟩:∃o,all[i]? = some o:=⟨_,gE D⟩;have c:all.toList[i]? = some o:=by grind
   have p:=xd y c;have:=DZ (ms:=[]) c (λe hm h=>by grind);rw[List.length_nil,Nat.zero_add] at this;rw[this] at x;obtain⟨e,A,B,f⟩:=Aa x;have z:e.on∈oE all i:=uk.2 ⟨o,e,G,A,B,rfl⟩;have u:=pred_lt y z;rcases f with rfl|f
   ·grind
   ·exact v e.on u (by omega) (C.closed e.on (by omega) (J _ z)) f
theorem V7.UR{all:Array Oper}(h:V7 all (i::l)):∀j∈oE all i,j ∉ i::l:=λj c hm=>by
 rcases aG.1 hm with rfl|hm
 ·exact h.self j aQ c
 ·exact(mG.1 h.pw).1 j hm c
theorem iP.done{n:Nat}{all:Array Oper}{f c bs:List Nat}{b:Nat}(h:iP n all f c bs (i::l))(j:(f.getD i 0).testBit b=true):b ∉ i::l:=by
 exact h.msk [] i l rfl b j
theorem Zv{all:Array Oper}(j:pO 0 all.toList=true)(f:V7 all l):E5 (oB all.toList []) l:=λl1 i l2 e b h=>by
 subst e;have c:V7 all (i::l2):=by
  induction l1 with
  | nil=>grind
  | cons x l1 ih=>exact ih f.tail
 exact UZ j c (c.lt i aQ) c.UR h
end Go.Ev
namespace Go.Ev
variable{i:Nat}{l:List Nat}{o:Oper}{t:Nat}{v:AV}
section
variable {P:Program} {R:Type} {E:kF R} {w0:nu} {I0:Nat->Prop} {f0:FuncId} {Fin:R->Value->World->Prop} {Q:R->Prop}
variable {w:World} {S:St} {m:Mem} {fr:Frame} {fs:List dK} {frs cs:List Frame}
variable {fn:FuncId} {nn:Nat} {env:Env} {marks:List Nat} {gi:Option Nat} {k:List dR} {n:Nat}
theorem Vv{a b:AV}{z:Value}(h:oX a b)(c:CR w S m a z):CR w S m b z:=by
 unfold oX at h;split at h
 ·subst h;exact ij.2 (ij.1 c)
 ·obtain⟨rfl,rfl⟩:=h;exact fo.2 (fo.1 c)
 grind
theorem KX{A:aU}{s:aK}{c:List AV}{f:Mem}(i:uo (c.flatMap AV.cells)=true)(h:(vB A s m c).Is (v,f)):f=m:=by
 unfold vB at h;cases hok:kQ s.args c with
 | false=>rw[hok] at h;exact h.elim
 | true=>
   rw[hok,F4 i] at h;simp only at h;cases htd:qM s.args (c.flatMap AV.cells) with
   | none=>rw[htd] at h;exact h.elim
   | some q=>
     obtain⟨x,r⟩:=q;rw[htd] at h;cases r with
     | cons _ _=>exact h.elim
     | nil=>
       cases hs:s.Na<;>rw[hs] at h
       ·cases h.2;rfl
       ·cases h;rfl
theorem af5(W:Fits P E Fin w0 I0){all:Array Oper}{kc:List Item}{ρ:Operand->AV}{tv:TV AV}(Z:WR w0 w S m)(hm:fr.mode=.run)
  (ht:fr.todo=.inRegion all (i::l)::kc) (ho:all[i]? = some o) (hw:Region.wanted o (yielded all fr.tmps)=true) (hρ:∀x∈o.op.operands.toList,CR w S m (ρ x) (fr.eval x))
  (h:evV af E m ρ o=some tv) (hv:tv.Is v) (cs:List Frame):∃O V z,Step w0 w S m O V m/\CR O V m v z/\Steps P (lone fr cs w) (lone (fr.finish z) cs O):=by
 classical
 let D:Operand->AV:=λx=>if x∈o.op.operands.toList then ρ x else .undef
 have C:∀x,CR w S m (D x) (fr.eval x):=λx=>by
  by_cases N:x∈o.op.operands.toList
  ·grind
  ·simp only[D,if_neg N];exact gK
 have A:∀x∈o.op.operands.toList,ρ x=D x:=λx N=>by grind
 rw[CG A] at h;unfold evV at h;cases hev:tP af E D m o with
 | some as=>
   rw[hev] at h;cases h;obtain⟨z,hz,hc⟩:=DI W.ti Z C hev hv;have hd:∀c,o.op≠.defer c:=λc e=>by grind [tP]
   exact⟨w,S,z,.refl Z,hc,.one (Re hm ht ho hw hd hz)⟩
 | none=>
   rw[hev] at h;unfold AT at h;cases hop:o.op<;>rw[hop] at h<;>(try simp only at h)<;>try (cases h;done)
   rename_i c;obtain⟨f,args,X⟩:=c;cases f<;>simp only at h<;>try (cases h;done)
   rename_i x;have hd:∀c,o.op≠.defer c:=λc e=>by simp_all
   have N:=C x;have u:dZ w S m (args.toList.map D) (args.map fr.eval).toList:=Jr C args;have y:∀nx,(do let d <-resolve fr.eval {callee:=.value x,args:=args,argTypes:=X} o.type;invoke d.target d.args:Sem Next).run P w=.ok nx w->(execOp fr.eval o).run P w=.ok nx w:=λnx he=>by grind [execOp]
   cases hvx:D x<;>rw[hvx] at h N<;>(try simp only at h)<;>try (cases h;done)
   rename_i g first G
   obtain⟨us,vs,a7,a5,a6⟩:=uU.1 N;have J:dZ w S m (first++(args.toList.map D++G)) (us++args.map fr.eval++vs).toList:=by
    rw[Array.append_assoc,f_,f_];exact a5.append (u.append a6)
   cases hsp:look E.jZ g with
   | none=>simp_all
   | some s=>
     rw[hsp] at h;simp only at h;split at h
     rotate_left
     cases h;rename_i a4;cases h;obtain⟨⟨v',m'⟩,K,rfl⟩:=TV.Gk hv;obtain rfl:=KX a4 K;obtain⟨F,hF,hb,hn⟩:=(W.jZ g s hsp).body;obtain⟨O,V,z,iH,hs,hc,p,j⟩:=AU (W.jZ g s hsp) (λd=>(W.yA d).1 g s hsp) Z J K (fr::cs);have B:=Mu (cs:=cs) hm ht ho hw hd (y _ (ox a7 hF hn hb w));exact⟨O,V,z,hs,hc,(Steps.head B p).trans (.one (step_leave_returned j))⟩
theorem Ab{t:Nat}:∀{l:List Operand},Operand.tmp t∈l->t∈tmpsOf l
 | x::l,h=>by
   rcases aG.1 h with rfl|c
   ·exact aQ
   ·cases x<;>simp only[tmpsOf]
    ·exact aC _ (Ab c)
    all_goals exact Ab c
theorem vT{all:Array Oper}(h:Operand.tmp t∈o.op.operands.toList):t∈kL all o:=nY.2 (.inl (Ab h))
theorem pn{all:Array Oper}(h:t∈iv all o):t∈kL all o:=nY.2 (.inr h)
theorem BA{all:Array Oper}{z c bs:List Nat}{O:List Item}{f:dK}(J:iP nn all z c bs (i::l))(K:f.todo.head?.bind dR.drawn=some (all,bs))(ht:fr.todo=.inRegion all (i::l)::O)
  (j:∀b∈bs,i≠b->∀p d,all[b]? = some p->p.dst=some d->d∈kL all o->(z.getD i 0).testBit b=true) (y:i∈bs->∀d,∀p,all[i]? = some p->p.dst=some d->d ∉ kL all o) {t:Nat} (N:t∈kL all o):¬Hid f fr t:=by
 rintro ⟨u,A,W,V,b,p,v,x,B,C,D,G⟩
 rw[K] at v;cases v;rw[ht] at x;cases x;by_cases h:i=b
 ·grind
 ·exact J.done (j b B h p t D G N) C
theorem iP.drop{all:Array Oper}{o c bs:List Nat}(h:iP nn all o c bs (i::l))(p:i ∉ c):iP nn all o c bs l:=by
 refine⟨h.msk.tail,(bS.1 h.lnd).2,h.nodup,λj f=>?_,λj f=>h.cov j (aC _ f),h.lt,h.read,h.dst,h.own,h.V0,h.dok⟩;rcases aG.1 (h.sub j f) with rfl|hm
 all_goals grind
theorem AJ(hP:Fits P E Fin w0 I0){all:Array Oper}{K c bs:List Nat}(cs:List Frame)(aa:∀b∈bs,Ik E env m all b):∀(l:List Nat) {w:World} {S:St} {fr:Frame} {O:List Item},WR w0 w S m->FR w S m ⟨fn,nn,env,.jI all K c bs::k,marks,gi⟩ fr->
  fr.todo=.inRegion all l::O->iP nn all K c bs l->fL nn S k O->
  ∃N G C D y,Step w0 w S m N G m/\FR N G m ⟨fn,nn,env,.jI all K c bs::k,marks,gi⟩ C/\Steps P (lone fr cs w) (lone C cs N)/\C.todo=.inRegion all D::y/\iP nn all K c bs D/\fL nn G k y/\(∀i,D.head? = some i->i∈c)/\C.fn=fr.fn
 | [],w,S,fr,O,hW,hf,ht,hD,hk=>⟨w,S,fr, [],O,.refl hW,hf,.refl _ _,ht,hD,hk,λi h=>(by cases h),rfl⟩
 | i::l,w,S,fr,O,hW,hf,ht,hD,hk=>by
   by_cases a6:i∈c
   ·exact⟨w,S,fr,i::l,O,.refl hW,hf,.refl _ _,ht,hD,hk,λj h=>(by simp_all),rfl⟩
   ·have J:i∈bs:=(hD.cov i aQ).resolve_left a6
    obtain⟨o,X,W⟩:=aa i J
    have a8:∀{t:Nat},t∈kL all o->¬Hid ⟨fn,nn,env,.jI all K c bs::k,marks,gi⟩ fr t:=λhr=>
     BA hD rfl ht (λb hb am p d hp hd hr=>hD.read i J b hb am o p d X hp hd hr) (λ_ d p hp hd=>by rw[X] at hp;cases hp;exact hD.own i J o d X hd) hr
    have an:∀x∈o.op.operands.toList,CR w S m (mC env x) (fr.eval x):=λx hx=>BG hf x λt e=>a8 (by grind [vT]);have B:∀{t:Bool},jw all env o t->Region.wanted o (yielded all fr.tmps)=t:=λW=>sU W λd hd=>hf.env d (a8 (pn hd));have b0:=hD.dok i J o X
    have ab:∀{Z:World} {S1:St} {v:AV} {z:Value},Step w0 w S m Z S1 m->CR Z S1 m v z->vV env o.dst v->Steps P (lone fr cs w) (lone (fr.finish z) cs Z)->
      ∃N G C D y,Step w0 w S m N G m/\FR N G m ⟨fn,nn,env,.jI all K c bs::k,marks,gi⟩ C/\Steps P (lone fr cs w) (lone C cs N)/\C.todo=.inRegion all D::y/\iP nn all K c bs D/\fL nn G k y/\(∀i,D.head? = some i->i∈c)/\C.fn=fr.fn:=by
     intro Z S1 v z hs hc A u;have a3:=hD.drop a6;have f:=hf.mono hs.out;have a7:=fL.mono hs.out hf.live.tail hk;have a5:=uG (z:=z) ht X;rw[a5] at u;have ag:FR Z S1 m ⟨fn,nn,env,.jI all K c bs::k,marks,gi⟩ {fr with tmps:=On fr.tmps o.dst z,todo:=.inRegion all l::O}:=by
      refine⟨f.fn,C3.trans f.n,f.small,λx hx=>?_,.mk (a:=.jI all K c bs) ⟨l,rfl,a3⟩ a7,f.live,f.ay,f.defers,f.marks,f.mode,f.kind,f.gi,f.uu⟩;rw[Oo (by rw[hf.n];omega)];by_cases V:o.dst=some x
      ·rw[if_pos V]
       rw[V] at A;exact Vv A hc
      ·rw[if_neg V]
       refine f.env x λhh=>hx ?_;obtain⟨as,b2,D,k',b,p,e1,e2,e3,e4,e5,e6⟩:=hh;cases e1;rw[ht] at e2;cases e2;rcases aG.1 e4 with rfl|e4
       ·simp_all
       ·exact⟨all,bs,l,O,b,p,rfl,rfl,e3,e4,e5,e6⟩
     obtain⟨N,G,C,D,y,g1,g2,g3,g4,g5,g6,g7,g8⟩:=AJ hP cs aa l hs.wr ag rfl a3 a7;exact⟨N,G,C,D,y,hs.trans g1,g2,u.trans g3,g4,g5,g6,g7,g8⟩
    rcases W with ⟨W,A⟩|⟨W,tv,v,ae,hv,A⟩
    ·exact ab (.refl hW) (kl.2 ⟨#[],rfl,bC.2 rfl⟩) A (.one (Kk hf.mode ht X (B W)))
    ·obtain⟨Z,S1,z,hs,hc,u⟩:=af5 hP hW hf.mode ht X (B W) an ae hv cs
     grind
end
end Go.Ev
namespace Go.Ev
theorem KR{jZ:List (FuncId×aK)}{c:Array Oper}{p f:List Nat}(h:qy jZ c=some (p,f)):
  p=oB c.toList []/\pO 0 c.toList=true/\f.Nodup/\(∀i∈f,i<c.size)/\∀i,i<c.size->i∈f:=by
 unfold qy at h;simp only at h;split at h
 ·rename_i o
  cases h;rw[fv,fv,fv] at o;obtain⟨u,v,x,y⟩:=o;refine⟨rfl,u,pg v,λi j=>Lu (bH.1 x i j),λi j=>jP.1 (bH.1 y i (gm.2 j))⟩
 grind
theorem D_(v:AV):oX v v:=by cases v<;>simp[oX]
theorem OC{v:AV}{b:Bool}(h:oX v (.bool false b)):oX v (.bool true b):=by
 cases v<;>simp[oX] at h ⊢;exact h
variable{b:Nat}{c:Env}{d i:Nat}{o:Oper}
section
variable {P:Program} {R:Type} {E:kF R} {w0:nu} {I0:Nat->Prop} {f0:FuncId} {Fin:R->Value->World->Prop} {Q:R->Prop}
variable {w:World} {S:St} {m:Mem} {fr:Frame} {fs:List dK} {frs cs:List Frame}
variable {fn:FuncId} {nn:Nat} {env:Env} {marks:List Nat} {gi:Option Nat} {k:List dR} {n:Nat}
theorem UO{G:iB->Prop}{all:Array Oper}{bs:List Nat}{i j:Env->Tr R}(h:Tr.Ok Q G (P8 all bs env o i j))(y:∀d∈iv all o,∀c v,env.at d=.bool c v->d<=65535):
  ∃f:Env,EG env f (iv all o)/\((∀x,f.at x=env.at x)\/∀d∈iv all o,Bz all bs d=true)/\((jw all f o true/\Tr.Ok Q G (i f))\/(jw all f o false/\Tr.Ok Q G (j f))):=by
 unfold P8 at h;cases hk:qA all env o with
 | some t=>
   refine⟨env,λ_=>.inl rfl,.inl λ_=>rfl,?_⟩
   grind [uK]
 | none=>
   rw[hk] at h;simp only at h;split at h
   ·rename_i d z
    split at h
    rotate_left
    exact h.elim;obtain⟨f,p,u⟩:=F9 h y;exact⟨f,p,.inr λx A=>by simp_all,u⟩
   ·exact h.elim
theorem jw.congr{all:Array Oper}{t:Bool}(h:jw all env o t)(f:∀x∈iv all o,c.at x=env.at x):jw all c o t:=by grind [jw,iv]
theorem Gt{x:Operand}(h:∀t,x=.tmp t->c.at t=env.at t):mC c x=mC env x:=by
 cases x with
 | tmp t=>exact h t rfl
 | const v=>rfl
 | global g=>rfl
 | func f=>rfl
theorem Ik.congr{all:Array Oper}(h:Ik E env m all b)(B:∀o,all[b]? = some o->(∀x∈kL all o,c.at x=env.at x)/\∀v d,o.dst=some d->oX v (env.at d)->oX v (c.at d)):Ik E c m all b:=by
 obtain⟨o,z,h⟩:=h;obtain⟨u,A⟩:=B o z;have y:∀v,vV env o.dst v->vV c o.dst v:=λv f=>by
  cases hod:o.dst with
  | none=>trivial
  | some d=>rw[hod] at f;exact A v d hod f
 refine⟨o,z,?_⟩;rcases h with ⟨i,j⟩|⟨i,D,v,C,f,j⟩
 ·exact .inl ⟨i.congr λx p=>u x (pn p),y _ j⟩
 ·refine .inr ⟨i.congr λx p=>u x (pn p),D,v,?_,f,y _ j⟩
  grind [CG,Gt,vT]
theorem GL(Z:Fits P E Fin w0 I0){id:Nat}{j:Array Oper}{D C:List Nat}(hd:qy E.jZ j=some (D,C))
  (hg:Good P E w0 I0 f0 Fin Q {bF:=⟨fn,nn,env,.jI j D C []::k,marks,gi⟩::fs,mem:=m})
  (hW:WR w0 w S m) (X:∀b,S.I b->I0 b\/w0.free b) (p:FR w S m ⟨fn,nn,env,.code (.region id j true)::k,marks,gi⟩ fr) (z:E3 w S m fs frs) (W:zG f0 (⟨fn,nn,env,.code (.region id j true)::k,marks,gi⟩::fs)) :
  Ends P f0 Fin Q fr frs cs w:=by
 obtain⟨it,kc,ht,O,V⟩:=p.todo.cons_inv;subst O;have B:∀y,¬Hid ⟨fn,nn,env,.code (.region id j true)::k,marks,gi⟩ fr y:=λy=>oD λa ha=>by cases ha;rfl
 obtain⟨J,G,g3,K,N⟩:=KR hd;have f:=Rf (P:=P) (cs:=frs++cs) (w:=w) p.mode ht;rw[Z.mixed] at f;obtain⟨v,o⟩:=Ml G (w.tape w.drawn (.order fr.fn id));have u:=Step.drew hW;have c:=p.mono u.out;refine .step f (hg (λb hb=>absurd hb aI) S _ _ cs _ u.wr X ⟨_,_,rfl,?_,z.mono u.out⟩ (W.swap rfl));refine⟨c.fn,c.n,c.small,λx _=>c.env x (λhh=>B x hh),.mk (a:=.jI j D C []) ⟨_,rfl,?_⟩ (fL.mono u.out p.live.tail V),.mk trivial c.live.tail,c.ay,c.defers,c.marks,c.mode,c.kind,c.gi,c.uu⟩
 exact⟨J▸Zv G v,v.nodup,by grind,λi A=>o i (K i A),λi A=>.inl (N i (v.lt i A)),λ_ h=>absurd h aI,λ_ h=>absurd h aI,λ_ h=>absurd h aI,λ_ h=>absurd h aI,
  λ_ h=>absurd h aI,λ_ h=>absurd h aI⟩
theorem Ox(B:Fits P E Fin w0 I0)(i:∀u f fs m,(∀a∈f.todo.head?,a.Gd=false)->Good P E w0 I0 f0 Fin Q (canon E.keep u {bF:=f::fs,mem:=m})->Good P E w0 I0 f0 Fin Q {bF:=f::fs,mem:=m})
  (C:∀c,Tr.Ok Q (Good P E w0 I0 f0 Fin Q) (run af E n c)->Good P E w0 I0 f0 Fin Q c) {id:Nat} {j:Array Oper}
  (h:Tr.Ok Q (Good P E w0 I0 f0 Fin Q) (run af E (n+1) {bF:=⟨fn,nn,env,.code (.region id j true)::k,marks,gi⟩::fs,mem:=m}))
  (p:tL E {bF:=⟨fn,nn,env,.code (.region id j true)::k,marks,gi⟩::fs,mem:=m})
  (y:WR w0 w S m) (x:∀b,S.I b->I0 b\/w0.free b) (A:FR w S m ⟨fn,nn,env,.code (.region id j true)::k,marks,gi⟩ fr) (o:E3 w S m fs frs) (v:zG f0 (⟨fn,nn,env,.code (.region id j true)::k,marks,gi⟩::fs)) :
  Ends P f0 Fin Q fr frs cs w:=by
 simp only[run] at h;cases hcut:Da E.qm fn (some id) with
 | some u=>rw[hcut] at h;exact i u _ _ _ (λa z=>by cases z;rfl) h p S fr frs cs w y x ⟨fr,frs,rfl,A,o⟩ v
 | none=>
   rw[hcut] at h;cases hd:qy E.jZ j with
   | none=>rw[hd] at h;exact h.elim
   | some q=>
     grind [GL]
theorem Vi(hP:Fits P E Fin w0 I0)(ih:∀c,Tr.Ok Q (Good P E w0 I0 f0 Fin Q) (run af E n c)->Good P E w0 I0 f0 Fin Q c){all:Array Oper}{u bs:List Nat}
  (h:Tr.Ok Q (Good P E w0 I0 f0 Fin Q) (run af E (n+1) {bF:=⟨fn,nn,env,.jI all u [] bs::k,marks,gi⟩::fs,mem:=m}))
  (C:∀b∈bs,Ik E env m all b)
  (hW:WR w0 w S m) (hI:∀b,S.I b->I0 b\/w0.free b) (o:FR w S m ⟨fn,nn,env,.jI all u [] bs::k,marks,gi⟩ fr) (y:E3 w S m fs frs) (W:zG f0 (⟨fn,nn,env,.jI all u [] bs::k,marks,gi⟩::fs)) :
  Ends P f0 Fin Q fr frs cs w:=by
 obtain⟨it,kc,ht,O,V⟩:=o.todo.cons_inv;obtain⟨l,rfl,X⟩:∃l:List Nat,it=.inRegion all l/\iP nn all u [] bs l:=O;obtain⟨w',K,iH,G,a8,B,j,f,D,Z,A,z,_⟩:=AJ hP (frs++cs) C l hW o ht X V;cases G with
 | cons i G=>simp_all
 | nil=>
   refine .steps (f.trans (.one (G2 j.mode D))) (ih _ h (gJ λa v=>o.ay a (kS v)) K _ _ cs _ B.wr (λb hb=>(B.grows b hb).elim (hI b) .inr) ⟨_,_,rfl,j.next ?_ A j.live.tail (λa v=>o.ay a (jc v)),y.mono B.out⟩ (W.swap rfl))
   rintro x ⟨J,N,G,k',b,p,e1,e2,e3,e4,e5,e6⟩
   grind
theorem Af{all:Array Oper}{bs:List Nat}(h:Bz all bs d=true)(c:b∈bs)(f:all[b]? = some o):d ∉ kL all o:=by
 have:=bH.1 h b c;rw[f] at this;simp at this;intro hm;rw[jP.2 hm] at this
 grind
theorem CS{all:Array Oper}{bs:List Nat}(h:Qg all bs d=true)(c:b∈bs)(f:all[b]? = some o):o.dst≠some d:=by
 have:=bH.1 h b c;rw[f] at this;intro e
 simp_all [isDst]
theorem vc{all:Array Oper}{bs:List Nat}(h:uJ all bs o.dst=true)(c:o.dst=some d):Bz all bs d=true/\Qg all bs d=true:=by grind [uJ]
theorem Od{all:Array Oper}(h:Gw all o=true)(c:o.dst=some d):d ∉ kL all o:=by
 unfold Gw at h;rw[c] at h;simp at h;intro hm;rw[jP.2 hm] at h;cases h
theorem Tq{all:Array Oper}{mk:Nat}{bs:List Nat}(h:Z3 all mk bs o=true)(c:b∈bs){p:Oper}(i:all[b]? = some p)(f:p.dst=some d)(j:d∈kL all o):mk.testBit b=true:=by
 have:=bH.1 h b c;rw[i] at this;simp[f,jP.2 j] at this;omega
theorem iP.add{all:Array Oper}{J A bs l:List Nat}(h:iP nn all J (i::A) bs l)(K:all[i]? = some o)(N:sN nn o.dst=true)(O:Z3 all (J.getD i 0) bs o=true)(Z:yr (J.getD i 0) o=true)
  (B:uJ all bs o.dst=true) (V:Gw all o=true):iP nn all J A (i::bs) l:=by
 have X:=h.nodup;refine⟨h.msk,h.lnd,?_,λj C=>h.sub j (aC _ C),λj C=>?_,λj C=>?_,?_,?_,?_,?_,?_⟩
 ·grind
 ·rcases h.cov j C with hm|hm
  all_goals grind
 ·rcases aG.1 C with rfl|C
  ·grind
  ·exact h.lt j C
 ·intro a f b G D y p d c z u W
  rcases aG.1 f with rfl|v
  ·grind [Tq]
  ·rcases aG.1 G with rfl|x
   ·rw[K] at z;cases z
    exact absurd W (Af (vc B u).1 v c)
   ·exact h.read a v b x D y p d c z u W
 ·intro a f b G D y p d c z u
  rcases aG.1 f with rfl|v
  ·rcases aG.1 G with rfl|x
   ·omega
   ·rw[K] at c;cases c
    intro e;exact CS (vc B e).2 x z u
  ·rcases aG.1 G with rfl|x
   ·rw[K] at z;cases z
    exact CS (vc B u).2 v c
   ·exact h.dst a v b x D y p d c z u
 ·intro a f y d c N
  rcases aG.1 f with rfl|f
  ·grind [Od]
  ·exact h.own a f y d c N
 ·intro a f y c
  rcases aG.1 f with rfl|f
  ·simp_all
  ·exact h.V0 a f y c
 ·intro a f y c
  rcases aG.1 f with rfl|f
  ·simp_all
  ·exact h.dok a f y c
theorem zM{j:Nat}{rest:List Nat}:∀{ms:List Nat} {k i b:Nat},(((uE j rest k ms).getD i 0).testBit b=true->(ms.getD i 0).testBit b=true\/(b=j/\k+i∈rest/\k+i≠j))/\((ms.getD i 0).testBit b=true->((uE j rest k ms).getD i 0).testBit b=true)
 | [],k,i,b=>by grind [uE]
 | m::ms,k,0,b=>by
   rw[uE];simp;cases hc:tf rest k && !Nat.beq k j with
   | false=>simp_all
   | true=>
     rw[fv,fB] at hc;refine⟨λh=>?_,λh=>?_⟩
     ·rw[Nat.testBit_or,oS] at h
      rcases h with h|h
      ·simp_all
      ·refine .inr ⟨?_,jP.1 hc.1,λe=>?_⟩
       ·grind
       simp_all
     simp_all
 | m::ms,k,i+1,b=>by
   rw[uE];have:=zM (j:=j) (rest:=rest) (ms:=ms) (k:=k+1) (i:=i) (b:=b)
   grind
theorem Cx{j x:Nat}:∀{l:List Nat},(x∈uY l j->x∈l)/\(x∈l->x=j\/x∈uY l j)
 | []=>by grind [uY]
 | i::l=>by
   have c:=Cx (j:=j) (x:=x) (l:=l);rw[uY];by_cases e:i=j
   ·simp_all
   ·rw[gB.2 e]
    grind
theorem iP.next{jZ:List (FuncId×aK)}{all:Array Oper}{v c bs l A N:List Nat}{j:Nat}(h:iP nn all v c bs (j::l))(hj:j∈c)(B:Tj jZ all v c j=some (A,N)) :
  iP nn all A N bs (j::l):=by
 unfold Tj at B;simp only at B;split at B
 case h_2=>grind
 rename_i K;cases B;rw[fv,fv] at K;obtain⟨h1,O,V⟩:=K;have D:∀x,x∈j::eager jZ all (uE j c 0 v) (uY c j).length (R3 (uY c j)) (uY c j)->x∈c:=λx f=>by
  rcases aG.1 f with rfl|f
  ·omega
  ·exact Cx.1 (jP.1 (bH.1 O x f))
 have z:∀x,x∈c->x∈j::eager jZ all (uE j c 0 v) (uY c j).length (R3 (uY c j)) (uY c j):=λx f=>by
  rcases (Cx (j:=j)).2 f with rfl|f
  ·simp_all
  ·exact aC _ (jP.1 (bH.1 V x f))
 have J:∀i b,(v.getD i 0).testBit b=true->((uE j c 0 v).getD i 0).testBit b=true:=λi b=>zM.2;have X:=dP.1 h.nodup;refine⟨λl1 i l2 e b y=>?_,h.lnd,?_,λx f=>h.sub x (D x f),λx f=>(h.cov x f).imp (z x) id,h.lt,λi C b y u o p d G Z W hr=>J _ _ (h.read i C b y u o p d G Z W hr),h.dst,h.own,λi C o G=>?_,h.dok⟩
 ·rcases zM.1 y with y|⟨rfl,_,u⟩
  ·exact h.msk l1 i l2 e b y
  ·rw[gF] at u
   cases l1 with
   | nil=>simp_all
   | cons x l1=>
     cases e;intro hm;exact(bS.1 h.lnd).1 (nY.2 (.inr hm))
 ·grind [pg]
 ·have:=h.V0 i C o G
  grind [yr]
theorem Nk{G:iB->Prop}{K:Nat->Tr R}:∀{l:List Nat},Tr.Ok Q G (Nj K l)->∀j∈l,Tr.Ok Q G (K j)
 | [],_,_,h=>absurd h aI
 | [i],h,j,c=>by rw[aJ.1 c];exact h
 | i::o::l,h,j,c=>by
   obtain⟨p,f⟩:Tr.Ok Q G (K i)/\Tr.Ok Q G (Nj K (o::l)):=h;rcases aG.1 c with rfl|c
   ·omega
   ·exact Nk f j c
theorem iP.cut{all:Array Oper}{u f bs l:List Nat}(h:iP nn all u f bs (i::l)):iP nn all u f (sL (u.getD i 0) bs) (i::l):=by
 have c:∀b∈sL (u.getD i 0) bs,b∈bs:=λb p=>(gH.1 p).1;refine⟨h.msk,h.lnd,?_,h.sub,λj v=>?_,λj v=>h.lt j (c j v),λa o b p=>h.read a (c a o) b (c b p),λa o b p=>h.dst a (c a o) b (c b p),λa o=>h.own a (c a o),λa o=>h.V0 a (c a o),λa o=>h.dok a (c a o)⟩
 ·exact h.nodup.sublist (List.Sublist.append_left List.filter_sublist f)
 ·rcases h.cov j v with hm|hm
  ·grind
  ·refine .inr (gH.2 ⟨hm,?_⟩)
   cases p:(u.getD i 0).testBit j with
   | false=>rfl
   | true=>exact absurd v (h.done p)
end
end Go.Ev
namespace Go.Ev
section
variable {P:Program} {R:Type} {E:kF R} {w0:nu} {I0:Nat->Prop} {f0:FuncId} {Fin:R->Value->World->Prop} {Q:R->Prop}
variable {w:World} {S:St} {m:Mem} {fr:Frame} {fs:List dK} {frs cs:List Frame}
variable {fn:FuncId} {nn:Nat} {env:Env} {marks:List Nat} {gi:Option Nat} {k:List dR} {n:Nat}
theorem Zo(ih:∀c,Tr.Ok Q (Good P E w0 I0 f0 Fin Q) (run af E n c)->Good P E w0 I0 f0 Fin Q c){all:Array Oper}{J f bs l:List Nat}{i:Nat}{o:Oper}{kc:List Item}{v:AV}
  (h:Tr.Ok Q (Good P E w0 I0 f0 Fin Q) (run af E n {bF:=⟨fn,nn,env.ov o.dst v,.jI all J f (i::bs)::k,marks,gi⟩::fs,mem:=m}))
  (ho:all[i]? = some o) (B:sN nn o.dst=true) (K:Z3 all (J.getD i 0) bs o=true) (hg:yr (J.getD i 0) o=true) (G:uJ all bs o.dst=true) (C:Gw all o=true)
  (a5:∀b∈bs,Ik E env m all b) (hi:(jw all env o false/\v=.yM [])\/(jw all env o true/\∃V,evV af E m (mC env) o=some V/\V.Is v))
  (hW:WR w0 w S m) (hI:∀b,S.I b->I0 b\/w0.free b) (A:FR w S m ⟨fn,nn,env,.jI all J (i::f) bs::k,marks,gi⟩ fr) (X:E3 w S m fs frs) (hB:zG f0 (⟨fn,nn,env,.jI all J (i::f) bs::k,marks,gi⟩::fs))
  (ht:fr.todo=.inRegion all l::kc) (hD:iP nn all J (i::f) bs l) (hk:fL nn S k kc):Ends P f0 Fin Q fr frs cs w:=by
 have O:nn<=65535:=A.small;have j:∀x,o.dst≠some x->(env.ov o.dst v).at x=env.at x:=λx z=>by rw[Env.KD B O,if_neg z]
 have a4:∀x,o.dst=some x->(env.ov o.dst v).at x=v:=λx z=>by rw[Env.KD B O,if_pos z]
 have y:∀x∈kL all o,(env.ov o.dst v).at x=env.at x:=λx z=>j x λe=>Od C e z;have N:vV (env.ov o.dst v) o.dst v:=by
  cases hd:o.dst with
  | none=>trivial
  | some d=>show oX v ((env.ov (some d) v).at d);grind [D_]
 refine ih _ h (λb hb=>?_) S fr frs cs w hW hI ⟨fr,frs,rfl,?_,X⟩ (hB.swap rfl)
 ·rcases aG.1 hb with rfl|D
  ·refine⟨o,ho,?_⟩
   rcases hi with ⟨W,rfl⟩|⟨W,V,h2,h3⟩
   ·exact .inl ⟨W.congr λx z=>y x (pn z),N⟩
   ·refine .inr ⟨W.congr λx z=>y x (pn z),V,v,?_,h3,N⟩
    grind [CG,Gt,vT]
  ·refine(a5 b D).congr λp hp=>⟨λx z=>j x λe=>Af (vc G e).1 D hp z,λu d hd hs=>?_⟩
   rw[j d λe=>CS (vc G e).2 D hp hd];omega
 ·have Z:i∈l:=hD.sub i aQ
  refine⟨A.fn,A.n,A.small,λx z=>?_,by rw[ht];exact .mk (a:=.jI all J f (i::bs)) ⟨l,rfl,hD.add ho B K hg G C⟩ hk,.mk trivial A.live.tail,A.ay,A.defers,A.marks,A.mode,A.kind,A.gi,A.uu⟩;have a0:o.dst≠some x:=λe=>z ⟨all,i::bs,l,kc,i,o,rfl,ht,aQ,Z,ho,e⟩;rw[j x a0];refine A.env x λhh=>z ?_;obtain⟨a7,ab,l',k',b,p,e1,e2,e3,e4,e5,e6⟩:=hh;cases e1;exact⟨all,i::bs,l',k',b,p,rfl,e2,aC _ e3,e4,e5,e6⟩
theorem aav(hP:Fits P E Fin w0 I0)(ih:∀c,Tr.Ok Q (Good P E w0 I0 f0 Fin Q) (run af E n c)->Good P E w0 I0 f0 Fin Q c){all:Array Oper}{A y bs:List Nat}{i:Nat}
  (h:Tr.Ok Q (Good P E w0 I0 f0 Fin Q) (run af E (n+1) {bF:=⟨fn,nn,env,.jI all A (i::y) bs::k,marks,gi⟩::fs,mem:=m}))
  (ae:∀b∈bs,Ik E env m all b)
  (hW:WR w0 w S m) (hI:∀b,S.I b->I0 b\/w0.free b) (hf:FR w S m ⟨fn,nn,env,.jI all A (i::y) bs::k,marks,gi⟩ fr) (a3:E3 w S m fs frs) (hB:zG f0 (⟨fn,nn,env,.jI all A (i::y) bs::k,marks,gi⟩::fs)) :
  Ends P f0 Fin Q fr frs cs w:=by
 obtain⟨it,kc,ht,h1,h2⟩:=hf.todo.cons_inv;obtain⟨l,rfl,hD⟩:∃l:List Nat,it=.inRegion all l/\iP nn all A (i::y) bs l:=h1;have d1:nn<=65535:=hf.small;simp only[run] at h;cases ho:all[i]? with
 | none=>rw[ho] at h;exact h.elim
 | some o=>
   rw[ho] at h;simp only at h;cases hck:sN nn o.dst&&(Z3 all (A.getD i 0) bs o&&yr (A.getD i 0) o) with
   | false=>rw[hck] at h;exact h.elim
   | true=>
     rw[hck] at h;rw[fv,fv] at hck;obtain⟨a0,a4,ab⟩:=hck;have a9:∀d∈iv all o,∀c v,env.at d=.bool c v->d<=65535:=λd _ c v e=>by
      by_cases hh:Hid ⟨fn,nn,env,.jI all A (i::y) bs::k,marks,gi⟩ fr d
      ·obtain⟨aa,av,l',k',b,p,e1,e2,e3,e4,e5,e6⟩:=hh
       cases e1;have:=hD.dok b e3 p e5;rw[e6] at this;have:d<nn:=Lu this;omega
      ·have:=aco hf hh e
       omega
     obtain⟨u,a5,b9,h⟩:=UO h a9;have a6:∀b∈bs,Ik E u m all b:=λb W=>(ae b W).congr λp hp=>by
      rcases b9 with d0|b9
      ·grind
      ·refine⟨λx hx=>?_,λv d _ hs=>?_⟩
       ·rcases a5 x with e|⟨d4,_⟩
        all_goals grind [Af]
       ·rcases a5 d with e|⟨_,b',e1,e2⟩
        all_goals grind [OC]
     have b5:=hf.TE (D:=iv all o) a5;rcases h with ⟨hg,h⟩|⟨hg,h⟩
     ·-- wanted
      have bv:Tr.Ok Q (Good P E w0 I0 f0 Fin Q) (match y.all (λj=>(A.getD j 0).testBit i) with
           | false=>Nj (λj=>match Tj E.jZ all A (i::y) j with
              | some (ag,is)=>run af E n {bF:=⟨fn,nn,u,.jI all ag is bs::k,marks,gi⟩::fs,mem:=m}
              | none=>.bZ 180 o.pos) ((i::y).filter (QU A (i::y)))
           | true=>match uJ all (sL (A.getD i 0) bs) o.dst with
            | false=>.bZ 178 o.pos
            | true=>
              match tP af E (mC u) m o with
              | some tv=>tv.bind o.pos λv=>xU af E (u.ov o.dst v) m all (sL (A.getD i 0) bs) (run af E n {bF:=⟨fn,nn,u.ov o.dst v,.jI all A y (sL (A.getD i 0) bs)::k,marks,gi⟩::fs,mem:=m})
              | none=>match o.op with
                | .call {callee:=.value x,args,.. }=>match mC u x with
                  | .fn g first X=>match look E.jZ g with
                    | some s=>(vB af s m (first++(args.toList.map (mC u)++X))).bind o.pos λp=>xU af E (u.ov o.dst p.1) p.2 all (sL (A.getD i 0) bs) (run af E n {bF:=⟨fn,nn,u.ov o.dst p.1,.jI all A y (sL (A.getD i 0) bs)::k,marks,gi⟩::fs,mem:=p.2})
                    | none=>match sO af E g m (first++(args.toList.map (mC u)++X)) with
                     | some tv=>tv.bind o.pos λp=>xU af E (u.ov o.dst p.1) p.2 all (sL (A.getD i 0) bs) (run af E n {bF:=⟨fn,nn,u.ov o.dst p.1,.jI all A y (sL (A.getD i 0) bs)::k,marks,gi⟩::fs,mem:=p.2})
                     | none=>match look E.lL g with
                      | none=>.bZ 163 o.pos
                      | some G=>match jh g G (first++(args.toList.map (mC u)++X)) with
                        | none=>.bZ 164 o.pos
                        | some h=>run af E n {bF:=h::⟨fn,nn,u,.rS all A i y (sL (A.getD i 0) bs)::k,marks,gi⟩::fs,mem:=m}
                  | .yield l=>match m.at l with
                     | .loop r=>match Nat.beq r.params.length (args.toList.map (mC u)).length&&r.params.all (λp=>Nat.blt p r.n) with
                       | true=>run af E n {bF:={fn:=r.fn,n:=r.n,env:=Ak r.params (args.toList.map (mC u)) r.env,todo:=[.code r.assign,.beginRound,.code r.body],marks:=[],gi:=some l}::⟨fn,nn,u,.rS all A i y (sL (A.getD i 0) bs)::k,marks,gi⟩::fs,mem:=m}
                       | false=>.bZ 165 o.pos
                     | _=>.bZ 166 o.pos
                  | _=>.bZ 167 o.pos
                | _=>(xf af E fn (mC u) m o).bind o.pos λp=>xU af E (u.ov o.dst p.1) p.2 all (sL (A.getD i 0) bs) (run af E n {bF:=⟨fn,nn,u.ov o.dst p.1,.jI all A y (sL (A.getD i 0) bs)::k,marks,gi⟩::fs,mem:=p.2}))->Ends P f0 Fin Q fr frs cs w:=by
       intro h;cases Z:y.all (λj=>(A.getD j 0).testBit i) with
       | false=>
         rw[Z] at h;obtain⟨w1,S1,a7,l1,be,K,a8,C,O,B,ac,N,b6⟩:=AJ hP (frs++cs) ae l hW hf ht hD h2;have b7:i∈l1:=B.sub i aQ;cases l1 with
         | nil=>grind
         | cons j l1=>
           have hj:=N j rfl;have cf:QU A (i::y) j=true:=bH.2 λb W=>by
            rw[fB];cases hbt:(A.getD j 0).testBit b with
            | false=>rfl
            | true=>exact absurd (B.sub b W) (B.done hbt)
           have h:=Nk h j (gH.2 ⟨hj,cf⟩);split at h
           rotate_left
           exact h.elim;rename_i ag is cc;have f:=a8.TE (D:=iv all o) a5;refine .steps C (ih _ h a6 S1 _ _ cs w1 K.wr (λb W=>(K.grows b W).elim (hI b) .inr) ⟨_,_,rfl,?_,a3.mono K.out⟩ (hB.swap rfl));refine⟨f.fn,f.n,f.small,λx hx=>f.env x λhh=>hx ?_,by rw[O];exact .mk (a:=.jI all ag is bs) ⟨_,rfl,B.next hj cc⟩ ac,.mk trivial f.live.tail,f.ay,f.defers,f.marks,f.mode,f.kind,f.gi,f.uu⟩;obtain⟨aa,av,l',k',b,p,e1,e2,e3,e4,e5,e6⟩:=hh;cases e1;exact⟨all,bs,l',k',b,p,rfl,e2,e3,e4,e5,e6⟩
       | true=>
        rw[Z] at h;cases hck2:uJ all (sL (A.getD i 0) bs) o.dst with
        | false=>rw[hck2] at h;exact h.elim
        | true=>
         rw[hck2] at h;obtain⟨w1,S1,a7,l1,be,K,a8,C,O,B,ac,N,b6⟩:=AJ hP (frs++cs) ae l hW hf ht hD h2;have b7:i∈l1:=B.sub i aQ;cases l1 with
         | nil=>grind
         | cons j l1=>
           have ca:j=i:=by
            rcases aG.1 (N j rfl) with e|hj
            ·exact e
            ·exact absurd b7 (B.done (bH.1 Z j hj))
           subst ca;have cb:j ∉ y++bs:=(bS.1 (by have:=B.nodup;grind)).1;have c9:j ∉ bs:=λhm=>cb (nY.2 (.inr hm));have f:=a8.TE (D:=iv all o) a5
           have b8:∀{t:Nat},t∈kL all o->¬Hid ⟨fn,nn,u,.jI all A (j::y) bs::k,marks,gi⟩ a7 t:=λhr=>
            BA B rfl O (λb W _ p d hp hd hr=>Tq a4 W hp hd hr) (λhm=>absurd hm c9) hr
           have hw:Region.wanted o (yielded all a7.tmps)=true:=sU hg λd hd=>f.env d (b8 (pn hd));have V:FR w1 S1 m ⟨fn,nn,u,.rS all A j y (sL (A.getD j 0) bs)::k,marks,gi⟩ a7:=by
            refine⟨f.fn,f.n,f.small,λx hx=>f.env x λhh=>hx ?_,by rw[O];exact .mk (a:=.rS all A j y (sL (A.getD j 0) bs)) ⟨l1,rfl,B.cut⟩ ac,.mk trivial f.live.tail,f.ay,f.defers,f.marks,f.mode,f.kind,f.gi,f.uu⟩;obtain⟨aa,av,l',k',b,p,e1,e2,e3,e4,e5,e6⟩:=hh;cases e1;rw[O] at e2;cases e2;refine⟨all,_,j::l1,be,b,p,rfl,O,gH.2 ⟨e3,?_⟩,e4,e5,e6⟩;cases W:(A.getD j 0).testBit b with
            | false=>rfl
            | true=>exact absurd e4 (B.done W)
           refine .steps C (Tp (fn:=fn) (ρ:=mC u) (below:=⟨fn,nn,u,.rS all A j y (sL (A.getD j 0) bs)::k,marks,gi⟩) (next:=λv m=>xU af E (u.ov o.dst v) m all (sL (A.getD j 0) bs) (run af E n {bF:=⟨fn,nn,u.ov o.dst v,.jI all A y (sL (A.getD j 0) bs)::k,marks,gi⟩::fs,mem:=m}))
            hP ih K.wr (λb W=>(K.grows b W).elim (hI b) .inr) (a3.mono K.out) (hB.swap rfl) a8.mode O ho hw (λx hx=>BG f x λt e=>b8 (by grind [vT])) V (λv m' w' S' z hs hc h=>?_) h)
           obtain⟨ba,h⟩:=BV h;have ad:=K.trans hs;exact ih _ h ba S' _ _ cs w' ad.wr (λb W=>(ad.grows b W).elim (hI b) .inr) ⟨_,_,rfl,DK (V.mono hs.out) ho a0 hc,a3.mono ad.out⟩ (hB.swap rfl)
      split at h
      ·rename_i tv c8 J
       rw[fv] at J;obtain⟨v,hv,h⟩:=TV.bind_ok h;exact Zo ih h ho a0 a4 ab J.1 J.2 a6 (.inr ⟨hg,tv,c8,hv⟩) hW hI b5 a3 (hB.swap rfl) ht hD h2
      ·exact bv h
     ·-- not wanted
      cases J:uJ all bs o.dst&&Gw all o with
      | false=>rw[J] at h;exact h.elim
      | true=>
        rw[J] at h;rw[fv] at J;exact Zo ih h ho a0 a4 ab J.1 J.2 a6 (.inl ⟨hg,rfl⟩) hW hI b5 a3 (hB.swap rfl) ht hD h2
end
end Go.Ev
namespace Go.Ev
theorem yt:∀{l:List Nat} {id k:Nat},id∈l->∃j,idxOf l id k=k+j/\l[j]? = some id/\j<l.length
 | i::l,id,k,h=>by
   rw[idxOf];by_cases c:i=id
   ·simp_all
   ·rw[gB.2 c]
    obtain⟨j,f,o,p⟩:=yt (k:=k+1) ((aG.1 h).resolve_left (λe=>c e.symm));exact⟨j+1,by grind,by grind,by grind⟩
theorem J2:∀{l:List Nat} {id k:Nat},id ∉ l->idxOf l id k=k+l.length
 | [],id,k,_=>rfl
 | i::l,id,k,h=>by
   rw[idxOf,gB.2 λe=>h (by grind)];simp only;rw[J2 λhm=>h (aC _ hm),bw];omega
theorem yj:∀{r acc:List Nat},acc.Nodup->(oJ acc r).Nodup/\(∀i∈acc,i∈oJ acc r)/\∀i∈r,i∈oJ acc r
 | [],acc,h=>⟨h,λ_ h=>h,λ_ h=>absurd h aI⟩
 | j::r,acc,h=>by
   rw[oJ];cases hm:tf acc j with
   | true=>
     obtain⟨f,c,p⟩:=yj (r:=r) h;refine⟨f,c,λi o=>?_⟩;rcases aG.1 o with rfl|o
     ·exact c _ (jP.1 hm)
     grind
   | false=>
     have x:j ∉ acc:=λh=>by rw[jP.2 h] at hm;grind
     obtain⟨f,c,p⟩:=yj (r:=r) (acc:=acc ++ [j]) (dP.2 ⟨h,by simp,λa u b v=>by grind⟩)
     grind
theorem DD:∀{f:Nat} {m:Mem} {c:List Nat} {p:Nat},c.Nodup->(ob f m c p).Nodup/\∀i∈c,i∈ob f m c p
 | 0,m,c,p,h=>⟨h,λ_ h=>h⟩
 | f+1,m,c,p,h=>by
   rw[ob];cases c[p]? with
   | none=>grind
   | some id=>
     obtain⟨j,o,_⟩:=yj (r:=Bl (m.at id)) h;obtain⟨u,v⟩:=DD (f:=f) (m:=m) (p:=p+1) j
     grind
theorem vv:∀{r acc:List Nat},∃t,oJ acc r=acc++t
 | [],acc=>⟨[],(aL _).symm⟩
 | j::r,acc=>by
   rw[oJ];cases tf acc j with
   | true=>exact vv
   | false=>
     obtain⟨t,h⟩:=vv (r:=r) (acc:=acc ++ [j])
     grind
theorem AO:∀{f:Nat} {m:Mem} {acc:List Nat} {p:Nat},∃t,ob f m acc p=acc++t
 | 0,m,acc,p=>⟨[],(aL _).symm⟩
 | f+1,m,acc,p=>by
   rw[ob];cases acc[p]? with
   | none=>simp_all
   | some id=>
     obtain⟨t,h⟩:=vv (r:=Bl (m.at id)) (acc:=acc);obtain⟨u,c⟩:=AO (f:=f) (m:=m) (acc:=oJ acc (Bl (m.at id))) (p:=p+1)
     grind
theorem zu{l:List Nat}:∀{cs:List AV},(uP l cs).length=cs.length
 | []=>by rfl
 | a::cs=>by rw[uP,bw,bw,zu]
def St.ren(S:St)(l:List Nat):St:={σ:=λi=>S.σ (l.getD i 0),δ:=λi=>S.δ (l.getD i 0),vd:=λi=>S.vd (l.getD i 0),I:=S.I}
def Mem.ren(m:Mem)(l:List Nat):Mem:=(l.map λid=>p8 l (m.at id)) ++ [.a_]
variable{a:dR}{b:iM}{c:St}{i j:Nat}
section
variable {w0:nu} {w:World} {S:St} {m:Mem} {l:List Nat}
theorem C5{id:Nat}(h:l[j]? = some id):(m.ren l).at j=p8 l (m.at id):=by grind [Mem.ren,Mem.at]
theorem GN:(m.ren l).at l.length=.a_:=by simp_all [Mem.ren,Mem.at]
theorem Va(h:l.length<j):(m.ren l).at j=.bZ:=by
 rw[Mem.ren,Mem.at,xB,kR (by rw[qS,bO];simp;omega)];rfl
theorem C6(j:Nat):(∃id,l[j]? = some id/\(m.ren l).at j=p8 l (m.at id)/\(S.ren l).σ j=S.σ id/\(S.ren l).δ j=S.δ id/\(S.ren l).vd j=S.vd id)\/(m.ren l).at j=.a_\/(m.ren l).at j=.bZ:=by
 rcases Nat.lt_trichotomy j l.length with h|h|h
 all_goals simp_all [C5,GN,Va,St.ren]
theorem C7(id:Nat):(id∈l/\(m.ren l).at (idxOf l id 0)=p8 l (m.at id)/\(S.ren l).σ (idxOf l id 0)=S.σ id/\(S.ren l).δ (idxOf l id 0)=S.δ id/\(S.ren l).vd (idxOf l id 0)=S.vd id)\/(m.ren l).at (idxOf l id 0)=.a_:=by
 by_cases h:id∈l
 ·obtain⟨j,c,f,i⟩:=yt (k:=0) h
  simp_all [C5,St.ren]
 simp_all [J2,GN]
mutual
theorem QW:∀{a:AV} {v:Value},CR w S m a v->CR w (S.ren l) (m.ren l) (nj l a) v
 | .undef,v,_=>by rw[nj];exact gK
 | .int k c n,v,h=>by rw[nj];exact fo.2 (fo.1 h)
 | .bool c b,v,h=>by rw[nj];exact ij.2 (ij.1 h)
 | .str c s,v,h=>by rw[nj];exact vo.2 (vo.1 h)
 | .sl t x,v,h=>by rw[nj,CR];rw[CR] at h;exact h
 | .gb b,v,h=>by rw[nj];exact mX.2 (mX.1 h)
 | .pI t x off,v,h=>by rw[nj,CR];rw[CR] at h;exact h
 | .jB,v,h=>by rw[nj];exact qw.2 (qw.1 h)
 | .tg,v,h=>by rw[nj];exact sH.2 (sH.1 h)
 | .own id,v,h=>by
   rw[nj,CR];rw[CR] at h;rcases C7 (S:=S) (m:=m) (l:=l) id with ⟨_,j,o,p,u⟩|j
   ·rw[j,o,p,u]
    cases hb:m.at id<;>rw[hb] at h<;>(try exact h.elim)<;>exact h
   grind
 | .vL id sz c lo len,v,h=>by
   rw[nj,CR];rw[CR] at h;rcases C7 (S:=S) (m:=m) (l:=l) id with ⟨_,j,o,p,u⟩|j
   ·rw[j,o,p,u]
    cases hb:m.at id<;>rw[hb] at h<;>(try exact h.elim)<;>(try exact h);obtain⟨G,n,z,a,A,B,C,K,D⟩:=h;exact⟨G,n,z,a,A,B,C,by rw[zu];omega,D⟩
   grind
 | .ptr id off,v,h=>by
   rw[nj,CR];rw[CR] at h;rcases C7 (S:=S) (m:=m) (l:=l) id with ⟨_,j,o,p,u⟩|j
   ·rw[j,o]
    cases hb:m.at id<;>rw[hb] at h<;>(try exact h.elim)<;>exact h
   grind
 | .kX id i off,v,h=>by
   rw[nj,CR];rw[CR] at h;rcases C7 (S:=S) (m:=m) (l:=l) id with ⟨_,j,o,p,u⟩|j
   ·rw[j,o,p]
    cases hb:m.at id<;>rw[hb] at h<;>(try exact h.elim)<;>exact h
   grind
 | .y_ id off n t i,v,h=>by
   rw[nj,CR];rw[CR] at h;rcases C7 (S:=S) (m:=m) (l:=l) id with ⟨_,j,o,p,u⟩|j
   ·rw[j,o]
    cases hb:m.at id<;>rw[hb] at h<;>(try exact h.elim)<;>exact h
   grind
 | .yield id,v,h=>by
   rw[nj,CR];rw[CR] at h;rcases C7 (S:=S) (m:=m) (l:=l) id with ⟨_,j,o,p,u⟩|j
   ·rw[j,o]
    cases hb:m.at id<;>rw[hb] at h<;>(try exact h.elim)<;>exact h
   grind
 | .fn f a c,v,h=>by
   obtain⟨y,J,e,j,o⟩:=uU.1 h;exact uU.2 ⟨y,J,e,yF j,yF o⟩
 | .agg cs,v,h=>by
   obtain⟨y,e,j⟩:=uC.1 h;exact uC.2 ⟨y,e,yF j⟩
 | .yM cs,v,h=>by
   obtain⟨y,e,j⟩:=kl.1 h;exact kl.2 ⟨y,e,yF j⟩
theorem yF:∀{cs:List AV} {c:List Value},dZ w S m cs c->dZ w (S.ren l) (m.ren l) (uP l cs) c
 | [],c,h=>by rw[uP];exact bC.2 (bC.1 h)
 | a::cs,c,h=>by
   obtain⟨v,r,e,f,i⟩:=bQ.1 h;exact bQ.2 ⟨v,r,e,QW f,yF i⟩
end
theorem C4:∀{e:PT AV} {i:Nat},(GM l e).get i=(e.get i).map (nj l)
 | .leaf,i=>by rfl
 | .node a v b,i=>by
   show(PT.node (GM l a) (match v with|some x=>some (nj l x)|none=>none) (GM l b)).get i=_;rw[PT.pP,PT.pP];by_cases f:i=0
   ·grind
   ·rw[if_neg f,if_neg f]
    by_cases c:i%2=1
    ·rw[if_pos c,if_pos c,C4]
    ·rw[if_neg c,if_neg c,C4]
theorem aao{e:Env}:Env.at (GM l e) i=nj l (e.at i):=by
 rw[Env.at,Env.at,C4];cases PT.get e i<;>first|rfl|(simp;rw[nj])
theorem ae1{id:Nat}(c:rQ w S m id (m.at id))(G:(S.ren l).σ j=S.σ id)(D:(S.ren l).δ j=S.δ id)(y:(S.ren l).vd j=S.vd id):rQ w (S.ren l) (m.ren l) j (p8 l (m.at id)):=by
 cases hm:m.at id<;>rw[hm] at c<;>simp only[p8]
 case bZ=>trivial
 case a_=>trivial
 case UH=>trivial
 case Ie=>exact(show w.heap[(S.ren l).σ j]? = _ by rw[G];exact c)
 case ay fz cs=>
  obtain⟨u,T,fr,v,f,h⟩:=c;exact⟨u,T,fr,by simp_all,f,yF h⟩
 case arr fz t x=>
  refine⟨c.1,λe=>c.2.1 (y.symm.trans e),λp=>?_⟩;obtain⟨u,T,fr,v,f,h,o⟩:=c.2.2 (y.symm.trans p);exact⟨u,T,fr,by simp_all,f,by omega,by rw[D];exact o⟩
 case loop r=>
  obtain⟨L,v,f,h,o,z,A,B,C,J⟩:=c;exact⟨L,by simp_all,f,h,o,z,A,B,C,λi=>by grind [aao,QW]⟩
theorem Ot(h:c.vd j=S.vd i):c.lv j (p8 l b)=S.lv i b:=by cases b<;>simp_all [p8,St.lv]
theorem J_(h:c.vd j=S.vd i):c.fz j (p8 l b)=S.fz i b:=by cases b<;>simp_all [p8,St.fz]
theorem vU:(p8 l b).kj=b.kj:=by cases b<;>rfl
theorem alg(o:WR w0 w S m)(N:l.Nodup)(C:∀i,i<w0.R.length->l[i]? = some i):WR w0 w (S.ren l) (m.ren l):=by
 have f:∀j,(S.ren l).lv j ((m.ren l).at j)=true->∃id,l[j]? = some id/\(m.ren l).at j=p8 l (m.at id)/\((S.ren l).σ j=S.σ id/\(S.ren l).vd j=S.vd id)/\S.lv id (m.at id)=true:=λj h=>by
  rcases C6 (S:=S) (m:=m) (l:=l) j with ⟨id,c,u,p,_,x⟩|c|c
  ·grind [Ot]
  ·rw[c] at h;cases h
  ·rw[c] at h;cases h
 refine⟨o.os,o.tape,o.output,o.size,o.base,o.nC,λj=>?_,λj D h y e=>?_,λj h=>?_,λj h y=>?_,λj h=>?_,λi b h=>?_,o.cells⟩
 ·rcases C6 (S:=S) (m:=m) (l:=l) j with ⟨id,c,u,p,v,x⟩|c|c
  ·rw[u];exact ae1 (o.box id) p v x
  ·rw[c];trivial
  ·rw[c];trivial
 ·obtain⟨id,c,u,⟨p,_⟩,v⟩:=f j h
  obtain⟨z,G,J,⟨K,_⟩,A⟩:=f D y;have:=o.inj id z v A (by omega)
  grind [List.getElem_inj]
 ·obtain⟨id,c,u,⟨p,_⟩,v⟩:=f j h
  rw[p];exact o.lo id v
 ·obtain⟨id,c,u,⟨p,x⟩,v⟩:=f j h
  rw[p];rw[u,J_ x] at y;exact o.qE id v y
 ·rcases C6 (S:=S) (m:=m) (l:=l) j with ⟨id,c,u,p,v,x⟩|c|c
  ·rw[p]
   rw[u,J_ x] at h;exact o.IZ id h
  ·rw[c] at h;cases h
  ·rw[c] at h;cases h
 ·have B:=C i (aT.1 h).1
  refine⟨bu (aT.1 B).1 (by simp[Mem.ren]),?_⟩;obtain⟨_,u,p⟩:=o.root i b h
  simp_all [St.ren]
theorem yG{id:Nat}(h:id∈l):(m.ren l).at (idxOf l id 0)=p8 l (m.at id):=by
 obtain⟨j,c,f,i⟩:=yt (k:=0) h
 simp_all [C5]
theorem BM{id:Nat}(h:id∈l):(S.ren l).σ (idxOf l id 0)=S.σ id:=by
 obtain⟨j,c,f,i⟩:=yt (k:=0) h
 grind [St.ren]
theorem Ou{n:Nat}:∀{k:List dR} {o:List Item},(∀i∈k.flatMap qB,i∈l)->fL n S k o->fL n (S.ren l) (k.map (uq l)) o
 | [],o,_,h=>h
 | a::k,o,hl,h=>by
   obtain⟨j,v,rfl,c,p⟩:=h.cons_inv;refine .mk ?_ (Ou (λi u=>hl i (by grind)) p);have f:∀i∈qB a,i∈l:=λi u=>hl i (by grind);cases a<;>try exact c
   case oP id=>
    have c:j=.inRangeFunc (S.σ id):=c;show j=.inRangeFunc ((S.ren l).σ (idxOf l id 0));rw[(BM (f id (aJ.2 rfl)))];omega
   case o7 id=>
    have c:j=.endRangeFunc (S.σ id):=c;show j=.endRangeFunc ((S.ren l).σ (idxOf l id 0));rw[(BM (f id (aJ.2 rfl)))];omega
theorem D7:(uq l a).Gd=a.Gd:=by cases a<;>rfl
theorem I7:(uq l a).drawn=a.drawn:=by cases a<;>rfl
theorem aap{k:List dR}(p:∀i∈k.flatMap qB,i∈l)(h:dU m k):dU (m.ren l) (k.map (uq l)):=by
 intro b j;obtain⟨a,f,rfl⟩:=dy.1 j;have u:=h a f;have c:∀i∈qB a,i∈l:=λi o=>p i (List.mem_flatMap.2 ⟨a,f,o⟩);cases a<;>(try trivial)
 case oP id=>
  show((m.ren l).at (idxOf l id 0)).kj=true;rw[(yG (c id (aJ.2 rfl))),vU];omega
 case o7 id=>
  show((m.ren l).at (idxOf l id 0)).kj=true;rw[(yG (c id (aJ.2 rfl))),vU];omega
theorem Zj(e r:Env)(q i:Nat):Env.at (S9 e q r) i=Env.at r i\/(i=q/\∃k c n,e.at q=.int k c n/\Env.at (S9 e q r) i=.int k c n):=by grind [Env.zO,Lu,S9]
theorem z8{e:Env}{v:Nat->Value}{H:Nat->Prop}(h:∀i,¬H i->CR w S m (e.at i) (v i)):∀{f:List Nat} {i:Nat},¬H i->CR w (S.ren l) (m.ren l) ((uf l e f).at i) (v i)
 | [],i,_=>by grind [Env.R1,gK,uf]
 | j::f,i,hi=>by
   rw[uf];cases hj:Nat.ble j 65535 with
   | false=>
     rcases Zj e (uf l e f) (agF j) i with o|⟨o,k,c,n,p,u⟩
     ·rw[o];exact z8 h hi
     grind [CR]
   | true=>
     rw[Env.zO (Lu hj)];by_cases e:i=j
     ·simp_all [QW]
     ·rw[if_neg e];exact z8 h hi
theorem alf{f:dK}{fr:Frame}{G:List Nat}(c:FR w S m f fr)(hm:∀i∈f.marks,i∈l)(C:∀i,f.gi=some i->i∈l)(ht:∀i∈f.todo.flatMap qB,i∈l):
  FR w (S.ren l) (m.ren l) {f with env:=uf l f.env G,todo:=f.todo.map (uq l),marks:=f.marks.map (idxOf l · 0),gi:=f.gi.map (idxOf l · 0)} fr:=by
 refine⟨c.fn,c.n,c.small,λi u=>z8 (H:=λi=>Hid f fr i) c.env (λB=>u ?_),Ou ht c.todo,aap ht c.live,λa o=>?_,?_,λd A=>?_,c.mode,c.kind,?_,λi u=>?_⟩
 ·obtain⟨all,bs,J,D,b,p,x,y⟩:=B
  refine⟨all,bs,J,D,b,p,?_,y⟩;rw[<-x];cases f.todo with
  | nil=>rfl
  | cons a k=>exact I7
 ·have o:a∈(f.todo.map (uq l)).tail:=o
  rw[<-List.map_tail] at o;obtain⟨b,z,rfl⟩:=dy.1 o;rw[D7];exact c.ay b z
 ·rw[c.defers,fX]
  grind [List.map_congr_left,BM]
 ·obtain⟨v,h,rfl⟩:=dy.1 A
  rw[(yG (hm v h)),vU];exact c.marks v h
 ·rw[c.gi]
  cases hr':f.gi with
  | none=>rfl
  | some i=>grind [BM]
 ·cases hr':f.gi with
  | none=>simp_all
  | some j=>
    rw[hr'] at u;cases u;rw[(yG (C j hr')),vU];exact c.uu j hr'
theorem TF:∀{fs:List dK} {frs:List Frame} {o:List (List Nat)},(∀i∈p9 o fs,i∈l)->E3 w S m fs frs->E3 w (S.ren l) (m.ren l) (sD l o fs) frs
 | [],frs,o,_,h=>by rw[sD];exact h
 | f::fs,frs,o,hl,h=>by
   obtain⟨fr,r,rfl,p,u⟩:=h;have c:∀i,i∈f.marks++((match f.gi with|some l=>[l]|none=>[])++(f.todo.flatMap qB++p9 o.tail fs))->i∈l:=λi j=>hl i (by grind [p9])
   refine⟨fr,r,rfl,alf p (λi j=>c i (nY.2 (.inl j))) (λi j=>c i (nY.2 (.inr (nY.2 (.inl ?_))))) (λi j=>c i (nY.2 (.inr (nY.2 (.inr (nY.2 (.inl j))))))),
    TF (λi j=>c i (nY.2 (.inr (nY.2 (.inr (nY.2 (.inr j))))))) u⟩
   simp_all
theorem TG{f0:FuncId}:∀{fs:List dK} {ks:List (List Nat)},zG f0 fs->zG f0 (sD l ks fs)
 | [],ks,h=>h.elim
 | [f],ks,h=>h
 | f::g::r,ks,h=>by
   have:=TG (fs:=g::r) (ks:=ks.tail) h;exact this
theorem Fi{P:Program}{R:Type}{E:kF R}{I0:Nat->Prop}{f0:FuncId}{Fin:R->Value->World->Prop}{Q:R->Prop}(V:w0.R.length<=E.keep)(c:List (List Nat))(f:dK)(fs:List dK)(m:Mem)(O:∀a∈f.todo.head?,a.Gd=false)
  (h:Good P E w0 I0 f0 Fin Q (canon E.keep c {bF:=f::fs,mem:=m})):Good P E w0 I0 f0 Fin Q {bF:=f::fs,mem:=m}:=by
 intro _ S fr frs cs w D C G B;obtain⟨v,N,x⟩:=yj (acc:=List.range E.keep) (r:=p9 c (f::fs)) List.nodup_range;obtain⟨y,z⟩:=DD (f:=m.length+1) (m:=m) (p:=0) v;have A:∀i,i<w0.R.length->(ob (m.length+1) m (oJ (List.range E.keep) (p9 c (f::fs))) 0)[i]? = some i:=λi o=>by
  obtain⟨X,J⟩:=vv (r:=p9 c (f::fs)) (acc:=List.range E.keep);obtain⟨Z,K⟩:=AO (f:=m.length+1) (m:=m) (acc:=oJ (List.range E.keep) (p9 c (f::fs))) (p:=0)
  grind
 refine h ?_ (S.ren (ob (m.length+1) m (oJ (List.range E.keep) (p9 c (f::fs))) 0)) fr frs cs w (alg D y A) C (TF (λi o=>z i (x i o)) G) (TG B);unfold tL canon;simp[sD];split
 ·rename_i all W u bs k j
  cases ht:f.todo with
  | nil=>simp_all
  | cons a k'=>
    rw[ht] at j;simp at j;have:(uq (ob (m.length+1) m (oJ (List.range E.keep) (p9 c (f::fs))) 0) a).Gd=true:=by rw[j.1];rfl
    grind [D7]
 simp_all
end
end Go.Ev
namespace Go.Ev
section
variable {P:Program} {R:Type} {E:kF R} {w0:nu} {I0:Nat->Prop} {f0:FuncId} {Fin:R->Value->World->Prop} {Q:R->Prop}
theorem Kd(B:Fits P E Fin w0 I0){n:Nat}(A:∀c,Tr.Ok Q (Good P E w0 I0 f0 Fin Q) (run af E n c)->Good P E w0 I0 f0 Fin Q c)
  {w:World} {S:St} {m:Mem} {fr:Frame} {fs:List dK} {frs cs:List Frame} {f:dK} {jump:Option Code}
  (h:Tr.Ok Q (Good P E w0 I0 f0 Fin Q) (match f.gi with
    | none=>match su f.marks m with
      | none=>.bZ 139 ""
      | some m=>match look E.lL f.fn with
        | none=>.bZ 141 ""
        | some F=>match qz af E f.env m F.results.toList with
          | none=>.bZ 142 ""
          | some vs=>match fs with
            | []=>match E.fin (gQ vs) m with
              | some y=>.ret y
              | none=>.bZ 143 ""
            | g::gs=>match finish g (gQ vs) with
              | some g=>vZ af E g m (run af E n {bF:=g::gs,mem:=m})
              | none=>.bZ 144 ""
    | some l=>match m.at l with
      | .loop r=>match fs with
        | g::gs=>match finish g (.bool true (NV jump)) with
          | some g=>vZ af E g (m.set l (.loop {r with state:=Ge jump,pending:=jump})) (run af E n {bF:=g::gs,mem:=m.set l (.loop {r with state:=Ge jump,pending:=jump})})
          | none=>.bZ 145 ""
        | []=>.bZ 146 ""
      | _=>.bZ 147 ""))
  (o:∀x,¬Hid f fr x) (j:f.gi=none->step P (lone fr (frs++cs) w)=.next (lone {fr with mode:=.returning} (frs++cs) w))
  (ht:f.gi≠none->(fr.todo=[]/\jump=none)\/(∃k,fr.todo=.code .ret::k/\jump=some .ret)\/(∃id k,fr.todo=.code (.exit id)::k/\exitTo id k=none/\jump=some (.exit id))\/(∃id k,fr.todo=.code (.goto id)::k/\gotoIn id k=none/\jump=some (.goto id)))
  (v:WR w0 w S m) (u:∀b,S.I b->I0 b\/w0.free b) (z:FR w S m f fr) (i:E3 w S m fs frs) (p:zG f0 (f::fs)) :
  Ends P f0 Fin Q fr frs cs w:=by
 cases hr:f.gi with
 | none=>
   rw[hr] at h;exact NW B A h o (j hr) v u z i p
 | some l=>
   rw[hr] at h;exact xF A hr h (ht (by grind)) v u z i p
theorem pE(B:Fits P E Fin w0 I0):∀(n:Nat) (c:iB),Tr.Ok Q (Good P E w0 I0 f0 Fin Q) (run af E n c)->Good P E w0 I0 f0 Fin Q c
 | 0,c,h=>by rw[run] at h;exact h
 | n+1,c,h=>by
   have z:=pE B n;obtain⟨bF,m⟩:=c;intro A S fr frs cs w y v hF u;cases bF with
   | nil=>exact u.elim
   | cons f fs=>
     obtain⟨iH,a0,e,j,p⟩:=hF;cases e;obtain⟨fn,nn,env,J,marks,gi⟩:=f;cases J with
     | nil=>
       have ht:fr.todo=[]:=j.todo;refine Kd (jump:=none) B z ?_ (λx=>oD λa G=>by cases G) (λW=>afv j.mode (by rw[j.gi,W];rfl) ht) (λ_=>.inl ⟨ht,rfl⟩) y v j p u;exact h
     | cons i k=>
       obtain⟨it,X,ht,h1,K⟩:=j.todo.cons_inv;have plain:=λhi=>Vk (Fi (P:=P) (E:=E) (I0:=I0) (f0:=f0) (Fin:=Fin) (Q:=Q) B.keep) z (i:=i) (k:=k) hi h A y v j p u (cs:=cs);have D:i.Gd=false->∀x,¬Hid ⟨fn,nn,env,i::k,marks,gi⟩ fr x:=λa7 x=>oD λa G=>by grind
       cases i with
       | inBlock id=>grind
       | inLoop b=>grind
       | inScope b=>grind
       | oP l=>simp only[run] at h;exact h.elim
       | rS all ms i rest bs=>simp only[run] at h;exact h.elim
       | o7 l=>grind [Vj]
       | beginRound=>grind [Vh]
       | ops all rest=>
         cases rest with
         | nil=>grind
         | cons o rest=>grind [ae5]
       | jI all ms rest bs=>
         cases rest with
         | nil=>exact Vi B z h A y v j p u
         | cons i rest=>exact aav B z h A y v j p u
       | code x=>
         subst h1;cases x with
         | skip=>grind
         | label l=>grind
         | seq a b=>grind
         | cond x a b=>grind
         | block id b=>grind
         | loop b=>grind
         | scope b=>grind
         | refuse why=>simp only[run] at h;exact h.elim
         | region id os draw=>
           cases draw with
           | false=>grind
           | true=>exact Ox B (Fi (P:=P) (E:=E) (I0:=I0) (f0:=f0) (Fin:=Fin) (Q:=Q) B.keep) z h A y v j p u
         | rangeFunc x ps a b=>grind [Ja]
         | ret=>
           refine Kd (jump:=some .ret) B z ?_ (D rfl) (λW=>afy j.mode (by rw[j.gi,W];rfl) ht) (λ_=>.inr (.inl ⟨X,ht,rfl⟩)) y v j p u;exact h
         | exit id=>
           simp only[run] at h;cases he:mq id k with
           | some k'=>
             rw[he] at h;obtain⟨Z,C,N,O,V⟩:=A4 (m:=m) K he;exact jY y v j p u (D rfl) (afw j.mode ht C) N (O j.live.tail) (λa G=>j.ay a (V a G)) (z _ h)
           | none=>
             rw[he] at h;have C:=xj K he;cases gi with
             | none=>exact h.elim
             | some l=>simp only at h;exact xF (f:=⟨fn,nn,env,.code (.exit id)::k,marks,some l⟩) (jump:=some (.exit id)) z rfl h (.inr (.inr (.inl ⟨id,X,ht,C,rfl⟩))) y v j p u
         | goto id=>
           simp only[run] at h;cases he:mr id k with
           | some k'=>
             rw[he] at h;obtain⟨Z,C,N,O,V⟩:=Bh (m:=m) K he;exact jY y v j p u (D rfl) (afx j.mode ht C) N (O j.live.tail) (λa G=>(V a G).elim (j.ay a) λh=>h) (z _ h)
           | none=>
             rw[he] at h;have C:=xC K he;cases gi with
             | none=>exact h.elim
             | some l=>simp only at h;exact xF (f:=⟨fn,nn,env,.code (.goto id)::k,marks,some l⟩) (jump:=some (.goto id)) z rfl h (.inr (.inr (.inr ⟨id,X,ht,C,rfl⟩))) y v j p u
end
end Go.Ev
namespace Go.Ev
mutual
def Ty.has:(t:Ty)->t.T->Prop
 | .int k,x=>k.has x
 | .bool,_=>True
 | .str,x=>(show List UInt8 from x).length<=gy
 | .slice t,x=>(show List t.T from x).length<=gy/\∀y∈(show List t.T from x),Ty.has t y
 | .arr n t,x=>(show List t.T from x).length=n/\∀y∈(show List t.T from x),Ty.has t y
 | .struct ts,x=>Ty.jj ts x
 | .any _,_=>True
def Ty.jj:(c:List Ty)->Ty.Ts c->Prop
 | [],_=>True
 | [t],x=>Ty.has t x
 | t::f::c,x=>Ty.has t (Prod.fst (α:=t.T) (β:=Ty.Ts (f::c)) x)/\Ty.jj (f::c) (Prod.snd (α:=t.T) (β:=Ty.Ts (f::c)) x)
end
variable{t:Ty}{v:Value}
section
variable {w:World} {I:Nat->Prop}
mutual
theorem bW.has:∀(t:Ty) {cs:List Value} {x:t.T},bW w I t cs x->t.has x
 | .int k,cs,x,h=>by rw[Ty.has];exact(uV.1 h).2
 | .bool,cs,x,h=>by rw[Ty.has];trivial
 | .str,cs,x,h=>by rw[Ty.has];exact(AA.1 h).2
 | .slice t,cs,x,h=>by
   obtain⟨a,p,o,u,c,A,v⟩:=d_.1 h;refine⟨c,λy j=>?_⟩;obtain⟨i,f⟩:=gS j;obtain⟨b,off,B,_,_,_,_,z⟩:=v i y f;exact bW.has t z
 | .arr n t,cs,x,h=>by
   obtain⟨o,u,c⟩:=Az.1 h;refine⟨o,λy j=>?_⟩;obtain⟨i,f⟩:=gS j;exact bW.has t (c i y f)
 | .struct ts,cs,x,h=>by rw[Ty.has];exact fY.has ts (wX.1 h)
 | .any n,cs,x,h=>by rw[Ty.has];trivial
theorem fY.has:∀(c:List Ty) {cs:List Value} {x:Ty.Ts c},fY w I c cs x->Ty.jj c x
 | [],cs,x,h=>by rw[Ty.jj];trivial
 | [t],cs,x,h=>by rw[Ty.jj];exact bW.has t (Co.1 h)
 | t::j::c,cs,x,h=>by
   obtain⟨o,p,_,f,i⟩:=h;exact⟨bW.has t f,fY.has (j::c) i⟩
end
theorem mB.has{x:t.T}(h:mB w I t v x):t.has x:=by
 unfold mB at h;split at h;obtain⟨c,_,h⟩:=h;exact h.has;exact h.has
theorem kU.has:∀{c:List Ty} {f:List Value} {x:Ty.Ts c},kU w I c f x->Ty.jj c x
 | [],f,x,h=>by rw[Ty.jj];trivial
 | [t],f,x,h=>by
   obtain⟨v,_,h⟩:=h;exact h.has
 | t::t2::c,f,x,h=>by
   obtain⟨v,r,_,i,j⟩:=h;exact⟨i.has,j.has⟩
end
theorem Oq{c:Array Oper}:(List.range c.size).map (λi=>c[i]?)=c.toList.map some:=by
 apply dH
 grind
structure Closed{R:Type}(E:kF R)(Q:R->Prop)(G:iB->Prop):Prop where
 go:∀(n:Nat) (c:iB),Tr.Ok Q G (run af E n (advance E.jZ c))->G c
variable{F:Func}{I:Nat->Prop}{S:St}{g:FuncId}{m:Mem}{res:List Ty}
section
variable {P:Program} {R:Type} {E:kF R} {w0:nu} {I0:Nat->Prop} {f0:FuncId} {Fin:R->Value->World->Prop} {Q:R->Prop}
theorem Lh(V:Fits P E Fin w0 I0){c:iB}(u:Good P E w0 I0 f0 Fin Q (advance E.jZ c)):Good P E w0 I0 f0 Fin Q c:=by
 obtain⟨N,m⟩:=c;cases N with
 | nil=>exact u
 | cons f fs=>
   obtain⟨fn,nn,env,y,marks,gi⟩:=f;cases y with
   | nil=>exact u
   | cons i k=>
     cases i with
     | inLoop b=>
       intro _ S fr frs cs w B A v z;obtain⟨J,p,e,j,o⟩:=v;cases e;obtain⟨O,K,ht,C,D⟩:=j.todo.cons_inv;have G:step P (lone fr (frs++cs) w)=.next (lone {fr with todo:=.code b :: .inLoop b::K} (frs++cs) w):=by
        rcases C with rfl|rfl
        ·exact Ki j.mode ht
        ·exact T4 j.mode ht
       refine jY B A j o z (λx=>oD λa h=>by cases h;rfl) G D.inLoop.code (.mk trivial (.mk trivial j.live.tail)) (λa h=>?_) u;rcases aG.1 h with rfl|h
       ·rfl
       ·rcases aG.1 h with rfl|h
        ·rfl
        ·exact j.ay a h
     | code x=>
       cases x with
       | region id os draw=>
         cases draw with
         | false=>
           intro _ S fr frs cs w B A v z;obtain⟨J,p,e,j,o⟩:=v;cases e;obtain⟨O,K,ht,C,D⟩:=j.todo.cons_inv;subst C;refine jY B A j o z (λx=>oD λa h=>by cases h;rfl) (Kj j.mode ht) (.mk (a:=.ops os os.toList) ⟨_,rfl,Oq⟩ D) (.mk trivial j.live.tail) (λa h=>?_) u;rcases aG.1 h with rfl|h
           ·rfl
           ·exact j.ay a h
         | true=>
           simp only[advance] at u;cases hd:qy E.jZ os with
           | none=>simp_all
           | some q=>
             intro _ S fr frs cs w B A v z;obtain⟨J,p,e,j,o⟩:=v
             grind [GL]
       | _=>exact u
     | _=>exact u
theorem o8(f:Fits P E Fin w0 I0):Closed E Q (Good P E w0 I0 f0 Fin Q):=
 ⟨λn c h=>Lh f (pE f n _ h)⟩
def acR(w0:World)(I0:Nat->Prop)(res:List Ty)(y:Ty.Ts res)(v:Value)(c:World):Prop:=
 c.os=w0.os/\c.tape=w0.tape/\c.output=w0.output/\w0.heap.size<=c.heap.size/\(∀b,b<w0.heap.size->c.heap[b]? = w0.heap[b]?)/\
  ∃f,(∀b,f b->I0 b\/(w0.heap.size<=b/\b<c.heap.size))/\rD c f res v y
theorem oZ{c:World}{b:Nat}(h:(World.whole c).free b):c.heap.size<=b:=h.elim id λk=>k.elim
theorem zU{G:World}{w:World}{z:AV}{y:Ty.Ts res}(u:WR (World.whole G) w S m)(Z:∀b,S.I b->I0 b\/(World.whole G).free b)(h:CJ af res z m=some y)(K:CR w S m z v):acR G I0 res y v w:=by
 have c:∀(i:List AV) (p:List Value),kQ res i=true->dZ w S m i p->(match fA af res m (i.flatMap AV.cells) with
   | none=>none
   | some (_,cs)=>match qM res cs with
     | some (y, [])=>some y
     | _=>none)=some y->∃o,(∀b,o b->I0 b\/(G.heap.size<=b/\b<w.heap.size))/\kU w o res p y:=by
  intro i p f j h;obtain⟨L,hL,B⟩:=n_ f j;cases hf:fA af res m (i.flatMap AV.cells) with
  | none=>simp_all
  | some q=>
    obtain⟨m1,J⟩:=q;rw[hf] at h;simp only at h;obtain⟨X,V,N⟩:=gT u hf hL;cases htd:qM res J with
    | none=>simp_all
    | some q=>
      obtain⟨x,r⟩:=q;rw[htd] at h;cases r with
      | cons _ _=>cases h
      | nil=>
        cases h;obtain⟨u1,u2,e,W,hr⟩:=nq res htd N;have O:=bC.1 hr;rw[O,aL] at e;rw[<-e] at W;refine⟨X.I,λb A=>?_,B _ y W⟩;rcases V.grows b A with h|h
        ·rcases Z b h with h|h
         ·simp_all
         ·exact .inr ⟨oZ h,V.wr.nC b A⟩
        ·exact .inr ⟨oZ h,V.wr.nC b A⟩
 refine⟨u.os,u.tape.1,u.output,u.size,λb A=>u.base b λk=>absurd (oZ k) (kZ A),?_⟩;unfold CJ at h
 match res,y,h,c with
 | [],y,h1,c=>
   obtain⟨i,rfl⟩:∃i,z=.yM i:=by grind
   obtain⟨p,rfl,j⟩:=kl.1 K;simp only at h1;split at h1;cases h1;rename_i f;obtain⟨o,C,D⟩:=c i p.toList f j h1;exact⟨o,C,by rw[rD,dT.1 D]⟩
 | [t],y,h1,c=>
   simp only at h1;split at h1;cases h1;rename_i f;obtain⟨o,C,D⟩:=c [z] [v] f (bQ.2 ⟨v, [],rfl,K,bC.2 rfl⟩) h1;obtain⟨v',e,D⟩:=D;exact⟨o,C,by grind [rD]⟩
 | t::t2::ts,y,h1,c=>
   obtain⟨i,rfl⟩:∃i,z=.yM i:=by grind
   obtain⟨p,rfl,j⟩:=kl.1 K;simp only at h1;split at h1;cases h1;rename_i f;obtain⟨o,C,D⟩:=c i p.toList f j h1;exact⟨o,C,by grind [rD]⟩
structure Base{R:Type}(P:Program)(E:kF R):Prop where
 ti:nZ P E.ti
 lL:∀g F,look E.lL g=some F->P.funcs[g]? = some F/\(F.name == "runtime.NumGoroutine")=false
 jZ:∀g s,look E.jZ g=some s->s.bE P g
 mixed:P.follows .mixedOrders=true
 uN:∀g s,look E.uN g=some s->s.bE P g
 uM:∀g s,look E.uM g=some s->s.bE P g
 uL:∀g s,look E.uL g=some s->s.bE P g
 ops:∀g s,look E.ops g=some s->s.bE P g
theorem G7{w:World}(c:∀b,I b->b<w.heap.size):WR (World.whole w) w {σ:=λ_=>0,δ:=λ_=>0,vd:=λ_=>false,I:=I} []:=
 ⟨rfl,⟨rfl,λ_=>aj _⟩,rfl,aj _,λ_ _=>rfl,c,λ_=>trivial,λ_ _ h=>(by cases h),λ_ h=>(by cases h),λ_ h=>(by cases h),λ_ h=>(by cases h),λ_ _ h=>(by grind [World.whole]),λb f T fr h=>⟨f,T,fr,h,rfl⟩⟩
theorem Ms{g:FuncId}{F:Func}{s:aK}{E:kF (Ty.Ts s.res)}(f:Base P E)(X:E.fin=CJ af s.res)(hg:look E.lL g=some F)(u:F.body.isSome=true)(ha:s.Na=true->∀x,s.pre x=true)(n:Nat)
  (h:∀x,s.pre x=true->Ty.jj s.args x->∃A,jh g F (ib af s.args x)=some A/\∀G,Closed E (λy=>y=s.fn x) G->Tr.Ok (λy=>y=s.fn x) G (run af E n {bF:=[A],mem:=[]})):s.bE P g:=by
 obtain⟨V,hn⟩:=f.lL g F hg;refine⟨λw I x aa hI o z cs=>?_,ha,F,V,u,hn⟩;obtain⟨A,c,O⟩:=h x z o.has;have W:Fits P E (acR w I s.res) (World.whole w) I:=⟨f.ti,f.lL,f.jZ,f.mixed,λS Z m av y v C B hf hc=>zU C B (by simp_all) hc,f.uN,f.uM,f.uL,f.ops,aX _,λk=>False.elim k⟩;have p:=pE W (Q:=λy=>y=s.fn x) (f0:=g) n _ (O _ (o8 W));have C:=G7 hI;obtain⟨K,_,N⟩:=kG V c (od (S:={σ:=λ_=>0,δ:=λ_=>0,vd:=λ_=>false,I:=I}) (m:=[]) (λb u=>u) o);have hB:zG g [A]:=by
  unfold jh at c;cases hbb:F.body with
  | none=>grind
  | some b=>
    rw[hbb] at c;simp only at c;split at c
    ·cases c;rfl
    grind
 obtain⟨y,v,Z,iH,hy,D,j,J,i⟩:=p (gJ N) _ _ [] cs w C (λb u=>.inl u) ⟨_,_,rfl,K,rfl⟩ hB;obtain⟨g1,g2,g3,g4,g5,I',g6,g7⟩:=D;exact⟨.returned v,Z,iH,⟨v,rfl,g1,g2,g3,g4,g5,I',g6,by grind⟩,j,J,i⟩
theorem WR.plain{o w:World}(h:WR (World.M5 o) w S m):WR (World.whole o) w S m:=
 ⟨h.os,⟨h.tape.1,λk=>False.elim k⟩,h.output,h.size,h.base,h.nC,h.box,h.inj,h.lo,h.qE,h.IZ,h.root,h.cells⟩
theorem VI{w:World}(c:∀b,I b->b<w.heap.size):WR (World.M5 w) w {σ:=λ_=>0,δ:=λ_=>0,vd:=λ_=>false,I:=I} []:=
 ⟨rfl,⟨rfl,λ_=>aj _⟩,rfl,aj _,λ_ _=>rfl,c,λ_=>trivial,λ_ _ h=>(by cases h),λ_ h=>(by cases h),λ_ h=>(by cases h),λ_ h=>(by cases h),λ_ _ h=>(by grind [World.M5]),λb f T fr h=>⟨f,T,fr,h,rfl⟩⟩
theorem Ji{g:FuncId}{F:Func}{s:aK}{E:kF (Ty.Ts s.res)}(f:Base P E)(Z:E.fin=CJ af s.res)(hg:look E.lL g=some F)(V:(∀g s,look E.jZ g=some s->s.oI P g)/\E.uN=[]/\E.uM=[]/\E.uL=[]/\E.ops=[])(n:Nat)
  (h:∀x,s.pre x=true->Ty.jj s.args x->∃A,jh g F (ib af s.args x)=some A/\∀G,Closed E (λy=>y=s.fn x) G->Tr.Ok (λy=>y=s.fn x) G (run af E n {bF:=[A],mem:=[]})):s.oI P g:=by
 obtain⟨hF,hn⟩:=f.lL g F hg;intro w I x aa hI o u cs;obtain⟨A,c,W⟩:=h x u o.has;have X:Fits P E (λy v z=>w.drawn<=z.drawn/\acR w I s.res y v z) (World.M5 w) I:=⟨f.ti,f.lL,f.jZ,f.mixed,λS z m av y v B C hf hc=>⟨B.tape.2 trivial,zU B.plain C (by simp_all) hc⟩,f.uN,f.uM,f.uL,f.ops,aX _,λ_=>V⟩;have p:=pE X (Q:=λy=>y=s.fn x) (f0:=g) n _ (W _ (o8 X));have B:=VI hI;obtain⟨N,_,O⟩:=kG hF c (od (S:={σ:=λ_=>0,δ:=λ_=>0,vd:=λ_=>false,I:=I}) (m:=[]) (λb D=>D) o);have hB:zG g [A]:=by
  unfold jh at c;cases hbb:F.body with
  | none=>grind
  | some b=>
    rw[hbb] at c;simp only at c;split at c
    ·cases c;rfl
    grind
 obtain⟨y,v,z,iH,hy,J,j,K,i⟩:=p (gJ O) _ _ [] cs w B (λb D=>.inl D) ⟨_,_,rfl,N,rfl⟩ hB;obtain⟨g0,g1,g2,g3,g4,g5,I',g6,g7⟩:=J;exact⟨.returned v,z,iH,⟨g0,v,rfl,g1,g2,g3,g4,g5,I',g6,by grind⟩,j,K,i⟩
mutual
theorem bW.anyI{w:World}{I c:Nat->Prop}:∀(t:Ty) {cs:List Value} {x:t.T},t.scalar=true->bW w I t cs x->bW w c t cs x
 | .int k,cs,x,_,h=>by grind [bW]
 | .bool,cs,x,_,h=>by grind [bW]
 | .str,cs,x,_,h=>by grind [bW]
 | .slice t,cs,x,ht,h=>by cases ht
 | .arr n t,cs,x,ht,h=>by
   exact⟨h.1,h.2.1,λi y f=>bW.anyI t (by grind [Ty.scalar]) (h.2.2 i y f)⟩
 | .struct ts,cs,x,ht,h=>by rw[bW] at h ⊢;exact fY.anyI ts (by grind [Ty.scalar]) h
 | .any n,cs,x,ht,h=>by cases ht
theorem fY.anyI{w:World}{I f:Nat->Prop}:∀(c:List Ty) {cs:List Value} {x:Ty.Ts c},Ty.mV c=true->fY w I c cs x->fY w f c cs x
 | [],cs,x,_,h=>by grind [fY]
 | [t],cs,x,ht,h=>by rw[fY] at h ⊢;exact bW.anyI t (by grind [Ty.mV]) h
 | t::p::c,cs,x,ht,h=>by
   rw[Ty.mV,fv] at ht;obtain⟨u,v,i,j,o⟩:=h;exact⟨u,v,i,bW.anyI t ht.1 j,fY.anyI (p::c) ht.2 o⟩
end
theorem mB.anyI{w:World}{f:Nat->Prop}{x:t.T}(ht:t.scalar=true)(h:mB w I t v x):mB w f t v x:=by
 unfold mB at h ⊢;split at h;rename_i c;rw[if_pos c];obtain⟨i,e,h⟩:=h;exact⟨i,e,bW.anyI t ht h⟩;rename_i c;rw[if_neg c];grind [bW.anyI]
theorem kU.anyI{w:World}{I i:Nat->Prop}:∀{c:List Ty} {f:List Value} {x:Ty.Ts c},Ty.mV c=true->kU w I c f x->kU w i c f x
 | [],f,x,_,h=>by grind [kU]
 | [t],f,x,ht,h=>by
   obtain⟨v,e,h⟩:=h;exact⟨v,e,mB.anyI (by grind [Ty.mV]) h⟩
 | t::t2::c,f,x,ht,h=>by
   rw[Ty.mV,fv] at ht;obtain⟨v,r,e,j,o⟩:=h;exact⟨v,r,e,mB.anyI ht.1 j,kU.anyI ht.2 o⟩
theorem rD.anyI{w:World}{c:Nat->Prop}:∀{res:List Ty} {v:Value} {y:Ty.Ts res},Ty.mV res=true->rD w I res v y->rD w c res v y
 | [],v,y,_,h=>by grind [rD]
 | [t],v,y,ht,h=>by grind [mB.anyI,rD,Ty.mV]
 | t::t2::ts,v,y,ht,h=>by
   obtain⟨f,e,h⟩:=h;exact⟨f,e,kU.anyI ht h⟩
theorem Jm{s:qs}{E:kF (Ty.Ts s.res)}(i:Base P E)(a6:E.fin=CJ af s.res)(hg:look E.lL g=some F)(K:F.body.isSome=true)(n:Nat)(b0:Ty.mV s.res=true)
  (h:∀x y,s.pre (x,y)=true->s.view.has x->Ty.jj s.args y->∃B,jh g F (.pI s.view x 0::ib af s.args y)=some B/\∀G,Closed E (λr=>r=s.fn (x,y)) G->Tr.Ok (λr=>r=s.fn (x,y)) G (run af E n {bF:=[B],mem:=[]})):s.bE P g:=by
 obtain⟨hF,hn⟩:=i.lL g F hg;refine⟨λw I x y b us T fr aa hI hh hx hy A cs=>?_,F,hF,K,hn⟩;obtain⟨B,f,a0⟩:=h x y A hx.has hy.has;have N:b<w.heap.size:=(dp.1 hh).1;have D:∀c,(I c\/c=b)->c<w.heap.size:=λc u=>u.elim (hI c) (λe=>e▸N);have X:∀c,I c->(I c\/c=b)/\w.heap[c]? = w.heap[c]? :=λc u=>⟨.inl u,rfl⟩;have hP:Fits P E (acR w (λc=>I c\/c=b) s.res) (World.whole w) (λc=>I c\/c=b):=⟨i.ti,i.lL,i.jZ,i.mixed,λS w' m av y v J C hf u=>zU J C (by simp_all) u,i.uN,i.uM,i.uL,i.ops,aX _,λk=>False.elim k⟩;have z:=pE hP (Q:=λr=>r=s.fn (x,y)) (f0:=g) n _ (a0 _ (o8 hP));have J:=G7 D;have p:dZ w {σ:=λ_=>0,δ:=λ_=>0,vd:=λ_=>false,I:=λc=>I c\/c=b} [] (.pI s.view x 0::ib af s.args y) (Value.pointer (some ⟨b,0,none⟩)::aa).toArray.toList:=by
  refine bQ.2 ⟨_,_,rfl,tK.2 ⟨b,0,us.toList,rfl,.inr rfl,bW.length _ hx,?_,bW.mono X _ hx⟩,od (I:=I) (λc u=>Or.inl u) hy⟩;have:=jm (w:=w) hh 0 us.size
  grind [List.take_of_length_le]
 obtain⟨W,_,Z⟩:=kG hF f p;have hB:zG g [B]:=by
  unfold jh at f;cases hbb:F.body with
  | none=>simp_all
  | some b=>
    rw[hbb] at f;simp only at f;split at f
    ·cases f;rfl
    simp_all
 obtain⟨r,v,w',iH,hr,O,o,V,j⟩:=z (gJ Z) _ _ [] cs w J (λb K=>.inl K) ⟨_,_,rfl,W,rfl⟩ hB;obtain⟨g1,g2,g3,g4,g5,I',g6,g7⟩:=O;exact⟨.returned v,w',iH,⟨v,rfl,g1,g2,g3,g4,g5,by grind [rD.anyI]⟩,o,V,j⟩
end
def World.with(w:World)(B:List Nat)(c:List (Nat×Option Nat)):nu:={w with X:=λb=>b∈B,R:=c}
def Gn(c:List Nat):List (Nat×Option Nat):=c.map λb=>(b,none)
def xQ(D:Nat->Nat×Nat)(c:List VF)(f:List Nat):List (Nat×Option Nat):=Gn f++(VF.iU c).map λk=>((D k).1,some (D k).2)
variable{D:Nat->Nat×Nat}
theorem Ka{f:List VF}{c:List Nat}{i b:Nat}(h:c[i]? = some b):(xQ D f c)[i]? = some (b,none):=by
 obtain⟨j,o⟩:=aT.1 h;rw[xQ,bR (by rw[Gn,bO];exact j),Gn,cy,h];rfl
variable{c:List VF}
theorem Vd{f:List Nat}(u:f.length=c.length)(o:VF.iU c=List.range' c.length (VF.iU c).length){k:Nat}(h:k∈VF.iU c):(xQ D c f)[k]? = some ((D k).1,some (D k).2):=by
 obtain⟨j,p,e⟩:=ja.1 h;have i:k=c.length+j:=by grind
 have v:(Gn f).length=c.length:=by rw[Gn,bO,u]
 rw[xQ,cn (by omega),v,i,Nat.add_sub_cancel_left,cy,EK p,e,<-i];rfl
theorem JX:∀{fx:List (Nat×Nat)},F6 fx=true->∀p∈fx,p.2=p.1
 | [],_,p,c=>absurd c aI
 | (k,id)::r,h,p,c=>by
   rw[F6,fv] at h;rcases aG.1 c with rfl|c
   ·simp_all
   ·exact JX h.2 p c
def anF(w0:World)(I0:Nat->Prop)(D:Nat->Nat×Nat)(B o:List Nat)(z:Bool)(f:List VF)(res:List Ty)(y:Ty.Ts (VF.iq f)×Ty.Ts res)(v:Value)(c:World):Prop:=
 c.os=w0.os/\c.tape=w0.tape/\c.output=w0.output/\w0.heap.size<=c.heap.size/\(∀b,b<w0.heap.size->b ∉ B++oM D f->c.heap[b]? = w0.heap[b]?)/\
  ∃(h:Nat->Prop) (i:List Nat),(∀b,h b->(I0 b\/b∈B++oM D f\/w0.heap.size<=b)/\b<c.heap.size)/\(∀(b:Nat) (p:Array Value) (T:TypeId) (fr:Nat×Nat),w0.heap[b]? = some (.cells p T fr)->∃(j:Array Value) (u:TypeId) (x:Nat×Nat),c.heap[b]? = some (.cells j u x)/\j.size=p.size)/\qX c h D f (mU o) y.1 i/\(i++oM D f).Nodup/\(∀b∈i++oM D f,(b∈B++oM D f\/w0.heap.size<=b)/\¬h b)/\acS c h z o res v y.2
theorem GR{w0:nu}{w:World}{S:St}{m:Mem}(C:WR w0 w S m):∀{j:List VF} {k:Nat} {c:List Nat} {x:Ty.Ts (VF.iq j)} {ids:List Nat},im j=true->(∀i b,c[i]? = some b->S.σ (k+i)=b)->c.length=j.length->
  VF.reads m j ((List.range j.length).map λi=>AV.ptr (k+i) 0)=some (x,ids, [])->dZ w S m ((List.range j.length).map λi=>AV.ptr (k+i) 0) (mU c)
 | [],k,c,x,ids,_,_,hl,_=>by
   have:c=[]:=cB.1 hl;subst this;rfl
 | f::fs,k, [],x,ids,_,_,hl,_=>by grind
 | f::fs,k,r::c,x,ids,u,hr,hl,h=>by
   have e:(List.range (f::fs).length).map (λi=>AV.ptr (k+i) 0)=AV.ptr k 0::(List.range fs.length).map λi=>AV.ptr (k+1+i) 0:=by
    rw[bw,List.range_succ_eq_map,eB,fX];congr 1
    grind [List.map_congr_left]
   rw[e] at h ⊢;obtain⟨z,u⟩:=gU u;have one:∀{y:f.ty.T} {A:List Nat} {o:List AV},VF.read m f (AV.ptr k 0::(List.range fs.length).map λi=>AV.ptr (k+1+i) 0)=some (y,A,o)->CR w S m (.ptr k 0) (.pointer (some ⟨r,0,none⟩))/\o=(List.range fs.length).map λi=>AV.ptr (k+1+i) 0:=by
    intro y A o h;generalize f.sub=D at z;rcases z with rfl|rfl
    all_goals
     simp only[VF.read] at h;cases hm:m.at k<;>rw[hm] at h<;>(try simp only at h)<;>try (cases h;done)
     case ay fz l=>
      refine⟨?_,?_⟩
      ·rw[CR,hm]
       rw[<-hr 0 r rfl];rfl
      grind
   cases fs with
   | nil=>
     have v:c=[]:=cB.1 (by simp_all);subst v;exact bQ.2 ⟨_,_,rfl,(one h).1,bC.2 rfl⟩
   | cons g fs=>
     simp only[VF.reads] at h;cases h1:VF.read m f (AV.ptr k 0::(List.range (g::fs).length).map λi=>AV.ptr (k+1+i) 0) with
     | none=>simp_all
     | some p=>
       obtain⟨a,J,o⟩:=p;rw[h1] at h;simp only at h;obtain⟨c1,B⟩:=one h1;cases h2:VF.reads m (g::fs) o with
       | none=>grind
       | some q=>
         obtain⟨b,K,N⟩:=q;rw[h2] at h;obtain⟨_,_,rfl⟩:=h;rw[B] at h2;exact bQ.2 ⟨_,_,rfl,c1,GR C u (λi b G=>by rw[Nat.add_assoc,mg 1 i];simp_all) (by simpa using hl) h2⟩
theorem QX{k n:Nat}:fP ((List.range n).map λi=>AV.ptr (k+i) 0)=(List.range n).map (k + ·):=by
 induction List.range n with
 | nil=>rfl
 | cons a l ih=>grind [fP]
variable{B:List Nat}{I0:Nat->Prop}
theorem PN{w1:World}{w:World}{av:AV}{W:List Nat}{rp:Bool}{y:Ty.Ts (VF.iq c)×Ty.Ts res}(hk:W.length=c.length)(aa:VF.iU c=List.range' c.length (VF.iU c).length)(G:WR (World.with w1 (B++oM D c) (xQ D c W)) w S m)
  (hI:∀b,S.I b->I0 b\/(World.with w1 (B++oM D c) (xQ D c W)).free b) (h:PL af rp c res av m=some y) (hc:CR w S m av v):anF w1 I0 D B W rp c res y v w:=by
 have f:∀(u:List AV) (X:List Value),kQ res u=true->dZ w S m u X->(match fA af res m (u.flatMap AV.cells) with
   | none=>none
   | some (m,cs)=>match qM res cs with
     | some (y, [])=>match VF.reads m c (jl c.length) with
       | some (x,ids, [])=>match nQ ids&&(im c&&F6 (VF.yp m c (jl c.length))) with
         | true=>some (x,y)
         | false=>none
       | _=>none
     | _=>none)=some y->∃(A:Nat->Prop) (C:List Nat),(∀b,A b->(I0 b\/b∈B++oM D c\/w1.heap.size<=b)/\b<w.heap.size)/\qX w A D c (mU W) y.1 C/\(C++oM D c).Nodup/\(∀b∈C++oM D c,(b∈B++oM D c\/w1.heap.size<=b)/\¬A b)/\kU w A res X y.2:=by
  intro u X j J h;obtain⟨L,hL,ad⟩:=n_ j J;cases hf:fA af res m (u.flatMap AV.cells) with
  | none=>grind
  | some q=>
    obtain⟨m1,an⟩:=q;rw[hf] at h;simp only at h;obtain⟨K,s1,as⟩:=gT G hf hL;cases htd:qM res an with
    | none=>grind
    | some q=>
      obtain⟨x,r⟩:=q;rw[htd] at h;cases r with
      | cons _ _=>cases h
      | nil=>
        obtain⟨u1,u2,e,hx,hr⟩:=nq res htd as;have b5:=bC.1 hr;rw[b5,aL] at e;rw[<-e] at hx;cases hrd:VF.reads m1 c (jl c.length) with
        | none=>grind
        | some q=>
          obtain⟨z,ids,r⟩:=q;rw[hrd] at h;cases r with
          | cons _ _=>cases h
          | nil=>
            simp only at h;split at h
            rotate_left
            cases h;rename_i O;cases h;rw[fv,fv] at O;have e0:jl c.length=(List.range c.length).map λi=>AV.ptr (0+i) 0:=by
             rw[jl];grind
            have aw:dZ w K m1 (jl c.length) (mU W):=by
             rw[e0] at hrd ⊢;exact GR s1.wr O.2.1 (λi b N=>by rw[gF];exact(s1.wr.root i (b,none) (Ka N)).2.1) hk hrd
            obtain⟨Z,_⟩:=xA c hrd;have hD:∀p∈VF.yp m1 c (jl c.length),D p.1=(K.σ p.2,K.δ p.2)/\K.vd p.2=false:=λp hp=>by
             rw[JX O.2.2 p hp];obtain⟨_,r1,r2⟩:=s1.wr.root p.1 _ (Vd hk aa (by grind))
             grind
            obtain⟨v1,v2,js,e3,b0,V,az,bx,ae⟩:=VF.pq s1.wr c hrd hD aw;have bc:oM D c=((VF.yp m1 c (jl c.length)).map Prod.snd).map K.σ:=by
             rw[oM,<-Z,fX,fX];exact eQ λp hp=>by grind
            have aq:(js++(VF.yp m1 c (jl c.length)).map Prod.snd).map K.σ=js.map K.σ++oM D c:=by grind
            rw[bC.1 b0,aL] at e3;rw[<-e3] at ae;obtain⟨b1,b2,b3,b4⟩:=vM s1.wr (V.2 (pg O.1)) V.1 az;rw[aq] at b1 b2 b3;refine⟨K.I,js.map K.σ,λb N=>⟨?_,s1.wr.nC b N⟩,ae,b1,λb N=>⟨(b3 b N).elim .inr .inl,b2 b N⟩,ad _ _ hx⟩;rcases s1.grows b N with h|h
            ·rcases hI b h with h|h
             ·grind
             ·exact .inr (h.elim .inr .inl)
            ·exact .inr (h.elim .inr .inl)
 refine⟨G.os,G.tape.1,G.output,G.size,λb N hB=>G.base b λk=>k.elim (λk=>absurd k (kZ N)) hB,?_⟩;unfold PL at h;cases rp with
 | true=>
   unfold ap2 at h;cases av<;>try (cases h;done)
   rename_i i d;simp only at h;cases hq:Nat.beq i 0&&(Nat.beq d 0&&Nat.ble 1 c.length) with
   | false=>grind
   | true=>
     rw[hq] at h;have hq:=(fv _ _).mp hq;have ac:=(fv _ _).mp hq.2;cases vH hq.1;cases vH ac.1;have o:=Lu ac.2;cases hm:m.at 0<;>rw[hm] at h<;>try (cases h;done)
     simp only at h;split at h;cases h;rename_i j;obtain⟨A,C,k1,k2,k3,k4,_⟩:=f [] [] j (bC.2 rfl) h;refine⟨A,C,k1,G.cells,k2,k3,k4,?_⟩;cases W with
     | nil=>grind
     | cons b W=>
       have e:=(G.root 0 (b,none) (Ka (by rfl))).2.1;rw[CR,hm] at hc;rw[hc];show some (Value.pointer (some ⟨b,0,none⟩))=_
       grind
 | false=>
 simp only at h
 match res,y,h,f with
 | [],y,o,f=>
   obtain⟨u,rfl⟩:∃u,av=.yM u:=by grind
   obtain⟨X,rfl,J⟩:=kl.1 hc;simp only at o;split at o;cases o;rename_i j;obtain⟨A,C,k1,k2,k3,k4,k5⟩:=f u X.toList j J o;exact⟨A,C,k1,G.cells,k2,k3,k4,by rw[acS,rD,dT.1 k5]⟩
 | [t],y,o,f=>
   simp only at o;split at o;cases o;rename_i j;obtain⟨A,C,k1,k2,k3,k4,k5⟩:=f [av] [v] j (bQ.2 ⟨v, [],rfl,hc,bC.2 rfl⟩) o;obtain⟨v',e,k5⟩:=k5;cases e;exact⟨A,C,k1,G.cells,k2,k3,k4,by rw[acS,rD];omega⟩
 | t::t2::ts,y,o,f=>
   obtain⟨u,rfl⟩:∃u,av=.yM u:=by grind
   obtain⟨X,rfl,J⟩:=kl.1 hc;simp only at o;split at o;cases o;rename_i j;obtain⟨A,C,k1,k2,k3,k4,k5⟩:=f u X.toList j J o;exact⟨A,C,k1,G.cells,k2,k3,k4,by simp_all;exact⟨X,rfl,k5⟩⟩
mutual
theorem VR.has{w:World}{I:Nat->Prop}{D:Nat->Nat×Nat}:∀(f:VF) {c:List Value} {x:f.ty.T} {B:List Nat},VR w I D f c x B->f.ty.has x
 | .d t,c,x,B,h=>(ait.1 h).1.has
 | .own t,c,x,B,h=>by
   rcases nO.1 h with ⟨e,_⟩|⟨b,G,o,_,_,_,p,A,T,fr,_,_,_,v⟩
   ·have e:x=([]:List t.T):=e
    subst e;exact⟨aX _,λy j=>absurd j aI⟩
   ·refine⟨p,λy j=>?_⟩
    obtain⟨i,z⟩:=gS j;exact(v i y z).has
 | .fix k t,c,x,B,h=>by
   obtain⟨_,o,_,_,p,A,T,fr,_,_,_,v⟩:=vu.1 h;refine⟨p,λy j=>?_⟩;obtain⟨i,z⟩:=gS j;exact(v i y z).has
 | .ptr fs,c,x,B,h=>by
   obtain⟨b,C,_,_,A,T,fr,_,_,u⟩:=Fa.1 h;exact qX.has fs u
 | .nP fs,c,x,B,h=>by
   obtain⟨b,_,_,A,T,fr,_,_,u⟩:=vt.1 h;exact qX.has fs u
theorem qX.has{w:World}{I:Nat->Prop}{D:Nat->Nat×Nat}:∀(fs:List VF) {c:List Value} {x:Ty.Ts (VF.iq fs)} {B:List Nat},qX w I D fs c x B->Ty.jj (VF.iq fs) x
 | [],c,x,B,h=>trivial
 | [f],c,x,B,h=>VR.has f (tN.1 h)
 | f::g::fs,c,x,B,h=>by
   obtain⟨u,v,o,p,_,_,i,j⟩:=AB.1 h;exact⟨VR.has f i,qX.has (g::fs) j⟩
end
theorem Gb:∀{aM:List VF} {m:Mem} {i:Nat},(m++holds aM).at (m.length+i)=match aM[i]? with|some f=>Ga f|none=>.bZ
 | [],m,i=>by simp_all [holds,Mem.at]
 | f::fs,m,0=>by
   rw[Mem.at,holds,List.getElem?_cons_zero,ky,xB,cn (aj _),kD];rfl
 | f::fs,m,i+1=>by
   rw[holds,List.getElem?_cons_succ,<-Gb (m:=m ++ [Ga f])]
   grind
theorem Fe{A:aU}{h:Nat->AV}:∀{aM:List VF} {vs:List AV} {x:Ty.Ts (VF.iq aM)} {m:Mem},im aM=true->vs.length=aM.length->(∀v∈vs,∃id off,v=.ptr id off)->∃j,VF.Jz A h aM vs x m=some j
 | [],vs,x,m,_,_,_=>⟨m,by rfl⟩
 | f::fs, [],x,m,_,hl,_=>by grind
 | [f],v::vs,x,m,hp,hl,hv=>by
   obtain⟨id,off,rfl⟩:=hv v aQ;cases f<;>simp only[im] at hp<;>simp_all
   all_goals exact⟨_,by rfl⟩
 | f::g::fs,v::vs,x,m,hp,hl,hv=>by
   obtain⟨id,off,rfl⟩:=hv v aQ;have c:=(gU hp).2;cases f<;>simp only[im] at hp<;>try (cases hp;done)
   all_goals
    exact Fe (aM:=g::fs) c (by grind) λv i=>hv v (aC _ i)
theorem qX.L8{w:World}{I:Nat->Prop}{D:Nat->Nat×Nat}:∀{aM:List VF} {j:List Nat} {x:Ty.Ts (VF.iq aM)} {B:List Nat},im aM=true->qX w I D aM (mU j) x B->j.length=aM.length/\
  ∀(i:Nat) (f:VF),aM[i]? = some f->∃(b:Nat) (o:Array Value) (T:TypeId) (fr:Nat×Nat),j[i]? = some b/\(f.fz=false->b∈B)/\(f.fz=true->I b)/\w.heap[b]? = some (.cells o T fr)/\gM fr o.size/\o.size=VF.mj f.sub
 | [],j,x,B,_,h=>by
   have:j=[]:=List.map_eq_nil_iff.1 (Kz.1 h).1
   grind
 | [f], [],x,B,hp,h=>by
   have:=qX.length _ h;obtain⟨c,_⟩:=gU hp;rw[show VF.mj [f]=1 from by rcases c with h|h<;>rw[h]<;>rfl] at this;cases this
 | f::g::fs, [],x,B,hp,h=>by
   have:=qX.length _ h;obtain⟨c,_⟩:=gU hp;have C:f.size=1:=by rcases c with h|h<;>rw[h]<;>rfl
   rw[VF.mj,C] at this;have this:0=1+VF.mj (g::fs):=this;omega
 | [f],r::j,x,B,hp,h=>by
   obtain⟨c,_⟩:=gU hp;obtain⟨e,u,v,o,T,fr,y,z,A⟩:=VR.blk c (tN.1 h);have G:j=[]:=List.map_eq_nil_iff.1 e
   grind
 | f::g::fs,r::j,x,B,hp,h=>by
   obtain⟨c,p⟩:=gU hp;obtain⟨N,O,rfl,J,K⟩:=qX.head c h;obtain⟨e,u,v,o,T,fr,y,z,A⟩:=VR.blk c J;obtain⟨V,W⟩:=qX.L8 (aM:=g::fs) p K
   grind
theorem GK:∀{c:List VF} {i:Nat} {f:VF},im c=true->c[i]? = some f->f=.ptr f.sub\/f=.nP f.sub
 | [],i,f,_,h=>by grind
 | g::c,0,f,hp,h=>by
   simp at h;exact h▸(gU hp).1
 | g::c,i+1,f,hp,h=>by
   exact GK (gU hp).2 h
theorem J0{f:VF}(c:f=.ptr f.sub\/f=.nP f.sub):Ga f=.ay f.fz (List.replicate (VF.mj f.sub) .undef):=by
 generalize f.sub=h at c ⊢;rcases c with rfl|rfl<;>rfl
theorem ve{i:Nat}(j:im c=true):(∃f,c[i]? = some f/\(holds c).at i=.ay f.fz (List.replicate (VF.mj f.sub) .undef))\/(c[i]? = none/\(holds c).at i=.bZ):=by
 have h:=Gb (aM:=c) (m:=[]) (i:=i)
 grind [J0,GK]
theorem vE:∀{c:List VF},(holds c).length=c.length
 | []=>rfl
 | f::fs=>by rw[holds,bw,bw,vE]
def pR(c:List Nat)(I:Nat->Prop):St:={σ:=λi=>c.getD i 0,δ:=λ_=>0,vd:=λ_=>false,I:=I}
variable{X:List Nat}
theorem WR.ali{w f:World}{R c:List (Nat×Option Nat)}(h:WR (World.with w X R) f S m)(j:∀i b,c[i]? = some b->i<m.length/\S.σ i=b.1/\∀d,b.2=some d->S.δ i=d/\S.vd i=false):WR (World.with w X c) f S m:=
 ⟨h.os,⟨h.tape.1,λk=>False.elim k⟩,h.output,h.size,h.base,h.nC,h.box,h.inj,h.lo,h.qE,h.IZ,j,h.cells⟩
theorem Kc{w0:nu}{w:World}{I:Nat->Prop}{D:Nat->Nat×Nat}:∀(l:List (Nat×iM)) {S:St} {m:Mem},WR w0 w S m->(∀b,I b->S.I b)->(∀p∈l,∃(t:Ty) (y:List t.T) (J:List Value),p.2=.arr false t y/\VR w I D (.fix p.1 t) J y [])->(l.map λp=>(D p.1).1).Nodup->(∀p∈l,Jt w0 S m (D p.1).1)->
  ∃c,Step w0 w S m w c (m++l.map Prod.snd)/\(∀b,c.I b->S.I b)/\(∀j,j<m.length->c.σ j=S.σ j/\c.δ j=S.δ j/\c.vd j=S.vd j)/\∀i p,l[i]? = some p->c.σ (m.length+i)=(D p.1).1/\c.δ (m.length+i)=(D p.1).2/\c.vd (m.length+i)=false
 | [],S,m,hW,_,_,_,_=>⟨S,by rw[mf,aL];exact .refl hW,λ_ h=>h,λ_ _=>⟨rfl,rfl,rfl⟩,λi p h=>by cases h⟩
 | (k,bx)::l,S,m,hW,hI,hl,hn,hf=>by
   obtain⟨t,y,J,e,hv⟩:=hl (k,bx) aQ;subst e;obtain⟨n1,n2⟩:=bS.1 hn;obtain⟨_,W,_,X,Z,K,T,fr,h3,h4,h5,h6⟩:=vu.1 hv;have u:=hf (k,.arr false t y) aQ;have x:=Step.JE hW (b:=(D k).1) (d:=(D k).2) (bx:=.arr false t y) u (Bj h3) rfl λhO=>⟨Z,yE,λ_=>⟨K,T,fr,by
     show w.heap[if m.length=m.length then(D k).1 else S.σ m.length]? = _
     grind,h4,by
     show(if m.length=m.length then(D k).2 else S.δ m.length)+_<=_;rw[if_pos rfl];exact aW (fH (aH _ X) _) h5,λi y hy=>by
     show bW w _ t ((K.toList.drop ((if m.length=m.length then(D k).2 else S.δ m.length)+_)).take _) y;rw[if_pos rfl];exact bW.mono (λb f=>⟨.inl (hI b f),rfl⟩) t (h6 i y hy)⟩⟩
   have z:Wrote S m [(D k).1] (S.push m.length (D k).1 (D k).2 false) (m ++ [.arr false t y]):=vQ λ_=>aJ.2 rfl;obtain⟨N,G,i2,B,r2⟩:=Kc l x.wr (λb f=>(x.out.nC b (hI b f)).1) (λp v=>hl p (aC _ v)) n2 λp v=>z.fresh (C:=[]) (hf p (aC _ v)) λhm=>n1 (by grind);rw[show(m ++ [iM.arr false t y])++l.map Prod.snd=m++((k,iM.arr false t y)::l).map Prod.snd from by simp] at G;refine⟨N,x.trans G,λb f=>z.nC b (i2 b f),λj A=>?_,λi p hi=>?_⟩
   ·obtain⟨a1,a2,o⟩:=B j (by grind)
    obtain⟨_,O,V⟩:=z.old j A;exact⟨a1.trans O,a2.trans (if_neg (eE A)),o.trans V⟩
   ·cases i with
    | zero=>
      cases hi;obtain⟨a1,a2,o⟩:=B m.length (by simp_all);exact⟨a1.trans (if_pos rfl),a2.trans (if_pos rfl),o.trans (if_pos rfl)⟩
    | succ i=>
      grind
theorem Y8{w:World}{G:List VF}{u:List Nat}{x:Ty.Ts (VF.iq G)}(hI:∀b,I b->b<w.heap.size)(K:im G=true)(hv:qX w I D G (mU u) x B)(V:u.Nodup)(hB:∀b∈B,¬I b)(hX:∀b∈B,b∈X):
  WR (World.with w X (Gn u)) w (pR u I) (holds G):=by
 obtain⟨h1,W⟩:=hv.L8 K;have o:∀i,(pR u I).lv i ((holds G).at i)=true->∃(f:VF) (b:Nat) (C:Array Value) (T:TypeId) (fr:Nat×Nat),(pR u I).fz i ((holds G).at i)=f.fz/\u[i]? = some b/\(pR u I).σ i=b/\w.heap[b]? = some (.cells C T fr)/\(f.fz=false->b∈B)/\(f.fz=true->I b):=λi Z=>by
  rcases ve (i:=i) K with ⟨f,p,y⟩|⟨p,y⟩
  ·obtain⟨b,C,T,fr,a1,a2,z,A,_⟩:=W i f p
   exact⟨f,b,C,T,fr,by rw[y];rfl,a1,by simp[pR,xB,a1],A,a2,z⟩
  ·rw[y] at Z;cases Z
 refine⟨rfl,⟨rfl,λ_=>aj _⟩,rfl,aj _,λ_ _=>rfl,hI,λi=>?_,λi j p y e=>?_,λi p=>?_,λi p k0 v=>?_,λi p=>?_,λi b v=>?_,λb C T fr h=>⟨C,T,fr,h,rfl⟩⟩
 ·rcases ve (i:=i) K with ⟨f,p,y⟩|⟨p,y⟩
  ·rw[y]
   obtain⟨b,C,T,fr,a1,_,_,a2,z,A⟩:=W i f p;exact⟨C,T,fr,by rw[show(pR u I).σ i=b by simp[pR,xB,a1]];omega,z,Dr (by omega)⟩
  ·rw[y];trivial
 ·obtain⟨_,b,_,_,_,_,a1,a2,_⟩:=o i p
  obtain⟨_,c,_,_,_,_,b1,b2,_⟩:=o j y;rw[a2,b2] at e;subst e;obtain⟨l1,l2⟩:=aT.1 a1;obtain⟨l3,l4⟩:=aT.1 b1;exact(rO V).1 (l2.trans l4.symm)
 ·obtain⟨f,b,_,_,_,_,a1,a2,z,A,J⟩:=o i p
  rw[a2];refine⟨?_,Bj z⟩;cases hz:f.fz with
  | false=>exact .inr (.inr (hX _ (A hz)))
  | true=>exact .inl (J hz)
 ·obtain⟨f,b,_,_,_,N,a1,a2,z,A,J⟩:=o i p
  rw[a2] at v;rw[N] at k0;exact hB b (A k0) v
 ·rcases ve (i:=i) K with ⟨f,e1,O⟩|⟨_,O⟩
  ·obtain⟨f,b,_,_,_,N,a1,a2,z,A,J⟩:=o i (by rw[O];rfl)
   rw[N] at p;rw[a2];exact J p
  ·rw[O] at p;cases p
 ·have v:(Gn u)[i]? = some b:=v
  rw[Gn,cy] at v;cases hr:u[i]? with
  | none=>rw[hr] at v;cases v
  | some c=>
    rw[hr] at v;cases v;exact⟨by rw[vE,<-h1];grind,by simp[pR,xB,hr],λd hd=>(by grind)⟩
theorem DX{S:St}:∀{aM:List VF} {rs:List Nat} {m:Mem},im aM=true->rs.length=aM.length->(∀i b,rs[i]? = some b->S.σ (m.length+i)=b)->
  oH S (m++holds aM) aM ((List.range aM.length).map λi=>AV.ptr (m.length+i) 0) rs
 | [],rs,m,_,hl,_=>⟨rfl,cB.1 hl⟩
 | f::fs, [],m,_,hl,_=>by grind
 | f::fs,r::rs,m,h,hl,hr=>by
   have c:=Gb (aM:=f::fs) (m:=m) (i:=0);obtain⟨j,h⟩:=gU h;have c:=c.trans (J0 j);rw[show holds (f::fs)=Ga f::holds fs from rfl] at c ⊢;have e:(List.range (f::fs).length).map (λi=>AV.ptr (m.length+i) 0)=AV.ptr m.length 0::(List.range fs.length).map λi=>AV.ptr ((m ++ [Ga f]).length+i) 0:=by
    rw[bw,List.range_succ_eq_map,eB,fX]
    grind [List.map_congr_left]
   rw[e];refine⟨m.length,0,_,rs,_,j,rfl,by rw[<-hr 0 r rfl];rfl,c,I4,?_⟩;have:=DX (S:=S) (aM:=fs) (rs:=rs) (m:=m ++ [Ga f]) h (by simp_all) λi b o=>by
    rw[<-hr (i+1) b o]
    grind
   simp_all
section
variable {P:Program}
def know:List (Option Int)->List AV->List AV
 | some n::ks,.int k _ _::l=>.int k true n::know ks l
 | _::ks,a::l=>a::know ks l
 | _,l=>l
def Nf:List (Option Int)->List AV->Prop
 | some n::ks,.int _ _ x::l=>x=n/\Nf ks l
 | _::ks,_::l=>Nf ks l
 | _,_=>True
theorem Zm:∀{l:List AV},know [] l=l
 | []|_::_=>rfl
theorem xE:∀{c:List (Option Int)} {l:List AV},(know c l).length=l.length
 | [],l=>by rfl
 | none::_, []|some _::_, []=>rfl
 | none::c,a::l=>by rw[know,bw,bw,xE];nofun
 | some n::c,a::l=>by cases a<;>simp[know,xE]
theorem Bo{w:World}{S:St}{m:Mem}:∀{ks:List (Option Int)} {l:List AV} {c:List Value},Nf ks l->dZ w S m l c->dZ w S m (know ks l) c
 | [],l,c,_,h=>by cases l<;>exact h
 | none::_, [],c,_,h|some _::_, [],c,_,h=>h
 | none::ks,a::l,c,hk,h=>by
   obtain⟨v,r,e,f,i⟩:=bQ.1 h;cases a<;>exact bQ.2 ⟨v,r,e,f,Bo (ks:=ks) hk i⟩
 | some n::ks,a::l,c,hk,h=>by
   obtain⟨v,r,e,f,i⟩:=bQ.1 h;cases a<;>first|exact bQ.2 ⟨v,r,e,f,Bo (ks:=ks) hk i⟩|exact bQ.2 ⟨v,r,e,by rw[<-hk.1];exact f,Bo (ks:=ks) hk.2 i⟩
theorem Jk{ks:List (Option Int)}{s:bV}{E:kF (Ty.Ts (VF.iq s.aM)×Ty.Ts s.res)}(O:Base P E)(az:E.fin=PL af s.rp s.aM s.res)(ag:s.aM.length+(VF.iU s.aM).length<=E.keep)(J:im s.aM=true)(a7:VF.iU s.aM=List.range' s.aM.length (VF.iU s.aM).length)(bm:∀x y,s.pre (x,y)=true->Nf ks (ib af s.args y))(am:∀x y,s.pre (x,y)=true->VF.lens s.aM (s.fn (x,y)).1=VF.lens s.aM x)(hg:look E.lL g=some F)(c:F.body.isSome=true)(ha:s.Na=true->∀x,s.pre x=true)(n:Nat)
  (h:∀x y,s.pre (x,y)=true->Ty.jj (VF.iq s.aM) x->Ty.jj s.args y->∃h0,jh g F (jl s.aM.length++know ks (ib af s.args y))=some h0/\∀G,Closed E (λr=>r=s.fn (x,y)) G->Tr.Ok (λr=>r=s.fn (x,y)) G (run af E n {bF:=[h0],mem:=G6 af s.aM x})):s.bE P g:=by
 obtain⟨hF,hn⟩:=O.lL g F hg;refine⟨λw I D x y u aa B hI hv bv b1 N hy a9 cs=>?_,am,ha,F,hF,c,hn⟩;obtain⟨h0,z,b2⟩:=h x y a9 hv.has hy.has;obtain⟨W,_⟩:=hv.L8 J;have e0:jl s.aM.length=(List.range s.aM.length).map λi=>AV.ptr (0+i) 0:=by
  rw[jl];grind
 obtain⟨m0,b0⟩:=Fe (A:=af) (h:=.own) (aM:=s.aM) (vs:=jl s.aM.length) (x:=x) (m:=holds s.aM++(VF.gn s.aM x).map Prod.snd) J (by grind) λv hv=>by grind
 have bx:G6 af s.aM x=m0:=by rw[G6,b0];rfl
 rw[bx] at b2;have ab:oH (pR u I) (holds s.aM) s.aM (jl s.aM.length) u:=by
  have:=DX (S:=pR u I) (aM:=s.aM) (rs:=u) (m:=[]) J W λi b c=>by
   rw[tq,gF];simp[pR,xB,c]
  grind
 have a6:=Y8 hI J hv bv (λb c=>N b (nY.2 (.inl c))) (X:=B++oM D s.aM) λb c=>nY.2 (.inl c);have o:=nk s.aM x x;have be:(VF.gn s.aM x).map (λp=>(D p.1).1)=oM D s.aM:=by
  rw[oM,<-o.2.1,fX];rfl
 have K:(holds s.aM).length=s.aM.length:=vE;obtain⟨_,nf,nx⟩:=dP.1 b1;have a0:∀j,(pR u I).lv j ((holds s.aM).at j)=true->(pR u I).σ j∈B\/I ((pR u I).σ j):=λj W=>by
  obtain⟨h1,h3⟩:=hv.L8 J;rcases ve (i:=j) J with ⟨f,k1,k2⟩|⟨k1,k2⟩
  ·obtain⟨b,us,T,fr,a1,a2,a3,_⟩:=h3 j f k1
   have e:(pR u I).σ j=b:=by simp[pR,xB,a1]
   grind
  ·rw[k2] at W;cases W
 obtain⟨S0,s0,i0,o0,r0⟩:=Kc (I:=I) (D:=D) (VF.gn s.aM x) a6 (λ_ h=>h) (λp hp=>by
  obtain⟨t,y,e⟩:=o.2.2 p hp;obtain⟨ir,h'⟩:=qX.row (k:=p.1) (t:=t) (y:=y) s.aM hv (by rw[<-e];exact hp)
  grind) (by grind) λp hp=>by
   have c:(D p.1).1∈oM D s.aM:=by grind
   refine⟨.inr (nY.2 (.inr c)),N _ (nY.2 (.inr c)),λj W e=>?_⟩;rcases a0 j W with k|k
   ·exact nx _ k _ c e
   ·exact N _ (nY.2 (.inr c)) (e▸k)
 have e8:(VF.gn s.aM x).length=(VF.iU s.aM).length:=by rw[<-o.2.1,bO]
 have bb:WR (World.with w (B++oM D s.aM) (xQ D s.aM u)) w S0 (holds s.aM++(VF.gn s.aM x).map Prod.snd):=s0.wr.ali λi b c=>by
  rw[xQ,List.getElem?_append] at c;have bt:(Gn u).length=s.aM.length:=by rw[Gn,bO,W]
  split at c
  ·rename_i a4
   obtain⟨q1,q2,q3⟩:=a6.root i b c
   grind
  ·rename_i a4
   rw[bt] at c a4;rw[cy] at c;cases hq:(VF.iU s.aM)[i-s.aM.length]? with
   | none=>rw[hq] at c;cases c
   | some k=>
     rw[hq] at c;cases c;rw[<-o.2.1,cy] at hq;cases hp:(VF.gn s.aM x)[i-s.aM.length]? with
     | none=>rw[hp] at hq;cases hq
     | some p=>
       rw[hp] at hq;cases hq;have hi:=(aT.1 hp).1;have:=r0 _ p hp;rw[K,show s.aM.length+(i-s.aM.length)=i from by omega] at this;refine⟨by rw[qS,K,bO];omega,this.1,λd hd=>?_⟩;cases hd;exact this.2
 have C:fP (jl s.aM.length)=List.range s.aM.length:=by
  rw[e0,QX];simp
 have b3:∀j,j<s.aM.length->(holds s.aM++(VF.gn s.aM x).map Prod.snd).at j=(holds s.aM).at j:=λj V=>by
  rw[Mem.at,Mem.at,xB,xB,bR (by omega)]
 have hR:oH S0 (holds s.aM++(VF.gn s.aM x).map Prod.snd) s.aM (jl s.aM.length) u:=ab.congr λj V fz cs hm=>by
  rw[C] at V;have V:=gm.1 V;exact⟨(o0 j (by omega)).1,cs,by rw[b3 j V];exact hm,rfl⟩
 obtain⟨S,st,aw⟩:=VF.wZ (I:=I) (D:=D) s.aM bb (λb h=>(s0.out.nC b h).1) hv (dP.1 b1).1 (λb c=>⟨.inr (nY.2 (.inl c)),λk=>N b (nY.2 (.inl c)) (i0 b k)⟩) hR (by rw[C];exact List.nodup_range) (λb c j V he=>by
  rw[C];by_cases e7:j<s.aM.length
  ·grind
  ·have a4:=Mem.jN V
   rw[qS,K,bO] at a4;have hi:j-s.aM.length<(VF.gn s.aM x).length:=by omega
   have this:=(r0 (j-s.aM.length) _ (EK hi)).1;rw[K,show s.aM.length+(j-s.aM.length)=j from by omega,he] at this;have hm:b∈oM D s.aM:=by rw[<-be];exact dy.2 ⟨_,cN hi,this.symm⟩
   exact absurd rfl (nx b c b hm)) (λk t y us hm bz=>by
  obtain⟨i,hi,e⟩:=ja.1 hm;have q:(VF.gn s.aM x)[i]? = some (k,.arr false t y):=by rw[EK hi,e]
  have ql:(VF.iU s.aM)[i]? = some k:=by rw[<-o.2.1,cy,q];rfl
  rw[a7,List.getElem?_range' (by omega)] at ql;have hk:k=s.aM.length+i:=by have:=Option.some.inj ql;omega
  obtain⟨t1,t2,t3⟩:=r0 i _ q;rw[K,<-hk] at t1 t2 t3;obtain⟨_,b7,rfl,k1,_,vs,T,fr,k3,_,k5,_⟩:=vu.1 bz;refine bQ.2 ⟨_, [],rfl,?_,bC.2 rfl⟩;have bc:(holds s.aM++(VF.gn s.aM x).map Prod.snd).at k=.arr false t y:=by
   rw[Mem.at,xB,cn (by omega),K,hk,Nat.add_sub_cancel_left,cy,q];rfl
  rw[CR,bc];exact .inr ⟨t3,b7,by rw[t1,t2],k1,vs,T,fr,by rw[t1];exact k3,by rw[t2];exact k5⟩) b0
 have ba:∀b,S.I b->I b:=λb c=>i0 b (aw b c);have hP:Fits P E (anF w I D B u s.rp s.aM s.res) (World.with w (B++oM D s.aM) (xQ D s.aM u)) I:=⟨O.ti,O.lL,O.jZ,O.mixed,λS w' m av y v hW b9 hf hc=>PN W a7 hW b9 (by rw[<-az];exact hf) hc,O.uN,O.uM,O.uL,O.ops,by
  show(xQ D s.aM u).length<=E.keep;rw[xQ,Gn,qS,bO,bO,W];exact ag,λk=>False.elim k⟩
 have ad:=pE hP (Q:=λr=>r=s.fn (x,y)) (f0:=g) n _ (b2 _ (o8 hP));have an:dZ w S m0 (jl s.aM.length) (mU u):=by
  refine dZ.mono st.out (dZ.mono s0.out ?_);have e1:mU u=(List.range s.aM.length).map λi=>.pointer (some ⟨(pR u I).σ i,0,none⟩):=by
   rw[ab.ids,C,mU,fX];exact eQ λi _=>by
    simp;rw[<-C,<-ab.ids]
  rw[e1,jl];have:∀l:List Nat,(∀i∈l,i<s.aM.length)->dZ w (pR u I) (holds s.aM) (l.map λi=>AV.ptr i 0) (l.map λi=>.pointer (some ⟨(pR u I).σ i,0,none⟩)):=by
   intro l
   induction l with
   | nil=>intro _;rfl
   | cons i l ih=>
     intro hh;refine bQ.2 ⟨_,_,rfl,?_,ih λj V=>hh j (aC _ V)⟩;rw[CR];rcases ve (i:=i) J with ⟨fs,_,k2⟩|⟨k1,_⟩
     ·rw[k2]
     ·exact absurd (hh i aQ) (by have:=List.getElem?_eq_none_iff.1 k1;omega)
  exact this _ λi hi=>gm.1 hi
 have ac:dZ w S m0 (jl s.aM.length++know ks (ib af s.args y)) (mU u++aa).toArray.toList:=by
  exact an.append (Bo (bm x y a9) (od (I:=I) (λb c=>(st.out.nC b (s0.out.nC b c).1).1) hy))
 obtain⟨bk,_,bn⟩:=kG hF z ac;have hB:zG g [h0]:=by
  unfold jh at z;cases hbb:F.body with
  | none=>rw[hbb] at z;cases z
  | some b=>
    rw[hbb] at z;simp only at z;split at z
    ·cases z;rfl
    ·cases z
 obtain⟨r,v,w',iH,hr,bh,a5,bj,Z⟩:=ad (gJ bn) _ _ [] cs w st.wr (λb c=>.inl (ba b c)) ⟨_,_,rfl,bk,rfl⟩ hB;obtain⟨g1,g2,g3,g4,g5,I',B',g6,gc,g7,g8,g9,b8⟩:=bh;exact⟨.returned v,w',iH,⟨v,rfl,g1,g2,g3,g4,g5,I',B',g6,gc,by rw[<-hr];exact g7,g8,g9,by rw[<-hr];exact b8⟩,a5,bj,Z⟩
end
def anE(w0:World)(I0:Nat->Prop)(B:List Nat)(j:Value)(t:Ty)(res:List Ty)(y:List t.T×Ty.Ts res)(v:Value)(c:World):Prop:=
 c.os=w0.os/\c.tape=w0.tape/\c.output=w0.output/\w0.heap.size<=c.heap.size/\(∀b,b<w0.heap.size->b ∉ B->c.heap[b]? = w0.heap[b]?)/\
  ∃f:Nat->Prop,(∀b,f b->(I0 b\/b∈B\/w0.heap.size<=b)/\b<c.heap.size)/\(∀(b:Nat) (i:Array Value) (T:TypeId) (fr:Nat×Nat),w0.heap[b]? = some (.cells i T fr)->∃(h:Array Value) (o:TypeId) (p:Nat×Nat),c.heap[b]? = some (.cells h o p)/\h.size=i.size)/\
   (∀x:List t.T,y.1.length=x.length->VR w0 I0 (λ_=>(0,0)) (.own t) [j] x B->VR c f (λ_=>(0,0)) (.own t) [j] y.1 B/\∀b∈B,¬f b)/\rD c f res v y.2
theorem PK{V:World}{w:World}{W:AV}{R:List (Nat×Option Nat)}{v0:Value}{y:List t.T×Ty.Ts res}(hR:∀x:List t.T,VR V I0 (λ_=>(0,0)) (.own t) [v0] x B->B≠ []->∃b d J,R=[(b,some d)]/\B=[b]/\v0=.slice (some ⟨b,d,none⟩) x.length J)
  (u:WR (World.with V B R) w S m) (hI:∀b,S.I b->I0 b\/(World.with V B R).free b) (h:XZ af t res W m=some y) (N:CR w S m W v):anE V I0 B v0 t res y v w:=by
 have f:∀(j:List AV) (C:List Value),kQ res j=true->dZ w S m j C->(match fA af res m (j.flatMap AV.cells) with
   | none=>none
   | some (m,cs)=>match qM res cs with
     | some (y, [])=>match m.at 0 with
       | .arr false t' x=>if h:t'.beq t=true then some ((Ty.eq_of_beq h▸x:List t.T),y) else none
       | _=>none
     | _=>none)=some y->∃p:Nat->Prop,(∀b,p b->(I0 b\/b∈B\/V.heap.size<=b)/\b<w.heap.size)/\
   (∀x:List t.T,y.1.length=x.length->VR V I0 (λ_=>(0,0)) (.own t) [v0] x B->VR w p (λ_=>(0,0)) (.own t) [v0] y.1 B/\∀b∈B,¬p b)/\kU w p res C y.2:=by
  intro j C i o h;obtain⟨L,hL,a0⟩:=n_ i o;cases hf:fA af res m (j.flatMap AV.cells) with
  | none=>grind
  | some q=>
    obtain⟨m1,a7⟩:=q;rw[hf] at h;simp only at h;obtain⟨S1,O,a9⟩:=gT u hf hL;cases htd:qM res a7 with
    | none=>grind
    | some q=>
      obtain⟨z,r⟩:=q;rw[htd] at h;cases r with
      | cons _ _=>cases h
      | nil=>
        simp only at h;obtain⟨u1,u2,e,hx,hr⟩:=nq res htd a9;rw[bC.1 hr,aL] at e;rw[<-e] at hx;cases hm:m1.at 0<;>rw[hm] at h<;>(try simp only at h)<;>(try (cases h;done));rename_i fz t' x';cases fz with
        | true=>cases h
        | false=>
          simp only at h;by_cases D:t'.beq t=true
          ·rw[dif_pos D] at h
           have ht:=Ty.eq_of_beq D;subst ht;cases h;refine⟨S1.I,λb D=>⟨?_,O.wr.nC b D⟩,λx hl hv=>?_,a0 _ _ hx⟩
           ·rcases O.grows b D with h|h
            ·rcases hI b h with h|h
             ·grind
             ·exact .inr (h.elim .inr .inl)
            ·exact .inr (h.elim .inr .inl)
           ·have hl:x'.length=x.length:=hl
            by_cases ab:B=[]
            ·rcases nO.1 hv with ⟨K,A,k3⟩|⟨b',dl,X,A,_⟩
             ·exact⟨nO.2 (.inl ⟨cB.1 (by simp_all),A,k3⟩),λb D=>by grind⟩
             simp_all
            ·obtain⟨b,d,J,q1,q2,q3⟩:=hR x hv ab
             obtain⟨_,r1,r2⟩:=O.wr.root 0 (b,some d) (by show R[0]? = _;grind);obtain⟨r2,r3⟩:=r2 d rfl;have Z:=O.wr.box 0;rw[hm] at Z;obtain⟨c1,_,c2⟩:=Z;obtain⟨C,T,fr,c3,c4,c5,c6⟩:=c2 r3;rcases nO.1 hv with ⟨_,K,_⟩|⟨b',dl,X,A,k3,k4,G,ac,T0,a8,k6,k7,k8,_⟩
             ·simp_all
             ·rw[q3] at k3
              simp at k3;obtain⟨⟨p1,p2⟩,_,p4⟩:=k3;have r1:S1.σ 0=b:=r1;obtain⟨ba,T2,b1,d1,d2⟩:=O.wr.cells b ac T0 a8 (by rw[p1];exact k6);rw[r1,d1] at c3;cases c3;refine⟨nO.2 (.inr ⟨b,d,J,q2,by simp_all,by omega,c1,C,T,fr,d1,c4,?_,by simp_all⟩),λc N=>?_⟩
              ·simp_all
              ·rw[q2] at N
               rw[aJ.1 N,<-r1];exact O.wr.qE 0 (by rw[hm,rF,r3];rfl) (by rw[hm];rfl)
          simp_all
 refine⟨u.os,u.tape.1,u.output,u.size,λb D hB=>u.base b λk=>k.elim (λk=>absurd k (kZ D)) hB,?_⟩;unfold XZ at h
 match res,y,h,f with
 | [],y,h1,f=>
   obtain⟨j,rfl⟩:∃j,W=.yM j:=by grind
   obtain⟨C,rfl,o⟩:=kl.1 N;simp only at h1;split at h1;cases h1;rename_i i;obtain⟨p,K,A,G⟩:=f j C.toList i o h1;exact⟨p,K,u.cells,A,by rw[rD,dT.1 G]⟩
 | [t'],y,h1,f=>
   simp only at h1;split at h1;cases h1;rename_i i;obtain⟨p,K,A,G⟩:=f [W] [v] i (bQ.2 ⟨v, [],rfl,N,bC.2 rfl⟩) h1;rw[kU] at G;obtain⟨v',e,G⟩:=G;cases e;exact⟨p,K,u.cells,A,by rw[rD];exact G⟩
 | t'::t2::ts,y,h1,f=>
   obtain⟨j,rfl⟩:∃j,W=.yM j:=by grind
   obtain⟨C,rfl,o⟩:=kl.1 N;simp only at h1;split at h1;cases h1;rename_i i;obtain⟨p,K,A,G⟩:=f j C.toList i o h1;exact⟨p,K,u.cells,A,by rw[rD];simp_all⟩
theorem VH{w:World}{x:List t.T}(J:∀b,I b->b<w.heap.size)(hv:VR w I (λ_=>(0,0)) (.own t) [v] x B)(hB:∀b∈B,¬I b):
  ∃(S:St) (R:List (Nat×Option Nat)),R.length<=1/\S.I=I/\WR (World.with w B R) w S [.arr false t x]/\CR w S [.arr false t x] (.own 0) v/\∀y:List t.T,VR w I (λ_=>(0,0)) (.own t) [v] y B->B≠ []->∃b d o,R=[(b,some d)]/\B=[b]/\v=.slice (some ⟨b,d,none⟩) y.length o:=by
 have a8:∀j,j≠0->Mem.at [iM.arr false t x] j=.bZ:=λj hj=>by
  cases j with
  | zero=>omega
  | succ j=>rfl
 rcases nO.1 hv with ⟨hx,rfl,a,e⟩|⟨b,p,o,rfl,e,D,W,O,T,fr,u,X,G,Z⟩
 ·subst hx
  simp at e;subst e;have z:∀j,St.lv {σ:=λ_=>0,δ:=λ_=>0,vd:=λ_=>true,I:=I} j (Mem.at [iM.arr false t ([]:List t.T)] j)=true->False:=λj h=>by
   cases j with
   | zero=>cases h
   | succ j=>cases h
  refine⟨{σ:=λ_=>0,δ:=λ_=>0,vd:=λ_=>true,I:=I}, [],by decide,rfl,⟨rfl,⟨rfl,λ_=>aj _⟩,rfl,aj _,λ_ _=>rfl,J,λj=>?_,λi j h=>(z i h).elim,λi h=>(z i h).elim,λi h=>(z i h).elim,λi h=>?_,λi b h=>?_,λb A T fr h=>⟨A,T,fr,h,rfl⟩⟩,?_,λy K a3=>?_⟩
  ·cases j with
   | zero=>exact⟨aX _,λ_=>rfl,λh=>by cases h⟩
   | succ j=>trivial
  ·cases i with
   | zero=>cases h
   | succ i=>cases h
  ·have h:([]:List (Nat×Option Nat))[i]? = some b:=h
   grind
  ·rw[CR];exact .inl ⟨rfl,rfl,a,rfl⟩
  simp_all
 ·simp at e
  subst e;have f:∀j,St.lv {σ:=λ_=>b,δ:=λ_=>p,vd:=λ_=>false,I:=I} j (Mem.at [iM.arr false t x] j)=true->j=0:=λj h=>by
   cases j with
   | zero=>rfl
   | succ j=>cases h
  refine⟨{σ:=λ_=>b,δ:=λ_=>p,vd:=λ_=>false,I:=I}, [(b,some p)],aj 1,rfl,⟨rfl,⟨rfl,λ_=>aj _⟩,rfl,aj _,λ_ _=>rfl,J,λj=>?_,λi j k1 N _=>(f i k1).trans (f j N).symm,λi _=>⟨.inr (.inr (aJ.2 rfl)),Bj u⟩,λi _ _=>hB b (aJ.2 rfl),λi h=>?_,λi c h=>?_,λb A T fr h=>⟨A,T,fr,h,rfl⟩⟩,?_,λy K a4=>?_⟩
  ·cases j with
   | zero=>exact⟨W,λh=>(by cases h),λ_=>⟨O,T,fr,u,X,aW (fH (aH _ D) _) G,Z⟩⟩
   | succ j=>trivial
  ·cases i with
   | zero=>simp_all;cases h
   | succ i=>cases h
  ·have h:[(b,some p)][i]? = some c:=h
   grind
  ·rw[CR];exact .inr ⟨rfl,o,rfl,D,O,T,fr,u,G⟩
  ·rcases nO.1 K with ⟨_,k,_⟩|⟨b',V,C,k,N,_⟩
   all_goals grind
theorem SN{w:World}{S:St}{m:Mem}:∀{fs:List FuncId},dZ w S m (fs.map λf=>.fn f [] []) (fnV fs)
 | []=>bC.2 rfl
 | f::fs=>bQ.2 ⟨_,_,rfl,uU.2 ⟨#[],#[],rfl,bC.2 rfl,bC.2 rfl⟩,SN⟩
section
variable {P:Program}
theorem Jj{s:gL}{E:kF (List s.elem.T×Ty.Ts s.res)}(i:Base P E)(ae:E.fin=XZ af s.elem s.res)(D:1<=E.keep)(hg:look E.lL g=some F)(A:F.body.isSome=true)(n:Nat)
  (J:∀x y,s.pre (x,y)=true->Ty.has (.slice s.elem) x->Ty.jj s.args y->(s.fn (x,y)).1.length=x.length)
  (h:∀x y,s.pre (x,y)=true->Ty.has (.slice s.elem) x->Ty.jj s.args y->∃K,jh g F (.own 0::(ib af s.args y++s.lL.map λf=>.fn f [] []))=some K/\∀G,Closed E (λr=>r=s.fn (x,y)) G->Tr.Ok (λr=>r=s.fn (x,y)) G (run af E n {bF:=[K],mem:=[.arr false s.elem x]})):s.bE P g:=by
 obtain⟨hF,hn⟩:=i.lL g F hg;refine⟨λw I x y v aa B hI hv N hy p cs=>?_,F,hF,A,hn⟩;have hx:Ty.has (.slice s.elem) x:=VR.has (.own s.elem) hv;obtain⟨K,c,a5⟩:=h x y p hx hy.has;obtain⟨S,R,V,b6,W,X,hR⟩:=VH hI hv N;have hP:Fits P E (anE w I B v s.elem s.res) (World.with w B R) I:=⟨i.ti,i.lL,i.jZ,i.mixed,λS w' m av y v W O hf hc=>PK hR W O (by simp_all) hc,i.uN,i.uM,i.uL,i.ops,aW V D,λk=>False.elim k⟩;have C:=pE hP (Q:=λr=>r=s.fn (x,y)) (f0:=g) n _ (a5 _ (o8 hP))
 have u:dZ w S [.arr false s.elem x] (.own 0::(ib af s.args y++s.lL.map λf=>.fn f [] [])) (v::(aa++fnV s.lL)).toArray.toList:=
  bQ.2 ⟨v,_,rfl,X,(od (I:=I) (λb A=>by grind) hy).append SN⟩
 obtain⟨a3,_,a4⟩:=kG hF c u;have hB:zG g [K]:=by
  unfold jh at c;cases hbb:F.body with
  | none=>simp_all
  | some b=>
    rw[hbb] at c;simp only at c;split at c
    ·cases c;rfl
    ·cases c
 obtain⟨r,z,w',iH,hr,Z,o,a0,j⟩:=C (gJ a4) _ _ [] cs w W (λb A=>.inl (by simp_all)) ⟨_,_,rfl,a3,rfl⟩ hB;obtain⟨g1,g2,g3,g4,g5,I',g6,gc,g7,g8⟩:=Z;rw[hr] at g7 g8;obtain⟨k1,k2⟩:=g7 x (J x y p hx hy.has) hv;exact⟨.returned z,w',iH,⟨z,rfl,g1,g2,g3,g4,g5,I',λb A=>⟨(g6 b A).1.elim .inl λk=>k.elim (λk=>absurd A (k2 b k)) .inr,(g6 b A).2⟩,gc,k1,g8⟩,o,a0,j⟩
def anG(w0:World)(I0:Nat->Prop)(f:VF)(h:Bool)(res:List Ty)(y:Bool×f.ty.T×Ty.Ts res)(v:Value)(c:World):Prop:=
 c.os=w0.os/\c.tape=w0.tape/\c.output=w0.output/\w0.heap.size<=c.heap.size/\(∀b,b<w0.heap.size->c.heap[b]? = w0.heap[b]?)/\acT w0 c I0 f h res v y
theorem PO{J:World}{w:World}{V:AV}{f:VF}{i:Bool}{y:Bool×f.ty.T×Ty.Ts res}(C:WR (World.whole J) w S m)(hI:∀b,S.I b->I0 b\/(World.whole J).free b)(h:X0 af f i res V m=some y)(hc:CR w S m V v):anG J I0 f i res y v w:=by
 refine⟨C.os,C.tape.1,C.output,C.size,λb p=>C.base b λk=>absurd (oZ k) (kZ p),?_⟩
 have c:∀(a:AV) (o:List AV) (u:Value) (B:List Value),CR w S m a u->dZ w S m o B->v=alj (u::B)->(match kQ res o with
  | false=>none
  | true=>match fA af res m (o.flatMap AV.cells) with
    | none=>none
    | some (m,cs)=>match qM res cs with
      | some (y, [])=>match (generalizing:=false) i,a with
        | true,.jB=>some (false,Ty.gw f.ty,y)
        | _,v=>match VF.read m f [v] with
          | some (x,ids, [])=>match nQ ids&&f.Gf.isEmpty with
            | true=>some (true,x,y)
            | false=>none
          | _=>none
      | _=>none:Option (Bool×f.ty.T×Ty.Ts res))=some y->acT J w I0 f i res v y:=by
  intro a o u B N a7 hv h;split at h
  simp_all
  rename_i a5;obtain⟨L,hL,A⟩:=n_ a5 a7;cases hf:fA af res m (o.flatMap AV.cells) with
  | none=>grind
  | some q=>
    obtain⟨m1,X⟩:=q;rw[hf] at h;simp only at h;obtain⟨O,G,a0⟩:=gT C hf hL;cases htd:qM res X with
    | none=>grind
    | some q=>
      obtain⟨z,r⟩:=q;rw[htd] at h;cases r with
      | cons _ _=>cases h
      | nil=>
        obtain⟨u1,u2,e,hx,W⟩:=nq res htd a0;have a6:=bC.1 W;rw[a6,aL] at e;rw[<-e] at hx;have K:∀b,O.I b->I0 b\/(J.heap.size<=b/\b<w.heap.size):=λb p=>by
         rcases G.grows b p with h|h
         ·rcases hI b h with h|h
          ·grind
          ·exact .inr ⟨oZ h,G.wr.nC b p⟩
         ·exact .inr ⟨oZ h,G.wr.nC b p⟩
        have Z:=N.mono G.out
        have rd:(match VF.read m1 f [a] with
          | some (x,ids, [])=>match nQ ids&&f.Gf.isEmpty with
            | true=>some (true,x,z)
            | false=>none
          | _=>none:Option (Bool×f.ty.T×Ty.Ts res))=some y->acT J w I0 f i res v y:=by
         intro h;cases hrd:VF.read m1 f [a] with
         | none=>grind
         | some q=>
           obtain⟨x',ids,r⟩:=q;rw[hrd] at h;cases r with
           | cons _ _=>cases h
           | nil=>
             simp only at h;split at h
             rotate_left
             cases h;rename_i hn;cases h;rw[fv] at hn;have b6:VF.fx m1 f [a]=[]:=by
              have:=(Lg f hrd).1
              simp_all
             obtain⟨b9,ba,js,e,h2,h3,h4,_,h6⟩:=VF.vS (D:=λ_=>(0,0)) G.wr f hrd (by simp_all) (bQ.2 ⟨u, [],rfl,Z,bC.2 rfl⟩);rw[bC.1 h2,aL] at e;rw[<-e] at h6;obtain⟨b1,b2,b3,b4⟩:=vM G.wr (by have:=h3.2 (pg hn.1);simp_all) (λj hj=>h3.1 j (nY.2 (.inl hj))) λj hj=>h4 j (nY.2 (.inl hj));refine⟨O.I,λ_=>(0,0),js.map O.σ,u,B,hv,K,.inr ⟨λ_=>rfl,h6,b1,λb p=>⟨oZ (b3 b p),b2 b p⟩⟩,A _ z hx⟩
        cases i with
        | false=>grind
        | true=>
          cases a<;>first|exact rd h|(cases h;rw[CR] at N;exact⟨O.I,λ_=>(0,0), [],u,B,hv,K,.inl ⟨rfl,rfl,N⟩,A _ z hx⟩)
 unfold X0 at h
 match res,y,h,c with
 | [],y,h1,c=>exact c V [] v [] hc (bC.2 rfl) rfl h1
 | t::ts,y,h1,c=>
   obtain⟨o,rfl⟩:∃o,V=.yM o:=by grind
   obtain⟨B,rfl,a3⟩:=kl.1 hc;cases o with
   | nil=>grind
   | cons a o=>
     obtain⟨u,ir,e,N,W⟩:=bQ.1 a3;have ae:ir≠ []:=by
      rintro rfl
      cases o with
      | nil=>simp only at h1;rw[show kQ (t::ts) ([]:List AV)=false from rfl] at h1;grind
      | cons b o=>obtain⟨_,_,e,_⟩:=bQ.1 W;cases e
     refine c a o u ir N W ?_ h1;rw[<-lG (xs:=B),e];cases ir with
     | nil=>simp_all
     | cons _ _=>rfl
theorem Jl{s:o4}{E:kF (Bool×s.out.ty.T×Ty.Ts s.res)}(f:Base P E)(X:E.fin=X0 af s.out s.opt s.res)(hg:look E.lL g=some F)(u:F.body.isSome=true)(n:Nat)
  (h:∀x,s.pre x=true->Ty.jj s.args x->∃A,jh g F (ib af s.args x)=some A/\∀G,Closed E (λy=>y=s.fn x) G->Tr.Ok (λy=>y=s.fn x) G (run af E n {bF:=[A],mem:=[]})):s.bE P g:=by
 obtain⟨V,hn⟩:=f.lL g F hg;refine⟨λw I x aa hI o z cs=>?_,F,V,u,hn⟩;obtain⟨A,c,O⟩:=h x z o.has;have W:Fits P E (anG w I s.out s.opt s.res) (World.whole w) I:=⟨f.ti,f.lL,f.jZ,f.mixed,λS Z m av y v C B hf hc=>PO C B (by simp_all) hc,f.uN,f.uM,f.uL,f.ops,aX _,λk=>False.elim k⟩;have p:=pE W (Q:=λy=>y=s.fn x) (f0:=g) n _ (O _ (o8 W));have C:=G7 hI;obtain⟨K,_,N⟩:=kG V c (od (S:={σ:=λ_=>0,δ:=λ_=>0,vd:=λ_=>false,I:=I}) (m:=[]) (λb u=>u) o);have hB:zG g [A]:=by
  unfold jh at c;cases hbb:F.body with
  | none=>grind
  | some b=>
    rw[hbb] at c;simp only at c;split at c
    ·cases c;rfl
    grind
 obtain⟨y,v,Z,iH,hy,D,j,J,i⟩:=p (gJ N) _ _ [] cs w C (λb u=>.inl u) ⟨_,_,rfl,K,rfl⟩ hB;obtain⟨g1,g2,g3,g4,g5,g6⟩:=D;exact⟨.returned v,Z,iH,⟨v,rfl,g1,g2,g3,g4,g5,by grind⟩,j,J,i⟩
end
end Go.Ev
namespace Go.Ev
inductive LT (R Y:Type) where
 | ret (r:R)
 | ao (y:Y)
 | br (b:Bool) (t e:LT R Y)
 | ar (b:Bool) (t:LT R Y)
 | eqs (p:Prop) (t:LT R Y)
 | and (a b:LT R Y)
 | bZ (n:Nat) (pos:String)
def LT.tr{R Y:Type}(c:Y->iB):LT R Y->Tr R
 | .ret r=>.ret r
 | .ao y=>.ao (c y)
 | .br b t e=>.br b (t.tr c) (e.tr c)
 | .ar b t=>.ar b (t.tr c)
 | .eqs p t=>.eqs p (t.tr c)
 | .and a b=>.and (a.tr c) (b.tr c)
 | .bZ n s=>.bZ n s
def Tr.full{R:Type}:Tr R->Tr R
 | .br b t e=>.br b t.full e.full
 | .ar b t=>.ar b t.full
 | .eqs p t=>.eqs p t.full
 | .same l r t=>.eqs (oX l r) t.full
 | .and _ _=>.bZ 182 ""
 | t=>t
def AV.alike:AV->AV->Bool
 | .bool c _,.bool d _=>c==d
 | .int _ c _,.int _ d _=>c==d
 | _,_=>true
def Tr.kN{R:Type}(w:Bool):Tr R->Tr R
 | .br b t e=>.br b (t.kN w) (e.kN w)
 | .ar b t=>.ar b (t.kN w)
 | .eqs p t=>.eqs p (t.kN w)
 | .same l r t=>match l.alike r with
   | true=>t.kN w
   | false=>.eqs (oX l r) (t.kN w)
 | .and a b=>match w with
   | true=>.and (a.kN w) (b.kN w)
   | false=>a.kN w
 | t=>t
def Tr.rv{R:Type}(w:Bool):Tr R->Tr R
 | .br b t e=>.br b (t.rv w) (e.rv w)
 | .ar b t=>.ar b (t.rv w)
 | .eqs p t=>.eqs p (t.rv w)
 | .same l r t=>match l.alike r with
   | true=>t.rv w
   | false=>.eqs (oX l r) (t.rv w)
 | .and a b=>match w with
   | true=>.and (a.rv w) (b.rv w)
   | false=>a.rv w
 | t=>t
theorem Tr.qa{R:Type}{w:Bool}:∀{t:Tr R},t.rv w=t.kN w
 | .ret _ | .ao _ | .bZ _ _=>rfl
 | .br _ t e=>by rw[Tr.rv,Tr.kN,Tr.qa (t:=t),Tr.qa (t:=e)]
 | .ar _ t=>by rw[Tr.rv,Tr.kN,Tr.qa (t:=t)]
 | .eqs _ t=>by rw[Tr.rv,Tr.kN,Tr.qa (t:=t)]
 | .same l r t=>by rw[Tr.rv,Tr.kN,Tr.qa (t:=t)]
 | .and a b=>by cases w<;>simp[Tr.rv,Tr.kN,Tr.qa (t:=a),Tr.qa (t:=b)]
def Tr.lefts{R:Type}(w:Bool):Tr R->List (Sum AV (Tr R))->List (Sum AV (Tr R))
 | .br _ t e,k=>t.lefts w (e.lefts w k)
 | .ar _ t,k=>t.lefts w k
 | .eqs _ t,k=>t.lefts w k
 | .same l r t,k=>match l.alike r with
   | true=>.inl l::t.lefts w k
   | false=>t.lefts w k
 | .and a b,k=>match w with
   | true=>a.lefts w (b.lefts w k)
   | false=>.inr (a.kN w)::a.lefts w (b.lefts w k)
 | _,k=>k
def Tr.oW{R:Type}(w:Bool):Tr R->List (Sum AV (Tr R))->List (Sum AV (Tr R))
 | .br _ t e,k=>t.oW w (e.oW w k)
 | .ar _ t,k=>t.oW w k
 | .eqs _ t,k=>t.oW w k
 | .same l r t,k=>match l.alike r with
   | true=>.inl r::t.oW w k
   | false=>t.oW w k
 | .and a b,k=>match w with
   | true=>a.oW w (b.oW w k)
   | false=>.inr (b.rv w)::a.oW w (b.oW w k)
 | _,k=>k
theorem Tr.yn{R:Type}{Q:R->Prop}{G:iB->Prop}:∀{t:Tr R},Tr.Ok Q G t.full->Tr.Ok Q G t
 | .ret _,h | .ao _,h | .bZ _ _,h=>h
 | .br _ t e,h=>⟨λk=>Tr.yn (t:=t) (h.1 k),λk=>Tr.yn (t:=e) (h.2 k)⟩
 | .ar _ t,h=>⟨h.1,Tr.yn (t:=t) h.2⟩
 | .eqs _ t,h=>⟨h.1,Tr.yn (t:=t) h.2⟩
 | .same _ _ t,h=>⟨h.1,Tr.yn (t:=t) h.2⟩
 | .and _ _,h=>h.elim
theorem Tr.oG{R:Type}{w:Bool}{Q:R->Prop}{G:iB->Prop}:∀{t:Tr R} {k i:List (Sum AV (Tr R))},t.lefts w k=t.oW w i->k=i/\(Tr.Ok Q G (t.kN w)->Tr.Ok Q G t)
 | .ret _,_,_,h | .ao _,_,_,h | .bZ _ _,_,_,h=>⟨h,λx=>x⟩
 | .br _ t e,_,_,h=>by
   obtain⟨d,c⟩:=Tr.oG (t:=t) h;obtain⟨g,f⟩:=Tr.oG (t:=e) d;exact⟨g,λx=>⟨λk=>c (x.1 k),λk=>f (x.2 k)⟩⟩
 | .ar _ t,_,_,h=>by
   obtain⟨d,c⟩:=Tr.oG (t:=t) h;exact⟨d,λx=>⟨x.1,c x.2⟩⟩
 | .eqs _ t,_,_,h=>by
   obtain⟨d,c⟩:=Tr.oG (t:=t) h;exact⟨d,λx=>⟨x.1,c x.2⟩⟩
 | .same l r t,_,_,h=>by
   simp[Tr.lefts,Tr.oW] at h;simp only[Tr.kN];cases j:l.alike r with
   | true=>
     rw[j] at h;simp at h;obtain⟨d,c⟩:=Tr.oG (t:=t) h.2;exact⟨d,λx=>⟨h.1▸D_ l,c x⟩⟩
   | false=>
     rw[j] at h;obtain⟨d,c⟩:=Tr.oG (t:=t) h;exact⟨d,λx=>⟨x.1,c x.2⟩⟩
 | .and a b,_,_,h=>by
   cases w
   ·simp[Tr.lefts,Tr.oW,Tr.qa] at h
    obtain⟨d,c⟩:=Tr.oG (t:=a) h.2;obtain⟨g,f⟩:=Tr.oG (t:=b) d;exact⟨g,λx=>⟨c x,f (h.1▸x)⟩⟩
   ·obtain⟨d,c⟩:=Tr.oG (t:=a) h
    obtain⟨g,f⟩:=Tr.oG (t:=b) d;exact⟨g,λx=>⟨c x.1,f x.2⟩⟩
def kn(l:List (Bool×Bool))(k:Nat):Bool×Bool:=l.getD k (true,true)
theorem agG{l:List (Bool×Bool)}(h:∀p∈l,p.1=p.2)(k:Nat):(kn l k).1=(kn l k).2:=by
 unfold kn
 grind
def Tr.cut{R:Type}:List Nat->List (Bool×Bool)->Tr R->(List Nat×Tr R)×List (Bool×Bool)
 | n::c,ks,.ar b t=>match n with
   | 0=>match t.cut c ((b,true)::ks) with|((c,t),l)=>((c,.ar b t),l)
   | k+1=>match t.cut c ks with|(r,l)=>(r,((kn ks k).2,true)::(b,(kn ks k).1)::l)
 | n::c,ks,.br b t e=>match n with
   | 0=>match t.cut c ((b,true)::ks) with|((c,t),l)=>match e.cut c ((b,false)::ks) with|((c,e),f)=>((c,.br b t e),l++f)
   | k+1=>match (kn ks k).2 with
     | true=>match t.cut c ks with|(r,l)=>(r,(b,(kn ks k).1)::l)
     | false=>match e.cut c ks with|(r,l)=>(r,(b,(kn ks k).1)::l)
 | c,ks,.eqs p t=>match t.cut c ks with|((c,t),l)=>((c,.eqs p t),l)
 | c,_,t=>((c,t), [])
theorem Tr.xc{R:Type}{Q:R->Prop}{G:iB->Prop}:∀{t:Tr R} {o:List Nat} {i:List (Bool×Bool)},(∀p∈i,p.1=p.2)->(∀p∈(t.cut o i).2,p.1=p.2)->Tr.Ok Q G (t.cut o i).1.2->Tr.Ok Q G t
 | .ret _,o,i,_,_,h | .ao _,o,i,_,_,h | .bZ _ _,o,i,_,_,h | .same _ _ _,o,i,_,_,h | .and _ _,o,i,_,_,h=>by cases o<;>exact h
 | .eqs p t,o,i,a,b,h=>by
   cases o<;>exact⟨h.1,Tr.xc a b h.2⟩
 | .ar b t, [],i,_,_,h=>h
 | .ar b t,n::o,i,a,c,h=>by
   match n with
   | 0=>exact⟨h.1,Tr.xc (λp f=>(aG.1 f).elim (λe=>e▸h.1) (a p)) c h.2⟩
   | k+1=>exact⟨(c _ (aC _ (aQ ..))).trans ((agG a k).trans (c _ (aQ ..))),Tr.xc a (λp f=>c p (aC _ (aC _ f))) h⟩
 | .br b t e, [],i,_,_,h=>h
 | .br b t e,n::o,i,a,c,h=>by
   match n with
   | 0=>
     exact⟨λj=>Tr.xc (λp f=>(aG.1 f).elim (λe=>e▸j) (a p)) (λp f=>c p (List.mem_append_left _ f)) (h.1 j),λj=>Tr.xc (λp f=>(aG.1 f).elim (λe=>e▸j) (a p)) (λp f=>c p (List.mem_append_right _ f)) (h.2 j)⟩
   | k+1=>
     rw[Tr.cut] at c h;have v:=agG a k;cases e:(kn i k).2<;>rw[e] at c h v
     ·have u:b=false:=(c _ (aQ ..)).trans v
      exact⟨λj=>absurd (u.symm.trans j) nofun,λ_=>Tr.xc a (λp f=>c p (aC _ f)) h⟩
     ·have u:b=true:=(c _ (aQ ..)).trans v
      exact⟨λ_=>Tr.xc a (λp f=>c p (aC _ f)) h,λj=>absurd (u.symm.trans j) nofun⟩
inductive Md where
 | full
 | kN (hs:List Nat)
 | wide
abbrev sl:Md:=.kN []
def Tr.L{R:Type}(t:Tr R):Md->Tr R×List Bool×List (Sum AV (Tr R))
 | .full=>(t.full, [], [])
 | .kN hs=>(((t.kN false).cut hs []).1.2,((t.kN false).cut hs []).2.map Prod.fst,t.lefts false [])
 | .wide=>(t.kN true, [],t.lefts true [])
def Tr.M{R:Type}(t u:Tr R):Md->Tr R×List Bool×List (Sum AV (Tr R))
 | .full=>(u, [], [])
 | .kN hs=>(u,((t.rv false).cut hs []).2.map Prod.snd,t.oW false [])
 | .wide=>(u, [],t.oW true [])
theorem N0:∀{l:List (Bool×Bool)},l.map Prod.fst=l.map Prod.snd->∀p∈l,p.1=p.2
 | _::l,h,p,hp=>by
   cases hp with
   | head=>simp_all
   | tail _ hp=>exact N0 (List.cons.inj h).2 p hp
variable{G:iB->Prop}{q:Md}
theorem Tr.agE{R:Type}{Q:R->Prop}{t u:Tr R}(h:t.L q=t.M u q)(a:Tr.Ok Q G u):Tr.Ok Q G t:=by
 cases q with
 | full=>rw[<-(Prod.mk.inj h).1] at a;exact Tr.yn a
 | kN hs=>
   have c:=(Prod.mk.inj h).2;rw[<-(Prod.mk.inj h).1] at a;have f:=(Prod.mk.inj c).1;rw[Tr.qa] at f;exact(Tr.oG (Prod.mk.inj c).2).2 (Tr.xc (λ_ k=>absurd k aI) (N0 f) a)
 | wide=>
   rw[<-(Prod.mk.inj h).1] at a;exact(Tr.oG (Prod.mk.inj (Prod.mk.inj h).2).2).2 a
inductive aY {R Y:Type} (step:Y->LT R Y):LT R Y->R->Prop where
 | ret (r:R):aY step (.ret r) r
 | ao {y:Y} {r:R} (h:aY step (step y) r):aY step (.ao y) r
 | br {b:Bool} {t e:LT R Y} {r:R} (h:aY step (bif b then t else e) r):aY step (.br b t e) r
 | ar {b:Bool} {t:LT R Y} {r:R} (hb:b=true) (h:aY step t r):aY step (.ar b t) r
 | eqs {p:Prop} {t:LT R Y} {r:R} (hp:p) (h:aY step t r):aY step (.eqs p t) r
 | and {a b:LT R Y} {r:R} (h1:aY step a r) (h2:aY step b r):aY step (.and a b) r
variable{b:Bool}
section
variable {R Y:Type} {step:Y->LT R Y} {r:R}
theorem jV{a:R}:aY step (.ret a) r↔a=r:=⟨λh=>by cases h;rfl,λh=>by rw[h];exact .ret r⟩
theorem aA{y:Y}:aY step (.ao y) r↔aY step (step y) r:=⟨λh=>by cases h;omega,.ao⟩
theorem uv{t e:LT R Y}:aY step (.br b t e) r↔aY step (bif b then t else e) r:=⟨λh=>by cases h;omega,.br⟩
theorem au{t:LT R Y}:aY step (.ar b t) r↔b=true/\aY step t r:=⟨λh=>by cases h;grind,λh=>.ar h.1 h.2⟩
theorem xR{p:Prop}{t:LT R Y}:aY step (.eqs p t) r↔p/\aY step t r:=⟨λh=>by cases h;grind,λh=>.eqs h.1 h.2⟩
theorem ak{t e:LT R Y}(a:b=true):aY step (.br b t e) r↔aY step t r:=by grind [uv]
theorem ai{t e:LT R Y}(a:b=false):aY step (.br b t e) r↔aY step e r:=by grind [uv]
end
theorem ae6{R Y:Type}{E:kF R}{Q:R->Prop}{f:Y->iB}{step:Y->LT R Y}(d:∀y,∃n q,(run af E n (advance E.jZ (f y))).L q=(run af E n (advance E.jZ (f y))).M ((step y).tr f) q)(l:Closed E Q G){t:LT R Y}{r:R}(h:aY step t r)(a:Q r):Tr.Ok Q G (t.tr f):=by
 induction h with
 | ret r=>exact a
 | ao h c=>
   rename_i y _;obtain⟨n,q,m⟩:=d y;exact l.go n _ (Tr.agE m (c a))
 | br h c=>
   rename_i b t e _;cases b with
   | true=>exact⟨λ_=>c a,λh=>(by cases h)⟩
   | false=>exact⟨λh=>(by cases h),λ_=>c a⟩
 | ar k h c=>exact⟨k,c a⟩
 | eqs j h c=>exact⟨j,c a⟩
 | and p o g i=>exact⟨g a,i a⟩
variable{F:Func}{g:FuncId}
theorem Nq{aa:List AV}(f:F.body.isSome=true)(d:aa.length<=F.ntmps)(a:F.ntmps<=65535):∃c,jh g F aa=some c:=by
 unfold jh;cases e:F.body with
 | none=>simp_all
 | some b=>
   simp_all [Nat.ble_eq_true_of_le]
theorem lQ:∀{c:List Ty} {x:Ty.Ts c},(ib af c x).length=c.length
 | [],_=>rfl
 | [_],_=>rfl
 | t::t2::c,x=>by
   rw[ib,bw,lQ];rfl
abbrev tM{R Y:Type}(E:aU->kF R)(step:aU->Y->LT R Y)(c:Y->iB):Prop:=∀A y,∃n q,(run A (E A) n (advance (E A).jZ (c y))).L q=(run A (E A) n (advance (E A).jZ (c y))).M ((step A y).tr c) q
abbrev uD{R Y X:Type}(q:Md)(n:Nat)(E:aU->kF R)(h:aU->X->iB)(f:aU->X->LT R Y)(c:Y->iB):Prop:=∀A x,(run A (E A) n (h A x)).L q=(run A (E A) n (h A x)).M ((f A x).tr c) q
def fits(F:Func)(k:Nat):Bool:=F.body.isSome&&(Nat.ble k F.ntmps&&Nat.ble F.ntmps 65535)
theorem fits.body{k:Nat}(h:fits F k=true):F.body.isSome=true:=((fv _ _).mp h).1
theorem go_ok{R Y X:Type}{E:aU->kF R}{i:List AV}{m:Mem}{n k:Nat}{f:aU->X->LT R Y}{step:aU->Y->LT R Y}{h:aU->X->iB}{c:Y->iB}{r:R}{x:X}(p:fits F k=true)(u:i.length=k)
  (z:tM E step c) (j:uD q n E h f c) (e:h af x=tu g F i m) (v:aY (step af) (f af x) r) :
  ∃h,jh g F i=some h/\∀G,Closed (E af) (λy=>y=r) G->Tr.Ok (λy=>y=r) G (run af (E af) n {bF:=[h],mem:=m}):=by
 have o:=((fv _ _).mp p).2;rw[fv] at o;obtain⟨h,d⟩:=Nq (g:=g) (aa:=i) (fits.body p) (u▸Lu o.1) (Lu o.2);refine⟨h,d,λG l=>?_⟩;have j:=j af x;rw[e,tu,d] at j;exact Tr.agE j (ae6 (z af) l v rfl)
def tt{α:Type}:α->Bool:=λ_=>true
abbrev aK.all(args res:List Ty)(fn:Ty.Ts args->Ty.Ts res):aK:=⟨args,res,tt,fn,true⟩
abbrev bV.all(c:List VF)(args res:List Ty)(fn:Ty.Ts (VF.iq c)×Ty.Ts args->Ty.Ts (VF.iq c)×Ty.Ts res)(f:Bool):bV:=⟨c,args,res,tt,fn,f,true⟩
variable{P:Program}{args res:List Ty}
theorem fa{fn:Ty.Ts args->Ty.Ts res}(h:aK.bE P g ⟨args,res,tt,fn,false⟩):aK.bE P g (.all args res fn):=⟨h.calls,λ_ _=>rfl,h.body⟩
theorem fd{fn:Ty.Ts args->Ty.Ts res}(h:aK.oI P g ⟨args,res,tt,fn,false⟩/\aK.bE P g ⟨args,res,tt,fn,false⟩):aK.oI P g (.all args res fn)/\aK.bE P g (.all args res fn):=⟨h.1,fa h.2⟩
theorem ma{c:List VF}{fn:Ty.Ts (VF.iq c)×Ty.Ts args->Ty.Ts (VF.iq c)×Ty.Ts res}{f:Bool}(h:bV.bE P g ⟨c,args,res,tt,fn,f,false⟩):bV.bE P g (.all c args res fn f):=⟨h.calls,h.keep,λ_ _=>rfl,h.body⟩
theorem aK.bE.congr{pre b:Ty.Ts args->Bool}{fn c:Ty.Ts args->Ty.Ts res}(h:aK.bE P g ⟨args,res,pre,fn,false⟩)
  (e:∀x,b x=true->Ty.jj args x->pre x=true/\fn x=c x):aK.bE P g ⟨args,res,b,c,false⟩:=by
 refine⟨λw I x o f a d=>?_,nofun,h.body⟩;obtain⟨i,j⟩:=e x d a.has;have:=h.calls w I x o f a i
 grind
def N1{R:Type}(f:AV->Mem->Option R)(c:Nat)(ops:List (FuncId×o4))(uL:List (FuncId×gL))(uM:List (FuncId×bV))(uN:List (FuncId×qs))(ti:PT TI)(lL:List (FuncId×Func))(jZ:List (FuncId×aK))(stops qm:List Stop):kF R:=⟨ti,lL,jZ,stops,qm, [],f,uN,uM,c,uL,ops⟩
def za{S:Type}(ok:FuncId->S->Prop)(l:List (FuncId×S)):Prop:=∀g s,look l g=some s->ok g s
variable{S:Type}
theorem all_nil{ok:FuncId->S->Prop}:za ok []:=λ_ _ h=>by cases h
variable{f:FuncId}
theorem all_cons{ok:FuncId->S->Prop}{s:S}{l:List (FuncId×S)}(c:ok f s)(h:za ok l):za ok ((f,s)::l):=λg b a=>by
 rw[look] at a;by_cases e:f=g
 ·simp_all
 ·rw[gB.2 e] at a;exact h g b a
variable{h:List VF}{l:List (FuncId×aK)}{p:Bool}{s:aK}
section
variable {P:Program}
abbrev Js(P:Program)(l:List (FuncId×Func)):Prop:=za (λg F=>P.funcs[g]? = some F/\(F.name == "runtime.NumGoroutine")=false) l
abbrev Nh(P:Program)(l:List (FuncId×aK)):Prop:=za (λg s=>aK.bE P g s) l
abbrev RO(P:Program)(l:List (FuncId×qs)):Prop:=za (λg s=>qs.bE P g s) l
abbrev RD(P:Program)(l:List (FuncId×bV)):Prop:=za (λg s=>bV.bE P g s) l
abbrev RA(P:Program)(l:List (FuncId×gL)):Prop:=za (λg s=>gL.bE P g s) l
abbrev RE(P:Program)(l:List (FuncId×o4)):Prop:=za (λg s=>o4.bE P g s) l
abbrev Ky(P:Program)(l:List (FuncId×aK)):Prop:=za (λg s=>aK.oI P g s/\aK.bE P g s) l
theorem oz:RE P []:=all_nil
theorem oc{s:o4}{l:List (FuncId×o4)}:s.bE P f->RE P l->RE P ((f,s)::l):=all_cons
theorem szD:Ky P []:=all_nil
theorem scD:s.oI P f/\s.bE P f->Ky P l->Ky P ((f,s)::l):=λa h=>all_cons a h
theorem iz:RA P []:=all_nil
theorem ic{s:gL}{l:List (FuncId×gL)}:s.bE P f->RA P l->RA P ((f,s)::l):=all_cons
theorem mz:RD P []:=all_nil
theorem mc{s:bV}{l:List (FuncId×bV)}:s.bE P f->RD P l->RD P ((f,s)::l):=all_cons
theorem pz:RO P []:=all_nil
theorem pc{s:qs}{l:List (FuncId×qs)}:s.bE P f->RO P l->RO P ((f,s)::l):=all_cons
theorem fz:Js P []:=all_nil
theorem fc{l:List (FuncId×Func)}(b:P.funcs[f]? = some F)(h:Js P l)(a:(F.name == "runtime.NumGoroutine")=false:=by kernel_rfl):Js P ((f,F)::l):=all_cons ⟨b,a⟩ h
theorem sz:Nh P []:=all_nil
theorem sc:s.bE P f->Nh P l->Nh P ((f,s)::l):=all_cons
structure Kit(P:Program)(lL:List (FuncId×Func))(jZ:List (FuncId×aK))(ops:List (FuncId×o4))(uL:List (FuncId×gL))(uM:List (FuncId×bV))(uN:List (FuncId×qs)):Prop where
 f:Js P lL
 s:Nh P jZ
 o:RE P ops
 i:RA P uL
 m:RD P uM
 p:RO P uN
theorem kz{lL:List (FuncId×Func)}{jZ:List (FuncId×aK)}(f:Js P lL)(s:Nh P jZ):Kit P lL jZ [] [] [] []:=⟨f,s,oz,iz,mz,pz⟩
variable {ti:PT TI} (ht:nZ P ti) (hm:P.follows .mixedOrders=true) {lL:List (FuncId×Func)} {jZ:List (FuncId×aK)} {ops:List (FuncId×o4)} {uL:List (FuncId×gL)} {uM:List (FuncId×bV)} {uN:List (FuncId×qs)}
include ht hm
theorem Kit.base{R:Type}{f:AV->Mem->Option R}{c:Nat}{stops qm:List Stop}(h:Kit P lL jZ ops uL uM uN):Base P (N1 f c ops uL uM uN ti lL jZ stops qm):=⟨ht,h.f,h.s,hm,h.p,h.m,h.i,h.o⟩
variable {g:FuncId} {F:Func} {args res:List Ty} {pre:Ty.Ts args->Bool} {fn:Ty.Ts args->Ty.Ts res} (q:Md) {Y:Type} (n:Nat) (stops qm:List Stop)
omit ht hm in
theorem rf:look ((g,F)::lL) g=some F:=by rw[look,vI.2 rfl]
theorem bp(h:aU->Ty.Ts args->LT (Ty.Ts res) Y)(step:aU->Y->LT (Ty.Ts res) Y)(c:Y->iB)(k:Kit P ((g,F)::lL) jZ ops uL uM uN)
  (b:tM (λA=>N1 (CJ A res) 0 ops uL uM uN ti ((g,F)::lL) jZ stops qm) step c)
  (i:∀x,pre x=true->Ty.jj args x->aY (step af) (h af x) (fn x))
  (d:fits F args.length=true:=by kernel_rfl)
  (f:uD q n (λA=>N1 (CJ A res) 0 ops uL uM uN ti ((g,F)::lL) jZ stops qm) (λA x=>tu g F (ib A args x)) h c:=by intro A x;kernel_rfl):aK.bE P g ⟨args,res,pre,fn,false⟩:=
 Ms (s:=⟨args,res,pre,fn,false⟩) (k.base ht hm) rfl rf (fits.body d) nofun n λx j o=>go_ok d lQ b f rfl (i x j o)
theorem rY(o:aU->Ty.Ts args->LT (Ty.Ts res) Y)(step:aU->Y->LT (Ty.Ts res) Y)(c:Y->iB)(j:Js P ((g,F)::lL))(k:Ky P jZ)
  (b:tM (λA=>N1 (CJ A res) 0 [] [] [] [] ti ((g,F)::lL) jZ stops qm) step c)
  (i:∀x,pre x=true->Ty.jj args x->aY (step af) (o af x) (fn x))
  (d:fits F args.length=true:=by kernel_rfl)
  (f:uD q n (λA=>N1 (CJ A res) 0 [] [] [] [] ti ((g,F)::lL) jZ stops qm) (λA x=>tu g F (ib A args x)) o c:=by intro A x;kernel_rfl):aK.oI P g ⟨args,res,pre,fn,false⟩/\aK.bE P g ⟨args,res,pre,fn,false⟩:=by
 have h:aK.oI P g ⟨args,res,pre,fn,false⟩:=Ji (s:=⟨args,res,pre,fn,false⟩) ((kz j λg s h=>(k g s h).2).base ht hm) rfl rf ⟨λg s h=>(k g s h).1,rfl,rfl,rfl,rfl⟩ n λx v y=>go_ok d lQ b f rfl (i x v y);exact⟨h,λw I x u t p i=>(h w I x u t p i).mono λ_ _ k=>k.2,nofun,F,(j g F rf).1,fits.body d,(j g F rf).2⟩
theorem vY{h:VF}{o:Bool}{fn:Ty.Ts args->Bool×h.ty.T×Ty.Ts res}(j:aU->Ty.Ts args->LT (Bool×h.ty.T×Ty.Ts res) Y)(step:aU->Y->LT (Bool×h.ty.T×Ty.Ts res) Y)(c:Y->iB)(k:Kit P ((g,F)::lL) jZ ops uL uM uN)
  (b:tM (λA=>N1 (X0 A h o res) 0 ops uL uM uN ti ((g,F)::lL) jZ stops qm) step c)
  (i:∀x,pre x=true->Ty.jj args x->aY (step af) (j af x) (fn x))
  (d:fits F args.length=true:=by kernel_rfl)
  (f:uD q n (λA=>N1 (X0 A h o res) 0 ops uL uM uN ti ((g,F)::lL) jZ stops qm) (λA x=>tu g F (ib A args x)) j c:=by intro A x;kernel_rfl):o4.bE P g ⟨args,h,o,res,pre,fn⟩:=
 Jl (s:=⟨args,h,o,res,pre,fn⟩) (k.base ht hm) rfl rf (fits.body d) n λx p u=>go_ok d lQ b f rfl (i x p u)
theorem qb(u:List (Option Int)){pre:Ty.Ts (VF.iq h)×Ty.Ts args->Bool}{fn:Ty.Ts (VF.iq h)×Ty.Ts args->Ty.Ts (VF.iq h)×Ty.Ts res}(j:aU->Ty.Ts (VF.iq h)×Ty.Ts args->LT (Ty.Ts (VF.iq h)×Ty.Ts res) Y)(step:aU->Y->LT (Ty.Ts (VF.iq h)×Ty.Ts res) Y)(c:Y->iB)(k:Kit P ((g,F)::lL) jZ ops uL uM uN)
  (b:tM (λA=>N1 (PL A p h res) (h.length+(VF.iU h).length) ops uL uM uN ti ((g,F)::lL) jZ stops qm) step c)
  (i:∀x,pre x=true->Ty.jj (VF.iq h) x.1->Ty.jj args x.2->aY (step af) (j af x) (fn x))
  (d:fits F (h.length+args.length)=true:=by kernel_rfl) (v:∀x y,pre (x,y)=true->Nf u (ib af args y)) (e:im h=true:=by kernel_rfl)
  (o:VF.iU h=List.range' h.length (VF.iU h).length:=by kernel_rfl) (z:∀x y,pre (x,y)=true->VF.lens h (fn (x,y)).1=VF.lens h x:=by intros;rfl)
  (f:uD q n (λA=>N1 (PL A p h res) (h.length+(VF.iU h).length) ops uL uM uN ti ((g,F)::lL) jZ stops qm) (λA x=>tu g F (jl h.length++know u (ib A args x.2)) (G6 A h x.1)) j c:=by intro A x;kernel_rfl):bV.bE P g ⟨h,args,res,pre,fn,p,false⟩:=
 Jk (s:=⟨h,args,res,pre,fn,p,false⟩) (k.base ht hm) rfl (aj _) e o v z rf (fits.body d) nofun n λx y B C D=>go_ok (x:=(x,y)) d (by rw[qS,xE,lQ,jl,bO,List.length_range]) b f rfl (i (x,y) B C D)
theorem bI{pre:Ty.Ts (VF.iq h)×Ty.Ts args->Bool}{fn:Ty.Ts (VF.iq h)×Ty.Ts args->Ty.Ts (VF.iq h)×Ty.Ts res}(j:aU->Ty.Ts (VF.iq h)×Ty.Ts args->LT (Ty.Ts (VF.iq h)×Ty.Ts res) Y)(step:aU->Y->LT (Ty.Ts (VF.iq h)×Ty.Ts res) Y)(c:Y->iB)(k:Kit P ((g,F)::lL) jZ ops uL uM uN)
  (b:tM (λA=>N1 (PL A p h res) (h.length+(VF.iU h).length) ops uL uM uN ti ((g,F)::lL) jZ stops qm) step c)
  (i:∀x,pre x=true->Ty.jj (VF.iq h) x.1->Ty.jj args x.2->aY (step af) (j af x) (fn x))
  (d:fits F (h.length+args.length)=true:=by kernel_rfl) (e:im h=true:=by kernel_rfl)
  (o:VF.iU h=List.range' h.length (VF.iU h).length:=by kernel_rfl) (z:∀x y,pre (x,y)=true->VF.lens h (fn (x,y)).1=VF.lens h x:=by intros;rfl)
  (f:uD q n (λA=>N1 (PL A p h res) (h.length+(VF.iU h).length) ops uL uM uN ti ((g,F)::lL) jZ stops qm) (λA x=>tu g F (jl h.length++ib A args x.2) (G6 A h x.1)) j c:=by intro A x;kernel_rfl):bV.bE P g ⟨h,args,res,pre,fn,p,false⟩:=
 qb ht hm q n stops qm [] j step c k b i d (λ_ _ _=>by cases ib af args _<;>trivial) e o z λA x=>by simp only[Zm];grind
theorem iL{t:Ty}{l:List FuncId}{pre:List t.T×Ty.Ts args->Bool}{fn:List t.T×Ty.Ts args->List t.T×Ty.Ts res}(h:aU->List t.T×Ty.Ts args->LT (List t.T×Ty.Ts res) Y)(step:aU->Y->LT (List t.T×Ty.Ts res) Y)(c:Y->iB)(k:Kit P ((g,F)::lL) jZ ops uL uM uN)
  (b:tM (λA=>N1 (XZ A t res) 1 ops uL uM uN ti ((g,F)::lL) jZ stops qm) step c)
  (i:∀x,pre x=true->Ty.has (.slice t) x.1->Ty.jj args x.2->(fn x).1.length=x.1.length/\aY (step af) (h af x) (fn x))
  (d:fits F (1+(args.length+l.length))=true:=by kernel_rfl)
  (f:uD q n (λA=>N1 (XZ A t res) 1 ops uL uM uN ti ((g,F)::lL) jZ stops qm) (λA x=>tu g F (.own 0::(ib A args x.2++l.map λf=>.fn f [] [])) [.arr false t x.1]) h c:=by intro A x;kernel_rfl):gL.bE P g ⟨t,args,l,res,pre,fn⟩:=
 Jj (s:=⟨t,args,l,res,pre,fn⟩) (k.base ht hm) rfl (aj _) rf (fits.body d) n (λx y j o p=>(i (x,y) j o p).1) λx y j o p=>go_ok (x:=(x,y)) d (by rw[bw,qS,lQ,bO,mg]) b f rfl (i (x,y) j o p).2
theorem BU{h:Ty}{pre:h.T×Ty.Ts args->Bool}{fn:h.T×Ty.Ts args->Ty.Ts res}(j:aU->h.T×Ty.Ts args->LT (Ty.Ts res) Y)(step:aU->Y->LT (Ty.Ts res) Y)(c:Y->iB)(k:Kit P ((g,F)::lL) jZ ops uL uM uN)
  (b:tM (λA=>N1 (CJ A res) 0 ops uL uM uN ti ((g,F)::lL) jZ stops qm) step c)
  (i:∀x,pre x=true->h.has x.1->Ty.jj args x.2->aY (step af) (j af x) (fn x))
  (d:fits F (args.length+1)=true:=by kernel_rfl) (e:Ty.mV res=true:=by kernel_rfl)
  (f:uD q n (λA=>N1 (CJ A res) 0 ops uL uM uN ti ((g,F)::lL) jZ stops qm) (λA x=>tu g F (.pI h x.1 0::ib A args x.2)) j c:=by intro A x;kernel_rfl):qs.bE P g ⟨h,args,res,pre,fn⟩:=
 Jm (s:=⟨h,args,res,pre,fn⟩) (k.base ht hm) rfl rf (fits.body d) n e λx y o p u=>go_ok (x:=(x,y)) d (by rw[bw,lQ]) b f rfl (i (x,y) o p u)
theorem bM(c:aU->Ty.Ts args->LT (Ty.Ts res) Empty)(k:Kit P ((g,F)::lL) jZ ops uL uM uN)
  (i:∀x,pre x=true->Ty.jj args x->aY Empty.elim (c af x) (fn x))
  (d:fits F args.length=true:=by kernel_rfl)
  (f:uD q n (λA=>N1 (CJ A res) 0 ops uL uM uN ti ((g,F)::lL) jZ [] qm) (λA x=>tu g F (ib A args x)) c Empty.elim:=by intro A x;kernel_rfl):aK.bE P g ⟨args,res,pre,fn,false⟩:=
 bp ht hm q n [] qm c (λ_=>Empty.elim) Empty.elim k (λ_ y=>y.elim) i d f
end
end Go.Ev
namespace Go.Ev
def Rz:AV->Value->Bool
 | .undef,_=>true
 | .int k _ n,.int k' n'=>qC k k'&&(decide (n=0)&&decide (n'=0))
 | .bool _ b,.bool b'=>b==b'
 | .str _ s,.string s'=>s.isEmpty&&s'.data.toList.isEmpty
 | .gb _,.slice none 0 0=>true
 | .sl _ [],.slice none 0 0=>true
 | .jB,.pointer none=>true
 | .tg,.nilFunc=>true
 | _,_=>false
def Cb:List AV->List Value->Bool
 | [], []=>true
 | a::r,v::vs=>Rz a v&&Cb r vs
 | _,_=>false
theorem NT(k:IntKind):k.has 0:=by cases k<;>exact⟨by decide,by decide⟩
variable{b:Bool}{t:TypeId}{z:List AV}
section
variable {w:World} {S:St} {m:Mem} {P:Program}
theorem BW{s:ByteArray}(h:s.data.toList.isEmpty=true):s=⟨#[]⟩:=by
 obtain⟨⟨l⟩⟩:=s
 grind
theorem VW{a:AV}{v:Value}(h:Rz a v=true):CR w S m a v:=by
 unfold Rz at h;split at h
 ·exact gK
 ·simp at h
  obtain⟨c,rfl,rfl⟩:=h;rw[lF c];exact fo.2 ⟨rfl,NT _⟩
 ·rw[beq_iff_eq] at h;exact ij.2 (by rw[h])
 ·rw[fv] at h
  rename_i s f;cases s with
  | cons _ _=>grind
  | nil=>exact vo.2 ⟨by rw[BW h.2],aX _⟩
 ·exact mX.2 ⟨none,rfl,λ_=>rfl⟩
 ·exact sI.2 (d_.2 ⟨none,0,rfl,aj _,aX _,λ_=>rfl,λi y h=>by cases h⟩)
 ·rfl
 ·rfl
 grind
theorem Cc:∀{f:List AV} {c:List Value},Cb f c=true->dZ w S m f c
 | [], [],_=>bC.2 rfl
 | a::r,v::c,h=>by
   rw[Cb,fv] at h;exact bQ.2 ⟨v,c,rfl,VW h.1,Cc h.2⟩
 | [],_::_,h=>by cases h
 | _::_, [],h=>by cases h
mutual
def Ty.zeros:Ty->List Value
 | .int k=>[.int k 0]
 | .bool=>[.bool false]
 | .str=>[.string ⟨#[]⟩]
 | .slice _=>[.slice none 0 0]
 | .arr n t=>(List.replicate n t.zeros).flatten
 | .struct ts=>Ty.Du ts
 | .any n=>List.replicate n (.int .i64 0)
def Ty.Du:List Ty->List Value
 | []=>[]
 | t::ts=>t.zeros++Ty.Du ts
end
mutual
theorem Ty.yT{I:Nat->Prop}:∀(t:Ty),bW w I t t.zeros t.gw
 | .int k=>uV.2 ⟨rfl,NT k⟩
 | .bool=>Cn.2 rfl
 | .str=>AA.2 ⟨rfl,aX _⟩
 | .slice t=>d_.2 ⟨none,0,rfl,aj _,aX _,λ_=>rfl,λi y h=>by cases h⟩
 | .arr n t=>by
   have c:=Ty.yT (I:=I) t;refine Az.2 ⟨I4,?_,λi y h=>?_⟩
   ·show((List.replicate n t.zeros).flatten).length=_
    rw[lU,mF,kq,c.length]
   ·have h:(List.replicate n t.gw)[i]? = some y:=h
    obtain⟨f,j⟩:=aT.1 h;have:=oA (l:=t.zeros) c.length f;show bW w I t ((((List.replicate n t.zeros).flatten).drop (i*t.size)).take t.size) _
    grind
 | .struct ts=>wX.2 (Ty.Ic ts)
 | .any n=>by rw[bW];exact I4
theorem Ty.Ic{I:Nat->Prop}:∀(c:List Ty),fY w I c (Ty.Du c) (Ty.aS c)
 | []=>yh.2 rfl
 | [t]=>Co.2 (by
   have:Ty.Du [t]=t.zeros:=by simp[Ty.Du,aL]
   rw[this];exact Ty.yT t)
 | t::f::c=>zK.2 ⟨t.zeros,Ty.Du (f::c),rfl,Ty.yT t,Ty.Ic (f::c)⟩
end
def aaJ:Value->Value->Bool
 | .int k n,.int k' n'=>qC k k'&&decide (n=n')
 | .bool b,.bool b'=>b==b'
 | .string s,.string s'=>s.data.toList.isEmpty&&s'.data.toList.isEmpty
 | .slice none 0 0,.slice none 0 0=>true
 | _,_=>false
def Mk:List Value->List Value->Bool
 | [], []=>true
 | a::r,v::vs=>aaJ a v&&Mk r vs
 | _,_=>false
theorem aaK{a b:Value}(h:aaJ a b=true):a=b:=by
 unfold aaJ at h
 grind [lF,BW]
theorem Ke:∀{a b:List Value},Mk a b=true->a=b
 | [], [],_=>rfl
 | a::r,v::vs,h=>by
   rw[Mk,fv] at h;rw[aaK h.1,Ke h.2]
 | [],_::_,h=>by cases h
 | _::_, [],h=>by cases h
def wP(P:Program)(t:TypeId):Option Bool:=
 match P.underlying t with
 | some (.struct _)=>some true
 | some (.array _ _)=>some true
 | some _=>some false
 | none=>none
theorem AF(h:wP P t=some b)(w:World):(isAgg t).run P w=.ok b w:=by
 unfold wP at h;cases hu:P.underlying t with
 | none=>grind
 | some d=>
   rw[hu] at h;unfold isAgg;rw[dN,run_underlying hu];cases d<;>cases h<;>rfl
def Ff(a:Option Bool)(b:Bool):Bool:=match a with|some c=>c==b|none=>false
theorem Cq{a:Option Bool}(h:Ff a b=true):a=some b:=by
 cases a with
 | none=>cases h
 | some c=>simp_all [Ff]
def fieldsB(P:Program):List Field->List (Nat×Nat×Bool)->Bool
 | [], []=>true
 | f::F,(off,sz,ag)::fs=>Nat.beq f.offset off&&(Ff (wP P f.type) ag&&((match P.info? f.type with|some j=>Nat.beq j.size sz|none=>false)&&fieldsB P F fs))
 | _,_=>false
theorem FD:∀{F:List Field} {fs:List (Nat×Nat×Bool)},fieldsB P F fs=true->F.length=fs.length/\∀(i off sz:Nat) (c:Bool),fs[i]? = some (off,sz,c)->
   ∃f j,F[i]? = some f/\f.offset=off/\P.info? f.type=some j/\j.size=sz/\∀w,(isAgg f.type).run P w=.ok c w
 | [], [],_=>⟨rfl,λi off sz c h=>by cases h⟩
 | [],_::_,h=>by cases h
 | _::_, [],h=>by cases h
 | f::F,(off,sz,c)::fs,h=>by
   simp only[fieldsB,fv] at h;obtain⟨v,x,y,o⟩:=h;obtain⟨p,u⟩:=FD o
   grind [vH,AF,Cq]
def Zk(P:Program)(T:TypeId):TK->Bool
 | .bool=>match P.underlying T with|some .bool=>true|_=>false
 | .int k=>match P.underlying T with|some (.int f)=>qC f k|_=>false
 | .str=>match P.underlying T with|some .string=>true|_=>false
 | .slice e=>match P.underlying T with|some (.slice c)=>Nat.beq c e|_=>false
 | .arr n e=>match P.underlying T with|some (.array h c)=>Nat.beq h n&&Nat.beq c e|_=>false
 | .ptr e=>match P.underlying T with|some (.pointer c)=>Nat.beq c e|_=>false
 | .func=>match P.underlying T with|some (.func _ _ _)=>true|_=>false
 | .struct fs=>match P.underlying T with|some (.struct F)=>fieldsB P F.toList fs|_=>false
 | .other=>true
theorem Zl{T:TypeId}{k:TK}(h:Zk P T k=true):kindOk P T k:=by
 cases k<;>simp only[Zk] at h<;>simp only[kindOk]
 case bool=>grind
 case int k=>
  grind [lF]
 case str=>grind
 case slice e=>
  split at h
  all_goals simp_all
 case arr n e=>
  split at h
  all_goals simp_all
 case struct fs=>
  split at h
  ·rename_i F i
   obtain⟨c,f⟩:=FD h
   simp_all
  simp_all
 case ptr e=>
  split at h
  all_goals simp_all
 grind
def UJ(P:Program)(c:TypeId->List AV->Bool)(z:List AV):Nat->List Field->Option Nat
 | off, []=>some off
 | off,f::fs=>match decide (f.name≠ "_")&&(Nat.beq f.offset off&&c f.type ((z.drop off).take (P.cellsOf f.type))) with
   | true=>UJ P c z (off+P.cellsOf f.type) fs
   | false=>none
def agP(a:Option Nat)(b:Nat):Bool:=match a with|some c=>Nat.beq c b|none=>false
theorem ZF{a:Option Nat}{b:Nat}(h:agP a b=true):a=some b:=by
 cases a with
 | none=>cases h
 | some c=>rw[vH h]
def eqB(P:Program):Nat->TypeId->List AV->Bool
 | 0,_,_=>false
 | d+1,t,z=>match P.underlying t with
   | some .bool=>Nat.beq (P.cellsOf t) 1&&(match z with | [.bool _ _]=>true|_=>false)
   | some (.int _)=>Nat.beq (P.cellsOf t) 1&&(match z with | [.int _ _ _]=>true|_=>false)
   | some .string=>Nat.beq (P.cellsOf t) 1&&(match z with | [.str _ _]=>true|_=>false)
   | some (.struct fs)=>!P.stoodInHeld t&&(agP (UJ P (eqB P d) z 0 fs.toList) (P.cellsOf t)&&Nat.beq z.length (P.cellsOf t))
   | _=>false
theorem zy:∀{a b:List AV},np a b=true->a.length=b.length
 | [], [],_=>rfl
 | a::as,b::bs,h=>by
   rw[np,fv] at h;rw[bw,bw,zy h.2]
 | [],_::_,h=>by cases h
 | _::_, [],h=>by cases h
theorem Ea:∀{a b:List AV} (n:Nat),np a b=true->np (a.drop n) (b.drop n)=true
 | _,_,0,h=>h
 | [], [],n+1,_=>rfl
 | a::as,b::bs,n+1,h=>by
   rw[np,fv] at h;exact Ea n h.2
 | [],_::_,_+1,h=>by cases h
 | _::_, [],_+1,h=>by cases h
theorem Eb:∀{a b:List AV} (n:Nat),np a b=true->np (a.take n) (b.take n)=true
 | _,_,0,_=>rfl
 | [], [],n+1,_=>rfl
 | a::as,b::bs,n+1,h=>by
   rw[np,fv] at h;rw[gW,gW,np,fv];exact⟨h.1,Eb n h.2⟩
 | [],_::_,_+1,h=>by cases h
 | _::_, [],_+1,h=>by cases h
theorem zf:∀{a b x y:List AV} {c:Bool} {g:aU->Bool},a.length=b.length->fZ (a++x) (b++y)=some (c,g)->
  ∃c1 f c2 i,fZ a b=some (c1,f)/\fZ x y=some (c2,i)/\g af=(f af&&i af)
 | [], [],x,y,c,g,_,h=>⟨true,λ_=>true,c,g,by rfl,h,rfl⟩
 | [],_::_,_,_,_,_,h,_=>by cases h
 | _::_, [],_,_,_,_,h,_=>by cases h
 | a::as,b::bs,x,y,c,g,v,h=>by
   have v:as.length=bs.length:=by simp_all
   have split:∀(p:Bool) (e:aU->Bool),(match fZ (as++x) (bs++y) with|none=>none|some (c2,g)=>some (p&&c2,λA=>A.and (e A) (g A)))=some (c,g)->
     (∀q:Option (Bool×(aU->Bool)),fZ as bs=q->fZ (a::as) (b::bs)=(match q with|none=>none|some (c2,g)=>some (p&&c2,λA=>A.and (e A) (g A))))->
     ∃c1 f c2 i,fZ (a::as) (b::bs)=some (c1,f)/\fZ x y=some (c2,i)/\g af=(f af&&i af):=by
    intro p e h u;cases j:fZ (as++x) (bs++y) with
    | none=>simp_all
    | some q=>
      obtain⟨c2,i⟩:=q;rw[j] at h;cases h;obtain⟨c1,f,c3,o,z,B,C⟩:=zf v j;refine⟨_,_,c3,o,u _ z,B,?_⟩;show af.and (e af) (i af)=(af.and (e af) (f af)&&o af);rw[C];show(e af&&(f af&&o af))=((e af&&f af)&&o af)
      grind
   cases a<;>cases b<;>simp[nR,fZ] at h<;>try (cases h;done)
   case int.int k c1 n1 k' c2 n2=>
    split at h;cases h;rename_i u;exact split (c1&&c2) (λA=>A.bK n1 n2) h (λq j=>by simp[fZ,u,j];rfl)
   case bool.bool c1 n1 c2 n2=>exact split (c1&&c2) (λA=>A.q n1 n2) h (λq j=>by simp[fZ,j];rfl)
def W1(P:Program)(t:TypeId)(c:List Value)(v:Value):Prop:=(wP P t=some true/\v=.agg c.toArray)\/(wP P t=some false/\c=[v])
theorem Gy{us:Array Value}{off:Nat}(f:wP P t=some b)(c:b=false->P.cellsOf t=1)(h:∃j,P.info? t=some j)(u:off+P.cellsOf t<=us.size)(w:World):
  ∃v,(part t us off).run P w=.ok v w/\W1 P t ((us.toList.drop off).take (P.cellsOf t)) v:=by
 obtain⟨j,p⟩:=h;have o:P.cellsOf t=j.size:=by grind [Program.cellsOf]
 have x:(sizeOf t).run P w=.ok (P.cellsOf t) w:=by simp_all [sizeOf,typeInfo]
 cases b with
 | true=>
   refine⟨.agg (us.extract off (off+P.cellsOf t)),by simp_all [AF,part],.inl ⟨f,?_⟩⟩;congr 1
   grind
 | false=>
   have c:=c rfl;have i:off<us.size:=by omega
   refine⟨us[off],by simp_all [AF,part],.inr ⟨f,?_⟩⟩
   grind [Cg]
theorem info_of_underlying{d:TypeDesc}(h:P.underlying t=some d):∃j,P.info? t=some j:=by grind [Program.underlying]
theorem XR{d:Nat}(h:eqB P d t z=true):(∃j,P.info? t=some j)/\((wP P t=some false/\P.cellsOf t=1)\/wP P t=some true):=by
 cases d with
 | zero=>cases h
 | succ d=>
   unfold eqB at h;cases hu:P.underlying t with
   | none=>simp_all
   | some q=>
     refine⟨info_of_underlying hu,?_⟩;cases q<;>simp only at h<;>try (cases h;done)
     all_goals simp_all [wP]
theorem JG:∀(d:Nat) {D:Nat} {t:TypeId} {z o p:List AV} {B C:List Value} {u v:Value} {c:Bool} {g:aU->Bool} {w:World},d<=D->eqB P d t z=true->np o z=true->o.length=P.cellsOf t->p.length=P.cellsOf t->fZ o p=some (c,g)->
  dZ w S m o B->dZ w S m p C->W1 P t B u->W1 P t C v->(Op.equalIn D t u v).run P w=.ok (g af) w
 | 0,_,_,_,_,_,_,_,_,_,_,_,_,_,h,_,_,_,_,_,_,_,_=>by cases h
 | d+1,0,_,_,_,_,_,_,_,_,_,_,_,hD,_,_,_,_,_,_,_,_,_=>by omega
 | d+1,D+1,t,z,o,p,B,C,u,v,c,g,w,hD,h,hz,hx,hy,i,hxs,hys,X,Z=>by
   unfold eqB at h;cases hut:P.underlying t with
   | none=>simp_all
   | some q=>
     rw[hut] at h;have one:wP P t=some false->P.cellsOf t=1->∃a b,o=[a]/\p=[b]/\CR w S m a u/\CR w S m b v:=by
      intro y h1;rw[h1] at hx hy;obtain⟨a,rfl⟩:=ko.1 hx;obtain⟨b,rfl⟩:=ko.1 hy;rcases X with ⟨h',_⟩|⟨_,rfl⟩
      ·simp_all
      ·rcases Z with ⟨h',_⟩|⟨_,rfl⟩
       ·simp_all
       ·obtain⟨_,_,e,h1,_⟩:=bQ.1 hxs
        obtain⟨_,_,e',am,_⟩:=bQ.1 hys
        simp_all
     cases q<;>simp only at h<;>try (cases h;done)
     case bool=>
      rw[fv] at h;obtain⟨a,b,rfl,rfl,y,G⟩:=one (by simp[wP,hut]) (vH h.1);have J:=h.2;split at J
      ·cases a<;>simp[np,TO] at hz
       cases b<;>simp[fZ] at i;obtain⟨_,rfl⟩:=i;rw[ij.1 y,ij.1 G,run_equalIn_bool' w D t _ _ hut];simp[af]
      simp_all
     case int k0=>
      rw[fv] at h;obtain⟨a,b,rfl,rfl,y,G⟩:=one (by simp[wP,hut]) (vH h.1);have J:=h.2;split at J
      ·cases a<;>simp[np,TO] at hz
       cases b<;>simp[fZ] at i;split at i;cases i;rename_i hk;have a6:=lF hk;subst a6;obtain⟨_,rfl⟩:=i;rw[(fo.1 y).1,(fo.1 G).1,run_equalIn_int w D t _ k0 _ _ hut];simp[af,w9]
      simp_all
     case string=>
      rw[fv] at h;obtain⟨a,b,rfl,rfl,y,G⟩:=one (by simp[wP,hut]) (vH h.1);have J:=h.2;split at J
      ·cases a<;>simp[np,TO] at hz
      simp_all
     case struct fs=>
      rw[fv,fB,fv] at h;obtain⟨a7,V,_⟩:=h;have V:=ZF V;have an:wP P t=some true:=by simp[wP,hut]
      have X:u=.agg B.toArray:=by
       rcases X with ⟨_,e⟩|⟨h',_⟩
       all_goals simp_all
      have Z:v=.agg C.toArray:=by
       rcases Z with ⟨_,e⟩|⟨h',_⟩
       all_goals simp_all
      subst X;subst Z;have j:P.fieldsOf t=fs:=by simp[Program.fieldsOf,hut]
      rw[run_equalIn_struct w D t _ _ (by simp_all) a7,j];have b0:∀(F:List Field) (off:Nat) (g:aU->Bool) (c:Bool),UJ P (eqB P d) z off F=some (P.cellsOf t)->off<=P.cellsOf t->fZ (o.drop off) (p.drop off)=some (c,g)->(Op.eqFields D B.toArray C.toArray F).run P w=.ok (g af) w:=by
       intro F
       induction F with
       | nil=>
         intro off g c W _ i;cases W;rw[gg (by omega),gg (by omega)] at i;obtain⟨_,rfl⟩:=i;rfl
       | cons f F az=>
         intro off g c W a9 i;rw[UJ] at W;cases hck:decide (f.name≠ "_")&&(Nat.beq f.offset off&&eqB P d f.type ((z.drop off).take (P.cellsOf f.type))) with
         | false=>grind
         | true=>
           rw[hck] at W;rw[fv,fv,rR] at hck;obtain⟨A,j,O⟩:=hck;have j:=vH j;have as:off+P.cellsOf f.type<=P.cellsOf t:=by
            have mono:∀(F:List Field) (a b:Nat),UJ P (eqB P d) z a F=some b->a<=b:=by
             intro F
             induction F with
             | nil=>intro a b h;cases h;omega
             | cons f F ih=>
               intro a b h;rw[UJ] at h
               grind
            grind
           obtain⟨x,aa⟩:=XR O;obtain⟨bb,N,K⟩:∃bb,wP P f.type=some bb/\(bb=false->P.cellsOf f.type=1):=by simp_all
           have av:B.length=P.cellsOf t:=by rw[hxs.length,hx]
           have aw:C.length=P.cellsOf t:=by rw[hys.length,hy]
           obtain⟨a,y,a4⟩:=Gy (us:=B.toArray) (off:=off) N K x (by simp_all) w;obtain⟨b,G,a5⟩:=Gy (us:=C.toArray) (off:=off) N K x (by simp_all) w;have ex:o.drop off=(o.drop off).take (P.cellsOf f.type)++o.drop (off+P.cellsOf f.type):=by rw[<-eP,eX]
           have ey:p.drop off=(p.drop off).take (P.cellsOf f.type)++p.drop (off+P.cellsOf f.type):=by rw[<-eP,eX]
           have lx:((o.drop off).take (P.cellsOf f.type)).length=P.cellsOf f.type:=by grind
           have ly:((p.drop off).take (P.cellsOf f.type)).length=P.cellsOf f.type:=by grind
           rw[ex,ey] at i;obtain⟨c1,g1,c2,g2,e1,e2,e3⟩:=zf (by omega) i;have r1:=JG d (D:=D) (by omega) O (Eb _ (Ea _ hz)) lx ly e1 ((hxs.drop off).take _) ((hys.drop off).take _) a4 a5;simp only[Op.eqFields,if_pos A,dN,j,y,dz,G,r1];rw[e3];cases hg1:g1 af with
           | true=>grind
           | false=>simp
      grind
def XS(P:Program)(T:TypeId)(z:List AV):Bool:=
 eqB P 50 T z&&(Ff (wP P T) true&&(Nat.beq (P.cellsOf T) z.length && !P.eqGuardType P.depth T))
theorem XT{T:TypeId}(h:XS P T z=true):anD P T z:=by
 simp only[XS,fv,fB] at h;obtain⟨u,j,o,G⟩:=h;have j:=Cq j;have o:=vH o;intro w S m i f N O c g p v B C;have J:=zy p;have A:∀{i f:List AV} {c:Bool} {g:aU->Bool},fZ i f=some (c,g)->f.length=i.length:=by
  intro i
  induction i with
  | nil=>intro f c g h;cases f with
    | nil=>rfl
    | cons b _=>grind [fZ]
  | cons a i ih=>
    intro f c g h;cases f with
    | nil=>grind [fZ]
    | cons b f=>
      have:∃c g,fZ i f=some (c,g):=by
       cases hq:fZ i f with
       | some q=>grind
       | none=>
         cases a<;>cases b<;>simp[fZ,hq] at h<;>(try (cases h;done))
         grind
      grind
 refine⟨?_,λK x y=>?_⟩
 ·exact JG (m:=m) (S:=S) 50 (D:=Op.maxDepth) (by decide) u p (by omega) (by grind) v B C (.inl ⟨j,rfl⟩) (.inl ⟨j,rfl⟩)
 simp_all [eqGuard]
def tiB(P:Program)(T:TypeId)(ti:TI):Bool:=
 (match P.info? T with
   | none=>false
   | some i=>Nat.beq i.size ti.size&&(Nat.beq i.bytes ti.bytes&&(match i.zero with
     | none=>false
     | some z=>Cb ti.zero z.cells.toList&&(match ti.ty with
       | none=>true
       | some t=>Mk z.cells.toList t.zeros&&(Nat.beq t.size ti.size&&((t.isAgg==ti.agg)&&t.rP)))))) &&
 (Zk P T ti.kind&&(Ff (wP P T) ti.agg&&(Nat.beq ti.zero.length ti.size&&(!(ti.eq&&ti.agg)||XS P T ti.zero))))
theorem anr{T:TypeId}{ti:TI}(h:tiB P T ti=true):Cp P T ti:=by
 simp only[tiB,fv] at h;obtain⟨j,v,x,y,C⟩:=h;split at j;cases j;rename_i i A;simp only[fv] at j;obtain⟨o,p,c⟩:=j;split at c;cases c;rename_i z B;simp at c;obtain⟨c,u⟩:=c;have f:∀t,ti.ty=some t->z.cells.toList=t.zeros/\(t.size=ti.size/\t.isAgg=ti.agg)/\t.rP=true:=λt ht=>by
  rw[ht] at u
  grind [Ke,vH]
 refine⟨⟨i,z,A,vH o,vH p,B,λw S m=>Cc c,λt ht w I=>?_⟩,Zl v,AF (Cq x),vH y,λt ht=>(f t ht).2.1,λG D=>?_,λt ht=>(f t ht).2.2⟩
 all_goals grind [Ty.yT,XT]
def acw(P:Program):Nat->Nat->Nat->PT TI->Bool
 | 0,_,_,t=>match t with | .leaf=>true|_=>false
 | _+1,_,_,.leaf=>true
 | f+1,a,s,.node l v r=>(match v with|some ti=>tiB P a ti|none=>true)&&(acw P f (a+s) (2*s) l&&acw P f (a+2*s) (2*s) r)
theorem MB:∀{f a s:Nat} {t:PT TI},acw P f a s t=true->∀n ti,t.get n=some ti->Cp P (a+s*n) ti
 | 0,a,s,.leaf,_,n,ti,hg=>by grind [PT.F8]
 | 0,a,s,.node _ _ _,h,_,_,_=>by cases h
 | f+1,a,s,.leaf,_,n,ti,hg=>by grind [PT.F8]
 | f+1,a,s,.node l v r,h,n,ti,hg=>by
   simp[acw,fv] at h;rw[PT.pP] at hg;split at hg
   ·grind [anr]
   ·rename_i i
    split at hg
    ·rename_i c
     have:=MB h.2.1 _ _ hg;have e:a+s+2*s*(n/2)=a+s*n:=by
      have:n=2*(n/2)+1:=by omega
      grind
     simp_all
    ·rename_i c
     have:=MB h.2.2 _ _ hg;have e:a+2*s+2*s*(n/2-1)=a+s*n:=by
      have:n=2*(n/2-1)+2:=by omega
      grind
     simp_all
theorem ant{t:PT TI}(h:acw P 30 0 1 t=true):nZ P t:=λT ti c=>by
 have:=MB h T ti c
 grind
end
end Go.Ev
namespace Go.Ev
def uz(P:Program)(ty:TypeId->Option Ty):Nat->List Field->Option (List Ty×Nat)
 | off, []=>some ([],off)
 | off,f::fs=>match ty f.type with
   | none=>none
   | some t=>match Nat.beq f.offset off&&Nat.beq (P.cellsOf f.type) t.size with
     | false=>none
     | true=>match uz P ty (off+t.size) fs with
       | none=>none
       | some (ts,n)=>some (t::ts,n)
def EC(P:Program):Nat->TypeId->Option Ty
 | 0,_=>none
 | d+1,t=>match P.underlying t with
   | some .bool=>some .bool
   | some (.int k)=>some (.int k)
   | some .string=>some .str
   | some (.slice e)=>match EC P d e with
     | none=>none
     | some ty=>match Nat.beq (P.cellsOf e) ty.size&&(Nat.blt 0 ty.size&&Nat.blt 0 (P.bytesOf e)) with
       | true=>some (.slice ty)
       | false=>none
   | some (.struct fs)=>match uz P (EC P d) 0 fs.toList with
     | none=>none
     | some (ts,n)=>match Nat.beq (P.cellsOf t) n with
       | true=>some (.struct ts)
       | false=>none
   | _=>none
def OX(P:Program):List TypeId->Option (List Ty)
 | []=>some []
 | t::ts=>match EC P 60 t with
   | none=>none
   | some ty=>match OX P ts with
     | none=>none
     | some iq=>some (ty::iq)
section
variable {H:Type} {enc:TypeId×Value->H} {P:Program} {w:World} {base:Nat} {spare:Nat->Bool} {held:Bool}
theorem B4{ty:TypeId->Option Ty}:∀{fs:List Field} {off n:Nat} {c:List Ty},uz P ty off fs=some (c,n)->n=off+Ty.mj c
 | [],off,n,c,h=>by cases h;rfl
 | f::fs,off,n,c,h=>by
   rw[uz] at h;cases ht:ty f.type with
   | none=>grind
   | some t=>
     rw[ht] at h;simp only at h;split at h;cases h;split at h;cases h;rename_i j o i;cases h;rw[B4 i,Ty.mj,Nat.add_assoc]
theorem JD{a:Addr}{n:Nat}{p:List Value}(h:w.cells? base a n=some p):p.length=n/\(0<n->a.spot=none/\a.block<w.heap.size)/\(a.spot=none->lJ w a.block a.off p):=by
 unfold World.cells? at h;split at h
 ·have z:p.length=n:=by simpa using mapM_some_length h
  have v:∀i,i<n->w.cell? (a.add i)=p[i]? :=λi C=>by
   have:=mapM_some_get h i i (by grind);omega
  refine⟨z,λA=>?_,λD j u B=>?_⟩
  ·have f:=v 0 A
   rw[EK (by omega)] at f;have e:a.add 0=a:=by rfl
   unfold World.cell? at f;split at f
   ·rename_i c _ _ x
    split at f;cases f;exact⟨by simp_all,(dp.1 x).1⟩
   simp_all
  ·have y:j<n:=by grind
   have:=v j y;rw[B] at this;obtain⟨b,o,G⟩:=a
   grind [Addr.add_lit]
 simp_all
theorem DC{α:Type}{p:Nat->α->Prop}:∀(n:Nat),(∀i,i<n->∃x,p i x)->∃l:List α,l.length=n/\∀i x,l[i]? = some x->p i x
 | 0,_=>⟨[],rfl,λi x h=>by grind⟩
 | n+1,h=>by
   obtain⟨l,c,f⟩:=DC n λi j=>h i (by omega);obtain⟨x,o⟩:=h n (by omega);refine⟨l ++ [x],by grind,λi y u=>?_⟩
   grind
theorem Ej{P:Program}{e:TypeId}:∀{l:List (DataW H)} {d:DataW H},d∈l->∀n∈d.weights P e,n∈DataW.weightsAll P e l
 | x::l,d,c,n,hn=>by
   rw[DataW.weightsAll];rcases aG.1 c with rfl|c
   ·grind
   ·exact nY.2 (.inr (Ej c n hn))
theorem B9{P:Program}:∀{c:List TypeId} {l:List (DataW H)} {i:Nat} {t:TypeId} {d:DataW H},c[i]? = some t->l[i]? = some d->∀n∈d.weights P t,n∈DataW.weightsEach P c l
 | [],_,i,t,d,h,_,_,_=>by grind
 | _::_, [],i,t,d,_,h,_,_=>by grind
 | t0::c,d0::l,i,t,d,h1,h2,n,hn=>by
   rw[DataW.weightsEach];cases i with
   | zero=>grind
   | succ i=>exact nY.2 (.inr (B9 (i:=i) (by grind) (by grind) n hn))
theorem FE{ty:TypeId->Option Ty}{cs:List Value}{rd:Field->Option (DataW H×List MemPlace)}{I:Nat->Prop} :
  ∀{fs:List Field} {off n:Nat} {j:List Ty},uz P ty off fs=some (j,n)->n<=cs.length->
  (∀(i:Nat) (f:Field) (t:Ty),fs[i]? = some f->ty f.type=some t->P.cellsOf f.type=t.size->∃x,bW w I t ((cs.drop f.offset).take (P.cellsOf f.type)) x)->∃x,fY w I j ((cs.drop off).take (n-off)) x
 | [],off,n,j,h,_,_=>by
   cases h;exact⟨(),yh.2 (by grind)⟩
 | f::fs,off,n,j,h,hn,hx=>by
   have p:=B4 h;rw[uz] at h;cases ht:ty f.type with
   | none=>grind
   | some t=>
     rw[ht] at h;simp only at h;cases hck:Nat.beq f.offset off&&Nat.beq (P.cellsOf f.type) t.size with
     | false=>grind
     | true=>
       rw[hck] at h;simp only at h;rw[fv] at hck;have A:=vH hck.1;have v:=vH hck.2;split at h;cases h;rename_i c G B;cases h;obtain⟨x,o⟩:=hx 0 f t rfl ht v;obtain⟨y,u⟩:=FE (rd:=rd) B hn λi g C D=>hx (i+1) g C (by grind);rw[A,v] at o;rw[Ty.mj] at p;have e:(cs.drop off).take (n-off)=(cs.drop off).take t.size++(cs.drop (off+t.size)).take (n-(off+t.size)):=by
        rw[show n-off=t.size+(n-(off+t.size)) from by omega,List.take_add,eP]
       rw[e];cases c with
       | nil=>
         have z:=yh.1 u;rw[z,aL];exact⟨x,Co.2 o⟩
       | cons t2 c=>exact⟨(x,y),zK.2 ⟨_,_,rfl,o,u⟩⟩
theorem UQ{k:IntKind}{n:Int}(h:(Lit.int k n).wf=true):k.has n:=by
 simp[Lit.wf,fv,rR] at h;exact⟨h.1,h.2⟩
theorem Ho:∀(d:Nat) {t:TypeId} {ty:Ty} {fuel:Nat} {cs:List Value} {r:DataW H×List MemPlace},EC P d t=some ty->DataW.trod enc P w base spare held fuel t cs=some r->(∀n∈r.1.weights P t,n<=reachBytes)->
  ∃x,bW w (λb=>b<w.heap.size) ty cs x
 | 0,_,_,_,_,_,h,_,_=>by cases h
 | d+1,t,ty,fuel,cs,r,h,htr,hwt=>by
   rw[EC] at h;cases hu:P.underlying t with
   | none=>simp_all
   | some q=>
     cases q<;>simp_all<;>try (cases h;done)
     case bool=>
      cases h;obtain⟨b,rfl,_⟩:=DataW.trod_bool hu htr;exact⟨b,Cn.2 rfl⟩
     case int k=>
      cases h;obtain⟨n,rfl,_,hw⟩:=DataW.trod_int hu htr;exact⟨n,uV.2 ⟨rfl,UQ hw⟩⟩
     case string=>
      cases h;obtain⟨s,rfl,hr,_⟩:=DataW.trod_string hu htr;refine⟨s.data.toList,AA.2 ⟨by simp,?_⟩⟩;have:=hwt s.data.toList.length (by grind [DataW.weights]);exact aW this (by decide)
     case slice e=>
      cases hte:EC P d e with
      | none=>simp_all
      | some ty'=>
        rw[hte] at h;simp only at h;split at h
        rotate_left
        cases h;rename_i hck;cases h;rw[fv,fv] at hck;have hce:=vH hck.1;have hpos:0<ty'.size:=Lu hck.2.1;have hbytes:0<P.bytesOf e:=Lu hck.2.2;rcases DataW.trod_slice hu htr with ⟨rfl,_⟩|⟨a,len,cap,elems,rest,n,rfl,rfl,hr,_,hlc,_,hel,hget,_,_⟩
        ·exact⟨[],d_.2 ⟨none,0,rfl,aj _,aX _,λ_=>rfl,λi y h=>by cases h⟩⟩
        ·have hw0:(elems.length+rest.length)*P.bytesOf e<=reachBytes:=hwt _ (by grind [DataW.weights])
         have hlen:len<=gy:=by
          have h1:len*1<=(elems.length+rest.length)*P.bytesOf e:=Nat.mul_le_mul (by omega) hbytes
          grind [reachBytes,gy]
         have each:∀i,i<len->∃x,∃us,a.spot=none/\a.block<w.heap.size/\us.length=ty'.size/\lJ w a.block (a.off+i*ty'.size) us/\bW w (λb=>b<w.heap.size) ty' us x:=by
          intro i hi;have hg:=hget i hi;rw[EK (by omega)] at hg;obtain⟨us,hcs,hrd⟩:=Option.bind_eq_some_iff.1 hg;obtain⟨c1,c2,c3⟩:=JD hcs;rw[hce] at c1 c2 c3;have hspa:a.spot=none:=by
           have hg0:=hget 0 (by omega);rw[EK (by omega)] at hg0;obtain⟨us0,hcs0,_⟩:=Option.bind_eq_some_iff.1 hg0;rw[Nat.zero_mul] at hcs0;exact((JD hcs0).2.1 (by omega)).1
          have hadd:a.add (i*ty'.size)=⟨a.block,a.off+i*ty'.size,none⟩:=by
           obtain⟨b,o,sp⟩:=a
           grind [Addr.add_lit]
          obtain⟨x,hx⟩:=Ho d hte hrd λn hn=>hwt n (by
           rw[hr];simp only[DataW.weights,hu];refine aC _ (nY.2 (.inl (Ej (dy.2 ⟨elems[i],cN _,rfl⟩) n hn))))
          grind
         obtain⟨xs,hxl,hxs⟩:=DC len each;refine⟨xs,d_.2 ⟨some a,cap,by grind,by omega,by omega,λh=>(by cases h),λi y hy=>?_⟩⟩;obtain⟨us,g1,g2,g3,g4,g5⟩:=hxs i y hy;refine⟨a.block,a.off,us,?_,g2,g3,g4,g5⟩;obtain⟨b,o,sp⟩:=a
         simp_all
     case struct fs=>
      cases hf:uz P (EC P d) 0 fs.toList with
      | none=>simp_all
      | some q=>
        obtain⟨ts,n⟩:=q;rw[hf] at h;simp only at h;split at h
        ·rename_i hck
         cases h;have hn:=vH hck;obtain⟨xs,m,rfl,hr,hlen,hxl,hx⟩:=DataW.trod_struct hu htr;obtain⟨y,hy⟩:=FE (w:=w) (cs:=cs) (I:=λb=>b<w.heap.size) (rd:=λ_=>(none:Option (DataW H×List MemPlace))) hf (by omega) λi f t' hi hty hc=>by
          have hi':fs[i]? = some f:=by simp_all
          have hlt:i<xs.length:=by grind
          have:=hx i f hi';rw[EK hlt] at this;refine Ho d hty this λn hn=>hwt n ?_;rw[hr];simp[DataW.weights,hu];exact B9 (i:=i) (by simp_all) (by grind) n hn
         rw[mR,Nat.sub_zero,cK (by omega)] at hy;exact⟨y,wX.2 hy⟩
        simp_all
theorem Qj{r:Reach}{f d:Nat}{t:TypeId}{ty:Ty}{v:Value}{x:ty.T}(ht:EC P d t=some ty)(c:Value.okWide P w r f t v)(h:bW w (λb=>b<w.heap.size) ty v.cells.toList x):mB w (λb=>b<w.heap.size) ty v x:=by
 cases d with
 | zero=>cases ht
 | succ d=>
   rw[EC] at ht;unfold Value.okWide at c;cases hu:P.underlying t with
   | none=>simp_all
   | some q=>
     rw[hu] at ht c;have ay:ty.isAgg=false->Cell.okWide P w r f t v->mB w (λb=>b<w.heap.size) ty v x:=by
      intro j o;rw[mB,if_neg (by simp_all)];have:v.cells.toList=[v]:=by
       cases v<;>(try rfl)
       simp_all [Cell.okWide,Cell.ok]
      simp_all
     cases q<;>simp only at ht c<;>try (cases ht;done)
     case bool=>cases ht;exact ay rfl c
     case int k=>cases ht;exact ay rfl c
     case string=>cases ht;exact ay rfl c
     case slice e=>
      have:ty.isAgg=false:=by
       cases hte:EC P d e with
       | none=>simp_all
       | some i=>
         rw[hte] at ht;simp only at ht;split at ht
         ·cases ht;rfl
         simp_all
      simp_all
     case struct fs=>
      obtain⟨cs,rfl,_,_⟩:=c;have:ty.isAgg=true:=by
       cases hf:uz P (EC P d) 0 fs.toList with
       | none=>simp_all
       | some q=>
         rw[hf] at ht;simp only at ht;split at ht
         ·cases ht;rfl
         simp_all
      rw[mB,if_pos this];exact⟨cs,rfl,h⟩
theorem BZ{r:Reach}{b0:Nat}:∀{ts:List TypeId} {iq:List Ty} {vs:List Value} {ds:List (DataW H)} {ps:List MemPlace},OX P ts=some iq->DataW.TrodAll enc P w base spare held ts vs ds ps->
  (∀(j:Nat) t v,ts[j]? = some t->vs[j]? = some v->Value.okWide P w r b0 t v)->(∀n∈DataW.weightsEach P ts ds,n<=reachBytes)->∃x,kU w (λb=>b<w.heap.size) iq vs x
 | [],iq, [], [],ps,h,_,_,_=>by cases h;exact⟨(),rfl⟩
 | t::ts,iq,v::vs,d::ds,ps,h,htr,hok,hwt=>by
   rw[OX] at h;cases hty:EC P 60 t with
   | none=>grind
   | some ty=>
     rw[hty] at h;simp only at h;split at h;cases h;rename_i tys' hts;cases h;obtain⟨p,q,⟨fuel,h1⟩,h2,_⟩:=htr;obtain⟨x,hx⟩:=Ho 60 hty h1 λn hn=>hwt n (nY.2 (.inl hn));have hx':=Qj hty (hok 0 t v rfl rfl) hx;obtain⟨y,hy⟩:=BZ hts h2 (λj t v ht hv=>hok (j+1) t v (by grind) (by grind)) λn hn=>hwt n (nY.2 (.inr hn));cases tys' with
     | nil=>
       subst hy;exact⟨x,v,rfl,hx'⟩
     | cons t2 tys'=>exact⟨(x,y),v,vs,rfl,hx',hy⟩
 | [],_,_::_,_,_,_,h,_,_=>by exact h.elim
 | [],_, [],_::_,_,_,h,_,_=>by exact h.elim
 | _::_,_, [],_,_,_,h,_,_=>by exact h.elim
 | _::_,_,_::_, [],_,_,h,_,_=>by exact h.elim
open Go.RowKit
theorem zC(z:laidOutB P=true){W u:World}(y:Below W.heap.size W u){A:Nat->Bool}:∀{i:List TypeId} {o:List Value} {j:List (DataW H)} {f:List MemPlace},(∀t∈i,P.readableRec t=true/\t<P.types.size)->
  DataW.TrodAll enc P W 0 (λ_=>true) true i o j f->(∀p∈f,p.block<W.heap.size)->(∀p∈f,A p.block=true)->DataW.TrodAll enc P u 0 A true i o j f
 | [], [], [],f,_,h,_,_=>h
 | t::i,v::o,d::j,f,hts,h,hlt,hsp=>by
   obtain⟨p,q,B,C,rfl⟩:=h;refine⟨p,q,WideElems.Trod_stays z (hts t aQ).1 (hts t aQ).2 B (λx c=>y.same (hlt x (nY.2 (.inl c)))) (λx c=>hsp x (nY.2 (.inl c))),?_,rfl⟩;exact zC z y (λt ht=>hts t (aC _ ht)) C (λx c=>hlt x (nY.2 (.inr c))) (λx c=>hsp x (nY.2 (.inr c)))
 | [],_::_,_,_,_,h,_,_=>by exact h.elim
 | [], [],_::_,_,_,h,_,_=>by exact h.elim
 | _::_, [],_,_,_,h,_,_=>by exact h.elim
 | _::_,_::_, [],_,_,h,_,_=>by exact h.elim
theorem trodAll_length:∀{f:List TypeId} {j:List Value} {c:List (DataW H)} {i:List MemPlace},DataW.TrodAll enc P w base spare held f j c i->c.length=f.length
 | [], [], [],_,_=>rfl
 | t::f,v::j,d::c,i,h=>by
   obtain⟨p,q,_,o,_⟩:=h;rw[bw,bw,trodAll_length o]
 | [],_::_,_,_,h=>by exact h.elim
 | [], [],_::_,_,h=>by exact h.elim
 | _::_, [],_,_,h=>by exact h.elim
 | _::_,_::_, [],_,h=>by exact h.elim
theorem Zn{f:Func}{s:ChangeSpec}{h fresh o z:Bool}{W D:World}{args:Array Value}{i O:List (DataW H)}{y:List MemPlace}{tb:TypeId}(c:s.vars=[])
  (a0:∀(H:Type) (i:List (DataW H)),i.length=f.params.size->s.fn H i={results:=[.lit (.bool true)],args:=i}) (u:f.resultTypes=#[tb]) (K:P.underlying tb=some .bool)
  (hl:laidOutB P=true) (a5:∀t∈f.params.toList,P.readableRec t=true/\t<P.types.size)
  (X:DataW.Whole enc P f.params.toList s.vars h W args.toList i O y) (Z:Below W.heap.size W D):s.post enc P f h fresh o z W args (.bool true) D:=by
 have A:=X.lt;have G:=X;obtain⟨p,q,hA,V,rfl,hz,J⟩:=X;rw[c] at V;have a3:O=[]/\q=[]:=by
  cases O with
  | nil=>exact⟨rfl,V⟩
  | cons _ _=>exact V.elim
 obtain⟨rfl,rfl⟩:=a3;rw[aL] at A hz J G;have a9:=trodAll_length hA;have hf:=a0 H (i ++ []) (by simp_all);have B:∀C:Nat->Bool,(∀x∈p,C x.block=true)->DataW.TrodAll enc P D 0 C true f.params.toList args.toList i p:=λC a4=>zC hl Z a5 hA A a4;have v:((Value.bool true).resultList f.resultTypes.size)=[.bool true]:=by rw[u];rfl
 have hr:∀(b:Nat) (C:Nat->Bool) (hd:Bool),DataW.TrodAll enc P D b C hd f.resultTypes.toList ((Value.bool true).resultList f.resultTypes.size) (s.fn H (i ++ [])).results []:=λb C hd=>by
  rw[v,u,hf];exact⟨[], [],shut_bool K true,rfl,rfl⟩
 refine⟨i, [],p, [],p, [],G,hr _ _ _,?_,?_,World.keptBut_mono (λx N=>⟨N,.inr (.inl N)⟩) (Z.frame (· ∈p)),λ_=>⟨λj t r hj hv=>?_,?_⟩⟩
 ·simp_all
 ·rw[c,hf];rfl
 ·grind [okWide_bool_mk]
 ·have h1:DataW.TrodAll enc P D 0 (λ_=>true) true (f.resultTypes.toList++f.params.toList) ((Value.bool true).resultList f.resultTypes.size++args.toList) (.lit (.bool true)::i) p:=by
   rw[v,u];exact⟨[],p,shut_bool K true,B _ (λ_ _=>rfl),rfl⟩
  refine⟨.lit (.bool true)::i, [],p,⟨p, [],h1,by rw[c];rfl,by simp_all,λb off hp=>?_,J⟩,λx N _=>N⟩;rw[Z.frozen (A _ hp)];exact hz b off hp
theorem UU{f:FuncId}{iq:List Ty}{pre:Ty.Ts iq->Bool}{fn:Ty.Ts iq->Bool}{Na:Bool}(hs:aK.bE P f ⟨iq, [.bool],pre,fn,Na⟩)(htrue:∀x,Ty.jj iq x->pre x=true/\fn x=true){F:Func}(htys:OX P F.params.toList=some iq)
  {r:Reach} {b0:Nat} {W:World} {args:Array Value} {ds:List (DataW H)} {ps:List MemPlace} (hA:DataW.TrodAll enc P W base spare held F.params.toList args.toList ds ps)
  (hval:∀(j:Nat) t v,F.params[j]? = some t->args[j]? = some v->Value.okWide P W r b0 t v) (hwt:∀n∈DataW.weightsEach P F.params.toList ds,n<=reachBytes) :
  Calls P f args W λe W'=>e=.returned (.bool true)/\Below W.heap.size W W':=by
 obtain⟨x,hx⟩:=BZ htys hA (λj t v ht hv=>hval j t v (by grind) (by grind)) hwt;obtain⟨h1,h2⟩:=htrue x hx.has;refine(hs.calls W _ x args (λb hb=>hb) hx h1).mono ?_
 rintro e W' ⟨v,rfl,g1,g2,g3,g4,g5,I',_,g7⟩
 have g7:[v]=[Value.bool (fn x)]:=g7;cases g7;refine⟨by rw[h2],⟨g1,g2,g3,g4,g5⟩⟩
theorem Qa{C:Checked}{os:Os}{f:FuncId}{F:Func}{s:ChangeSpec}{conds:List PathCond}{apart fresh handsOn again:Bool}{a:Assume}{tb:TypeId}{iq:List Ty}{pre:Ty.Ts iq->Bool}{fn:Ty.Ts iq->Bool}{Na:Bool}
  (own:ownKnob C.prog.godebug=none) (started:os.Started) (noInit:C.prog.inits.idxOf? f=none) (hF:C.prog.funcs[f]? = some F)
  (witness:∃(w:World) (tape:Tape) (i:Input),w.os=os/\(w.forCall tape i).Shaped C.prog/\i.vars=[]/\Input.okWide C.prog (w.forCall tape i) .any w.heap.size f i/\
    s.pre6 enc C.prog F conds apart (w.forCall tape i).memory i.args/\a.holds C.prog (lone (Frame.enter C.prog f i.args .normal) [] (w.forCall tape i)))
  (hs:aK.bE C.prog f ⟨iq, [.bool],pre,fn,Na⟩) (htrue:∀x,Ty.jj iq x->pre x=true/\fn x=true) (htys:OX C.prog F.params.toList=some iq) (hvars:s.vars=[])
  (hfn:∀(H:Type) (ds:List (DataW H)),ds.length=F.params.size->s.fn H ds={results:=[.lit (.bool true)],args:=ds}) (hres:F.resultTypes=#[tb]) (htb:C.prog.underlying tb=some .bool)
  (hl:laidOutB C.prog=true) (hts:F.params.toList.all (λt=>C.prog.readableRec t&&decide (t<C.prog.types.size))=true) :
  ReturnsInHanded a C os f .any (s.pre6 enc C.prog F conds apart) (s.post enc C.prog F apart fresh handsOn again):=by
 refine returnsInHanded_of_change_sized own started noInit hF witness ?_;intro W b0 args ds gs before hval hW _ hsz _;have hW':=hW;obtain⟨p,q,hA,hV,_,_,_⟩:=hW;rw[hvars] at hV;have hgs:gs=[]:=by
  cases gs with
  | nil=>rfl
  | cons _ _=>exact hV.elim
 have hwt:∀n∈DataW.weightsEach C.prog F.params.toList ds,n<=reachBytes:=by
  have e:s.plain.varTypes C.prog=[]:=by simp[DataSpec.varTypes,ChangeSpec.plain,hvars]
  grind
 refine(UU hs htrue htys hA hval hwt).mono ?_
 rintro e W' ⟨rfl,hb⟩
 refine⟨_,rfl,Zn hvars hfn hres htb hl (λt ht=>?_) hW' hb⟩
 grind
end
end Go.Ev
namespace Go.Ev
def LT.val{R Y:Type}(d:R):LT R Y->R
 | .ret r=>r
 | .ao _=>d
 | .br b t e=>bif b then t.val d else e.val d
 | .ar _ t=>t.val d
 | .eqs _ t=>t.val d
 | .and a _=>a.val d
 | .bZ _ _=>d
def LT.pre{R Y:Type}:LT R Y->Bool
 | .ret _=>true
 | .ao _=>false
 | .br b t e=>bif b then t.pre else e.pre
 | .ar b t=>b&&t.pre
 | .eqs _ t=>t.pre
 | .and _ _=>false
 | .bZ _ _=>false
def LT.Eqs{R Y:Type}:LT R Y->Prop
 | .ret _=>True
 | .ao _=>True
 | .br _ t e=>t.Eqs/\e.Eqs
 | .ar _ t=>t.Eqs
 | .eqs p t=>p/\t.Eqs
 | .and _ _=>True
 | .bZ _ _=>True
theorem LT.runs{R Y:Type}{d:R}{step:Y->LT R Y}:∀{t:LT R Y},t.Eqs->t.pre=true->aY step t (t.val d)
 | .ret r,_,_=>.ret r
 | .ao _,_,h=>by cases h
 | .br b t e,h1,h2=>by
   cases b with
   | true=>exact .br (LT.runs h1.1 h2)
   | false=>exact .br (LT.runs h1.2 h2)
 | .ar b t,h1,h2=>by
   rw[LT.pre,fv] at h2;exact .ar h2.1 (LT.runs h1 h2.2)
 | .eqs p t,h1,h2=>.eqs h1.1 (LT.runs h1.2 h2)
 | .and _ _,_,h=>by cases h
 | .bZ _ _,_,h=>by cases h
def LT.all{R Y:Type}(p:R->Prop):LT R Y->Prop
 | .ret r=>p r
 | .ao _=>True
 | .br _ t e=>t.all p/\e.all p
 | .ar _ t=>t.all p
 | .eqs _ t=>t.all p
 | .and a b=>a.all p/\b.all p
 | .bZ _ _=>True
theorem LT.qV{R Y:Type}{d:R}{p:R->Prop}(c:p d):∀{t:LT R Y},t.all p->p (t.val d)
 | .ret r,h=>h
 | .ao _,_=>c
 | .br b t e,h=>by
   cases b with
   | true=>exact LT.qV (t:=t) c h.1
   | false=>exact LT.qV (t:=e) c h.2
 | .ar b t,h=>LT.qV (t:=t) c h
 | .eqs _ t,h=>LT.qV (t:=t) c h
 | .and a _,h=>LT.qV c (t:=a) h.1
 | .bZ _ _,_=>c
variable{α:Type}{v:α}{x:List α}
section
variable {a b:Int} {k:IntKind}
theorem bd:af.bK a b=(a==b):=rfl
theorem cq:af.cu a b=(a != b):=rfl
theorem aN:af.bG a b=decide (a<b):=rfl
theorem aB:af.bU a b=decide (a<=b):=rfl
theorem bY:af.ji a b=decide (b<a):=rfl
theorem gq:af.nM a b=decide (b<=a):=rfl
theorem bl{x y:Bool}:af.and x y=(x&&y):=rfl
theorem lf{x:Bool}:af.not x=!x:=rfl
theorem avw{x y:Bool}:af.q x y=(x==y):=rfl
theorem bo{β:Type}{f:α->β}{x:α}:af.k f x=f x:=rfl
theorem gp:af.b .add k a b=k.wrap (a+b):=rfl
theorem fO:af.b .sub k a b=k.wrap (a-b):=rfl
theorem kP:af.b .mul k a b=k.wrap (a*b):=rfl
theorem ET:af.b .quo k a b=k.wrap (a.tdiv b):=rfl
theorem Mv:af.b .rem k a b=a.tmod b:=rfl
theorem G8:af.v k a=k.wrap a:=rfl
theorem nW:af.mn a b=if b<a then b else a:=rfl
theorem tx:af.mx a b=if b > a then b else a:=rfl
theorem T7{t:Ty}{x:List t.T}:af.n t x a=x.getD a.toNat t.gw:=rfl
theorem iY:af.s x a b=(x.take b.toNat).drop a.toNat:=rfl
theorem Mw:af.set x a v=x.set a.toNat v:=rfl
theorem yJ:af.r a v=List.replicate a.toNat v:=rfl
theorem mW{y:List α}:af.spl x a y=x.take a.toNat++y++x.drop (a.toNat+y.length):=rfl
theorem lg(c:-9223372036854775808<=a)(f:a<=9223372036854775807):IntKind.i64.wrap a=a:=IntWalk.i64_in a ⟨c,f⟩
theorem VS(c:0<=a)(f:a<=18446744073709551615):IntKind.u64.wrap a=a:=IntWalk.u64_in a ⟨c,f⟩
end
variable{n:Int}
theorem F_:IntKind.i64.has n↔ -9223372036854775808<=n/\n<=9223372036854775807:=fF
theorem aoc:IntKind.u8.has n↔0<=n/\n<=255:=fF
variable{b:Bool}
theorem Fp{x y:Bool}:(bif b then x else y)=true↔(b=true->x=true)/\(b=false->y=true):=by grind
theorem zR{x y r:α}:(bif b then x else y)=r↔(b=true/\x=r)\/(b=false/\y=r):=by grind
theorem acr{x:α}:tt x=true:=rfl
def LT.N_{R Y:Type}:LT R Y->Bool
 | .br _ t e=>t.N_&&e.N_
 | .ar _ t=>t.N_
 | .eqs _ _=>false
 | _=>true
theorem LT.gf{R Y:Type}:∀{t:LT R Y},t.N_=true->t.Eqs
 | .ret _,_=>trivial
 | .ao _,_=>trivial
 | .br _ t e,h=>by
   rw[LT.N_,fv] at h;exact⟨LT.gf h.1,LT.gf h.2⟩
 | .ar _ t,h=>LT.gf (t:=t) h
 | .and _ _,_=>trivial
 | .bZ _ _,_=>trivial
def LT.free{R Y:Type}:LT R Y->Bool
 | .ret _=>true
 | .br _ t e=>t.free&&e.free
 | .eqs _ t=>t.free
 | _=>false
theorem LT.iI{R Y:Type}:∀{t:LT R Y},t.free=true->t.pre=true
 | .ret _,_=>rfl
 | .br b t e,h=>by
   rw[LT.free,fv] at h;rw[LT.pre,LT.iI h.1,LT.iI h.2,Bool.cond_self]
 | .eqs _ t,h=>LT.iI (t:=t) h
theorem aR{P:Program}{ti:PT TI}(ht:nZ P ti)(hm:P.follows .mixedOrders=true){g:FuncId}{F:Func}{args res:List Ty}{lL:List (FuncId×Func)}{jZ:List (FuncId×aK)}{pre:Ty.Ts args->Bool}{fn:Ty.Ts args->Ty.Ts res}
  (q:Md) (n:Nat) (qm:List Stop) (c:aU->Ty.Ts args->LT (Ty.Ts res) Empty) (k:Kit P ((g,F)::lL) jZ [] [] [] [])
  (u:∀x,pre x=true->Ty.jj args x->(c af x).pre=true:=by exact λ_ _ _=>LT.iI (by kernel_rfl))
  (f:∀x,(c af x).Eqs:=by intro x;exact LT.gf (by kernel_rfl))
  (o:fits F args.length=true:=by kernel_rfl)
  (j:uD q n (λA=>N1 (CJ A res) 0 [] [] [] [] ti ((g,F)::lL) jZ [] qm) (λA x=>tu g F (ib A args x)) c Empty.elim:=by intro A x;kernel_rfl)
  (i:∀x,fn x=(c af x).val (Ty.aS res):=by intro x;kernel_rfl):aK.bE P g ⟨args,res,pre,fn,false⟩:=
 bM ht hm q n qm c k (λx p h=>i x▸LT.runs (f x) (u x p h)) o j
theorem aY.one{R Y:Type}{s:Y->LT R Y}{t:LT R Y}{a:R}(h:aY s t a):∀{b:R},aY s t b->a=b:=by
 induction h with
 | ret r=>exact λk=>jV.1 k
 | ao _ ih=>exact λk=>ih (aA.1 k)
 | br _ ih=>exact λk=>ih (uv.1 k)
 | ar _ _ ih=>exact λk=>ih (au.1 k).2
 | eqs _ _ ih=>exact λk=>ih (xR.1 k).2
 | and _ _ ih _=>exact λk=>by cases k with|and k _=>grind
def LT.ev{R Y:Type}(s:Y->LT R Y):Nat->LT R Y->Option R
 | 0,_=>none
 | n+1,t=>match t with
   | .ret r=>some r
   | .ao y=>LT.ev s n (s y)
   | .br b t e=>bif b then LT.ev s n t else LT.ev s n e
   | .ar b t=>bif b then LT.ev s n t else none
   | _=>none
theorem LT.Nx{R Y:Type}{s:Y->LT R Y}:∀{n:Nat} {t:LT R Y} {r:R},LT.ev s n t=some r->aY s t r
 | 0,_,_,h=>by cases h
 | n+1,t,r,h=>by
   cases t with
   | ret q=>cases h;exact .ret _
   | ao y=>exact .ao (LT.Nx (n:=n) h)
   | br b t e=>
     cases b
     ·exact(ai rfl).2 (LT.Nx (n:=n) h)
     ·exact(ak rfl).2 (LT.Nx (n:=n) h)
   | ar b t=>
     cases b
     ·cases h
     ·exact au.2 ⟨rfl,LT.Nx (n:=n) h⟩
   | eqs _ _=>cases h
   | and _ _=>cases h
   | bZ _ _=>cases h
section
variable {R Y:Type} {s:Y->LT R Y} {t e:LT R Y} {d r:R} {P Q:R->Prop} {a b:Int}
noncomputable def gu(s:Y->LT R Y)(t:LT R Y):Bool:=bif (LT.ev s 5000 t).isSome then true else @decide (∃r,aY s t r) (Classical.propDecidable _)
noncomputable def gG(s:Y->LT R Y)(t:LT R Y)(d:R):R:=match LT.ev s 5000 t with
 | some r=>r
 | none=>@dite R (∃r,aY s t r) (Classical.propDecidable _) (λh=>h.choose) λ_=>d
theorem fT(h:gu s t=true):aY s t (gG s t d):=by
 unfold gu at h;unfold gG;cases k:LT.ev s 5000 t with
 | some r=>exact LT.Nx k
 | none=>
   grind
theorem TL(h:aY s t r):gu s t=true:=by
 unfold gu
 grind
theorem TM(h:aY s t r):gG s t d=r:=(fT (TL h)).one h
def Go(s:Y->LT R Y)(t:LT R Y)(P:R->Prop):Prop:=∃r,aY s t r/\P r
theorem jA(h:Go s t P):gu s t=true/\P (gG s t d):=h.elim λ_ k=>⟨TL k.1,by rw[TM k.1];grind⟩
theorem Go.mono(h:Go s t P)(k:∀r,P r->Q r):Go s t Q:=h.elim λr a=>⟨r,a.1,k r a.2⟩
theorem aD(h:P r):Go s (.ret r) P:=⟨r,.ret _,h⟩
theorem aZ{y:Y}(h:Go s (s y) P):Go s (.ao y) P:=h.elim λr k=>⟨r,.ao k.1,k.2⟩
theorem ah{b:Bool}(c:b=true)(h:Go s t P):Go s (.ar b t) P:=h.elim λr k=>⟨r,.ar c k.1,k.2⟩
theorem fJ{b:Bool}(c:b=true->Go s t P)(f:b=false->Go s e P):Go s (.br b t e) P:=by
 cases b
 ·exact(f rfl).elim λr k=>⟨r,.br k.1,k.2⟩
 ·exact(c rfl).elim λr k=>⟨r,.br k.1,k.2⟩
theorem bT(c:a<b->Go s t P)(f:b<=a->Go s e P):Go s (.br (af.bG a b) t e) P:=
 fJ (λh=>c (of_decide_eq_true (p:=a<b) h)) λh=>f (mA.1 (of_decide_eq_false (p:=a<b) h))
theorem pQ(c:b<a->Go s t P)(f:a<=b->Go s e P):Go s (.br (af.ji a b) t e) P:=
 fJ (λh=>c (of_decide_eq_true (p:=a > b) h)) λh=>f (mA.1 (of_decide_eq_false (p:=a > b) h))
theorem xD(c:a<=b->Go s t P)(f:b<a->Go s e P):Go s (.br (af.bU a b) t e) P:=
 fJ (λh=>c (of_decide_eq_true (p:=a<=b) h)) λh=>f (Int.not_le.1 (of_decide_eq_false (p:=a<=b) h))
theorem oO(c:b<=a->Go s t P)(f:a<b->Go s e P):Go s (.br (af.nM a b) t e) P:=
 fJ (λh=>c (of_decide_eq_true (p:=a >= b) h)) λh=>f (Int.not_le.1 (of_decide_eq_false (p:=a >= b) h))
theorem dw(c:a=b->Go s t P)(f:¬a=b->Go s e P):Go s (.br (af.bK a b) t e) P:=
 fJ (λh=>c (eq_of_beq (a:=a) (b:=b) h)) λh=>f (λk=>by rw[k] at h;exact absurd h (by simp[bd]))
theorem dM(c:¬a=b->Go s t P)(f:a=b->Go s e P):Go s (.br (af.cu a b) t e) P:=
 fJ (λh=>c (by simpa [cq] using h)) λh=>f (by simpa [cq] using h)
theorem du{c:Bool}(f:c=false->Go s t P)(h:c=true->Go s e P):Go s (.br (af.not c) t e) P:=by
 cases c
 ·exact fJ (λ_=>f rfl) nofun
 ·exact fJ nofun λ_=>h rfl
end
def vi(x:Int):AV:=.int .i64 false x
def vb(x:Bool):AV:=.bool false x
def dc(t:Ty)(x:t.T):List AV:=lh af t x
def en(l:List (Nat×AV)):Env:=l.foldl (λe p=>e.put p.1 p.2) .leaf
def cw(F:Func)(l:List Nat):Code:=Code.way (Ps F) l
def sk(F:Func)(l:List Nat):List dR:=stk (Ps F) l []
def ow(F:Func)(l:List Nat):Array Oper:=opsOf (Code.way (Ps F) l)
abbrev yI:Ty:=.int .i64
abbrev yU:Ty:=.int .u8
abbrev yB:Ty:=.slice yU
abbrev El:Ty:=.slice yI
abbrev LT.iZ {R Y:Type} (A:aU) {τ:Type} (i:Int) (l:List τ) (t:LT R Y):LT R Y:=.ar (A.and (A.bU 0 i) (A.bG i (A.l l))) t
abbrev LT.oo {R Y:Type} (A:aU) {τ:Type} (l:List τ) (t:LT R Y):LT R Y:=.ar (A.cu (A.l l) 0) t
theorem Ch{R Y:Type}{s:Y->LT R Y}{t:LT R Y}{d:R}(h:(gu s t&&b)=true):aY s t (gG s t d):=fT ((Bool.and_eq_true _ _).mp h).1
theorem Ci{a:Bool}{p:Prop}[Decidable p](h:(a&&decide p)=true):p:=of_decide_eq_true ((Bool.and_eq_true _ _).mp h).2
end Go.Ev
