/- PROVED: an evaluator is right, the whole; contracts. Conditions: tables and contracts fit. -/
import Derived.Test.YtdmeijjlkmmifaaGreatEvB
import Derived.KernelRfl
import Derived.Laws.StructEq
import Derived.WalkKit
import Derived.ProofKit
import Derived.OpenShut
import Derived.SizedLaws
import Derived.Carry
import Derived.IntWalk
set_option linter.unusedVariables false
set_option linter.defProp false
set_option linter.unusedSimpArgs false
set_option linter.unusedSectionVars false
namespace Go.Ev
section
variable {P:Program} {R:Type} {E:kD R} {w0:nN} {I0:Nat->Prop} {f0:FuncId} {Fin:R->Value->World->Prop} {Q:R->Prop}
variable {w:World} {S:St} {m:Mem} {fr:Frame} {fs:List dK} {frs cs:List Frame}
variable {n:Nat}
theorem K0:∀{f:List Nat} {j:List AV} {h:List Value} {env:Env} {c:Array Value} {nn:Nat},eH w S m j h->f.length=j.length->(∀p∈f,p<nn)->c.size=nn->nn<=65535->(∀i,CR w S m (env.at i)<|c.getD i undef)->
  ((f.zip h).foldl (λc (t,a)=>c.setIfInBounds t a) c).size=nn/\∀i,CR w S m ((Aw f j env).at i)<|((f.zip h).foldl (λc (t,a)=>c.setIfInBounds t a) c).getD i undef
 | [],j,h,env,c,nn,_,_,_,hs,_,he=>by simp_all [Aw]
 | p::f,[],h,env,c,nn,_,hl,_,_,_,_=>by simp_all
 | p::f,a::j,h,env,c,nn,hc,hl,hp,hs,hn,he=>by
   obtain⟨u,r,rfl,y,o⟩:=bL.1 hc;simp only[Aw];have v:=hp p aJ;refine K0 (nn:=nn) o (by simp_all) (λq x=>hp q<|aD _ x) (by grind) hn λi=>?_;rw[Env.z7<|by omega];by_cases z:i=p
   all_goals simp_all [ig]
def G0{α β γ:Type}(f:γ->α×β->γ)(x:γ)(a:Array α)(b:Array β):(a.zip b).foldl f x=(a.toList.zip b.toList).foldl f x:=by
 rw[<-Array.foldl_toList,Array.toList_zip]
def J3{ρ:Operand->Value}{x:Operand}{args:Array Operand}{f:Array TypeId}{t:TypeId}{l:Nat}{r:Loop}(i:ρ x=.func (.yield l) #[] #[])(h:w.heap[l]? = some (.loop r))(j:args.size=r.params.size) :
  (do let d <-resolve ρ {callee:=.value x,args:=args,argTypes:=f} t;invoke d.target d.args:Sem Next).run P w =
    .ok (.round l r.fn ((r.params.zip<|args.map ρ).foldl (λc (t,a)=>c.setIfInBounds t a) r.tmps) r.assign r.body) w:=by
 simp only[resolve,i,Deferred.ofValue,Array.empty_append];exact run_yield h (by grind)
theorem Kj{c:Operand->AV}{f:Operand->Value}(h:∀x,CR w S m (c x)<|f x)(l:Array Operand):eH w S m (l.toList.map c) (l.map f).toList:=by grind [Array.toList_map,Lj]
def UG(hP:Fits P E Fin w0 I0)(ih:∀c,Tr.Ok Q (Good P E w0 I0 f0 Fin Q) (run af E n c)->Good P E w0 I0 f0 Fin Q c)
  {all:Array Oper} {i:Nat} {l:List Nat} {kc:List Item} {o:Oper} {ρ:Operand->AV} {fn:FuncId} {below:dK} {next:AV->Mem->Tr R}
  (hW:WR w0 w S m) (hI:∀b,S.I b->I0 b\/w0.free b) (as:FB w S m fs frs) (hB:zV f0<|below::fs) (hm:fr.mode=.run)
  (ht:fr.todo=.inRegion all (i::l)::kc) (ho:all[i]? = some o) (hw:Region.wanted o (yielded all fr.tmps)=true)
  (hρ:∀x∈o.op.operands.toList,CR w S m (ρ x)<|fr.eval x) (J:FR w S m below fr)
  (u:∀v Z w' S' z,Step w0 w S m w' S' Z->CR w' S' Z v z->Tr.Ok Q (Good P E w0 I0 f0 Fin Q) (next v Z)->Ends P f0 Fin Q (fr.finish z) frs cs w')
  (h:Tr.Ok Q (Good P E w0 I0 f0 Fin Q) (match uo af E ρ m o with
        | some tv=>tv.bind o.pos λv=>next v m
        | none=>match o.op with
          | .call {callee:=.value x,args,.. }=>match ρ x with
            | .fn g first j=>match look E.kh g with
              | some s=>(vS af s m<|first++(args.toList.map ρ++j)).bind o.pos λp=>next p.1 p.2
              | none=>match tx af E g m (first++(args.toList.map ρ++j)) with
               | some tv=>tv.bind o.pos λp=>next p.1 p.2
               | none=>match look E.l_ g with
                | none=>.bY 163 o.pos
                | some G=>match ju g G (first++(args.toList.map ρ++j)) with
                  | none=>.bY 164 o.pos
                  | some h=>run af E n {bG:=h::below::fs,mem:=m}
            | .yield l=>match m.at l with
               | .loop r=>match Nat.beq r.params.length (args.toList.map ρ).length&&r.params.all (λp=>Nat.blt p r.n) with
                 | true=>run af E n {bG:={fn:=r.fn,n:=r.n,env:=Aw r.params (args.toList.map ρ) r.env,todo:=[.code r.assign,.beginRound,.code r.body],marks:=[],gB:=some l}::below::fs,mem:=m}
                 | false=>.bY 165 o.pos
               | _=>.bY 166 o.pos
            | _=>.bY 167 o.pos
          | _=>(xC af E fn ρ m o).bind o.pos λp=>next p.1 p.2)):Ends P f0 Fin Q fr frs cs w:=by
 classical
 let ρ':Operand->AV:=λx=>if x∈o.op.operands.toList then ρ x else .undef
 have b0:∀x,CR w S m (ρ' x)<|fr.eval x:=λx=>by
  by_cases hx:x∈o.op.operands.toList
  .grind
  .simp only[ρ',if_neg hx];exact gQ
 have D:∀x∈o.op.operands.toList,ρ x=ρ' x:=λx hx=>by grind
 rw[D8 D,Ot D] at h;cases hev:uo af E ρ' m o with
 | some tv=>
   rw[hev] at h;have⟨v,X,h⟩:=TV.bind_ok h;have⟨z,hz,hc⟩:=D9 hP.ti hW b0 hev X;have O:∀c,o.op≠.defer c:=λc e=>by grind [uo]
   exact .step (Sp hm ht ho hw O hz)<|u v m w S z (.refl hW) hc h
 | none=>
   rw[hev] at h;simp only at h;have other:Tr.Ok Q (Good P E w0 I0 f0 Fin Q) ((xC af E fn ρ' m o).bind o.pos λp=>next p.1 p.2)->Ends P f0 Fin Q fr frs cs w:=by
    intro h;have⟨⟨v,Z⟩,X,h⟩:=TV.bind_ok h;have⟨nx,z,w',S',a6,b9,hs,hc⟩:=Ou hP.ti hW b0 X;have O:∀c,o.op≠.defer c:=λc e=>by simp[xC,e,TV.Is] at X
    rcases b9 with rfl|⟨rfl,rfl⟩
    .exact .step (Sp hm ht ho hw O a6)<|u v Z w' S' z hs hc h
    .exact .step (anS hm ht ho hw O a6)<|u _ Z w' S' undef hs gQ h
   split at h
   .rename_i x args b3 ac;have O:∀c,o.op≠.defer c:=λc e=>by rw[ac] at e;cases e
    have hx:CR w S m (ρ x)<|fr.eval x:=hρ x (by rw[ac];simp[Op.operands,Call.operands]);have N:eH w S m (args.toList.map ρ) (args.map fr.eval).toList:=by
     have e:args.toList.map ρ=args.toList.map ρ':=vu λy hy=>D y (by grind [Op.operands,Call.operands])
     grind [Kj]
    have A:∀nx,(do let d <-resolve fr.eval {callee:=.value x,args:=args,argTypes:=b3} o.type;invoke d.target d.args:Sem Next).run P w=.ok nx w->(execOp fr.eval o).run P w=.ok nx w:=λnx he=>by
     simp only[execOp,ac];exact he
    cases X:ρ x<;>rw[X] at h hx<;>(try simp only at h)<;>try exact h.elim
    .rename_i g first j
     have⟨us,vs,W,bb,bc⟩:=vo.1 hx;have K:eH w S m (first++(args.toList.map ρ++j)) (us++args.map fr.eval++vs).toList:=by
      rw[Array.append_assoc,gu,gu];exact bb.append<|N.append bc
     cases hsp:look E.kh g with
     | some s=>
       rw[hsp] at h;have⟨⟨v,Z⟩,X,h⟩:=TV.bind_ok h;have⟨F,hF,hb,hn⟩:=(hP.kh g s hsp).body;have⟨w',S',z,iV,hs,hc,C,B⟩:=Bd (hP.kh g s hsp) (λd=>(hP.zM d).1 g s hsp) hW K X<|fr::(frs++cs);have f:=Nu (cs:=frs++cs) hm ht ho hw O<|A _<|oJ W hF hn hb w;exact .steps ((Steps.head f C).trans<|.one<|step_leave_returned B)<|u v Z w' S' z hs hc h
     | none=>
       rw[hsp] at h;cases hpp:tx af E g m (first++(args.toList.map ρ++j)) with
       | some tv=>
         rw[hpp] at h;have⟨⟨v,Z⟩,X,h⟩:=TV.bind_ok h;have⟨⟨F,hF,hb,hn⟩,aa⟩:=Gu hP hpp;have⟨w',S',z,iV,hs,hc,C,B⟩:=aa hW K X<|fr::(frs++cs);have f:=Nu (cs:=frs++cs) hm ht ho hw O<|A _<|oJ W hF hn hb w;exact .steps ((Steps.head f C).trans<|.one<|step_leave_returned B)<|u v Z w' S' z hs hc h
       | none=>
       rw[hpp] at h;simp only at h;cases hG:look E.l_ g with
       | none=>rw[hG] at h;exact h.elim
       | some G=>
         rw[hG] at h;simp only at h;cases hen:ju g G (first++(args.toList.map ρ++j)) with
         | none=>rw[hen] at h;exact h.elim
         | some h'=>
           rw[hen] at h;simp only at h;have⟨aq,b6⟩:=hP.l_ _ _ hG;have⟨b7,a8,aw⟩:=kM aq hen K;have f:=Nu (cs:=frs++cs) hm ht ho hw O<|A _<|oJ W aq b6 a8 w;exact .step (frs2:=fr::frs) f<|ih _ h (gP aw) S _ _ cs w hW hI ⟨_,_,rfl,b7,_,_,rfl,J,as⟩ hB
    .rename_i lp;cases hml:m.at lp<;>rw[hml] at h<;>(try simp only at h)<;>try exact h.elim
     rename_i r;have W:fr.eval x=.func (.yield<|S.σ lp) #[] #[]:=by grind [CR]
     cases hok:Nat.beq r.params.length (args.toList.map ρ).length&&r.params.all (λp=>Nat.blt p r.n) with
     | false=>rw[hok] at h;exact h.elim
     | true=>
       rw[hok] at h;simp only at h;rw[fZ] at hok;have⟨V,av⟩:=hok;have V:=vH V;have av:∀p∈r.params,p<r.n:=λp hp=>by simp_all
       have hb:=hW.box lp;rw[hml] at hb;have⟨L,g1,g2,g3,g4,g5,g6,g7,⟨g8,g9⟩,b4⟩:=hb;have ba:args.size=L.params.size:=by grind
       have f:=anR (P:=P) (cs:=frs++cs) hm ht ho hw O<|A _<|J3 W g1 ba;have a5:=K0 N V av g8 g9 b4;rw[G0,g4,g5,g6,g7] at f;refine .step (frs2:=fr::frs) f<|ih _ h (gP λa ha=>by cases ha;rfl) S _ _ cs w hW hI ⟨_,_,rfl,?_,_,_,rfl,J,as⟩ hB;refine⟨rfl,a5.1,g9,λy _=>a5.2 y,fY.code<|.mk (a:=.beginRound) rfl<|fY.code rfl,?_,λa ha=>?_,rfl,λd O=>absurd O aC,rfl,rfl,rfl,λq hq=>by cases hq;rw[hml];rfl⟩
       .exact .mk trivial<|.mk trivial<|.mk trivial λa ha=>absurd ha aC
       .simp only[List.tail_cons,aF,aC,or_false] at ha;rcases ha with rfl|rfl<;>rfl
   .exact other h
end
end Go.Ev
namespace Go.Ev
variable{D:List Nat}
section
variable {P:Program} {R:Type} {E:kD R} {w0:nN} {I0:Nat->Prop} {f0:FuncId} {Fin:R->Value->World->Prop} {Q:R->Prop}
variable {w:World} {S:St} {m:Mem} {fr:Frame} {fs:List dK} {frs cs:List Frame}
variable {fn:FuncId} {nn:Nat} {env:Env} {marks:List Nat} {gB:Option Nat} {k:List dX} {n:Nat}
def E3(env c:Env)(D:List Nat):Prop:=∀x,c.at x=env.at x\/(x∈D/\∃v,env.at x=.bool false v/\c.at x=.bool true v)
theorem E3.CR{c:Env}(h:E3 env c D){x:Nat}{v:Value}(f:CR w S m (env.at x) v):CR w S m (c.at x) v:=by
 rcases h x with e|⟨_,b,i,j⟩
 .grind
 .rw[i] at f;rw[j];exact iD.2<|iD.1 f
def FR.UQ{f:Env}{j:List dX}(h:E3 env f D)(c:FR w S m ⟨fn,nn,env,j,marks,gB⟩ fr):FR w S m ⟨fn,nn,f,j,marks,gB⟩ fr:=
 ⟨c.fn,c.n,c.small,λi o=>h.CR<|c.env i o,c.todo,c.live,c.cu,c.defers,c.marks,c.mode,c.kind,c.gB,c.uH⟩
def adB{f:List dX}(o:FR w S m ⟨fn,nn,env,f,marks,gB⟩ fr){d:Nat}{c v:Bool}(j:¬Hid ⟨fn,nn,env,f,marks,gB⟩ fr d)(h:env.at d=.bool c v):d<nn:=by
 have i:=o.env d j;rw[show(dK.env ⟨fn,nn,env,f,marks,gB⟩).at d=.bool c v from h] at i;rcases Nat.lt_or_ge d nn with p|p
 .omega
 .rw[d_,Array.getElem?_eq_none (by rw[o.n];omega)] at i;cases i
theorem agq(hP:Fits P E Fin w0 I0)(ih:∀c,Tr.Ok Q (Good P E w0 I0 f0 Fin Q) (run af E n c)->Good P E w0 I0 f0 Fin Q c){all:Array Oper}{o:Oper}{f:List Oper}
  (h:Tr.Ok Q (Good P E w0 I0 f0 Fin Q)<|run af E (n+1) {bG:=⟨fn,nn,env,.ops all (o::f)::k,marks,gB⟩::fs,mem:=m})
  (hW:WR w0 w S m) (hI:∀b,S.I b->I0 b\/w0.free b) (B:FR w S m ⟨fn,nn,env,.ops all (o::f)::k,marks,gB⟩ fr) (G:FB w S m fs frs) (hB:zV f0<|⟨fn,nn,env,.ops all (o::f)::k,marks,gB⟩::fs) :
  Ends P f0 Fin Q fr frs cs w:=by
 have A:∀{env:Env} y,¬Hid ⟨fn,nn,env,.ops all (o::f)::k,marks,gB⟩ fr y:=λy=>oO λa V=>by cases V;rfl
 have⟨it,kc,ht,h1,h2⟩:=B.todo.cons_inv;obtain⟨l,rfl,X⟩:∃l:List Nat,it=.inRegion all l/\l.map (λi=>all[i]?)=(o::f).map some:=h1;cases l with
 | nil=>grind
 | cons i l=>
   simp at X;simp only[run] at h;split at h;exact h.elim;rename_i hd;have⟨j,Z,h⟩:=G7 h λd _ c v e=>by have:=adB B (A d) e;have:nn<=65535:=B.small;omega
   have p:=B.UQ (D:=iH all o) Z;have hw:∀{t:Bool},jH all j o t->Region.wanted o (yielded all fr.tmps)=t:=λJ=>tJ J λd _=>p.env d<|A d
   have u:∀{v:AV} {K:Mem} {N:World} {O:St} {z:Value},Step w0 w S m N O K->CR N O K v z->
     Tr.Ok Q (Good P E w0 I0 f0 Fin Q) (run af E n {bG:=⟨fn,nn,j.oI o.dst v,.ops all f::k,marks,gB⟩::fs,mem:=K})->Ends P f0 Fin Q (fr.finish z) frs cs N:=λC W h=>
    ih _ h (gP λa V=>by cases V;rfl) _ _ _ cs _ C.wr (λb hb=>(C.grows b hb).elim (hI b) .inr) ⟨_,_,rfl,GF (p.mono C.out) hd W,G.mono C.out⟩ (hB.swap rfl)
   rcases h with ⟨J,h⟩|⟨J,h⟩
   .exact UG (fn:=fn) (ρ:=mV j) (below:=⟨fn,nn,j,.ops all (o::f)::k,marks,gB⟩) (next:=λv m=>run af E n {bG:=⟨fn,nn,j.oI o.dst v,.ops all f::k,marks,gB⟩::fs,mem:=m})
     hP ih hW hI G (hB.swap rfl) B.mode ht X.1 (hw J) (λx _=>BQ p x λt _=>A t) p (λv K N O z C W h=>u C W h) h
   .exact .step (Lf B.mode ht X.1<|hw J)<|u (.refl hW) (kC.2 ⟨#[],rfl,bw.2 rfl⟩) h
end
end Go.Ev
namespace Go.Ev
theorem Kr(e:Edge):Region.binds .any e=uQ e:=by rfl
theorem xA:∀{c:List Oper} {k i:Nat} {o:Oper},pV k c=true->c[i]? = some o->∀e∈o.after.toList,uQ e=true->e.on<k+i
 | [],k,i,o,_,h=>by grind
 | p::c,k,i,o,he,h=>by
   rw[pV,fZ] at he;cases i with
   | zero=>
     cases h;intro e hm f;have:=cd.1 he.1 e hm
     simp_all
   | succ i=>
     intro e hm f;have:=xA he.2 (by simpa using h) e hm f;omega
variable{i:Nat}
def uE{all:Array Oper}{j:Nat}:j∈oP all i↔∃o e,all[i]? = some o/\e∈o.after.toList/\uQ e=true/\e.on=j:=by grind [oP]
def pred_lt{all:Array Oper}(h:pV 0 all.toList=true){j:Nat}(u:j∈oP all i):j<i:=by
 obtain⟨o,e,c,f,p,rfl⟩:=uE.1 u;have:=xA h (by rw[Array.getElem?_toList];exact c) e f p;omega
structure aje(all:Array Oper)(acc:List Nat):Prop where
 nodup:acc.Nodup
 lt:∀i∈acc,i<all.size
 aip:∀i∈acc,∀j∈oP all i,j∈acc
 pw:acc.Pairwise λi j=>i ∉ oP all j
def aje.lin{all:Array Oper}{c:List Nat}(h:aje all c)(o:pV 0 all.toList=true)(j:∀i,i<all.size->i∈c):Xn all c.reverse/\∀i,i<all.size->i∈c.reverse:=
 ⟨⟨List.pairwise_reverse.2<|h.nodup.imp ig,λi f=>h.lt i<|ol.1 f,List.pairwise_reverse.2 h.pw,λi _ v=>eZ _<|pred_lt o v,
  λk p u=>absurd (ol.2<|j k p) u⟩,λi f=>ol.2<|j i f⟩
def K2{all:Array Oper}{c:Array Bool}{f:List Nat}(J:c.size=all.size)(hm:∀i,i<all.size->(c.getD i false=true↔i∈f))(A:∀i∈f,i<all.size)(u:i<all.size):
  (!c.getD i true&&((all[i]?).map (·.after.all λe=>!Region.binds .any e||c.getD e.on false)).getD false)=true↔i ∉ f/\∀j∈oP all i,j∈f:=by
 have v:c.getD i true=c.getD i false:=by simp_all
 have x:∀j,c.getD j false=true↔j∈f:=λj=>by grind
 rw[v,fZ,fM,eY u];simp only[o7,Option.getD_some,Array.all_eq_true',o5];constructor
 .rintro ⟨y,p⟩
  refine⟨λh=>by grind,λj z=>?_⟩;obtain⟨o,e,B,C,D,rfl⟩:=uE.1 z
  grind [Kr]
 .rintro ⟨y,p⟩
  refine⟨?_,λe G=>?_⟩
  .grind
  .cases hb:Region.binds .any e with
   | false=>simp_all
   | true=>exact .inr<|(x _).2<|p _<|uE.2 ⟨_,e,eY u,by simp_all,by grind [Kr],rfl⟩
theorem BB{all:Array Oper}(x:pV 0 all.toList=true):∀(h t:Nat) (c:Array Bool) (f:List Nat),c.size=all.size->(∀i,i<all.size->(c.getD i false=true↔i∈f))->aje all f->
  ((List.range all.size).filter λi=>decide<|i ∉ f).length<=h->Xn all (Region.linearise.go .any all h t c f)/\∀i,i<all.size->i∈Region.linearise.go .any all h t c f
 | 0,t,c,f,hl,hm,hP,hf=>by
   refine hP.lin x λi v=>?_
   simp_all
 | h+1,t,c,f,hl,hm,hP,hf=>by
   rw[Region.linearise.go];split
   .rename_i i v;have u:=jl v;have⟨D,G⟩:=gl.1 u;have A:=kS.1 D;have⟨z,V⟩:=(K2 hl hm hP.lt A).1 G;refine BB x h _ _ _ (by grind) (λj o=>?_) ⟨bR.2 ⟨z,hP.nodup⟩,λj o=>?_,λj o k J=>?_,dM.2 ⟨λj o K=>z<|hP.aip j o i K,hP.pw⟩⟩ ?_
    .simp only[d_,Array.getElem?_setIfInBounds];by_cases B:i=j
     .simp_all
     .rw[if_neg B,<-d_,hm j o,aF]
      grind
    .rcases aF.1 o with rfl|o
     .omega
     .exact hP.lt j o
    .rcases aF.1 o with rfl|o
     .simp_all
     .exact aD _<|hP.aip j o k J
    .have e:(List.range all.size).filter (λj=>decide<|j ∉ i::f)=((List.range all.size).filter λj=>decide<|j ∉ f).filter λj=>decide<|j≠i:=by simp_all
     rw[e]
     have:(((List.range all.size).filter λj=>decide<|j ∉ f).filter λj=>decide<|j≠i).length<((List.range all.size).filter λj=>decide<|j ∉ f).length:=
      List.length_filter_lt_length_iff_exists.2 ⟨i,gl.2 ⟨D,by simpa using z⟩,by simp⟩
     omega
   .rename_i W;refine hP.lin x λi v=>?_;have O:∀i,i<all.size->i∈f:=λi=>by
     induction i using Nat.strongRecOn with
     | ind i C=>
       intro v;by_cases y:i∈f
       .exact y
       .have N:=(K2 hl hm hP.lt v).2 ⟨y,λj o=>C j (pred_lt x o) (by have:=pred_lt x o;omega)⟩;have u:=gl (p:=λi=>!c.getD i true&&((all[i]?).map (·.after.all λe=>!Region.binds .any e||c.getD e.on false)).getD false) |>.2 ⟨kS.2 v,N⟩
        grind [Nat.mod_lt]
    grind
def Nm{all:Array Oper}(c:pV 0 all.toList=true)(t:Nat):Xn all (Region.schedule true all t)/\∀i,i<all.size->i∈Region.schedule true all t:=by
 refine BB c _ _ _ _ (by simp) (λi f=>?_) ⟨qj,λ_ h=>absurd h aC,λ_ h=>absurd h aC,.nil⟩ ?_
 .simp_all
 grind
theorem Am{f:List Nat}{b:Nat}:∀{c:List Edge},(qb f c).testBit b=true->∃e∈c,uQ e=true/\(b=e.on\/(f.getD e.on 0).testBit b=true)
 | [],h=>by grind [qb]
 | e::c,h=>by
   simp only[qb] at h;cases hb:uQ e with
   | false=>
     rw[hb] at h;have⟨i,j,o⟩:=Am h
     grind
   | true=>
     rw[hb] at h;simp at h;rcases h with (h|h)|h
     .grind
     .simp_all
     .have⟨i,j,o⟩:=Am h
      grind
theorem xV:∀{f:List Oper} {c:List Nat} {j:Nat},j<c.length->(oN f c).getD j 0=c.getD j 0
 | [],c,j,_=>by rfl
 | o::f,c,j,h=>by
   rw[oN,xV (by simp;omega)]
   grind
theorem Eo:∀{os:List Oper} {ms:List Nat} {i:Nat} {o:Oper},os[i]? = some o->(∀e∈o.after.toList,uQ e=true->e.on<ms.length+i)->(oN os ms).getD (ms.length+i) 0=qb (oN os ms) o.after.toList
 | [],ms,i,o,h,_=>by grind
 | p::os,ms,i,o,h,he=>by
   rw[oN];have f:(ms ++ [qb ms p.after.toList]).length=ms.length+1:=by simp
   cases i with
   | zero=>
     rw[kJ,xV<|by omega];have u:∀j,j<ms.length->(oN os<|ms ++ [qb ms p.after.toList]).getD j 0=ms.getD j 0:=λj y=>by grind [xV]
     have v:∀c:List Edge,(∀e∈c,uQ e=true->e.on<ms.length)->qb ms c=qb (oN os<|ms ++ [qb ms p.after.toList]) c:=λc=>by
      induction c with
      | nil=>intro _;rfl
      | cons e c ih=>
        grind [qb]
     grind
   | succ i=>
     have:=Eo (os:=os) (ms:=ms ++ [qb ms p.after.toList]) (i:=i) (o:=o) (by simp_all) (λe hm x=>by grind)
     grind
variable{l:List Nat}
def V4{all:Array Oper}(y:pV 0 all.toList=true)(C:Xn all l):∀{i b:Nat},i<all.size->(∀j∈oP all i,j ∉ l)->((oN all.toList []).getD i 0).testBit b=true->b ∉ l:=by
 intro i
 induction i using Nat.strongRecOn with
 | ind i v=>
   intro b D J x;obtain⟨o,G⟩:∃o,all[i]? = some o:=⟨_,eY D⟩;have c:all.toList[i]? = some o:=by grind
   have p:=xA y c;have:=Eo (ms:=[]) c (λe hm h=>by grind);rw[List.length_nil,Nat.zero_add] at this;rw[this] at x;have⟨e,A,B,f⟩:=Am x;have z:e.on∈oP all i:=uE.2 ⟨o,e,G,A,B,rfl⟩;have u:=pred_lt y z;rcases f with rfl|f
   .grind
   .exact v e.on u (by omega) (C.closed e.on (by omega)<|J _ z) f
def Xn.VU{all:Array Oper}(h:Xn all<|i::l):∀j∈oP all i,j ∉ i::l:=λj c hm=>by
 rcases aF.1 hm with rfl|hm
 .exact h.self j aJ c
 .exact(dM.1 h.pw).1 j hm c
def iY.done{n:Nat}{all:Array Oper}{f c bs:List Nat}{b:Nat}(h:iY n all f c bs<|i::l)(j:(f.getD i 0).testBit b=true):b ∉ i::l:=by
 exact h.msk [] i l rfl b j
def aaW{all:Array Oper}(j:pV 0 all.toList=true)(f:Xn all l):FD (oN all.toList []) l:=λl1 i l2 e b h=>by
 subst e;have c:Xn all<|i::l2:=by
  induction l1 with
  | nil=>grind
  | cons x l1 ih=>exact ih f.tail
 exact V4 j c (c.lt i aJ) c.VU h
end Go.Ev
namespace Go.Ev
variable{i:Nat}{l:List Nat}{o:Oper}{t:Nat}{v:AV}
section
variable {P:Program} {R:Type} {E:kD R} {w0:nN} {I0:Nat->Prop} {f0:FuncId} {Fin:R->Value->World->Prop} {Q:R->Prop}
variable {w:World} {S:St} {m:Mem} {fr:Frame} {fs:List dK} {frs cs:List Frame}
variable {fn:FuncId} {nn:Nat} {env:Env} {marks:List Nat} {gB:Option Nat} {k:List dX} {n:Nat}
def WI{a b:AV}{z:Value}(h:o9 a b)(c:CR w S m a z):CR w S m b z:=by
 unfold o9 at h;split at h
 .subst h;exact iD.2<|iD.1 c
 .obtain⟨rfl,rfl⟩:=h;exact fq.2<|fq.1 c
 grind
def LY{A:aS}{s:aK}{c:List AV}{f:Mem}(i:sJ (c.flatMap AV.cells)=true)(h:(vS A s m c).Is (v,f)):f=m:=by
 unfold vS at h;cases hok:kE s.args c with
 | false=>rw[hok] at h;exact h.elim
 | true=>
   rw[hok,G2 i] at h;simp only at h;cases htd:q9 s.args (c.flatMap AV.cells) with
   | none=>rw[htd] at h;exact h.elim
   | some q=>
     have⟨x,r⟩:=q;rw[htd] at h;cases r with
     | cons _ _=>exact h.elim
     | nil=>
       cases hs:s.N_<;>rw[hs] at h
       .cases h.2;rfl
       .cases h;rfl
def ahH(W:Fits P E Fin w0 I0){all:Array Oper}{kc:List Item}{ρ:Operand->AV}{tv:TV AV}(Z:WR w0 w S m)(hm:fr.mode=.run)
  (ht:fr.todo=.inRegion all (i::l)::kc) (ho:all[i]? = some o) (hw:Region.wanted o (yielded all fr.tmps)=true) (hρ:∀x∈o.op.operands.toList,CR w S m (ρ x)<|fr.eval x)
  (h:evV af E m ρ o=some tv) (hv:tv.Is v) (cs:List Frame):∃O V z,Step w0 w S m O V m/\CR O V m v z/\Steps P (lone fr cs w) (lone (fr.finish z) cs O):=by
 classical
 let D:Operand->AV:=λx=>if x∈o.op.operands.toList then ρ x else .undef
 have C:∀x,CR w S m (D x)<|fr.eval x:=λx=>by
  by_cases N:x∈o.op.operands.toList
  .grind
  .simp only[D,if_neg N];exact gQ
 have A:∀x∈o.op.operands.toList,ρ x=D x:=λx N=>by grind
 rw[C5 A] at h;unfold evV at h;cases hev:uo af E D m o with
 | some as=>
   rw[hev] at h;cases h;have⟨z,hz,hc⟩:=D9 W.ti Z C hev hv;have hd:∀c,o.op≠.defer c:=λc e=>by grind [uo]
   exact⟨w,S,z,.refl Z,hc,.one<|Sp hm ht ho hw hd hz⟩
 | none=>
   rw[hev] at h;unfold Bc at h;cases hop:o.op<;>rw[hop] at h<;>(try simp only at h)<;>try (cases h;done)
   rename_i c;have⟨f,args,X⟩:=c;cases f<;>simp only at h<;>try (cases h;done)
   rename_i x;have hd:∀c,o.op≠.defer c:=λc e=>by simp_all
   have N:=C x;have u:eH w S m (args.toList.map D) (args.map fr.eval).toList:=Kj C args;have y:∀nx,(do let d <-resolve fr.eval {callee:=.value x,args:=args,argTypes:=X} o.type;invoke d.target d.args:Sem Next).run P w=.ok nx w->(execOp fr.eval o).run P w=.ok nx w:=λnx he=>by grind [execOp]
   cases hvx:D x<;>rw[hvx] at h N<;>(try simp only at h)<;>try (cases h;done)
   rename_i g first G
   have⟨us,vs,a7,a5,a6⟩:=vo.1 N;have J:eH w S m (first++(args.toList.map D++G)) (us++args.map fr.eval++vs).toList:=by
    rw[Array.append_assoc,gu,gu];exact a5.append<|u.append a6
   cases hsp:look E.kh g with
   | none=>simp_all
   | some s=>
     rw[hsp] at h;simp only at h;split at h
     rotate_left
     cases h;rename_i a4;cases h;obtain⟨⟨v',m'⟩,K,rfl⟩:=TV.De hv;obtain rfl:=LY a4 K;have⟨F,hF,hb,hn⟩:=(W.kh g s hsp).body;have⟨O,V,z,iV,hs,hc,p,j⟩:=Bd (W.kh g s hsp) (λd=>(W.zM d).1 g s hsp) Z J K<|fr::cs;have B:=Nu (cs:=cs) hm ht ho hw hd<|y _<|oJ a7 hF hn hb w;exact⟨O,V,z,hs,hc,(Steps.head B p).trans<|.one<|step_leave_returned j⟩
theorem An{t:Nat}:∀{l:List Operand},Operand.tmp t∈l->t∈tmpsOf l
 | x::l,h=>by
   rcases aF.1 h with rfl|c
   .exact aJ
   .cases x<;>simp only[tmpsOf]
    .exact aD _<|An c
    all_goals exact An c
theorem wy{all:Array Oper}(h:Operand.tmp t∈o.op.operands.toList):t∈kU all o:=pP.2<|.inl<|An h
def pJ{all:Array Oper}(h:t∈iH all o):t∈kU all o:=pP.2<|.inr h
def BM{all:Array Oper}{z c bs:List Nat}{O:List Item}{f:dK}(J:iY nn all z c bs<|i::l)(K:f.todo.head?.bind dX.drawn=some (all,bs))(ht:fr.todo=.inRegion all (i::l)::O)
  (j:∀b∈bs,i≠b->∀p d,all[b]? = some p->p.dst=some d->d∈kU all o->(z.getD i 0).testBit b=true) (y:i∈bs->∀d,∀p,all[i]? = some p->p.dst=some d->d ∉ kU all o) {t:Nat} (N:t∈kU all o):¬Hid f fr t:=by
 rintro ⟨u,A,W,V,b,p,v,x,B,C,D,G⟩
 rw[K] at v;cases v;rw[ht] at x;cases x;by_cases h:i=b
 .grind
 .exact J.done (j b B h p t D G N) C
def iY.drop{all:Array Oper}{o c bs:List Nat}(h:iY nn all o c bs<|i::l)(p:i ∉ c):iY nn all o c bs l:=by
 refine⟨h.msk.tail,(bR.1 h.lnd).2,h.nodup,λj f=>?_,λj f=>h.cov j<|aD _ f,h.lt,h.read,h.dst,h.own,h.Xc,h.dok⟩;rcases aF.1 (h.sub j f) with rfl|hm
 all_goals grind
theorem A5(hP:Fits P E Fin w0 I0){all:Array Oper}{K c bs:List Nat}(cs:List Frame)(aa:∀b∈bs,Jw E env m all b):∀(l:List Nat) {w:World} {S:St} {fr:Frame} {O:List Item},WR w0 w S m->FR w S m ⟨fn,nn,env,.jO all K c bs::k,marks,gB⟩ fr->
  fr.todo=.inRegion all l::O->iY nn all K c bs l->fY nn S k O->
  ∃N G C D y,Step w0 w S m N G m/\FR N G m ⟨fn,nn,env,.jO all K c bs::k,marks,gB⟩ C/\Steps P (lone fr cs w) (lone C cs N)/\C.todo=.inRegion all D::y/\iY nn all K c bs D/\fY nn G k y/\(∀i,D.head? = some i->i∈c)/\C.fn=fr.fn
 | [],w,S,fr,O,hW,hf,ht,hD,hk=>⟨w,S,fr,[],O,.refl hW,hf,.refl _ _,ht,hD,hk,λi h=>(by cases h),rfl⟩
 | i::l,w,S,fr,O,hW,hf,ht,hD,hk=>by
   by_cases a6:i∈c
   .exact⟨w,S,fr,i::l,O,.refl hW,hf,.refl _ _,ht,hD,hk,λj h=>(by simp_all),rfl⟩
   .have J:i∈bs:=(hD.cov i aJ).resolve_left a6;obtain⟨o,X,W⟩:=aa i J
    have a8:∀{t:Nat},t∈kU all o->¬Hid ⟨fn,nn,env,.jO all K c bs::k,marks,gB⟩ fr t:=λhr=>
     BM hD rfl ht (λb hb am p d hp hd hr=>hD.read i J b hb am o p d X hp hd hr) (λ_ d p hp hd=>by rw[X] at hp;cases hp;exact hD.own i J o d X hd) hr
    have an:∀x∈o.op.operands.toList,CR w S m (mV env x) (fr.eval x):=λx hx=>BQ hf x λt e=>a8 (by grind [wy]);have B:∀{t:Bool},jH all env o t->Region.wanted o (yielded all fr.tmps)=t:=λW=>tJ W λd hd=>hf.env d (a8 (pJ hd));have b0:=hD.dok i J o X
    have ab:∀{Z:World} {S1:St} {v:AV} {z:Value},Step w0 w S m Z S1 m->CR Z S1 m v z->wD env o.dst v->Steps P (lone fr cs w) (lone (fr.finish z) cs Z)->
      ∃N G C D y,Step w0 w S m N G m/\FR N G m ⟨fn,nn,env,.jO all K c bs::k,marks,gB⟩ C/\Steps P (lone fr cs w) (lone C cs N)/\C.todo=.inRegion all D::y/\iY nn all K c bs D/\fY nn G k y/\(∀i,D.head? = some i->i∈c)/\C.fn=fr.fn:=by
     intro Z S1 v z hs hc A u;have a3:=hD.drop a6;have f:=hf.mono hs.out;have a7:=fY.mono hs.out hf.live.tail hk;have a5:=uS (z:=z) ht X;rw[a5] at u;have ag:FR Z S1 m ⟨fn,nn,env,.jO all K c bs::k,marks,gB⟩ {fr with tmps:=PH fr.tmps o.dst z,todo:=.inRegion all l::O}:=by
      refine⟨f.fn,Dq.trans f.n,f.small,λx hx=>?_,.mk (a:=.jO all K c bs) ⟨l,rfl,a3⟩ a7,f.live,f.cu,f.defers,f.marks,f.mode,f.kind,f.gB,f.uH⟩;rw[PI (by rw[hf.n];omega)];by_cases V:o.dst=some x
      .rw[if_pos V];rw[V] at A;exact WI A hc
      .rw[if_neg V];refine f.env x λhh=>hx ?_;obtain⟨as,b2,D,k',b,p,e1,e2,e3,e4,e5,e6⟩:=hh;cases e1;rw[ht] at e2;cases e2;rcases aF.1 e4 with rfl|e4
       .simp_all
       .exact⟨all,bs,l,O,b,p,rfl,rfl,e3,e4,e5,e6⟩
     obtain⟨N,G,C,D,y,g1,g2,g3,g4,g5,g6,g7,g8⟩:=A5 hP cs aa l hs.wr ag rfl a3 a7;exact⟨N,G,C,D,y,hs.trans g1,g2,u.trans g3,g4,g5,g6,g7,g8⟩
    rcases W with ⟨W,A⟩|⟨W,tv,v,ae,hv,A⟩
    .exact ab (.refl hW) (kC.2 ⟨#[],rfl,bw.2 rfl⟩) A (.one (Lf hf.mode ht X (B W)))
    .obtain⟨Z,S1,z,hs,hc,u⟩:=ahH hP hW hf.mode ht X (B W) an ae hv cs
     grind
end
end Go.Ev
namespace Go.Ev
def LP{kh:List<|FuncId×aK}{c:Array Oper}{p f:List Nat}(h:qN kh c=some (p,f)):
  p=oN c.toList []/\pV 0 c.toList=true/\f.Nodup/\(∀i∈f,i<c.size)/\∀i,i<c.size->i∈f:=by
 unfold qN at h;simp only at h;split at h
 .rename_i o;cases h;rw[fZ,fZ,fZ] at o;have⟨u,v,x,y⟩:=o;refine⟨rfl,u,pI v,λi j=>KX<|cd.1 x i j,λi j=>jW.1<|cd.1 y i<|kS.2 j⟩
 grind
theorem Ew(v:AV):o9 v v:=by cases v<;>simp[o9]
theorem P0{v:AV}{b:Bool}(h:o9 v<|.bool false b):o9 v<|.bool true b:=by
 cases v<;>simp[o9] at h ⊢;exact h
variable{b:Nat}{c:Env}{d i:Nat}{o:Oper}
section
variable {P:Program} {R:Type} {E:kD R} {w0:nN} {I0:Nat->Prop} {f0:FuncId} {Fin:R->Value->World->Prop} {Q:R->Prop}
variable {w:World} {S:St} {m:Mem} {fr:Frame} {fs:List dK} {frs cs:List Frame}
variable {fn:FuncId} {nn:Nat} {env:Env} {marks:List Nat} {gB:Option Nat} {k:List dX} {n:Nat}
def VQ{G:gY->Prop}{all:Array Oper}{bs:List Nat}{i j:Env->Tr R}(h:Tr.Ok Q G<|Rj all bs env o i j)(y:∀d∈iH all o,∀c v,env.at d=.bool c v->d<=65535):
  ∃f:Env,E3 env f (iH all o)/\((∀x,f.at x=env.at x)\/∀d∈iH all o,BL all bs d=true)/\((jH all f o true/\Tr.Ok Q G (i f))\/(jH all f o false/\Tr.Ok Q G (j f))):=by
 unfold Rj at h;cases hk:qP all env o with
 | some t=>
   refine⟨env,λ_=>.inl rfl,.inl λ_=>rfl,?_⟩
   grind [uX]
 | none=>
   rw[hk] at h;simp only at h;split at h
   .rename_i d z;split at h
    rotate_left
    exact h.elim;have⟨f,p,u⟩:=G7 h y;exact⟨f,p,.inr λx A=>by simp_all,u⟩
   .exact h.elim
def jH.congr{all:Array Oper}{t:Bool}(h:jH all env o t)(f:∀x∈iH all o,c.at x=env.at x):jH all c o t:=by grind [jH,iH]
theorem H5{x:Operand}(h:∀t,x=.tmp t->c.at t=env.at t):mV c x=mV env x:=by
 cases x with
 | tmp t=>exact h t rfl
 | const v=>rfl
 | global g=>rfl
 | func f=>rfl
def Jw.congr{all:Array Oper}(h:Jw E env m all b)(B:∀o,all[b]? = some o->(∀x∈kU all o,c.at x=env.at x)/\∀v d,o.dst=some d->o9 v (env.at d)->o9 v (c.at d)):Jw E c m all b:=by
 have⟨o,z,h⟩:=h;have⟨u,A⟩:=B o z;have y:∀v,wD env o.dst v->wD c o.dst v:=λv f=>by
  cases hod:o.dst with
  | none=>trivial
  | some d=>rw[hod] at f;exact A v d hod f
 refine⟨o,z,?_⟩;rcases h with ⟨i,j⟩|⟨i,D,v,C,f,j⟩
 .exact .inl ⟨i.congr λx p=>u x<|pJ p,y _ j⟩
 .refine .inr ⟨i.congr λx p=>u x<|pJ p,D,v,?_,f,y _ j⟩
  grind [C5,H5,wy]
theorem Iu(Z:Fits P E Fin w0 I0){id:Nat}{j:Array Oper}{D C:List Nat}(hd:qN E.kh j=some (D,C))
  (hg:Good P E w0 I0 f0 Fin Q {bG:=⟨fn,nn,env,.jO j D C []::k,marks,gB⟩::fs,mem:=m})
  (hW:WR w0 w S m) (X:∀b,S.I b->I0 b\/w0.free b) (p:FR w S m ⟨fn,nn,env,.code (.region id j true)::k,marks,gB⟩ fr) (z:FB w S m fs frs) (W:zV f0<|⟨fn,nn,env,.code (.region id j true)::k,marks,gB⟩::fs) :
  Ends P f0 Fin Q fr frs cs w:=by
 have⟨it,kc,ht,O,V⟩:=p.todo.cons_inv;subst O;have B:∀y,¬Hid ⟨fn,nn,env,.code (.region id j true)::k,marks,gB⟩ fr y:=λy=>oO λa ha=>by cases ha;rfl
 have⟨J,G,g3,K,N⟩:=LP hd;have f:=Sq (P:=P) (cs:=frs++cs) (w:=w) p.mode ht;rw[Z.mixed] at f;have⟨v,o⟩:=Nm G<|w.tape w.drawn<|.order fr.fn id;have u:=Step.drew hW;have c:=p.mono u.out;refine .step f<|hg (λb hb=>absurd hb aC) S _ _ cs _ u.wr X ⟨_,_,rfl,?_,z.mono u.out⟩<|W.swap rfl;refine⟨c.fn,c.n,c.small,λx _=>c.env x<|λhh=>B x hh,.mk (a:=.jO j D C []) ⟨_,rfl,?_⟩<|fY.mono u.out p.live.tail V,.mk trivial c.live.tail,c.cu,c.defers,c.marks,c.mode,c.kind,c.gB,c.uH⟩
 exact⟨J▸aaW G v,v.nodup,by grind,λi A=>o i<|K i A,λi A=>.inl<|N i<|v.lt i A,λ_ h=>absurd h aC,λ_ h=>absurd h aC,λ_ h=>absurd h aC,λ_ h=>absurd h aC,
  λ_ h=>absurd h aC,λ_ h=>absurd h aC⟩
def PU(B:Fits P E Fin w0 I0)(i:∀u f fs m,(∀a∈f.todo.head?,a.He=false)->Good P E w0 I0 f0 Fin Q (canon E.keep u {bG:=f::fs,mem:=m})->Good P E w0 I0 f0 Fin Q {bG:=f::fs,mem:=m})
  (C:∀c,Tr.Ok Q (Good P E w0 I0 f0 Fin Q) (run af E n c)->Good P E w0 I0 f0 Fin Q c) {id:Nat} {j:Array Oper}
  (h:Tr.Ok Q (Good P E w0 I0 f0 Fin Q)<|run af E (n+1) {bG:=⟨fn,nn,env,.code (.region id j true)::k,marks,gB⟩::fs,mem:=m})
  (p:uh E {bG:=⟨fn,nn,env,.code (.region id j true)::k,marks,gB⟩::fs,mem:=m})
  (y:WR w0 w S m) (x:∀b,S.I b->I0 b\/w0.free b) (A:FR w S m ⟨fn,nn,env,.code (.region id j true)::k,marks,gB⟩ fr) (o:FB w S m fs frs) (v:zV f0<|⟨fn,nn,env,.code (.region id j true)::k,marks,gB⟩::fs) :
  Ends P f0 Fin Q fr frs cs w:=by
 simp only[run] at h;cases hcut:DC E.qD fn (some id) with
 | some u=>rw[hcut] at h;exact i u _ _ _ (λa z=>by cases z;rfl) h p S fr frs cs w y x ⟨fr,frs,rfl,A,o⟩ v
 | none=>
   rw[hcut] at h;cases hd:qN E.kh j with
   | none=>rw[hd] at h;exact h.elim
   | some q=>
     grind [Iu]
def Ws(hP:Fits P E Fin w0 I0)(ih:∀c,Tr.Ok Q (Good P E w0 I0 f0 Fin Q) (run af E n c)->Good P E w0 I0 f0 Fin Q c){all:Array Oper}{u bs:List Nat}
  (h:Tr.Ok Q (Good P E w0 I0 f0 Fin Q)<|run af E (n+1) {bG:=⟨fn,nn,env,.jO all u [] bs::k,marks,gB⟩::fs,mem:=m})
  (C:∀b∈bs,Jw E env m all b)
  (hW:WR w0 w S m) (hI:∀b,S.I b->I0 b\/w0.free b) (o:FR w S m ⟨fn,nn,env,.jO all u [] bs::k,marks,gB⟩ fr) (y:FB w S m fs frs) (W:zV f0<|⟨fn,nn,env,.jO all u [] bs::k,marks,gB⟩::fs) :
  Ends P f0 Fin Q fr frs cs w:=by
 have⟨it,kc,ht,O,V⟩:=o.todo.cons_inv;obtain⟨l,rfl,X⟩:∃l:List Nat,it=.inRegion all l/\iY nn all u [] bs l:=O;have⟨w',K,iV,G,a8,B,j,f,D,Z,A,z,_⟩:=A5 hP (frs++cs) C l hW o ht X V;cases G with
 | cons i G=>simp_all
 | nil=>
   refine .steps (f.trans<|.one<|IJ j.mode D)<|ih _ h (gP λa v=>o.cu a<|lb v) K _ _ cs _ B.wr (λb hb=>(B.grows b hb).elim (hI b) .inr) ⟨_,_,rfl,j.next ?_ A j.live.tail<|λa v=>o.cu a<|jm v,y.mono B.out⟩<|W.swap rfl
   rintro x ⟨J,N,G,k',b,p,e1,e2,e3,e4,e5,e6⟩
   grind
theorem Ap{all:Array Oper}{bs:List Nat}(h:BL all bs d=true)(c:b∈bs)(f:all[b]? = some o):d ∉ kU all o:=by
 have:=cd.1 h b c;rw[f] at this;simp at this;intro hm;rw[jW.2 hm] at this
 grind
def Dg{all:Array Oper}{bs:List Nat}(h:Rq all bs d=true)(c:b∈bs)(f:all[b]? = some o):o.dst≠some d:=by
 have:=cd.1 h b c;rw[f] at this;intro e
 simp_all [isDst]
def vB{all:Array Oper}{bs:List Nat}(h:uW all bs o.dst=true)(c:o.dst=some d):BL all bs d=true/\Rq all bs d=true:=by grind [uW]
theorem Pv{all:Array Oper}(h:H7 all o=true)(c:o.dst=some d):d ∉ kU all o:=by
 unfold H7 at h;rw[c] at h;simp at h;intro hm;rw[jW.2 hm] at h;cases h
theorem UH{all:Array Oper}{mk:Nat}{bs:List Nat}(h:abq all mk bs o=true)(c:b∈bs){p:Oper}(i:all[b]? = some p)(f:p.dst=some d)(j:d∈kU all o):mk.testBit b=true:=by
 have:=cd.1 h b c;rw[i] at this;simp[f,jW.2 j] at this;omega
theorem iY.add{all:Array Oper}{J A bs l:List Nat}(h:iY nn all J (i::A) bs l)(K:all[i]? = some o)(N:tu nn o.dst=true)(O:abq all (J.getD i 0) bs o=true)(Z:yC (J.getD i 0) o=true)
  (B:uW all bs o.dst=true) (V:H7 all o=true):iY nn all J A (i::bs) l:=by
 have X:=h.nodup;refine⟨h.msk,h.lnd,?_,λj C=>h.sub j<|aD _ C,λj C=>?_,λj C=>?_,?_,?_,?_,?_,?_⟩
 .grind
 .rcases h.cov j C with hm|hm
  all_goals grind
 .rcases aF.1 C with rfl|C
  .grind
  .exact h.lt j C
 .intro a f b G D y p d c z u W;rcases aF.1 f with rfl|v
  .grind [UH]
  .rcases aF.1 G with rfl|x
   .rw[K] at z;cases z;exact absurd W<|Ap (vB B u).1 v c
   .exact h.read a v b x D y p d c z u W
 .intro a f b G D y p d c z u;rcases aF.1 f with rfl|v
  .rcases aF.1 G with rfl|x
   .omega
   .rw[K] at c;cases c;intro e;exact Dg (vB B e).2 x z u
  .rcases aF.1 G with rfl|x
   .rw[K] at z;cases z;exact Dg (vB B u).2 v c
   .exact h.dst a v b x D y p d c z u
 .intro a f y d c N;rcases aF.1 f with rfl|f
  .grind [Pv]
  .exact h.own a f y d c N
 .intro a f y c;rcases aF.1 f with rfl|f
  .simp_all
  .exact h.Xc a f y c
 .intro a f y c;rcases aF.1 f with rfl|f
  .simp_all
  .exact h.dok a f y c
theorem zZ{j:Nat}{rest:List Nat}:∀{ms:List Nat} {k i b:Nat},(((uP j rest k ms).getD i 0).testBit b=true->(ms.getD i 0).testBit b=true\/(b=j/\k+i∈rest/\k+i≠j))/\((ms.getD i 0).testBit b=true->((uP j rest k ms).getD i 0).testBit b=true)
 | [],k,i,b=>by grind [uP]
 | m::ms,k,0,b=>by
   rw[uP];simp;cases hc:tL rest k && !Nat.beq k j with
   | false=>simp_all
   | true=>
     rw[fZ,fM] at hc;refine⟨λh=>?_,λh=>?_⟩
     .rw[Nat.testBit_or,o5] at h;rcases h with h|h
      .simp_all
      .refine .inr ⟨?_,jW.1 hc.1,λe=>?_⟩
       .grind
       simp_all
     simp_all
 | m::ms,k,i+1,b=>by
   rw[uP];have:=zZ (j:=j) (rest:=rest) (ms:=ms) (k:=k+1) (i:=i) (b:=b)
   grind
theorem CX{j x:Nat}:∀{l:List Nat},(x∈vv l j->x∈l)/\(x∈l->x=j\/x∈vv l j)
 | []=>by grind [vv]
 | i::l=>by
   have c:=CX (j:=j) (x:=x) (l:=l);rw[vv];by_cases e:i=j
   .simp_all
   .rw[gJ.2 e]
    grind
def iY.next{kh:List (FuncId×aK)}{all:Array Oper}{v c bs l A N:List Nat}{j:Nat}(h:iY nn all v c bs (j::l))(hj:j∈c)(B:UB kh all v c j=some (A,N)) :
  iY nn all A N bs (j::l):=by
 unfold UB at B;simp only at B;split at B
 case h_2=>grind
 rename_i K;cases B;rw[fZ,fZ] at K;obtain⟨h1,O,V⟩:=K;have D:∀x,x∈j::eager kh all (uP j c 0 v) (vv c j).length (Tx (vv c j)) (vv c j)->x∈c:=λx f=>by
  rcases aF.1 f with rfl|f
  .omega
  .exact CX.1 (jW.1 (cd.1 O x f))
 have z:∀x,x∈c->x∈j::eager kh all (uP j c 0 v) (vv c j).length (Tx (vv c j)) (vv c j):=λx f=>by
  rcases (CX (j:=j)).2 f with rfl|f
  .simp_all
  .exact aD _ (jW.1 (cd.1 V x f))
 have J:∀i b,(v.getD i 0).testBit b=true->((uP j c 0 v).getD i 0).testBit b=true:=λi b=>zZ.2;have X:=dY.1 h.nodup;refine⟨λl1 i l2 e b y=>?_,h.lnd,?_,λx f=>h.sub x (D x f),λx f=>(h.cov x f).imp (z x) id,h.lt,λi C b y u o p d G Z W hr=>J _ _ (h.read i C b y u o p d G Z W hr),h.dst,h.own,λi C o G=>?_,h.dok⟩
 .rcases zZ.1 y with y|⟨rfl,_,u⟩
  .exact h.msk l1 i l2 e b y
  .rw[iy] at u;cases l1 with
   | nil=>simp_all
   | cons x l1=>
     cases e;intro hm;exact(bR.1 h.lnd).1 (pP.2 (.inr hm))
 .grind [pI]
 .have:=h.Xc i C o G
  grind [yC]
theorem Oh{G:gY->Prop}{K:Nat->Tr R}:∀{l:List Nat},Tr.Ok Q G (Og K l)->∀j∈l,Tr.Ok Q G<|K j
 | [],_,_,h=>absurd h aC
 | [i],h,j,c=>by rw[aO.1 c];exact h
 | i::o::l,h,j,c=>by
   obtain⟨p,f⟩:Tr.Ok Q G (K i)/\Tr.Ok Q G (Og K (o::l)):=h;rcases aF.1 c with rfl|c
   .omega
   .exact Oh f j c
def iY.cut{all:Array Oper}{u f bs l:List Nat}(h:iY nn all u f bs<|i::l):iY nn all u f (tj (u.getD i 0) bs)<|i::l:=by
 have c:∀b∈tj (u.getD i 0) bs,b∈bs:=λb p=>(gl.1 p).1;refine⟨h.msk,h.lnd,?_,h.sub,λj v=>?_,λj v=>h.lt j<|c j v,λa o b p=>h.read a (c a o) b<|c b p,λa o b p=>h.dst a (c a o) b<|c b p,λa o=>h.own a<|c a o,λa o=>h.Xc a<|c a o,λa o=>h.dok a<|c a o⟩
 .exact h.nodup.sublist<|List.Sublist.append_left List.filter_sublist f
 .rcases h.cov j v with hm|hm
  .grind
  .refine .inr<|gl.2 ⟨hm,?_⟩;cases p:(u.getD i 0).testBit j with
   | false=>rfl
   | true=>exact absurd v<|h.done p
end
end Go.Ev
namespace Go.Ev
section
variable {P:Program} {R:Type} {E:kD R} {w0:nN} {I0:Nat->Prop} {f0:FuncId} {Fin:R->Value->World->Prop} {Q:R->Prop}
variable {w:World} {S:St} {m:Mem} {fr:Frame} {fs:List dK} {frs cs:List Frame}
variable {fn:FuncId} {nn:Nat} {env:Env} {marks:List Nat} {gB:Option Nat} {k:List dX} {n:Nat}
def aaN(ih:∀c,Tr.Ok Q (Good P E w0 I0 f0 Fin Q) (run af E n c)->Good P E w0 I0 f0 Fin Q c){all:Array Oper}{J f bs l:List Nat}{i:Nat}{o:Oper}{kc:List Item}{v:AV}
  (h:Tr.Ok Q (Good P E w0 I0 f0 Fin Q)<|run af E n {bG:=⟨fn,nn,env.oI o.dst v,.jO all J f (i::bs)::k,marks,gB⟩::fs,mem:=m})
  (ho:all[i]? = some o) (B:tu nn o.dst=true) (K:abq all (J.getD i 0) bs o=true) (hg:yC (J.getD i 0) o=true) (G:uW all bs o.dst=true) (C:H7 all o=true)
  (a5:∀b∈bs,Jw E env m all b) (hi:(jH all env o false/\v=.yV [])\/(jH all env o true/\∃V,evV af E m (mV env) o=some V/\V.Is v))
  (hW:WR w0 w S m) (hI:∀b,S.I b->I0 b\/w0.free b) (A:FR w S m ⟨fn,nn,env,.jO all J (i::f) bs::k,marks,gB⟩ fr) (X:FB w S m fs frs) (hB:zV f0<|⟨fn,nn,env,.jO all J (i::f) bs::k,marks,gB⟩::fs)
  (ht:fr.todo=.inRegion all l::kc) (hD:iY nn all J (i::f) bs l) (hk:fY nn S k kc):Ends P f0 Fin Q fr frs cs w:=by
 have O:nn<=65535:=A.small;have j:∀x,o.dst≠some x->(env.oI o.dst v).at x=env.at x:=λx z=>by rw[Env.LF B O,if_neg z]
 have a4:∀x,o.dst=some x->(env.oI o.dst v).at x=v:=λx z=>by rw[Env.LF B O,if_pos z]
 have y:∀x∈kU all o,(env.oI o.dst v).at x=env.at x:=λx z=>j x λe=>Pv C e z;have N:wD (env.oI o.dst v) o.dst v:=by
  cases hd:o.dst with
  | none=>trivial
  | some d=>show o9 v<|(env.oI (some d) v).at d;grind [Ew]
 refine ih _ h (λb hb=>?_) S fr frs cs w hW hI ⟨fr,frs,rfl,?_,X⟩<|hB.swap rfl
 .rcases aF.1 hb with rfl|D
  .refine⟨o,ho,?_⟩;rcases hi with ⟨W,rfl⟩|⟨W,V,h2,h3⟩
   .exact .inl ⟨W.congr λx z=>y x<|pJ z,N⟩
   .refine .inr ⟨W.congr λx z=>y x<|pJ z,V,v,?_,h3,N⟩
    grind [C5,H5,wy]
  .refine(a5 b D).congr λp hp=>⟨λx z=>j x λe=>Ap (vB G e).1 D hp z,λu d hd hs=>?_⟩;rw[j d λe=>Dg (vB G e).2 D hp hd];omega
 .have Z:i∈l:=hD.sub i aJ;refine⟨A.fn,A.n,A.small,λx z=>?_,by rw[ht];exact .mk (a:=.jO all J f<|i::bs) ⟨l,rfl,hD.add ho B K hg G C⟩ hk,.mk trivial A.live.tail,A.cu,A.defers,A.marks,A.mode,A.kind,A.gB,A.uH⟩;have a0:o.dst≠some x:=λe=>z ⟨all,i::bs,l,kc,i,o,rfl,ht,aJ,Z,ho,e⟩;rw[j x a0];refine A.env x λhh=>z ?_;have⟨a7,ab,l',k',b,p,e1,e2,e3,e4,e5,e6⟩:=hh;cases e1;exact⟨all,i::bs,l',k',b,p,rfl,e2,aD _ e3,e4,e5,e6⟩
def abX(hP:Fits P E Fin w0 I0)(ih:∀c,Tr.Ok Q (Good P E w0 I0 f0 Fin Q) (run af E n c)->Good P E w0 I0 f0 Fin Q c){all:Array Oper}{A y bs:List Nat}{i:Nat}
  (h:Tr.Ok Q (Good P E w0 I0 f0 Fin Q)<|run af E (n+1) {bG:=⟨fn,nn,env,.jO all A (i::y) bs::k,marks,gB⟩::fs,mem:=m})
  (ae:∀b∈bs,Jw E env m all b)
  (hW:WR w0 w S m) (hI:∀b,S.I b->I0 b\/w0.free b) (hf:FR w S m ⟨fn,nn,env,.jO all A (i::y) bs::k,marks,gB⟩ fr) (a3:FB w S m fs frs) (hB:zV f0<|⟨fn,nn,env,.jO all A (i::y) bs::k,marks,gB⟩::fs) :
  Ends P f0 Fin Q fr frs cs w:=by
 have⟨it,kc,ht,h1,h2⟩:=hf.todo.cons_inv;obtain⟨l,rfl,hD⟩:∃l:List Nat,it=.inRegion all l/\iY nn all A (i::y) bs l:=h1;have d1:nn<=65535:=hf.small;simp only[run] at h;cases ho:all[i]? with
 | none=>rw[ho] at h;exact h.elim
 | some o=>
   rw[ho] at h;simp only at h;cases hck:tu nn o.dst&&(abq all (A.getD i 0) bs o&&yC (A.getD i 0) o) with
   | false=>rw[hck] at h;exact h.elim
   | true=>
     rw[hck] at h;rw[fZ,fZ] at hck;have⟨a0,a4,ab⟩:=hck;have a9:∀d∈iH all o,∀c v,env.at d=.bool c v->d<=65535:=λd _ c v e=>by
      by_cases hh:Hid ⟨fn,nn,env,.jO all A (i::y) bs::k,marks,gB⟩ fr d
      .have⟨aa,av,l',k',b,p,e1,e2,e3,e4,e5,e6⟩:=hh;cases e1;have:=hD.dok b e3 p e5;rw[e6] at this;have:d<nn:=KX this;omega
      .have:=adB hf hh e;omega
     have⟨u,a5,b9,h⟩:=VQ h a9;have a6:∀b∈bs,Jw E u m all b:=λb W=>(ae b W).congr λp hp=>by
      rcases b9 with d0|b9
      .grind
      .refine⟨λx hx=>?_,λv d _ hs=>?_⟩
       .rcases a5 x with e|⟨d4,_⟩
        all_goals grind [Ap]
       .rcases a5 d with e|⟨_,b',e1,e2⟩
        all_goals grind [P0]
     have b5:=hf.UQ (D:=iH all o) a5;rcases h with ⟨hg,h⟩|⟨hg,h⟩
     .-- wanted
      have bv:Tr.Ok Q (Good P E w0 I0 f0 Fin Q) (match y.all (λj=>(A.getD j 0).testBit i) with
           | false=>Og (λj=>match UB E.kh all A (i::y) j with
              | some (ag,is)=>run af E n {bG:=⟨fn,nn,u,.jO all ag is bs::k,marks,gB⟩::fs,mem:=m}
              | none=>.bY 180 o.pos)<|(i::y).filter<|R8 A<|i::y
           | true=>match uW all (tj (A.getD i 0) bs) o.dst with
            | false=>.bY 178 o.pos
            | true=>
              match uo af E (mV u) m o with
              | some tv=>tv.bind o.pos λv=>yj af E (u.oI o.dst v) m all (tj (A.getD i 0) bs)<|run af E n {bG:=⟨fn,nn,u.oI o.dst v,.jO all A y (tj (A.getD i 0) bs)::k,marks,gB⟩::fs,mem:=m}
              | none=>match o.op with
                | .call {callee:=.value x,args,.. }=>match mV u x with
                  | .fn g first X=>match look E.kh g with
                    | some s=>(vS af s m<|first++(args.toList.map (mV u)++X)).bind o.pos λp=>yj af E (u.oI o.dst p.1) p.2 all (tj (A.getD i 0) bs)<|run af E n {bG:=⟨fn,nn,u.oI o.dst p.1,.jO all A y (tj (A.getD i 0) bs)::k,marks,gB⟩::fs,mem:=p.2}
                    | none=>match tx af E g m (first++(args.toList.map (mV u)++X)) with
                     | some tv=>tv.bind o.pos λp=>yj af E (u.oI o.dst p.1) p.2 all (tj (A.getD i 0) bs)<|run af E n {bG:=⟨fn,nn,u.oI o.dst p.1,.jO all A y (tj (A.getD i 0) bs)::k,marks,gB⟩::fs,mem:=p.2}
                     | none=>match look E.l_ g with
                      | none=>.bY 163 o.pos
                      | some G=>match ju g G (first++(args.toList.map (mV u)++X)) with
                        | none=>.bY 164 o.pos
                        | some h=>run af E n {bG:=h::⟨fn,nn,u,.sD all A i y (tj (A.getD i 0) bs)::k,marks,gB⟩::fs,mem:=m}
                  | .yield l=>match m.at l with
                     | .loop r=>match Nat.beq r.params.length (args.toList.map (mV u)).length&&r.params.all (λp=>Nat.blt p r.n) with
                       | true=>run af E n {bG:={fn:=r.fn,n:=r.n,env:=Aw r.params (args.toList.map<|mV u) r.env,todo:=[.code r.assign,.beginRound,.code r.body],marks:=[],gB:=some l}::⟨fn,nn,u,.sD all A i y (tj (A.getD i 0) bs)::k,marks,gB⟩::fs,mem:=m}
                       | false=>.bY 165 o.pos
                     | _=>.bY 166 o.pos
                  | _=>.bY 167 o.pos
                | _=>(xC af E fn (mV u) m o).bind o.pos λp=>yj af E (u.oI o.dst p.1) p.2 all (tj (A.getD i 0) bs)<|run af E n {bG:=⟨fn,nn,u.oI o.dst p.1,.jO all A y (tj (A.getD i 0) bs)::k,marks,gB⟩::fs,mem:=p.2})->Ends P f0 Fin Q fr frs cs w:=by
       intro h;cases Z:y.all (λj=>(A.getD j 0).testBit i) with
       | false=>
         rw[Z] at h;have⟨w1,S1,a7,l1,be,K,a8,C,O,B,ac,N,b6⟩:=A5 hP (frs++cs) ae l hW hf ht hD h2;have b7:i∈l1:=B.sub i aJ;cases l1 with
         | nil=>grind
         | cons j l1=>
           have hj:=N j rfl;have cf:R8 A (i::y) j=true:=cd.2 λb W=>by
            rw[fM];cases hbt:(A.getD j 0).testBit b with
            | false=>rfl
            | true=>exact absurd (B.sub b W)<|B.done hbt
           have h:=Oh h j<|gl.2 ⟨hj,cf⟩;split at h
           rotate_left
           exact h.elim;rename_i ag is cc;have f:=a8.UQ (D:=iH all o) a5;refine .steps C<|ih _ h a6 S1 _ _ cs w1 K.wr (λb W=>(K.grows b W).elim (hI b) .inr) ⟨_,_,rfl,?_,a3.mono K.out⟩<|hB.swap rfl;refine⟨f.fn,f.n,f.small,λx hx=>f.env x λhh=>hx ?_,by rw[O];exact .mk (a:=.jO all ag is bs) ⟨_,rfl,B.next hj cc⟩ ac,.mk trivial f.live.tail,f.cu,f.defers,f.marks,f.mode,f.kind,f.gB,f.uH⟩;have⟨aa,av,l',k',b,p,e1,e2,e3,e4,e5,e6⟩:=hh;cases e1;exact⟨all,bs,l',k',b,p,rfl,e2,e3,e4,e5,e6⟩
       | true=>
        rw[Z] at h;cases hck2:uW all (tj (A.getD i 0) bs) o.dst with
        | false=>rw[hck2] at h;exact h.elim
        | true=>
         rw[hck2] at h;have⟨w1,S1,a7,l1,be,K,a8,C,O,B,ac,N,b6⟩:=A5 hP (frs++cs) ae l hW hf ht hD h2;have b7:i∈l1:=B.sub i aJ;cases l1 with
         | nil=>grind
         | cons j l1=>
           have ca:j=i:=by
            rcases aF.1 (N j rfl) with e|hj
            .exact e
            .exact absurd b7<|B.done<|cd.1 Z j hj
           subst ca;have cb:j ∉ y++bs:=(bR.1 (by have:=B.nodup;grind)).1;have c9:j ∉ bs:=λhm=>cb<|pP.2<|.inr hm;have f:=a8.UQ (D:=iH all o) a5
           have b8:∀{t:Nat},t∈kU all o->¬Hid ⟨fn,nn,u,.jO all A (j::y) bs::k,marks,gB⟩ a7 t:=λhr=>
            BM B rfl O (λb W _ p d hp hd hr=>UH a4 W hp hd hr) (λhm=>absurd hm c9) hr
           have hw:Region.wanted o (yielded all a7.tmps)=true:=tJ hg λd hd=>f.env d<|b8<|pJ hd;have V:FR w1 S1 m ⟨fn,nn,u,.sD all A j y (tj (A.getD j 0) bs)::k,marks,gB⟩ a7:=by
            refine⟨f.fn,f.n,f.small,λx hx=>f.env x λhh=>hx ?_,by rw[O];exact .mk (a:=.sD all A j y<|tj (A.getD j 0) bs) ⟨l1,rfl,B.cut⟩ ac,.mk trivial f.live.tail,f.cu,f.defers,f.marks,f.mode,f.kind,f.gB,f.uH⟩;have⟨aa,av,l',k',b,p,e1,e2,e3,e4,e5,e6⟩:=hh;cases e1;rw[O] at e2;cases e2;refine⟨all,_,j::l1,be,b,p,rfl,O,gl.2 ⟨e3,?_⟩,e4,e5,e6⟩;cases W:(A.getD j 0).testBit b with
            | false=>rfl
            | true=>exact absurd e4<|B.done W
           refine .steps C (UG (fn:=fn) (ρ:=mV u) (below:=⟨fn,nn,u,.sD all A j y (tj (A.getD j 0) bs)::k,marks,gB⟩) (next:=λv m=>yj af E (u.oI o.dst v) m all (tj (A.getD j 0) bs)<|run af E n {bG:=⟨fn,nn,u.oI o.dst v,.jO all A y (tj (A.getD j 0) bs)::k,marks,gB⟩::fs,mem:=m})
            hP ih K.wr (λb W=>(K.grows b W).elim (hI b) .inr) (a3.mono K.out) (hB.swap rfl) a8.mode O ho hw (λx hx=>BQ f x λt e=>b8<|by grind [wy]) V (λv m' w' S' z hs hc h=>?_) h)
           have⟨ba,h⟩:=B_ h;have ad:=K.trans hs;exact ih _ h ba S' _ _ cs w' ad.wr (λb W=>(ad.grows b W).elim (hI b) .inr) ⟨_,_,rfl,Ea (V.mono hs.out) ho a0 hc,a3.mono ad.out⟩<|hB.swap rfl
      split at h
      .rename_i tv c8 J;rw[fZ] at J;have⟨v,hv,h⟩:=TV.bind_ok h;exact aaN ih h ho a0 a4 ab J.1 J.2 a6 (.inr ⟨hg,tv,c8,hv⟩) hW hI b5 a3 (hB.swap rfl) ht hD h2
      .exact bv h
     .-- not wanted
      cases J:uW all bs o.dst&&H7 all o with
      | false=>rw[J] at h;exact h.elim
      | true=>
        rw[J] at h;rw[fZ] at J;exact aaN ih h ho a0 a4 ab J.1 J.2 a6 (.inl ⟨hg,rfl⟩) hW hI b5 a3 (hB.swap rfl) ht hD h2
end
end Go.Ev
namespace Go.Ev
theorem yE:∀{l:List Nat} {id k:Nat},id∈l->∃j,idxOf l id k=k+j/\l[j]? = some id/\j<l.length
 | i::l,id,k,h=>by
   rw[idxOf];by_cases c:i=id
   .simp_all
   .rw[gJ.2 c];have⟨j,f,o,p⟩:=yE (k:=k+1)<|(aF.1 h).resolve_left<|λe=>c e.symm;exact⟨j+1,by grind,by grind,by grind⟩
theorem KS:∀{l:List Nat} {id k:Nat},id ∉ l->idxOf l id k=k+l.length
 | [],id,k,_=>rfl
 | i::l,id,k,h=>by
   rw[idxOf,gJ.2 λe=>h<|by grind];simp only;rw[KS λhm=>h<|aD _ hm,bp];omega
theorem yw:∀{r acc:List Nat},acc.Nodup->(oU acc r).Nodup/\(∀i∈acc,i∈oU acc r)/\∀i∈r,i∈oU acc r
 | [],acc,h=>⟨h,λ_ h=>h,λ_ h=>absurd h aC⟩
 | j::r,acc,h=>by
   rw[oU];cases hm:tL acc j with
   | true=>
     have⟨f,c,p⟩:=yw (r:=r) h;refine⟨f,c,λi o=>?_⟩;rcases aF.1 o with rfl|o
     .exact c _<|jW.1 hm
     grind
   | false=>
     have x:j ∉ acc:=λh=>by rw[jW.2 h] at hm;grind
     have⟨f,c,p⟩:=yw (r:=r) (acc:=acc ++ [j])<|dY.2 ⟨h,by simp,λa u b v=>by grind⟩
     grind
theorem D6:∀{f:Nat} {m:Mem} {c:List Nat} {p:Nat},c.Nodup->(oy f m c p).Nodup/\∀i∈c,i∈oy f m c p
 | 0,m,c,p,h=>⟨h,λ_ h=>h⟩
 | f+1,m,c,p,h=>by
   rw[oy];cases c[p]? with
   | none=>grind
   | some id=>
     have⟨j,o,_⟩:=yw (r:=Bw<|m.at id) h;have⟨u,v⟩:=D6 (f:=f) (m:=m) (p:=p+1) j
     grind
theorem vQ:∀{r acc:List Nat},∃t,oU acc r=acc++t
 | [],acc=>⟨[],(aL _).symm⟩
 | j::r,acc=>by
   rw[oU];cases tL acc j with
   | true=>exact vQ
   | false=>
     have⟨t,h⟩:=vQ (r:=r) (acc:=acc ++ [j])
     grind
theorem A8:∀{f:Nat} {m:Mem} {acc:List Nat} {p:Nat},∃t,oy f m acc p=acc++t
 | 0,m,acc,p=>⟨[],(aL _).symm⟩
 | f+1,m,acc,p=>by
   rw[oy];cases acc[p]? with
   | none=>simp_all
   | some id=>
     have⟨t,h⟩:=vQ (r:=Bw<|m.at id) (acc:=acc);have⟨u,c⟩:=A8 (f:=f) (m:=m) (acc:=oU acc<|Bw<|m.at id) (p:=p+1)
     grind
theorem zO{l:List Nat}:∀{cs:List AV},(u7 l cs).length=cs.length
 | []=>by rfl
 | a::cs=>by rw[u7,bp,bp,zO]
variable{cs:List AV}
def M2{l:List Nat}{fz:Bool}:(PO l fz cs).length=cs.length:=by
 unfold PO;split
 .rfl
 .exact zO
def St.ren(S:St)(l:List Nat):St:={σ:=λi=>S.σ<|l.getD i 0,δ:=λi=>S.δ<|l.getD i 0,vd:=λi=>S.vd<|l.getD i 0,I:=S.I}
def Mem.ren(m:Mem)(l:List Nat):Mem:=(l.map λid=>qm l<|m.at id) ++ [.a_]
variable{a:dX}{b:iN}{i j:Nat}
section
variable {w0:nN} {w:World} {S:St} {m:Mem} {l:List Nat}
def Dt{id:Nat}(h:l[j]? = some id):(m.ren l).at j=qm l (m.at id):=by grind [Mem.ren,Mem.at]
def Iw:(m.ren l).at l.length=.a_:=by simp_all [Mem.ren,Mem.at]
def Wk(h:l.length<j):(m.ren l).at j=.bY:=by
 rw[Mem.ren,Mem.at,Jt,k_ (by rw[t_,cy];simp;omega)];rfl
def Du(j:Nat):(∃id,l[j]? = some id/\(m.ren l).at j=qm l (m.at id)/\(S.ren l).σ j=S.σ id/\(S.ren l).δ j=S.δ id/\(S.ren l).vd j=S.vd id)\/(m.ren l).at j=.a_\/(m.ren l).at j=.bY:=by
 rcases Nat.lt_trichotomy j l.length with h|h|h
 all_goals simp_all [Dt,Iw,Wk,St.ren]
def Dv(id:Nat):(id∈l/\(m.ren l).at (idxOf l id 0)=qm l (m.at id)/\(S.ren l).σ (idxOf l id 0)=S.σ id/\(S.ren l).δ (idxOf l id 0)=S.δ id/\(S.ren l).vd (idxOf l id 0)=S.vd id)\/(m.ren l).at (idxOf l id 0)=.a_:=by
 by_cases h:id∈l
 .have⟨j,c,f,i⟩:=yE (k:=0) h
  simp_all [Dt,St.ren]
 simp_all [KS,Iw]
mutual
theorem R9:∀{a:AV} {v:Value},CR w S m a v->CR w (S.ren l) (m.ren l) (nJ l a) v
 | .undef,v,_=>by rw[nJ];exact gQ
 | .int k c n,v,h=>by rw[nJ];exact fq.2<|fq.1 h
 | .bool c b,v,h=>by rw[nJ];exact iD.2<|iD.1 h
 | .str c s,v,h=>by rw[nJ];exact mo.2<|mo.1 h
 | .sl t x,v,h=>by rw[nJ,CR];rw[CR] at h;exact h
 | .fG b,v,h=>by rw[nJ];exact nA.2<|nA.1 h
 | .pO t x off,v,h=>by rw[nJ,CR];rw[CR] at h;exact h
 | .jX,v,h=>by rw[nJ];exact qL.2<|qL.1 h
 | .tN,v,h=>by rw[nJ];exact ta.2<|ta.1 h
 | .own id,v,h=>by
   rw[nJ,CR];rw[CR] at h;rcases Dv (S:=S) (m:=m) (l:=l) id with ⟨_,j,o,p,u⟩|j
   .rw[j,o,p,u];cases hb:m.at id<;>rw[hb] at h<;>(try exact h.elim)<;>exact h
   simp_all
 | .t6 id sz c lo len,v,h=>by
   rw[nJ,CR];rw[CR] at h;rcases Dv (S:=S) (m:=m) (l:=l) id with ⟨_,j,o,p,u⟩|j
   .rw[j,o,p,u];cases hb:m.at id<;>rw[hb] at h<;>(try exact h.elim)<;>(try exact h);have⟨G,n,z,a,A,B,C,K,D⟩:=h;exact⟨G,n,z,a,A,B,C,by rw[M2];omega,D⟩
   simp_all
 | .ptr id off,v,h=>by
   rw[nJ,CR];rw[CR] at h;rcases Dv (S:=S) (m:=m) (l:=l) id with ⟨_,j,o,p,u⟩|j
   .rw[j,o];cases hb:m.at id<;>rw[hb] at h<;>(try exact h.elim)<;>exact h
   simp_all
 | .lu id i off,v,h=>by
   rw[nJ,CR];rw[CR] at h;rcases Dv (S:=S) (m:=m) (l:=l) id with ⟨_,j,o,p,u⟩|j
   .rw[j,o,p];cases hb:m.at id<;>rw[hb] at h<;>(try exact h.elim)<;>exact h
   simp_all
 | .zo id off n t i,v,h=>by
   rw[nJ,CR];rw[CR] at h;rcases Dv (S:=S) (m:=m) (l:=l) id with ⟨_,j,o,p,u⟩|j
   .rw[j,o];cases hb:m.at id<;>rw[hb] at h<;>(try exact h.elim)<;>exact h
   simp_all
 | .yield id,v,h=>by
   rw[nJ,CR];rw[CR] at h;rcases Dv (S:=S) (m:=m) (l:=l) id with ⟨_,j,o,p,u⟩|j
   .rw[j,o];cases hb:m.at id<;>rw[hb] at h<;>(try exact h.elim)<;>exact h
   simp_all
 | .fn f a c,v,h=>by
   have⟨y,J,e,j,o⟩:=vo.1 h;exact vo.2 ⟨y,J,e,yP j,yP o⟩
 | .agg cs,v,h=>by
   have⟨y,e,j⟩:=uN.1 h;exact uN.2 ⟨y,e,yP j⟩
 | .yV cs,v,h=>by
   have⟨y,e,j⟩:=kC.1 h;exact kC.2 ⟨y,e,yP j⟩
theorem yP:∀{cs:List AV} {c:List Value},eH w S m cs c->eH w (S.ren l) (m.ren l) (u7 l cs) c
 | [],c,h=>by rw[u7];exact bw.2<|bw.1 h
 | a::cs,c,h=>by
   have⟨v,r,e,f,i⟩:=bL.1 h;exact bL.2 ⟨v,r,e,R9 f,yP i⟩
end
def Wj{fz:Bool}{c:List Value}(h:eH w S m cs c):eH w (S.ren l) (m.ren l) (PO l fz cs) c:=by
 unfold PO;split
 .have⟨v,r,e,f,i⟩:=bL.1 h;exact bL.2 ⟨v,r,e,fq.2<|fq.1 f,bw.2<|bw.1 i⟩
 .exact yP h
theorem Dr:∀{e:PT AV} {i:Nat},(Iv l e).get i=(e.get i).map (nJ l)
 | .leaf,i=>by rfl
 | .node a v b,i=>by
   show(PT.node (Iv l a) (match v with|some x=>some (nJ l x)|none=>none)<|Iv l b).get i=_;rw[PT.p8,PT.p8];by_cases f:i=0
   .grind
   .rw[if_neg f,if_neg f];by_cases c:i%2=1
    .rw[if_pos c,if_pos c,Dr]
    .rw[if_neg c,if_neg c,Dr]
def abR{e:Env}:Env.at (Iv l e) i=nJ l (e.at i):=by
 rw[Env.at,Env.at,Dr];cases PT.get e i<;>first|rfl|(simp;rw[nJ])
def agl{id:Nat}(c:sr w S m id<|m.at id)(J:(S.ren l).σ j=S.σ id)(G:(S.ren l).δ j=S.δ id)(y:(S.ren l).vd j=S.vd id):sr w (S.ren l) (m.ren l) j<|qm l<|m.at id:=by
 cases hm:m.at id<;>rw[hm] at c<;>simp only[qm]
 case bY=>trivial
 case a_=>trivial
 case VH=>trivial
 case Jq=>exact(show w.heap[(S.ren l).σ j]? = _ by rw[J];exact c)
 case cu fz cs=>
  have⟨u,T,fr,v,f,h⟩:=c;exact⟨u,T,fr,by simp_all,f,Wj h⟩
 case arr fz t x=>
  refine⟨c.1,λe=>c.2.1<|y.symm.trans e,λp=>?_⟩;have⟨u,T,fr,v,f,h,o⟩:=c.2.2<|y.symm.trans p;exact⟨u,T,fr,by simp_all,f,by omega,by rw[G];exact o⟩
 case loop r=>
  have⟨L,v,f,h,o,z,A,B,C,D⟩:=c;exact⟨L,by simp_all,f,h,o,z,A,B,C,λi=>by
   rw[abR];exact R9<|D i⟩
theorem PN{c:St}(h:c.vd j=S.vd i):c.lv j (qm l b)=S.lv i b:=by cases b<;>simp_all [qm,St.lv]
def K3{c:St}(h:c.vd j=S.vd i):c.fz j (qm l b)=S.fz i b:=by cases b<;>simp_all [qm,St.fz]
def wA:(qm l b).kq=b.kq:=by cases b<;>rfl
def ano(o:WR w0 w S m)(N:l.Nodup)(C:∀i,i<w0.R.length->l[i]? = some i):WR w0 w (S.ren l)<|m.ren l:=by
 have f:∀j,(S.ren l).lv j ((m.ren l).at j)=true->∃id,l[j]? = some id/\(m.ren l).at j=qm l (m.at id)/\((S.ren l).σ j=S.σ id/\(S.ren l).vd j=S.vd id)/\S.lv id (m.at id)=true:=λj h=>by
  rcases Du (S:=S) (m:=m) (l:=l) j with ⟨id,c,u,p,_,x⟩|c|c
  .grind [PN]
  .rw[c] at h;cases h
  .rw[c] at h;cases h
 refine⟨o.os,o.tape,o.output,o.size,o.base,o.nQ,λj=>?_,λj D h y e=>?_,λj h=>?_,λj h y=>?_,λj h=>?_,λi b h=>?_,o.cells⟩
 .rcases Du (S:=S) (m:=m) (l:=l) j with ⟨id,c,u,p,v,x⟩|c|c
  .rw[u];exact agl (o.box id) p v x
  .rw[c];trivial
  .rw[c];trivial
 .have⟨id,c,u,⟨p,_⟩,v⟩:=f j h;have⟨z,G,J,⟨K,_⟩,A⟩:=f D y;have:=o.inj id z v A (by omega)
  grind [List.getElem_inj]
 .have⟨id,c,u,⟨p,_⟩,v⟩:=f j h;rw[p];exact o.lo id v
 .have⟨id,c,u,⟨p,x⟩,v⟩:=f j h;rw[p];rw[u,K3 x] at y;exact o.qT id v y
 .rcases Du (S:=S) (m:=m) (l:=l) j with ⟨id,c,u,p,v,x⟩|c|c
  .rw[p];rw[u,K3 x] at h;exact o.Js id h
  .rw[c] at h;cases h
  .rw[c] at h;cases h
 .have B:=C i (aU.1 h).1;refine⟨bC (aU.1 B).1<|by simp[Mem.ren],?_⟩;have⟨_,u,p⟩:=o.root i b h
  simp_all [St.ren]
def yQ{id:Nat}(h:id∈l):(m.ren l).at (idxOf l id 0)=qm l (m.at id):=by
 have⟨j,c,f,i⟩:=yE (k:=0) h
 simp_all [Dt]
theorem BX{id:Nat}(h:id∈l):(S.ren l).σ (idxOf l id 0)=S.σ id:=by
 have⟨j,c,f,i⟩:=yE (k:=0) h
 grind [St.ren]
theorem PQ{n:Nat}:∀{k:List dX} {o:List Item},(∀i∈k.flatMap qQ,i∈l)->fY n S k o->fY n (S.ren l) (k.map<|uG l) o
 | [],o,_,h=>h
 | a::k,o,hl,h=>by
   obtain⟨j,v,rfl,c,p⟩:=h.cons_inv;refine .mk ?_<|PQ (λi u=>hl i<|by grind) p;have f:∀i∈qQ a,i∈l:=λi u=>hl i (by grind);cases a<;>try exact c
   case oY id=>
    have c:j=.inRangeFunc (S.σ id):=c;show j=.inRangeFunc ((S.ren l).σ<|idxOf l id 0);rw[(BX<|f id<|aO.2 rfl)];omega
   case pq id=>
    have c:j=.endRangeFunc (S.σ id):=c;show j=.endRangeFunc ((S.ren l).σ<|idxOf l id 0);rw[(BX<|f id<|aO.2 rfl)];omega
theorem Eu:(uG l a).He=a.He:=by cases a<;>rfl
def JX:(uG l a).drawn=a.drawn:=by cases a<;>rfl
def abS{k:List dX}(p:∀i∈k.flatMap qQ,i∈l)(h:eP m k):eP (m.ren l)<|k.map<|uG l:=by
 intro b j;obtain⟨a,f,rfl⟩:=dG.1 j;have u:=h a f;have c:∀i∈qQ a,i∈l:=λi o=>p i<|List.mem_flatMap.2 ⟨a,f,o⟩;cases a<;>(try trivial)
 case oY id=>
  show((m.ren l).at<|idxOf l id 0).kq=true;rw[(yQ<|c id<|aO.2 rfl),wA];omega
 case pq id=>
  show((m.ren l).at<|idxOf l id 0).kq=true;rw[(yQ<|c id<|aO.2 rfl),wA];omega
def aaH(e r:Env)(q i:Nat):Env.at (Ur e q r) i=Env.at r i\/(i=q/\∃k c n,e.at q=.int k c n/\Env.at (Ur e q r) i=.int k c n):=by grind [Env.z7,KX,Ur]
theorem Ak{e:Env}{v:Nat->Value}{H:Nat->Prop}(h:∀i,¬H i->CR w S m (e.at i) (v i)):∀{f:List Nat} {i:Nat},¬H i->CR w (S.ren l) (m.ren l) ((uC l e f).at i) (v i)
 | [],i,_=>by grind [Env.Tt,gQ,uC]
 | j::f,i,hi=>by
   rw[uC];cases hj:Nat.ble j 65535 with
   | false=>
     rcases aaH e (uC l e f) (aic j) i with o|⟨o,k,c,n,p,u⟩
     .rw[o];exact Ak h hi
     grind [CR]
   | true=>
     rw[Env.z7<|KX hj];by_cases e:i=j
     .simp_all [R9]
     .rw[if_neg e];exact Ak h hi
def ann{f:dK}{fr:Frame}{G:List Nat}(c:FR w S m f fr)(hm:∀i∈f.marks,i∈l)(C:∀i,f.gB=some i->i∈l)(ht:∀i∈f.todo.flatMap qQ,i∈l):
  FR w (S.ren l) (m.ren l) {f with env:=uC l f.env G,todo:=f.todo.map<|uG l,marks:=f.marks.map (idxOf l · 0),gB:=f.gB.map (idxOf l · 0)} fr:=by
 refine⟨c.fn,c.n,c.small,λi u=>Ak (H:=λi=>Hid f fr i) c.env<|λB=>u ?_,PQ ht c.todo,abS ht c.live,λa o=>?_,?_,λd A=>?_,c.mode,c.kind,?_,λi u=>?_⟩
 .have⟨all,bs,J,D,b,p,x,y⟩:=B;refine⟨all,bs,J,D,b,p,?_,y⟩;rw[<-x];cases f.todo with
  | nil=>rfl
  | cons a k=>exact JX
 .have o:a∈(f.todo.map<|uG l).tail:=o;rw[<-List.map_tail] at o;obtain⟨b,z,rfl⟩:=dG.1 o;rw[Eu];exact c.cu b z
 .rw[c.defers,gn]
  grind [List.map_congr_left,BX]
 .obtain⟨v,h,rfl⟩:=dG.1 A;rw[(yQ<|hm v h),wA];exact c.marks v h
 .rw[c.gB];cases hr':f.gB with
  | none=>rfl
  | some i=>grind [BX]
 .cases hr':f.gB with
  | none=>simp_all
  | some j=>
    rw[hr'] at u;cases u;rw[(yQ<|C j hr'),wA];exact c.uH j hr'
theorem UR:∀{fs:List dK} {frs:List Frame} {o:List<|List Nat},(∀i∈qo o fs,i∈l)->FB w S m fs frs->FB w (S.ren l) (m.ren l) (sW l o fs) frs
 | [],frs,o,_,h=>by rw[sW];exact h
 | f::fs,frs,o,hl,h=>by
   obtain⟨fr,r,rfl,p,u⟩:=h;have c:∀i,i∈f.marks++((match f.gB with|some l=>[l]|none=>[])++(f.todo.flatMap qQ++qo o.tail fs))->i∈l:=λi j=>hl i (by grind [qo])
   refine⟨fr,r,rfl,ann p (λi j=>c i<|pP.2<|.inl j) (λi j=>c i<|pP.2<|.inr<|pP.2<|.inl ?_)<|λi j=>c i<|pP.2<|.inr<|pP.2<|.inr<|pP.2<|.inl j,
    UR (λi j=>c i<|pP.2<|.inr<|pP.2<|.inr<|pP.2<|.inr j) u⟩
   simp_all
theorem US{f0:FuncId}:∀{fs:List dK} {ks:List<|List Nat},zV f0 fs->zV f0 (sW l ks fs)
 | [],ks,h=>h.elim
 | [f],ks,h=>h
 | f::g::r,ks,h=>by
   have:=US (fs:=g::r) (ks:=ks.tail) h;exact this
def Gg{P:Program}{R:Type}{E:kD R}{I0:Nat->Prop}{f0:FuncId}{Fin:R->Value->World->Prop}{Q:R->Prop}(V:w0.R.length<=E.keep)(c:List<|List Nat)(f:dK)(fs:List dK)(m:Mem)(O:∀a∈f.todo.head?,a.He=false)
  (h:Good P E w0 I0 f0 Fin Q<|canon E.keep c {bG:=f::fs,mem:=m}):Good P E w0 I0 f0 Fin Q {bG:=f::fs,mem:=m}:=by
 intro _ S fr frs cs w D C G B;have⟨v,N,x⟩:=yw (acc:=List.range E.keep) (r:=qo c<|f::fs) List.nodup_range;have⟨y,z⟩:=D6 (f:=m.length+1) (m:=m) (p:=0) v;have A:∀i,i<w0.R.length->(oy (m.length+1) m (oU (List.range E.keep)<|qo c<|f::fs) 0)[i]? = some i:=λi o=>by
  have⟨X,J⟩:=vQ (r:=qo c<|f::fs) (acc:=List.range E.keep);have⟨Z,K⟩:=A8 (f:=m.length+1) (m:=m) (acc:=oU (List.range E.keep)<|qo c<|f::fs) (p:=0)
  grind
 refine h ?_ (S.ren<|oy (m.length+1) m (oU (List.range E.keep)<|qo c<|f::fs) 0) fr frs cs w (ano D y A) C (UR (λi o=>z i<|x i o) G)<|US B;unfold uh canon;simp[sW];split
 .rename_i all W u bs k j;cases ht:f.todo with
  | nil=>simp_all
  | cons a k'=>
    rw[ht] at j;simp at j;have:(uG (oy (m.length+1) m (oU (List.range E.keep)<|qo c<|f::fs) 0) a).He=true:=by rw[j.1];rfl
    grind [Eu]
 simp_all
end
end Go.Ev
namespace Go.Ev
section
variable {P:Program} {R:Type} {E:kD R} {w0:nN} {I0:Nat->Prop} {f0:FuncId} {Fin:R->Value->World->Prop} {Q:R->Prop}
def K7(B:Fits P E Fin w0 I0){n:Nat}(A:∀c,Tr.Ok Q (Good P E w0 I0 f0 Fin Q) (run af E n c)->Good P E w0 I0 f0 Fin Q c)
  {w:World} {S:St} {m:Mem} {fr:Frame} {fs:List dK} {frs cs:List Frame} {f:dK} {jump:Option Code}
  (h:Tr.Ok Q (Good P E w0 I0 f0 Fin Q) (match f.gB with
    | none=>match sT f.marks m with
      | none=>.bY 139 ""
      | some m=>match look E.l_ f.fn with
        | none=>.bY 141 ""
        | some F=>match qO af E f.env m F.results.toList with
          | none=>.bY 142 ""
          | some vs=>match fs with
            | []=>match E.fin (gU vs) m with
              | some y=>.ret y
              | none=>.bY 143 ""
            | g::gs=>match finish g (gU vs) with
              | some g=>wH af E g m<|run af E n {bG:=g::gs,mem:=m}
              | none=>.bY 144 ""
    | some l=>match m.at l with
      | .loop r=>match fs with
        | g::gs=>match finish g (.bool true (O5 jump)) with
          | some g=>wH af E g (m.set l<|.loop {r with state:=Hf jump,pending:=jump})<|run af E n {bG:=g::gs,mem:=m.set l<|.loop {r with state:=Hf jump,pending:=jump}}
          | none=>.bY 145 ""
        | []=>.bY 146 ""
      | _=>.bY 147 ""))
  (o:∀x,¬Hid f fr x) (j:f.gB=none->step P (lone fr (frs++cs) w)=.next (lone {fr with mode:=.returning} (frs++cs) w))
  (ht:f.gB≠none->(fr.todo=[]/\jump=none)\/(∃k,fr.todo=.code .ret::k/\jump=some .ret)\/(∃id k,fr.todo=.code (.exit id)::k/\exitTo id k=none/\jump=some (.exit id))\/(∃id k,fr.todo=.code (.goto id)::k/\gotoIn id k=none/\jump=some (.goto id)))
  (v:WR w0 w S m) (u:∀b,S.I b->I0 b\/w0.free b) (z:FR w S m f fr) (i:FB w S m fs frs) (p:zV f0<|f::fs) :
  Ends P f0 Fin Q fr frs cs w:=by
 cases hr:f.gB with
 | none=>
   rw[hr] at h;exact O6 B A h o (j hr) v u z i p
 | some l=>
   rw[hr] at h;exact xT A hr h (ht<|by grind) v u z i p
theorem pL(B:Fits P E Fin w0 I0):∀(n:Nat) (c:gY),Tr.Ok Q (Good P E w0 I0 f0 Fin Q) (run af E n c)->Good P E w0 I0 f0 Fin Q c
 | 0,c,h=>by rw[run] at h;exact h
 | n+1,c,h=>by
   have z:=pL B n;have⟨bG,m⟩:=c;intro A S fr frs cs w y v hF u;cases bG with
   | nil=>exact u.elim
   | cons f fs=>
     have⟨iV,a0,e,j,p⟩:=hF;cases e;have⟨fn,nn,env,J,marks,gB⟩:=f;cases J with
     | nil=>
       have ht:fr.todo=[]:=j.todo;refine K7 (jump:=none) B z ?_ (λx=>oO λa G=>by cases G) (λW=>agR j.mode (by rw[j.gB,W];rfl) ht) (λ_=>.inl ⟨ht,rfl⟩) y v j p u;exact h
     | cons i k=>
       have⟨it,X,ht,h1,K⟩:=j.todo.cons_inv;have plain:=λhi=>Wu (Gg (P:=P) (E:=E) (I0:=I0) (f0:=f0) (Fin:=Fin) (Q:=Q) B.keep) z (i:=i) (k:=k) hi h A y v j p u (cs:=cs);have D:i.He=false->∀x,¬Hid ⟨fn,nn,env,i::k,marks,gB⟩ fr x:=λa7 x=>oO λa G=>by grind
       cases i with
       | inBlock id=>grind
       | inLoop b=>grind
       | inScope b=>grind
       | oY l=>simp only[run] at h;exact h.elim
       | sD all ms i rest bs=>simp only[run] at h;exact h.elim
       | pq l=>grind [Wt]
       | beginRound=>grind [Wq]
       | ops all rest=>
         cases rest with
         | nil=>grind
         | cons o rest=>grind [agq]
       | jO all ms rest bs=>
         cases rest with
         | nil=>exact Ws B z h A y v j p u
         | cons i rest=>exact abX B z h A y v j p u
       | code x=>
         subst h1;cases x with
         | skip=>grind
         | label l=>grind
         | seq a b=>grind
         | cond x a b=>grind
         | block id b=>grind
         | loop b=>grind
         | scope b=>grind
         | refuse why=>simp only[run] at h;exact h.elim
         | region id os draw=>
           cases draw with
           | false=>grind
           | true=>exact PU B (Gg (P:=P) (E:=E) (I0:=I0) (f0:=f0) (Fin:=Fin) (Q:=Q) B.keep) z h A y v j p u
         | rangeFunc x ps a b=>grind [J2]
         | ret=>
           refine K7 (jump:=some .ret) B z ?_ (D rfl) (λW=>agU j.mode (by rw[j.gB,W];rfl) ht) (λ_=>.inr<|.inl ⟨X,ht,rfl⟩) y v j p u;exact h
         | exit id=>
           simp only[run] at h;cases he:mQ id k with
           | some k'=>
             rw[he] at h;have⟨Z,C,N,O,V⟩:=Bi (m:=m) K he;exact kg y v j p u (D rfl) (agS j.mode ht C) N (O j.live.tail) (λa G=>j.cu a<|V a G)<|z _ h
           | none=>
             rw[he] at h;have C:=xF K he;cases gB with
             | none=>exact h.elim
             | some l=>simp only at h;exact xT (f:=⟨fn,nn,env,.code (.exit id)::k,marks,some l⟩) (jump:=some<|.exit id) z rfl h (.inr<|.inr<|.inl ⟨id,X,ht,C,rfl⟩) y v j p u
         | goto id=>
           simp only[run] at h;cases he:mR id k with
           | some k'=>
             rw[he] at h;have⟨Z,C,N,O,V⟩:=Bv (m:=m) K he;exact kg y v j p u (D rfl) (agT j.mode ht C) N (O j.live.tail) (λa G=>(V a G).elim (j.cu a) λh=>h)<|z _ h
           | none=>
             rw[he] at h;have C:=xP K he;cases gB with
             | none=>exact h.elim
             | some l=>simp only at h;exact xT (f:=⟨fn,nn,env,.code (.goto id)::k,marks,some l⟩) (jump:=some<|.goto id) z rfl h (.inr<|.inr<|.inr ⟨id,X,ht,C,rfl⟩) y v j p u
end
end Go.Ev
namespace Go.Ev
mutual
def Ty.has:(t:Ty)->t.T->Prop
 | .int k,x=>k.has x
 | .bool,_=>True
 | .str,x=>(show List UInt8 from x).length<=fX
 | .slice t,x=>(show List t.T from x).length<=fX/\∀y∈(show List t.T from x),Ty.has t y
 | .arr n t,x=>(show List t.T from x).length=n/\∀y∈(show List t.T from x),Ty.has t y
 | .struct ts,x=>Ty.lC ts x
 | .any _,_=>True
def Ty.lC:(c:List Ty)->Ty.Ts c->Prop
 | [],_=>True
 | [t],x=>Ty.has t x
 | t::f::c,x=>Ty.has t (Prod.fst (α:=t.T) (β:=Ty.Ts<|f::c) x)/\Ty.lC (f::c) (Prod.snd (α:=t.T) (β:=Ty.Ts<|f::c) x)
end
variable{t:Ty}{v:Value}
section
variable {w:World} {I:Nat->Prop}
mutual
theorem bT.has:∀(t:Ty) {cs:List Value} {x:t.T},bT w I t cs x->t.has x
 | .int k,cs,x,h=>by rw[Ty.has];exact(tf.1 h).2
 | .bool,cs,x,h=>by rw[Ty.has];trivial
 | .str,cs,x,h=>by rw[Ty.has];exact(AX.1 h).2
 | .slice t,cs,x,h=>by
   have⟨a,p,o,u,c,A,v⟩:=eF.1 h;refine⟨c,λy j=>?_⟩;have⟨i,f⟩:=gV j;have⟨b,off,B,_,_,_,_,z⟩:=v i y f;exact bT.has t z
 | .arr n t,cs,x,h=>by
   have⟨o,u,c⟩:=AU.1 h;refine⟨o,λy j=>?_⟩;have⟨i,f⟩:=gV j;exact bT.has t<|c i y f
 | .struct ts,cs,x,h=>by rw[Ty.has];exact gp.has ts<|xm.1 h
 | .any n,cs,x,h=>by rw[Ty.has];trivial
theorem gp.has:∀(c:List Ty) {cs:List Value} {x:Ty.Ts c},gp w I c cs x->Ty.lC c x
 | [],cs,x,h=>by rw[Ty.lC];trivial
 | [t],cs,x,h=>by rw[Ty.lC];exact bT.has t<|CO.1 h
 | t::j::c,cs,x,h=>by
   have⟨o,p,_,f,i⟩:=h;exact⟨bT.has t f,gp.has (j::c) i⟩
end
def mU.has{x:t.T}(h:mU w I t v x):t.has x:=by
 unfold mU at h;split at h;have⟨c,_,h⟩:=h;exact h.has;exact h.has
theorem lg.has:∀{c:List Ty} {f:List Value} {x:Ty.Ts c},lg w I c f x->Ty.lC c x
 | [],f,x,h=>by rw[Ty.lC];trivial
 | [t],f,x,h=>by
   have⟨v,_,h⟩:=h;exact h.has
 | t::t2::c,f,x,h=>by
   have⟨v,r,_,i,j⟩:=h;exact⟨i.has,j.has⟩
end
def PL{c:Array Oper}:(List.range c.size).map (λi=>c[i]?)=c.toList.map some:=by
 apply dR
 grind
structure Closed{R:Type}(E:kD R)(Q:R->Prop)(G:gY->Prop):Prop where
 go:∀(n:Nat) (c:gY),Tr.Ok Q G (run af E n (advance E.kh c))->G c
variable{F:Func}{I:Nat->Prop}{S:St}{g:FuncId}{m:Mem}{res:List Ty}
section
variable {P:Program} {R:Type} {E:kD R} {w0:nN} {I0:Nat->Prop} {f0:FuncId} {Fin:R->Value->World->Prop} {Q:R->Prop}
def Mj(V:Fits P E Fin w0 I0){c:gY}(u:Good P E w0 I0 f0 Fin Q<|advance E.kh c):Good P E w0 I0 f0 Fin Q c:=by
 have⟨N,m⟩:=c;cases N with
 | nil=>exact u
 | cons f fs=>
   have⟨fn,nn,env,y,marks,gB⟩:=f;cases y with
   | nil=>exact u
   | cons i k=>
     cases i with
     | inLoop b=>
       intro _ S fr frs cs w B A v z;have⟨J,p,e,j,o⟩:=v;cases e;have⟨O,K,ht,C,D⟩:=j.todo.cons_inv;have G:step P (lone fr (frs++cs) w)=.next (lone {fr with todo:=.code b :: .inLoop b::K} (frs++cs) w):=by
        rcases C with rfl|rfl
        .exact Lc j.mode ht
        .exact U8 j.mode ht
       refine kg B A j o z (λx=>oO λa h=>by cases h;rfl) G D.inLoop.code (.mk trivial<|.mk trivial j.live.tail) (λa h=>?_) u;rcases aF.1 h with rfl|h
       .rfl
       .rcases aF.1 h with rfl|h
        .rfl
        .exact j.cu a h
     | code x=>
       cases x with
       | region id os draw=>
         cases draw with
         | false=>
           intro _ S fr frs cs w B A v z;have⟨J,p,e,j,o⟩:=v;cases e;have⟨O,K,ht,C,D⟩:=j.todo.cons_inv;subst C;refine kg B A j o z (λx=>oO λa h=>by cases h;rfl) (Le j.mode ht) (.mk (a:=.ops os os.toList) ⟨_,rfl,PL⟩ D) (.mk trivial j.live.tail) (λa h=>?_) u;rcases aF.1 h with rfl|h
           .rfl
           .exact j.cu a h
         | true=>
           simp only[advance] at u;cases hd:qN E.kh os with
           | none=>simp_all
           | some q=>
             intro _ S fr frs cs w B A v z;have⟨J,p,e,j,o⟩:=v
             grind [Iu]
       | _=>exact u
     | _=>exact u
def pF(f:Fits P E Fin w0 I0):Closed E Q<|Good P E w0 I0 f0 Fin Q:=
 ⟨λn c h=>Mj f<|pL f n _ h⟩
def ad0(w0:World)(I0:Nat->Prop)(res:List Ty)(y:Ty.Ts res)(v:Value)(c:World):Prop:=
 c.os=w0.os/\c.tape=w0.tape/\c.output=w0.output/\w0.heap.size<=c.heap.size/\(∀b,b<w0.heap.size->c.heap[b]? = w0.heap[b]?)/\
  ∃f,(∀b,f b->I0 b\/(w0.heap.size<=b/\b<c.heap.size))/\rL c f res v y
def pj{c:World}{b:Nat}(h:(World.whole c).free b):c.heap.size<=b:=h.elim id λk=>k.elim
def Ad{G:World}{w:World}{z:AV}{y:Ty.Ts res}(u:WR (World.whole G) w S m)(Z:∀b,S.I b->I0 b\/(World.whole G).free b)(h:C7 af res z m=some y)(K:CR w S m z v):ad0 G I0 res y v w:=by
 have c:∀(i:List AV) (p:List Value),kE res i=true->eH w S m i p->(match fL af res m (i.flatMap AV.cells) with
   | none=>none
   | some (_,cs)=>match q9 res cs with
     | some (y,[])=>some y
     | _=>none)=some y->∃o,(∀b,o b->I0 b\/(G.heap.size<=b/\b<w.heap.size))/\lg w o res p y:=by
  intro i p f j h;have⟨L,hL,B⟩:=ox f j;cases hf:fL af res m (i.flatMap AV.cells) with
  | none=>simp_all
  | some q=>
    have⟨m1,J⟩:=q;rw[hf] at h;simp only at h;have⟨X,V,N⟩:=g_ u hf hL;cases htd:q9 res J with
    | none=>simp_all
    | some q=>
      have⟨x,r⟩:=q;rw[htd] at h;cases r with
      | cons _ _=>cases h
      | nil=>
        cases h;have⟨u1,u2,e,W,hr⟩:=nM res htd N;have O:=bw.1 hr;rw[O,aL] at e;rw[<-e] at W;refine⟨X.I,λb A=>?_,B _ y W⟩;rcases V.grows b A with h|h
        .rcases Z b h with h|h
         .simp_all
         .exact .inr ⟨pj h,V.wr.nQ b A⟩
        .exact .inr ⟨pj h,V.wr.nQ b A⟩
 refine⟨u.os,u.tape.1,u.output,u.size,λb A=>u.base b λk=>absurd (pj k)<|lH A,?_⟩;unfold C7 at h
 match res,y,h,c with
 | [],y,h1,c=>
   obtain⟨i,rfl⟩:∃i,z=.yV i:=by grind
   obtain⟨p,rfl,j⟩:=kC.1 K;simp only at h1;split at h1;cases h1;rename_i f;have⟨o,C,D⟩:=c i p.toList f j h1;exact⟨o,C,by rw[rL,eG.1 D]⟩
 | [t],y,h1,c=>
   simp only at h1;split at h1;cases h1;rename_i f;have⟨o,C,D⟩:=c [z] [v] f (bL.2 ⟨v,[],rfl,K,bw.2 rfl⟩) h1;have⟨v',e,D⟩:=D;exact⟨o,C,by grind [rL]⟩
 | t::t2::ts,y,h1,c=>
   obtain⟨i,rfl⟩:∃i,z=.yV i:=by grind
   obtain⟨p,rfl,j⟩:=kC.1 K;simp only at h1;split at h1;cases h1;rename_i f;have⟨o,C,D⟩:=c i p.toList f j h1;exact⟨o,C,by grind [rL]⟩
structure Base{R:Type}(P:Program)(E:kD R):Prop where
 ti:nW P E.ti
 l_:∀g F,look E.l_ g=some F->P.funcs[g]? = some F/\(F.name == "runtime.NumGoroutine")=false
 kh:∀g s,look E.kh g=some s->s.bI P g
 mixed:P.follows .mixedOrders=true
 u6:∀g s,look E.u6 g=some s->s.bI P g
 u5:∀g s,look E.u5 g=some s->s.bI P g
 uY:∀g s,look E.uY g=some s->s.bI P g
 ops:∀g s,look E.ops g=some s->s.bI P g
def IP{w:World}(c:∀b,I b->b<w.heap.size):WR (World.whole w) w {σ:=λ_=>0,δ:=λ_=>0,vd:=λ_=>false,I:=I} []:=
 ⟨rfl,⟨rfl,λ_=>ai _⟩,rfl,ai _,λ_ _=>rfl,c,λ_=>trivial,λ_ _ h=>(by cases h),λ_ h=>(by cases h),λ_ h=>(by cases h),λ_ h=>(by cases h),λ_ _ h=>(by grind [World.whole]),λb f T fr h=>⟨f,T,fr,h,rfl⟩⟩
def Ns{g:FuncId}{F:Func}{s:aK}{E:kD<|Ty.Ts s.res}(f:Base P E)(X:E.fin=C7 af s.res)(hg:look E.l_ g=some F)(u:F.body.isSome=true)(ha:s.N_=true->∀x,s.pre x=true)(n:Nat)
  (h:∀x,s.pre x=true->Ty.lC s.args x->∃A,ju g F (ir af s.args x)=some A/\∀G,Closed E (λy=>y=s.fn x) G->Tr.Ok (λy=>y=s.fn x) G (run af E n {bG:=[A],mem:=[]})):s.bI P g:=by
 have⟨V,hn⟩:=f.l_ g F hg;refine⟨λw I x aa hI o z cs=>?_,ha,F,V,u,hn⟩;have⟨A,c,O⟩:=h x z o.has;have W:Fits P E (ad0 w I s.res) (World.whole w) I:=⟨f.ti,f.l_,f.kh,f.mixed,λS Z m av y v C B hf hc=>Ad C B (by simp_all) hc,f.u6,f.u5,f.uY,f.ops,aM _,λk=>False.elim k⟩;have p:=pL W (Q:=λy=>y=s.fn x) (f0:=g) n _<|O _<|pF W;have C:=IP hI;have⟨K,_,N⟩:=kM V c<|oA (S:={σ:=λ_=>0,δ:=λ_=>0,vd:=λ_=>false,I:=I}) (m:=[]) (λb u=>u) o;have hB:zV g [A]:=by
  unfold ju at c;cases hbb:F.body with
  | none=>grind
  | some b=>
    rw[hbb] at c;simp only at c;split at c
    .cases c;rfl
    grind
 have⟨y,v,Z,iV,hy,D,j,J,i⟩:=p (gP N) _ _ [] cs w C (λb u=>.inl u) ⟨_,_,rfl,K,rfl⟩ hB;have⟨g1,g2,g3,g4,g5,I',g6,g7⟩:=D;exact⟨.returned v,Z,iV,⟨v,rfl,g1,g2,g3,g4,g5,I',g6,by grind⟩,j,J,i⟩
def WR.plain{o w:World}(h:WR (World.N4 o) w S m):WR (World.whole o) w S m:=
 ⟨h.os,⟨h.tape.1,λk=>False.elim k⟩,h.output,h.size,h.base,h.nQ,h.box,h.inj,h.lo,h.qT,h.Js,h.root,h.cells⟩
def WW{w:World}(c:∀b,I b->b<w.heap.size):WR (World.N4 w) w {σ:=λ_=>0,δ:=λ_=>0,vd:=λ_=>false,I:=I} []:=
 ⟨rfl,⟨rfl,λ_=>ai _⟩,rfl,ai _,λ_ _=>rfl,c,λ_=>trivial,λ_ _ h=>(by cases h),λ_ h=>(by cases h),λ_ h=>(by cases h),λ_ h=>(by cases h),λ_ _ h=>(by grind [World.N4]),λb f T fr h=>⟨f,T,fr,h,rfl⟩⟩
def Ka{g:FuncId}{F:Func}{s:aK}{E:kD<|Ty.Ts s.res}(f:Base P E)(Z:E.fin=C7 af s.res)(hg:look E.l_ g=some F)(V:(∀g s,look E.kh g=some s->s.oT P g)/\E.u6=[]/\E.u5=[]/\E.uY=[]/\E.ops=[])(n:Nat)
  (h:∀x,s.pre x=true->Ty.lC s.args x->∃A,ju g F (ir af s.args x)=some A/\∀G,Closed E (λy=>y=s.fn x) G->Tr.Ok (λy=>y=s.fn x) G (run af E n {bG:=[A],mem:=[]})):s.oT P g:=by
 have⟨hF,hn⟩:=f.l_ g F hg;intro w I x aa hI o u cs;have⟨A,c,W⟩:=h x u o.has;have X:Fits P E (λy v z=>w.drawn<=z.drawn/\ad0 w I s.res y v z) (World.N4 w) I:=⟨f.ti,f.l_,f.kh,f.mixed,λS z m av y v B C hf hc=>⟨B.tape.2 trivial,Ad B.plain C (by simp_all) hc⟩,f.u6,f.u5,f.uY,f.ops,aM _,λ_=>V⟩;have p:=pL X (Q:=λy=>y=s.fn x) (f0:=g) n _<|W _<|pF X;have B:=WW hI;have⟨N,_,O⟩:=kM hF c<|oA (S:={σ:=λ_=>0,δ:=λ_=>0,vd:=λ_=>false,I:=I}) (m:=[]) (λb D=>D) o;have hB:zV g [A]:=by
  unfold ju at c;cases hbb:F.body with
  | none=>grind
  | some b=>
    rw[hbb] at c;simp only at c;split at c
    .cases c;rfl
    grind
 have⟨y,v,z,iV,hy,J,j,K,i⟩:=p (gP O) _ _ [] cs w B (λb D=>.inl D) ⟨_,_,rfl,N,rfl⟩ hB;have⟨g0,g1,g2,g3,g4,g5,I',g6,g7⟩:=J;exact⟨.returned v,z,iV,⟨g0,v,rfl,g1,g2,g3,g4,g5,I',g6,by grind⟩,j,K,i⟩
mutual
theorem bT.anyI{w:World}{I c:Nat->Prop}:∀(t:Ty) {cs:List Value} {x:t.T},t.scalar=true->bT w I t cs x->bT w c t cs x
 | .int k,cs,x,_,h=>by grind [bT]
 | .bool,cs,x,_,h=>by grind [bT]
 | .str,cs,x,_,h=>by grind [bT]
 | .slice t,cs,x,ht,h=>by cases ht
 | .arr n t,cs,x,ht,h=>by
   exact⟨h.1,h.2.1,λi y f=>bT.anyI t (by grind [Ty.scalar])<|h.2.2 i y f⟩
 | .struct ts,cs,x,ht,h=>by rw[bT] at h ⊢;exact gp.anyI ts (by grind [Ty.scalar]) h
 | .any n,cs,x,ht,h=>by cases ht
theorem gp.anyI{w:World}{I f:Nat->Prop}:∀(c:List Ty) {cs:List Value} {x:Ty.Ts c},Ty.np c=true->gp w I c cs x->gp w f c cs x
 | [],cs,x,_,h=>by grind [gp]
 | [t],cs,x,ht,h=>by rw[gp] at h ⊢;exact bT.anyI t (by grind [Ty.np]) h
 | t::p::c,cs,x,ht,h=>by
   rw[Ty.np,fZ] at ht;have⟨u,v,i,j,o⟩:=h;exact⟨u,v,i,bT.anyI t ht.1 j,gp.anyI (p::c) ht.2 o⟩
end
theorem mU.anyI{w:World}{f:Nat->Prop}{x:t.T}(ht:t.scalar=true)(h:mU w I t v x):mU w f t v x:=by
 unfold mU at h ⊢;split at h;rename_i c;rw[if_pos c];have⟨i,e,h⟩:=h;exact⟨i,e,bT.anyI t ht h⟩;rename_i c;rw[if_neg c];grind [bT.anyI]
theorem lg.anyI{w:World}{I i:Nat->Prop}:∀{c:List Ty} {f:List Value} {x:Ty.Ts c},Ty.np c=true->lg w I c f x->lg w i c f x
 | [],f,x,_,h=>by grind [lg]
 | [t],f,x,ht,h=>by
   have⟨v,e,h⟩:=h;exact⟨v,e,mU.anyI (by grind [Ty.np]) h⟩
 | t::t2::c,f,x,ht,h=>by
   rw[Ty.np,fZ] at ht;have⟨v,r,e,j,o⟩:=h;exact⟨v,r,e,mU.anyI ht.1 j,lg.anyI ht.2 o⟩
theorem rL.anyI{w:World}{c:Nat->Prop}:∀{res:List Ty} {v:Value} {y:Ty.Ts res},Ty.np res=true->rL w I res v y->rL w c res v y
 | [],v,y,_,h=>by grind [rL]
 | [t],v,y,ht,h=>by grind [mU.anyI,rL,Ty.np]
 | t::t2::ts,v,y,ht,h=>by
   have⟨f,e,h⟩:=h;exact⟨f,e,lg.anyI ht h⟩
def Ke{s:qG}{E:kD<|Ty.Ts s.res}(i:Base P E)(a6:E.fin=C7 af s.res)(hg:look E.l_ g=some F)(K:F.body.isSome=true)(n:Nat)(b0:Ty.np s.res=true)
  (h:∀x y,s.pre (x,y)=true->s.view.has x->Ty.lC s.args y->∃B,ju g F (.pO s.view x 0::ir af s.args y)=some B/\∀G,Closed E (λr=>r=s.fn (x,y)) G->Tr.Ok (λr=>r=s.fn (x,y)) G (run af E n {bG:=[B],mem:=[]})):s.bI P g:=by
 have⟨hF,hn⟩:=i.l_ g F hg;refine⟨λw I x y b us T fr aa hI hh hx hy A cs=>?_,F,hF,K,hn⟩;have⟨B,f,a0⟩:=h x y A hx.has hy.has;have N:b<w.heap.size:=(dy.1 hh).1;have D:∀c,(I c\/c=b)->c<w.heap.size:=λc u=>u.elim (hI c)<|λe=>e▸N;have X:∀c,I c->(I c\/c=b)/\w.heap[c]? = w.heap[c]? :=λc u=>⟨.inl u,rfl⟩;have hP:Fits P E (ad0 w (λc=>I c\/c=b) s.res) (World.whole w) (λc=>I c\/c=b):=⟨i.ti,i.l_,i.kh,i.mixed,λS w' m av y v J C hf u=>Ad J C (by simp_all) u,i.u6,i.u5,i.uY,i.ops,aM _,λk=>False.elim k⟩;have z:=pL hP (Q:=λr=>r=s.fn (x,y)) (f0:=g) n _<|a0 _<|pF hP;have J:=IP D;have p:eH w {σ:=λ_=>0,δ:=λ_=>0,vd:=λ_=>false,I:=λc=>I c\/c=b} [] (.pO s.view x 0::ir af s.args y) (Value.pointer (some ⟨b,0,none⟩)::aa).toArray.toList:=by
  refine bL.2 ⟨_,_,rfl,ug.2 ⟨b,0,us.toList,rfl,.inr rfl,bT.length _ hx,?_,bT.mono X _ hx⟩,oA (I:=I) (λc u=>Or.inl u) hy⟩;have:=iU (w:=w) hh 0 us.size
  grind [List.take_of_length_le]
 have⟨W,_,Z⟩:=kM hF f p;have hB:zV g [B]:=by
  unfold ju at f;cases hbb:F.body with
  | none=>simp_all
  | some b=>
    rw[hbb] at f;simp only at f;split at f
    .cases f;rfl
    simp_all
 have⟨r,v,w',iV,hr,O,o,V,j⟩:=z (gP Z) _ _ [] cs w J (λb K=>.inl K) ⟨_,_,rfl,W,rfl⟩ hB;have⟨g1,g2,g3,g4,g5,I',g6,g7⟩:=O;exact⟨.returned v,w',iV,⟨v,rfl,g1,g2,g3,g4,g5,by grind [rL.anyI]⟩,o,V,j⟩
end
def World.with(w:World)(B:List Nat)(c:List<|Nat×Option Nat):nN:={w with X:=λb=>b∈B,R:=c}
def HE(c:List Nat):List<|Nat×Option Nat:=c.map λb=>(b,none)
def yc(D:Nat->Nat×Nat)(c:List VF)(f:List Nat):List<|Nat×Option Nat:=HE f++(VF.i7 c).map λk=>((D k).1,some (D k).2)
variable{D:Nat->Nat×Nat}
def K4{f:List VF}{c:List Nat}{i b:Nat}(h:c[i]? = some b):(yc D f c)[i]? = some (b,none):=by
 have⟨j,o⟩:=aU.1 h;rw[yc,cB (by rw[HE,cy];exact j),HE,c_,h];rfl
variable{c:List VF}
def Wm{f:List Nat}(u:f.length=c.length)(o:VF.i7 c=List.range' c.length (VF.i7 c).length){k:Nat}(h:k∈VF.i7 c):(yc D c f)[k]? = some ((D k).1,some (D k).2):=by
 have⟨j,p,e⟩:=jk.1 h;have i:k=c.length+j:=by grind
 have v:(HE f).length=c.length:=by rw[HE,cy,u]
 rw[yc,dA<|by omega,v,i,Nat.add_sub_cancel_left,c_,KN p,e,<-i];rfl
theorem KM:∀{fx:List<|Nat×Nat},G5 fx=true->∀p∈fx,p.2=p.1
 | [],_,p,c=>absurd c aC
 | (k,id)::r,h,p,c=>by
   rw[G5,fZ] at h;rcases aF.1 c with rfl|c
   .simp_all
   .exact KM h.2 p c
def apo(w0:World)(I0:Nat->Prop)(D:Nat->Nat×Nat)(B o:List Nat)(z:Bool)(f:List VF)(res:List Ty)(y:Ty.Ts (VF.iq f)×Ty.Ts res)(v:Value)(c:World):Prop:=
 c.os=w0.os/\c.tape=w0.tape/\c.output=w0.output/\w0.heap.size<=c.heap.size/\(∀b,b<w0.heap.size->b ∉ B++oW D f->c.heap[b]? = w0.heap[b]?)/\
  ∃(h:Nat->Prop) (i:List Nat),(∀b,h b->(I0 b\/b∈B++oW D f\/w0.heap.size<=b)/\b<c.heap.size)/\(∀(b:Nat) (p:Array Value) (T:TypeId) (fr:Nat×Nat),w0.heap[b]? = some (.cells p T fr)->∃(j:Array Value) (u:TypeId) (x:Nat×Nat),c.heap[b]? = some (.cells j u x)/\j.size=p.size)/\ru c h D f (nk o) y.1 i/\(i++oW D f).Nodup/\(∀b∈i++oW D f,(b∈B++oW D f\/w0.heap.size<=b)/\¬h b)/\ad1 c h z o res v y.2
theorem Iy{w0:nN}{w:World}{S:St}{m:Mem}(C:WR w0 w S m):∀{j:List VF} {k:Nat} {c:List Nat} {x:Ty.Ts<|VF.iq j} {ids:List Nat},iF j=true->(∀i b,c[i]? = some b->S.σ (k+i)=b)->c.length=j.length->
  VF.reads m j ((List.range j.length).map λi=>AV.ptr (k+i) 0)=some (x,ids,[])->eH w S m ((List.range j.length).map λi=>AV.ptr (k+i) 0) (nk c)
 | [],k,c,x,ids,_,_,hl,_=>by
   have:c=[]:=df.1 hl;subst this;rfl
 | f::fs,k,[],x,ids,_,_,hl,_=>by grind
 | f::fs,k,r::c,x,ids,u,hr,hl,h=>by
   have e:(List.range (f::fs).length).map (λi=>AV.ptr (k+i) 0)=AV.ptr k 0::(List.range fs.length).map λi=>AV.ptr (k+1+i) 0:=by
    rw[bp,List.range_succ_eq_map,eB,gn];congr 1
    grind [List.map_congr_left]
   rw[e] at h ⊢;have⟨z,u⟩:=h_ u;have one:∀{y:f.ty.T} {A:List Nat} {o:List AV},VF.read m f (AV.ptr k 0::(List.range fs.length).map λi=>AV.ptr (k+1+i) 0)=some (y,A,o)->CR w S m (.ptr k 0) (.pointer<|some ⟨r,0,none⟩)/\o=(List.range fs.length).map λi=>AV.ptr (k+1+i) 0:=by
    intro y A o h;generalize f.sub=D at z;rcases z with rfl|rfl
    all_goals
     simp only[VF.read] at h;cases hm:m.at k<;>rw[hm] at h<;>(try simp only at h)<;>try (cases h;done)
     case cu fz l=>
      refine⟨?_,?_⟩
      .rw[CR,hm];rw[<-hr 0 r rfl];rfl
      grind
   cases fs with
   | nil=>
     have v:c=[]:=df.1 (by simp_all);subst v;exact bL.2 ⟨_,_,rfl,(one h).1,bw.2 rfl⟩
   | cons g fs=>
     simp only[VF.reads] at h;cases h1:VF.read m f (AV.ptr k 0::(List.range (g::fs).length).map λi=>AV.ptr (k+1+i) 0) with
     | none=>simp_all
     | some p=>
       have⟨a,J,o⟩:=p;rw[h1] at h;simp only at h;have⟨c1,B⟩:=one h1;cases h2:VF.reads m (g::fs) o with
       | none=>grind
       | some q=>
         have⟨b,K,N⟩:=q;rw[h2] at h;obtain⟨_,_,rfl⟩:=h;rw[B] at h2;exact bL.2 ⟨_,_,rfl,c1,Iy C u (λi b G=>by rw[Nat.add_assoc,mM 1 i];simp_all) (by simpa using hl) h2⟩
def R_{k n:Nat}:gb ((List.range n).map λi=>AV.ptr (k+i) 0)=(List.range n).map (k + ·):=by
 induction List.range n with
 | nil=>rfl
 | cons a l ih=>grind [gb]
variable{B:List Nat}{I0:Nat->Prop}
def QY{w1:World}{w:World}{av:AV}{W:List Nat}{rp:Bool}{y:Ty.Ts (VF.iq c)×Ty.Ts res}(hk:W.length=c.length)(aa:VF.i7 c=List.range' c.length (VF.i7 c).length)(G:WR (World.with w1 (B++oW D c)<|yc D c W) w S m)
  (hI:∀b,S.I b->I0 b\/(World.with w1 (B++oW D c)<|yc D c W).free b) (h:QX af rp c res av m=some y) (hc:CR w S m av v):apo w1 I0 D B W rp c res y v w:=by
 have f:∀(u:List AV) (X:List Value),kE res u=true->eH w S m u X->(match fL af res m (u.flatMap AV.cells) with
   | none=>none
   | some (m,cs)=>match q9 res cs with
     | some (y,[])=>match VF.reads m c (jB c.length) with
       | some (x,ids,[])=>match og ids&&(iF c&&G5 (VF.yz m c (jB c.length))) with
         | true=>some (x,y)
         | false=>none
       | _=>none
     | _=>none)=some y->∃(A:Nat->Prop) (C:List Nat),(∀b,A b->(I0 b\/b∈B++oW D c\/w1.heap.size<=b)/\b<w.heap.size)/\ru w A D c (nk W) y.1 C/\(C++oW D c).Nodup/\(∀b∈C++oW D c,(b∈B++oW D c\/w1.heap.size<=b)/\¬A b)/\lg w A res X y.2:=by
  intro u X j J h;have⟨L,hL,ad⟩:=ox j J;cases hf:fL af res m (u.flatMap AV.cells) with
  | none=>grind
  | some q=>
    have⟨m1,an⟩:=q;rw[hf] at h;simp only at h;have⟨K,s1,as⟩:=g_ G hf hL;cases htd:q9 res an with
    | none=>grind
    | some q=>
      have⟨x,r⟩:=q;rw[htd] at h;cases r with
      | cons _ _=>cases h
      | nil=>
        have⟨u1,u2,e,hx,hr⟩:=nM res htd as;have b5:=bw.1 hr;rw[b5,aL] at e;rw[<-e] at hx;cases hrd:VF.reads m1 c (jB c.length) with
        | none=>grind
        | some q=>
          have⟨z,ids,r⟩:=q;rw[hrd] at h;cases r with
          | cons _ _=>cases h
          | nil=>
            simp only at h;split at h
            rotate_left
            cases h;rename_i O;cases h;rw[fZ,fZ] at O;have e0:jB c.length=(List.range c.length).map λi=>AV.ptr (0+i) 0:=by
             rw[jB];grind
            have aw:eH w K m1 (jB c.length)<|nk W:=by
             rw[e0] at hrd ⊢;exact Iy s1.wr O.2.1 (λi b N=>by rw[iy];exact(s1.wr.root i (b,none)<|K4 N).2.1) hk hrd
            have⟨Z,_⟩:=xO c hrd;have hD:∀p∈VF.yz m1 c (jB c.length),D p.1=(K.σ p.2,K.δ p.2)/\K.vd p.2=false:=λp hp=>by
             rw[KM O.2.2 p hp];have⟨_,r1,r2⟩:=s1.wr.root p.1 _<|Wm hk aa (by grind)
             grind
            have⟨v1,v2,js,e3,b0,V,az,bx,ae⟩:=VF.pK s1.wr c hrd hD aw;have bc:oW D c=((VF.yz m1 c<|jB c.length).map Prod.snd).map K.σ:=by
             rw[oW,<-Z,gn,gn];exact fj λp hp=>by grind
            have aq:(js++(VF.yz m1 c<|jB c.length).map Prod.snd).map K.σ=js.map K.σ++oW D c:=by grind
            rw[bw.1 b0,aL] at e3;rw[<-e3] at ae;have⟨b1,b2,b3,b4⟩:=wj s1.wr (V.2<|pI O.1) V.1 az;rw[aq] at b1 b2 b3;refine⟨K.I,js.map K.σ,λb N=>⟨?_,s1.wr.nQ b N⟩,ae,b1,λb N=>⟨(b3 b N).elim .inr .inl,b2 b N⟩,ad _ _ hx⟩;rcases s1.grows b N with h|h
            .rcases hI b h with h|h
             .grind
             .exact .inr<|h.elim .inr .inl
            .exact .inr<|h.elim .inr .inl
 refine⟨G.os,G.tape.1,G.output,G.size,λb N hB=>G.base b λk=>k.elim (λk=>absurd k<|lH N) hB,?_⟩;unfold QX at h;cases rp with
 | true=>
   unfold ar1 at h;cases av<;>try (cases h;done)
   rename_i i d;simp only at h;cases hq:Nat.beq i 0&&(Nat.beq d 0&&Nat.ble 1 c.length) with
   | false=>grind
   | true=>
     rw[hq] at h;have hq:=(fZ _ _).mp hq;have ac:=(fZ _ _).mp hq.2;cases vH hq.1;cases vH ac.1;have o:=KX ac.2;cases hm:m.at 0<;>rw[hm] at h<;>try (cases h;done)
     simp only at h;split at h;cases h;rename_i j;have⟨A,C,k1,k2,k3,k4,_⟩:=f [] [] j (bw.2 rfl) h;refine⟨A,C,k1,G.cells,k2,k3,k4,?_⟩;cases W with
     | nil=>grind
     | cons b W=>
       have e:=(G.root 0 (b,none)<|K4<|by rfl).2.1;rw[CR,hm] at hc;rw[hc];show some (Value.pointer<|some ⟨b,0,none⟩)=_
       grind
 | false=>
 simp only at h
 match res,y,h,f with
 | [],y,o,f=>
   obtain⟨u,rfl⟩:∃u,av=.yV u:=by grind
   obtain⟨X,rfl,J⟩:=kC.1 hc;simp only at o;split at o;cases o;rename_i j;have⟨A,C,k1,k2,k3,k4,k5⟩:=f u X.toList j J o;exact⟨A,C,k1,G.cells,k2,k3,k4,by rw[ad1,rL,eG.1 k5]⟩
 | [t],y,o,f=>
   simp only at o;split at o;cases o;rename_i j;have⟨A,C,k1,k2,k3,k4,k5⟩:=f [av] [v] j (bL.2 ⟨v,[],rfl,hc,bw.2 rfl⟩) o;have⟨v',e,k5⟩:=k5;cases e;exact⟨A,C,k1,G.cells,k2,k3,k4,by rw[ad1,rL];omega⟩
 | t::t2::ts,y,o,f=>
   obtain⟨u,rfl⟩:∃u,av=.yV u:=by grind
   obtain⟨X,rfl,J⟩:=kC.1 hc;simp only at o;split at o;cases o;rename_i j;have⟨A,C,k1,k2,k3,k4,k5⟩:=f u X.toList j J o;exact⟨A,C,k1,G.cells,k2,k3,k4,by simp_all;exact⟨X,rfl,k5⟩⟩
mutual
theorem VR.has{w:World}{I:Nat->Prop}{D:Nat->Nat×Nat}:∀(f:VF) {c:List Value} {x:f.ty.T} {B:List Nat},VR w I D f c x B->f.ty.has x
 | .d t,c,x,B,h=>(aj7.1 h).1.has
 | .own t,c,x,B,h=>by
   rcases ob.1 h with ⟨e,_⟩|⟨b,G,o,_,_,_,p,A,T,fr,_,_,_,v⟩
   .have e:x=([]:List t.T):=e;subst e;exact⟨aM _,λy j=>absurd j aC⟩
   .refine⟨p,λy j=>?_⟩;have⟨i,z⟩:=gV j;exact(v i y z).has
 | .fix k t,c,x,B,h=>by
   have⟨_,o,_,_,p,A,T,fr,_,_,_,v⟩:=vP.1 h;refine⟨p,λy j=>?_⟩;have⟨i,z⟩:=gV j;exact(v i y z).has
 | .ptr fs,c,x,B,h=>by
   have⟨b,C,_,_,A,T,fr,_,_,u⟩:=FM.1 h;exact ru.has fs u
 | .od fs,c,x,B,h=>by
   have⟨b,_,_,A,T,fr,_,_,u⟩:=vO.1 h;exact ru.has fs u
theorem ru.has{w:World}{I:Nat->Prop}{D:Nat->Nat×Nat}:∀(fs:List VF) {c:List Value} {x:Ty.Ts<|VF.iq fs} {B:List Nat},ru w I D fs c x B->Ty.lC (VF.iq fs) x
 | [],c,x,B,h=>trivial
 | [f],c,x,B,h=>VR.has f<|uj.1 h
 | f::g::fs,c,x,B,h=>by
   have⟨u,v,o,p,_,_,i,j⟩:=AY.1 h;exact⟨VR.has f i,ru.has (g::fs) j⟩
end
theorem G_:∀{aN:List VF} {m:Mem} {i:Nat},(m++holds aN).at (m.length+i)=match aN[i]? with|some f=>G9 f|none=>.bY
 | [],m,i=>by simp_all [holds,Mem.at]
 | f::fs,m,0=>by
   rw[Mem.at,holds,List.getElem?_cons_zero,kJ,Jt,dA<|ai _,mO];rfl
 | f::fs,m,i+1=>by
   rw[holds,List.getElem?_cons_succ,<-G_ (m:=m ++ [G9 f])]
   grind
theorem FQ{A:aS}{h:Nat->AV}:∀{aN:List VF} {vs:List AV} {x:Ty.Ts<|VF.iq aN} {m:Mem},iF aN=true->vs.length=aN.length->(∀v∈vs,∃id off,v=.ptr id off)->∃j,VF.Kq A h aN vs x m=some j
 | [],vs,x,m,_,_,_=>⟨m,by rfl⟩
 | f::fs,[],x,m,_,hl,_=>by grind
 | [f],v::vs,x,m,hp,hl,hv=>by
   obtain⟨id,off,rfl⟩:=hv v aJ;cases f<;>simp only[iF] at hp<;>simp_all
   all_goals exact⟨_,by rfl⟩
 | f::g::fs,v::vs,x,m,hp,hl,hv=>by
   obtain⟨id,off,rfl⟩:=hv v aJ;have c:=(h_ hp).2;cases f<;>simp only[iF] at hp<;>try (cases hp;done)
   all_goals
    exact FQ (aN:=g::fs) c (by grind) λv i=>hv v<|aD _ i
theorem ru.M5{w:World}{I:Nat->Prop}{D:Nat->Nat×Nat}:∀{aN:List VF} {j:List Nat} {x:Ty.Ts<|VF.iq aN} {B:List Nat},iF aN=true->ru w I D aN (nk j) x B->j.length=aN.length/\
  ∀(i:Nat) (f:VF),aN[i]? = some f->∃(b:Nat) (o:Array Value) (T:TypeId) (fr:Nat×Nat),j[i]? = some b/\(f.fz=false->b∈B)/\(f.fz=true->I b)/\w.heap[b]? = some (.cells o T fr)/\gS fr o.size/\o.size=VF.mP f.sub
 | [],j,x,B,_,h=>by
   have:j=[]:=List.map_eq_nil_iff.1 (LA.1 h).1
   grind
 | [f],[],x,B,hp,h=>by
   have:=ru.length _ h;have⟨c,_⟩:=h_ hp;rw[show VF.mP [f]=1 from by rcases c with h|h<;>rw[h]<;>rfl] at this;cases this
 | f::g::fs,[],x,B,hp,h=>by
   have:=ru.length _ h;have⟨c,_⟩:=h_ hp;have C:f.size=1:=by rcases c with h|h<;>rw[h]<;>rfl
   rw[VF.mP,C] at this;have this:0=1+VF.mP (g::fs):=this;omega
 | [f],r::j,x,B,hp,h=>by
   have⟨c,_⟩:=h_ hp;have⟨e,u,v,o,T,fr,y,z,A⟩:=VR.blk c<|uj.1 h;have G:j=[]:=List.map_eq_nil_iff.1 e
   grind
 | f::g::fs,r::j,x,B,hp,h=>by
   have⟨c,p⟩:=h_ hp;obtain⟨N,O,rfl,J,K⟩:=ru.head c h;have⟨e,u,v,o,T,fr,y,z,A⟩:=VR.blk c J;have⟨V,W⟩:=ru.M5 (aN:=g::fs) p K
   grind
theorem It:∀{c:List VF} {i:Nat} {f:VF},iF c=true->c[i]? = some f->f=.ptr f.sub\/f=.od f.sub
 | [],i,f,_,h=>by grind
 | g::c,0,f,hp,h=>by
   simp at h;exact h▸(h_ hp).1
 | g::c,i+1,f,hp,h=>by
   exact It (h_ hp).2 h
theorem KR{f:VF}(c:f=.ptr f.sub\/f=.od f.sub):G9 f=.cu f.fz (List.replicate (VF.mP f.sub) .undef):=by
 generalize f.sub=h at c ⊢;rcases c with rfl|rfl<;>rfl
def vC{i:Nat}(j:iF c=true):(∃f,c[i]? = some f/\(holds c).at i=.cu f.fz (List.replicate (VF.mP f.sub) .undef))\/(c[i]? = none/\(holds c).at i=.bY):=by
 have h:=G_ (aN:=c) (m:=[]) (i:=i)
 grind [KR,It]
theorem vW:∀{c:List VF},(holds c).length=c.length
 | []=>rfl
 | f::fs=>by rw[holds,bp,bp,vW]
def p_(c:List Nat)(I:Nat->Prop):St:={σ:=λi=>c.getD i 0,δ:=λ_=>0,vd:=λ_=>false,I:=I}
variable{X:List Nat}
def WR.anq{w f:World}{R c:List<|Nat×Option Nat}(h:WR (World.with w X R) f S m)(j:∀i b,c[i]? = some b->i<m.length/\S.σ i=b.1/\∀d,b.2=some d->S.δ i=d/\S.vd i=false):WR (World.with w X c) f S m:=
 ⟨h.os,⟨h.tape.1,λk=>False.elim k⟩,h.output,h.size,h.base,h.nQ,h.box,h.inj,h.lo,h.qT,h.Js,j,h.cells⟩
theorem K6{w0:nN}{w:World}{I:Nat->Prop}{D:Nat->Nat×Nat}:∀(l:List<|Nat×iN) {S:St} {m:Mem},WR w0 w S m->(∀b,I b->S.I b)->(∀p∈l,∃(t:Ty) (y:List t.T) (J:List Value),p.2=.arr false t y/\VR w I D (.fix p.1 t) J y [])->(l.map λp=>(D p.1).1).Nodup->(∀p∈l,Kl w0 S m (D p.1).1)->
  ∃c,Step w0 w S m w c (m++l.map Prod.snd)/\(∀b,c.I b->S.I b)/\(∀j,j<m.length->c.σ j=S.σ j/\c.δ j=S.δ j/\c.vd j=S.vd j)/\∀i p,l[i]? = some p->c.σ (m.length+i)=(D p.1).1/\c.δ (m.length+i)=(D p.1).2/\c.vd (m.length+i)=false
 | [],S,m,hW,_,_,_,_=>⟨S,by rw[mK,aL];exact .refl hW,λ_ h=>h,λ_ _=>⟨rfl,rfl,rfl⟩,λi p h=>by cases h⟩
 | (k,bx)::l,S,m,hW,hI,hl,hn,hf=>by
   have⟨t,y,J,e,hv⟩:=hl (k,bx) aJ;subst e;have⟨n1,n2⟩:=bR.1 hn;have⟨_,W,_,X,Z,K,T,fr,h3,h4,h5,h6⟩:=vP.1 hv;have u:=hf (k,.arr false t y) aJ;have x:=Step.Kv hW (b:=(D k).1) (d:=(D k).2) (bx:=.arr false t y) u (yD h3) rfl λhO=>⟨Z,yO,λ_=>⟨K,T,fr,by
     show w.heap[if m.length=m.length then(D k).1 else S.σ m.length]? = _
     grind,h4,by
     show(if m.length=m.length then(D k).2 else S.δ m.length)+_<=_;rw[if_pos rfl];exact bd (fN (aI _ X) _) h5,λi y hy=>by
     show bT w _ t ((K.toList.drop<|(if m.length=m.length then(D k).2 else S.δ m.length)+_).take _) y;rw[if_pos rfl];exact bT.mono (λb f=>⟨.inl<|hI b f,rfl⟩) t<|h6 i y hy⟩⟩
   have z:Wrote S m [(D k).1] (S.push m.length (D k).1 (D k).2 false)<|m ++ [.arr false t y]:=wu λ_=>aO.2 rfl;have⟨N,G,i2,B,r2⟩:=K6 l x.wr (λb f=>(x.out.nQ b<|hI b f).1) (λp v=>hl p<|aD _ v) n2 λp v=>z.fresh (C:=[]) (hf p<|aD _ v) λhm=>n1 (by grind);rw[show(m ++ [iN.arr false t y])++l.map Prod.snd=m++((k,iN.arr false t y)::l).map Prod.snd from by simp] at G;refine⟨N,x.trans G,λb f=>z.nQ b<|i2 b f,λj A=>?_,λi p hi=>?_⟩
   .have⟨a1,a2,o⟩:=B j (by grind);have⟨_,O,V⟩:=z.old j A;exact⟨a1.trans O,a2.trans<|if_neg<|e_ A,o.trans V⟩
   .cases i with
    | zero=>
      cases hi;have⟨a1,a2,o⟩:=B m.length (by simp_all);exact⟨a1.trans<|if_pos rfl,a2.trans<|if_pos rfl,o.trans<|if_pos rfl⟩
    | succ i=>
      grind
def aau{w:World}{G:List VF}{u:List Nat}{x:Ty.Ts<|VF.iq G}(hI:∀b,I b->b<w.heap.size)(K:iF G=true)(hv:ru w I D G (nk u) x B)(V:u.Nodup)(hB:∀b∈B,¬I b)(hX:∀b∈B,b∈X):
  WR (World.with w X<|HE u) w (p_ u I) (holds G):=by
 have⟨h1,W⟩:=hv.M5 K;have o:∀i,(p_ u I).lv i ((holds G).at i)=true->∃(f:VF) (b:Nat) (C:Array Value) (T:TypeId) (fr:Nat×Nat),(p_ u I).fz i ((holds G).at i)=f.fz/\u[i]? = some b/\(p_ u I).σ i=b/\w.heap[b]? = some (.cells C T fr)/\(f.fz=false->b∈B)/\(f.fz=true->I b):=λi Z=>by
  rcases vC (i:=i) K with ⟨f,p,y⟩|⟨p,y⟩
  .have⟨b,C,T,fr,a1,a2,z,A,_⟩:=W i f p;exact⟨f,b,C,T,fr,by rw[y];rfl,a1,by simp[p_,Jt,a1],A,a2,z⟩
  .rw[y] at Z;cases Z
 refine⟨rfl,⟨rfl,λ_=>ai _⟩,rfl,ai _,λ_ _=>rfl,hI,λi=>?_,λi j p y e=>?_,λi p=>?_,λi p k0 v=>?_,λi p=>?_,λi b v=>?_,λb C T fr h=>⟨C,T,fr,h,rfl⟩⟩
 .rcases vC (i:=i) K with ⟨f,p,y⟩|⟨p,y⟩
  .rw[y];have⟨b,C,T,fr,a1,_,_,a2,z,A⟩:=W i f p;exact⟨C,T,fr,by rw[show(p_ u I).σ i=b by simp[p_,Jt,a1]];omega,z,DY<|by omega⟩
  .rw[y];trivial
 .have⟨_,b,_,_,_,_,a1,a2,_⟩:=o i p;have⟨_,c,_,_,_,_,b1,b2,_⟩:=o j y;rw[a2,b2] at e;subst e;have⟨l1,l2⟩:=aU.1 a1;have⟨l3,l4⟩:=aU.1 b1;exact(r_ V).1 (l2.trans l4.symm)
 .have⟨f,b,_,_,_,_,a1,a2,z,A,J⟩:=o i p;rw[a2];refine⟨?_,yD z⟩;cases hz:f.fz with
  | false=>exact .inr<|.inr<|hX _<|A hz
  | true=>exact .inl<|J hz
 .have⟨f,b,_,_,_,N,a1,a2,z,A,J⟩:=o i p;rw[a2] at v;rw[N] at k0;exact hB b (A k0) v
 .rcases vC (i:=i) K with ⟨f,e1,O⟩|⟨_,O⟩
  .have⟨f,b,_,_,_,N,a1,a2,z,A,J⟩:=o i (by rw[O];rfl);rw[N] at p;rw[a2];exact J p
  .rw[O] at p;cases p
 .have v:(HE u)[i]? = some b:=v;rw[HE,c_] at v;cases hr:u[i]? with
  | none=>rw[hr] at v;cases v
  | some c=>
    rw[hr] at v;cases v;exact⟨by rw[vW,<-h1];grind,by simp[p_,Jt,hr],λd hd=>by grind⟩
theorem Em{S:St}:∀{aN:List VF} {rs:List Nat} {m:Mem},iF aN=true->rs.length=aN.length->(∀i b,rs[i]? = some b->S.σ (m.length+i)=b)->
  oS S (m++holds aN) aN ((List.range aN.length).map λi=>AV.ptr (m.length+i) 0) rs
 | [],rs,m,_,hl,_=>⟨rfl,df.1 hl⟩
 | f::fs,[],m,_,hl,_=>by grind
 | f::fs,r::rs,m,h,hl,hr=>by
   have c:=G_ (aN:=f::fs) (m:=m) (i:=0);have⟨j,h⟩:=h_ h;have c:=c.trans<|KR j;rw[show holds (f::fs)=G9 f::holds fs from rfl] at c ⊢;have e:(List.range (f::fs).length).map (λi=>AV.ptr (m.length+i) 0)=AV.ptr m.length 0::(List.range fs.length).map λi=>AV.ptr ((m ++ [G9 f]).length+i) 0:=by
    rw[bp,List.range_succ_eq_map,eB,gn]
    grind [List.map_congr_left]
   rw[e];refine⟨m.length,0,_,rs,_,j,rfl,by rw[<-hr 0 r rfl];rfl,c,Ht,?_⟩;have:=Em (S:=S) (aN:=fs) (rs:=rs) (m:=m ++ [G9 f]) h (by simp_all) λi b o=>by
    rw[<-hr (i+1) b o]
    grind
   simp_all
section
variable {P:Program}
def know:List (Option Int)->List AV->List AV
 | some n::ks,.int k _ _::l=>.int k true n::know ks l
 | _::ks,a::l=>a::know ks l
 | _,l=>l
def Od:List (Option Int)->List AV->Prop
 | some n::ks,.int _ _ x::l=>x=n/\Od ks l
 | _::ks,_::l=>Od ks l
 | _,_=>True
theorem aaK:∀{l:List AV},know [] l=l
 | []|_::_=>rfl
theorem xS:∀{c:List<|Option Int} {l:List AV},(know c l).length=l.length
 | [],l=>by rfl
 | none::_,[]|some _::_,[]=>rfl
 | none::c,a::l=>by rw[know,bp,bp,xS];nofun
 | some n::c,a::l=>by cases a<;>simp[know,xS]
theorem BA{w:World}{S:St}{m:Mem}:∀{ks:List<|Option Int} {l:List AV} {c:List Value},Od ks l->eH w S m l c->eH w S m (know ks l) c
 | [],l,c,_,h=>by cases l<;>exact h
 | none::_,[],c,_,h|some _::_,[],c,_,h=>h
 | none::ks,a::l,c,hk,h=>by
   have⟨v,r,e,f,i⟩:=bL.1 h;cases a<;>exact bL.2 ⟨v,r,e,f,BA (ks:=ks) hk i⟩
 | some n::ks,a::l,c,hk,h=>by
   have⟨v,r,e,f,i⟩:=bL.1 h;cases a<;>first|exact bL.2 ⟨v,r,e,f,BA (ks:=ks) hk i⟩|exact bL.2 ⟨v,r,e,by rw[<-hk.1];exact f,BA (ks:=ks) hk.2 i⟩
def Kc{ks:List<|Option Int}{s:cH}{E:kD<|Ty.Ts (VF.iq s.aN)×Ty.Ts s.res}(O:Base P E)(az:E.fin=QX af s.rp s.aN s.res)(ag:s.aN.length+(VF.i7 s.aN).length<=E.keep)(J:iF s.aN=true)(a7:VF.i7 s.aN=List.range' s.aN.length (VF.i7 s.aN).length)(bm:∀x y,s.pre (x,y)=true->Od ks (ir af s.args y))(am:∀x y,s.pre (x,y)=true->VF.lens s.aN (s.fn (x,y)).1=VF.lens s.aN x)(hg:look E.l_ g=some F)(c:F.body.isSome=true)(ha:s.N_=true->∀x,s.pre x=true)(n:Nat)
  (h:∀x y,s.pre (x,y)=true->Ty.lC (VF.iq s.aN) x->Ty.lC s.args y->∃h0,ju g F (jB s.aN.length++know ks (ir af s.args y))=some h0/\∀G,Closed E (λr=>r=s.fn (x,y)) G->Tr.Ok (λr=>r=s.fn (x,y)) G (run af E n {bG:=[h0],mem:=IN af s.aN x})):s.bI P g:=by
 have⟨hF,hn⟩:=O.l_ g F hg;refine⟨λw I D x y u aa B hI hv bv b1 N hy a9 cs=>?_,am,ha,F,hF,c,hn⟩;have⟨h0,z,b2⟩:=h x y a9 hv.has hy.has;have⟨W,_⟩:=hv.M5 J;have e0:jB s.aN.length=(List.range s.aN.length).map λi=>AV.ptr (0+i) 0:=by
  rw[jB];grind
 have⟨m0,b0⟩:=FQ (A:=af) (h:=.own) (aN:=s.aN) (vs:=jB s.aN.length) (x:=x) (m:=holds s.aN++(VF.gF s.aN x).map Prod.snd) J (by grind) λv hv=>by grind
 have bx:IN af s.aN x=m0:=by rw[IN,b0];rfl
 rw[bx] at b2;have ab:oS (p_ u I) (holds s.aN) s.aN (jB s.aN.length) u:=by
  have:=Em (S:=p_ u I) (aN:=s.aN) (rs:=u) (m:=[]) J W λi b c=>by
   rw[tV,iy];simp[p_,Jt,c]
  grind
 have a6:=aau hI J hv bv (λb c=>N b<|pP.2<|.inl c) (X:=B++oW D s.aN) λb c=>pP.2<|.inl c;have o:=nK s.aN x x;have be:(VF.gF s.aN x).map (λp=>(D p.1).1)=oW D s.aN:=by
  rw[oW,<-o.2.1,gn];rfl
 have K:(holds s.aN).length=s.aN.length:=vW;have⟨_,nf,nx⟩:=dY.1 b1;have a0:∀j,(p_ u I).lv j ((holds s.aN).at j)=true->(p_ u I).σ j∈B\/I ((p_ u I).σ j):=λj W=>by
  have⟨h1,h3⟩:=hv.M5 J;rcases vC (i:=j) J with ⟨f,k1,k2⟩|⟨k1,k2⟩
  .have⟨b,us,T,fr,a1,a2,a3,_⟩:=h3 j f k1;have e:(p_ u I).σ j=b:=by simp[p_,Jt,a1]
   grind
  .rw[k2] at W;cases W
 have⟨S0,s0,i0,o0,r0⟩:=K6 (I:=I) (D:=D) (VF.gF s.aN x) a6 (λ_ h=>h) (λp hp=>by
  have⟨t,y,e⟩:=o.2.2 p hp;have⟨iM,h'⟩:=ru.row (k:=p.1) (t:=t) (y:=y) s.aN hv (by rw[<-e];exact hp)
  grind) (by grind) λp hp=>by
   have c:(D p.1).1∈oW D s.aN:=by grind
   refine⟨.inr<|pP.2<|.inr c,N _<|pP.2<|.inr c,λj W e=>?_⟩;rcases a0 j W with k|k
   .exact nx _ k _ c e
   .exact N _ (pP.2<|.inr c)<|e▸k
 have e7:(VF.gF s.aN x).length=(VF.i7 s.aN).length:=by rw[<-o.2.1,cy]
 have bb:WR (World.with w (B++oW D s.aN)<|yc D s.aN u) w S0<|holds s.aN++(VF.gF s.aN x).map Prod.snd:=s0.wr.anq λi b c=>by
  rw[yc,List.getElem?_append] at c;have bt:(HE u).length=s.aN.length:=by rw[HE,cy,W]
  split at c
  .rename_i a4;have⟨q1,q2,q3⟩:=a6.root i b c
   grind
  .rename_i a4;rw[bt] at c a4;rw[c_] at c;cases hq:(VF.i7 s.aN)[i-s.aN.length]? with
   | none=>rw[hq] at c;cases c
   | some k=>
     rw[hq] at c;cases c;rw[<-o.2.1,c_] at hq;cases hp:(VF.gF s.aN x)[i-s.aN.length]? with
     | none=>rw[hp] at hq;cases hq
     | some p=>
       rw[hp] at hq;cases hq;have hi:=(aU.1 hp).1;have:=r0 _ p hp;rw[K,show s.aN.length+(i-s.aN.length)=i from by omega] at this;refine⟨by rw[t_,K,cy];omega,this.1,λd hd=>?_⟩;cases hd;exact this.2
 have C:gb (jB s.aN.length)=List.range s.aN.length:=by
  rw[e0,R_];simp
 have b3:∀j,j<s.aN.length->(holds s.aN++(VF.gF s.aN x).map Prod.snd).at j=(holds s.aN).at j:=λj V=>by
  rw[Mem.at,Mem.at,Jt,Jt,cB<|by omega]
 have hR:oS S0 (holds s.aN++(VF.gF s.aN x).map Prod.snd) s.aN (jB s.aN.length) u:=ab.congr λj V fz cs hm=>by
  rw[C] at V;have V:=kS.1 V;exact⟨(o0 j<|by omega).1,cs,by rw[b3 j V];exact hm,rfl⟩
 have⟨S,st,aw⟩:=VF.xq (I:=I) (D:=D) s.aN bb (λb h=>(s0.out.nQ b h).1) hv (dY.1 b1).1 (λb c=>⟨.inr<|pP.2<|.inl c,λk=>N b (pP.2<|.inl c)<|i0 b k⟩) hR (by rw[C];exact List.nodup_range) (λb c j V he=>by
  rw[C];by_cases e6:j<s.aN.length
  .grind
  .have a4:=Mem.jV V;rw[t_,K,cy] at a4;have hi:j-s.aN.length<(VF.gF s.aN x).length:=by omega
   have this:=(r0 (j-s.aN.length) _<|KN hi).1;rw[K,show s.aN.length+(j-s.aN.length)=j from by omega,he] at this;have hm:b∈oW D s.aN:=by rw[<-be];exact dG.2 ⟨_,cZ hi,this.symm⟩
   exact absurd rfl<|nx b c b hm) (λk t y us hm bz=>by
  have⟨i,hi,e⟩:=jk.1 hm;have q:(VF.gF s.aN x)[i]? = some (k,.arr false t y):=by rw[KN hi,e]
  have ql:(VF.i7 s.aN)[i]? = some k:=by rw[<-o.2.1,c_,q];rfl
  rw[a7,List.getElem?_range'<|by omega] at ql;have hk:k=s.aN.length+i:=by have:=Option.some.inj ql;omega
  have⟨t1,t2,t3⟩:=r0 i _ q;rw[K,<-hk] at t1 t2 t3;obtain⟨_,b7,rfl,k1,_,vs,T,fr,k3,_,k5,_⟩:=vP.1 bz;refine bL.2 ⟨_,[],rfl,?_,bw.2 rfl⟩;have bc:(holds s.aN++(VF.gF s.aN x).map Prod.snd).at k=.arr false t y:=by
   rw[Mem.at,Jt,dA<|by omega,K,hk,Nat.add_sub_cancel_left,c_,q];rfl
  rw[CR,bc];exact .inr ⟨t3,b7,by rw[t1,t2],k1,vs,T,fr,by rw[t1];exact k3,by rw[t2];exact k5⟩) b0
 have ba:∀b,S.I b->I b:=λb c=>i0 b<|aw b c;have hP:Fits P E (apo w I D B u s.rp s.aN s.res) (World.with w (B++oW D s.aN)<|yc D s.aN u) I:=⟨O.ti,O.l_,O.kh,O.mixed,λS w' m av y v hW b9 hf hc=>QY W a7 hW b9 (by rw[<-az];exact hf) hc,O.u6,O.u5,O.uY,O.ops,by
  show(yc D s.aN u).length<=E.keep;rw[yc,HE,t_,cy,cy,W];exact ag,λk=>False.elim k⟩
 have ad:=pL hP (Q:=λr=>r=s.fn (x,y)) (f0:=g) n _<|b2 _<|pF hP;have an:eH w S m0 (jB s.aN.length)<|nk u:=by
  refine eH.mono st.out<|eH.mono s0.out ?_;have e1:nk u=(List.range s.aN.length).map λi=>.pointer<|some ⟨(p_ u I).σ i,0,none⟩:=by
   rw[ab.ids,C,nk,gn];exact fj λi _=>by
    simp;rw[<-C,<-ab.ids]
  rw[e1,jB];have:∀l:List Nat,(∀i∈l,i<s.aN.length)->eH w (p_ u I) (holds s.aN) (l.map λi=>AV.ptr i 0) (l.map λi=>.pointer<|some ⟨(p_ u I).σ i,0,none⟩):=by
   intro l
   induction l with
   | nil=>intro _;rfl
   | cons i l ih=>
     intro hh;refine bL.2 ⟨_,_,rfl,?_,ih λj V=>hh j<|aD _ V⟩;rw[CR];rcases vC (i:=i) J with ⟨fs,_,k2⟩|⟨k1,_⟩
     .rw[k2]
     .exact absurd (hh i aJ) (by have:=List.getElem?_eq_none_iff.1 k1;omega)
  exact this _ λi hi=>kS.1 hi
 have ac:eH w S m0 (jB s.aN.length++know ks (ir af s.args y)) (nk u++aa).toArray.toList:=by
  exact an.append<|BA (bm x y a9)<|oA (I:=I) (λb c=>(st.out.nQ b (s0.out.nQ b c).1).1) hy
 have⟨bk,_,bn⟩:=kM hF z ac;have hB:zV g [h0]:=by
  unfold ju at z;cases hbb:F.body with
  | none=>rw[hbb] at z;cases z
  | some b=>
    rw[hbb] at z;simp only at z;split at z
    .cases z;rfl
    .cases z
 have⟨r,v,w',iV,hr,bh,a5,bj,Z⟩:=ad (gP bn) _ _ [] cs w st.wr (λb c=>.inl<|ba b c) ⟨_,_,rfl,bk,rfl⟩ hB;have⟨g1,g2,g3,g4,g5,I',B',g6,gc,g7,g8,g9,b8⟩:=bh;exact⟨.returned v,w',iV,⟨v,rfl,g1,g2,g3,g4,g5,I',B',g6,gc,by rw[<-hr];exact g7,g8,g9,by rw[<-hr];exact b8⟩,a5,bj,Z⟩
end
def apn(w0:World)(I0:Nat->Prop)(B:List Nat)(j:Value)(t:Ty)(res:List Ty)(y:List t.T×Ty.Ts res)(v:Value)(c:World):Prop:=
 c.os=w0.os/\c.tape=w0.tape/\c.output=w0.output/\w0.heap.size<=c.heap.size/\(∀b,b<w0.heap.size->b ∉ B->c.heap[b]? = w0.heap[b]?)/\
  ∃f:Nat->Prop,(∀b,f b->(I0 b\/b∈B\/w0.heap.size<=b)/\b<c.heap.size)/\(∀(b:Nat) (i:Array Value) (T:TypeId) (fr:Nat×Nat),w0.heap[b]? = some (.cells i T fr)->∃(h:Array Value) (o:TypeId) (p:Nat×Nat),c.heap[b]? = some (.cells h o p)/\h.size=i.size)/\
   (∀x:List t.T,y.1.length=x.length->VR w0 I0 (λ_=>(0,0)) (.own t) [j] x B->VR c f (λ_=>(0,0)) (.own t) [j] y.1 B/\∀b∈B,¬f b)/\rL c f res v y.2
def QW{V:World}{w:World}{W:AV}{R:List<|Nat×Option Nat}{v0:Value}{y:List t.T×Ty.Ts res}(hR:∀x:List t.T,VR V I0 (λ_=>(0,0)) (.own t) [v0] x B->B≠ []->∃b d J,R=[(b,some d)]/\B=[b]/\v0=.slice (some ⟨b,d,none⟩) x.length J)
  (u:WR (World.with V B R) w S m) (hI:∀b,S.I b->I0 b\/(World.with V B R).free b) (h:Zs af t res W m=some y) (N:CR w S m W v):apn V I0 B v0 t res y v w:=by
 have f:∀(j:List AV) (C:List Value),kE res j=true->eH w S m j C->(match fL af res m (j.flatMap AV.cells) with
   | none=>none
   | some (m,cs)=>match q9 res cs with
     | some (y,[])=>match m.at 0 with
       | .arr false t' x=>if h:t'.beq t=true then some ((Ty.eq_of_beq h▸x:List t.T),y) else none
       | _=>none
     | _=>none)=some y->∃p:Nat->Prop,(∀b,p b->(I0 b\/b∈B\/V.heap.size<=b)/\b<w.heap.size)/\
   (∀x:List t.T,y.1.length=x.length->VR V I0 (λ_=>(0,0)) (.own t) [v0] x B->VR w p (λ_=>(0,0)) (.own t) [v0] y.1 B/\∀b∈B,¬p b)/\lg w p res C y.2:=by
  intro j C i o h;obtain⟨L,hL,a0⟩:=ox i o;cases hf:fL af res m (j.flatMap AV.cells) with
  | none=>grind
  | some q=>
    obtain⟨m1,a7⟩:=q;rw[hf] at h;simp only at h;obtain⟨S1,O,a9⟩:=g_ u hf hL;cases htd:q9 res a7 with
    | none=>grind
    | some q=>
      obtain⟨z,r⟩:=q;rw[htd] at h;cases r with
      | cons _ _=>cases h
      | nil=>
        simp only at h;obtain⟨u1,u2,e,hx,hr⟩:=nM res htd a9;rw[bw.1 hr,aL] at e;rw[<-e] at hx;cases hm:m1.at 0<;>rw[hm] at h<;>(try simp only at h)<;>(try (cases h;done));rename_i fz t' x';cases fz with
        | true=>cases h
        | false=>
          simp only at h;by_cases D:t'.beq t=true
          .rw[dif_pos D] at h;have ht:=Ty.eq_of_beq D;subst ht;cases h;refine⟨S1.I,λb D=>⟨?_,O.wr.nQ b D⟩,λx hl hv=>?_,a0 _ _ hx⟩
           .rcases O.grows b D with h|h
            .rcases hI b h with h|h
             .grind
             .exact .inr<|h.elim .inr .inl
            .exact .inr<|h.elim .inr .inl
           .have hl:x'.length=x.length:=hl;by_cases ab:B=[]
            .rcases ob.1 hv with ⟨K,A,k3⟩|⟨b',dl,X,A,_⟩
             .exact⟨ob.2<|.inl ⟨df.1<|by simp_all,A,k3⟩,λb D=>by grind⟩
             simp_all
            .obtain⟨b,d,J,q1,q2,q3⟩:=hR x hv ab;obtain⟨_,r1,r2⟩:=O.wr.root 0 (b,some d) (by show R[0]? = _;grind);obtain⟨r2,r3⟩:=r2 d rfl;have Z:=O.wr.box 0;rw[hm] at Z;obtain⟨c1,_,c2⟩:=Z;obtain⟨C,T,fr,c3,c4,c5,c6⟩:=c2 r3;rcases ob.1 hv with ⟨_,K,_⟩|⟨b',dl,X,A,k3,k4,G,ac,T0,a8,k6,k7,k8,_⟩
             .simp_all
             .rw[q3] at k3;simp at k3;obtain⟨⟨p1,p2⟩,_,p4⟩:=k3;have r1:S1.σ 0=b:=r1;obtain⟨ba,T2,b1,d1,d2⟩:=O.wr.cells b ac T0 a8 (by rw[p1];exact k6);rw[r1,d1] at c3;cases c3;refine⟨ob.2<|.inr ⟨b,d,J,q2,by simp_all,by omega,c1,C,T,fr,d1,c4,?_,by simp_all⟩,λc N=>?_⟩
              .simp_all
              .rw[q2] at N;rw[aO.1 N,<-r1];exact O.wr.qT 0 (by rw[hm,rP,r3];rfl) (by rw[hm];rfl)
          simp_all
 refine⟨u.os,u.tape.1,u.output,u.size,λb D hB=>u.base b λk=>k.elim (λk=>absurd k<|lH D) hB,?_⟩;unfold Zs at h
 match res,y,h,f with
 | [],y,h1,f=>
   obtain⟨j,rfl⟩:∃j,W=.yV j:=by grind
   obtain⟨C,rfl,o⟩:=kC.1 N;simp only at h1;split at h1;cases h1;rename_i i;obtain⟨p,K,A,G⟩:=f j C.toList i o h1;exact⟨p,K,u.cells,A,by rw[rL,eG.1 G]⟩
 | [t'],y,h1,f=>
   simp only at h1;split at h1;cases h1;rename_i i;obtain⟨p,K,A,G⟩:=f [W] [v] i (bL.2 ⟨v,[],rfl,N,bw.2 rfl⟩) h1;rw[lg] at G;obtain⟨v',e,G⟩:=G;cases e;exact⟨p,K,u.cells,A,by rw[rL];exact G⟩
 | t'::t2::ts,y,h1,f=>
   obtain⟨j,rfl⟩:∃j,W=.yV j:=by grind
   obtain⟨C,rfl,o⟩:=kC.1 N;simp only at h1;split at h1;cases h1;rename_i i;obtain⟨p,K,A,G⟩:=f j C.toList i o h1;exact⟨p,K,u.cells,A,by rw[rL];simp_all⟩
def WV{w:World}{x:List t.T}(J:∀b,I b->b<w.heap.size)(hv:VR w I (λ_=>(0,0)) (.own t) [v] x B)(hB:∀b∈B,¬I b):
  ∃(S:St) (R:List (Nat×Option Nat)),R.length<=1/\S.I=I/\WR (World.with w B R) w S [.arr false t x]/\CR w S [.arr false t x] (.own 0) v/\∀y:List t.T,VR w I (λ_=>(0,0)) (.own t) [v] y B->B≠ []->∃b d o,R=[(b,some d)]/\B=[b]/\v=.slice (some ⟨b,d,none⟩) y.length o:=by
 have a8:∀j,j≠0->Mem.at [iN.arr false t x] j=.bY:=λj hj=>by
  cases j with
  | zero=>omega
  | succ j=>rfl
 rcases ob.1 hv with ⟨hx,rfl,a,e⟩|⟨b,p,o,rfl,e,D,W,O,T,fr,u,X,G,Z⟩
 .subst hx;simp at e;subst e;have z:∀j,St.lv {σ:=λ_=>0,δ:=λ_=>0,vd:=λ_=>true,I:=I} j (Mem.at [iN.arr false t ([]:List t.T)] j)=true->False:=λj h=>by
   cases j with
   | zero=>cases h
   | succ j=>cases h
  refine⟨{σ:=λ_=>0,δ:=λ_=>0,vd:=λ_=>true,I:=I},[],by decide,rfl,⟨rfl,⟨rfl,λ_=>ai _⟩,rfl,ai _,λ_ _=>rfl,J,λj=>?_,λi j h=>(z i h).elim,λi h=>(z i h).elim,λi h=>(z i h).elim,λi h=>?_,λi b h=>?_,λb A T fr h=>⟨A,T,fr,h,rfl⟩⟩,?_,λy K a3=>?_⟩
  .cases j with
   | zero=>exact⟨aM _,λ_=>rfl,λh=>by cases h⟩
   | succ j=>trivial
  .cases i with
   | zero=>cases h
   | succ i=>cases h
  .have h:([]:List (Nat×Option Nat))[i]? = some b:=h
   grind
  .rw[CR];exact .inl ⟨rfl,rfl,a,rfl⟩
  simp_all
 .simp at e;subst e;have f:∀j,St.lv {σ:=λ_=>b,δ:=λ_=>p,vd:=λ_=>false,I:=I} j (Mem.at [iN.arr false t x] j)=true->j=0:=λj h=>by
   cases j with
   | zero=>rfl
   | succ j=>cases h
  refine⟨{σ:=λ_=>b,δ:=λ_=>p,vd:=λ_=>false,I:=I},[(b,some p)],ai 1,rfl,⟨rfl,⟨rfl,λ_=>ai _⟩,rfl,ai _,λ_ _=>rfl,J,λj=>?_,λi j k1 N _=>(f i k1).trans (f j N).symm,λi _=>⟨.inr (.inr (aO.2 rfl)),yD u⟩,λi _ _=>hB b (aO.2 rfl),λi h=>?_,λi c h=>?_,λb A T fr h=>⟨A,T,fr,h,rfl⟩⟩,?_,λy K a4=>?_⟩
  .cases j with
   | zero=>exact⟨W,λh=>(by cases h),λ_=>⟨O,T,fr,u,X,bd (fN (aI _ D) _) G,Z⟩⟩
   | succ j=>trivial
  .cases i with
   | zero=>simp_all;cases h
   | succ i=>cases h
  .have h:[(b,some p)][i]? = some c:=h
   grind
  .rw[CR];exact .inr ⟨rfl,o,rfl,D,O,T,fr,u,G⟩
  .rcases ob.1 K with ⟨_,k,_⟩|⟨b',V,C,k,N,_⟩
   all_goals grind
theorem Ui{w:World}{S:St}{m:Mem}:∀{fs:List FuncId},eH w S m (fs.map λf=>.fn f [] [])<|fnV fs
 | []=>bw.2 rfl
 | f::fs=>bL.2 ⟨_,_,rfl,vo.2 ⟨#[],#[],rfl,bw.2 rfl,bw.2 rfl⟩,Ui⟩
section
variable {P:Program}
def Kb{s:gg}{E:kD<|List s.elem.T×Ty.Ts s.res}(i:Base P E)(ag:E.fin=Zs af s.elem s.res)(D:1<=E.keep)(hg:look E.l_ g=some F)(p:F.body.isSome=true)(n:Nat)
  (J:∀x y,s.pre (x,y)=true->Ty.has (.slice s.elem) x->Ty.lC s.args y->(s.fn (x,y)).1.length=x.length)
  (h:∀x y,s.pre (x,y)=true->Ty.has (.slice s.elem) x->Ty.lC s.args y->∃K,ju g F (zv s.xh (.own 0)<|ir af s.args y++s.l_.map λf=>.fn f [] [])=some K/\∀G,Closed E (λr=>r=s.fn (x,y)) G->Tr.Ok (λr=>r=s.fn (x,y)) G (run af E n {bG:=[K],mem:=[.arr false s.elem x]})):s.bI P g:=by
 have⟨hF,hn⟩:=i.l_ g F hg;refine⟨λw I x y v aa B hI hv N hy u cs=>?_,F,hF,p,hn⟩;have hx:Ty.has (.slice s.elem) x:=VR.has (.own s.elem) hv;have⟨K,c,a6⟩:=h x y u hx hy.has;have⟨S,R,V,W,X,Z,hR⟩:=WV hI hv N;have hP:Fits P E (apn w I B v s.elem s.res) (World.with w B R) I:=⟨i.ti,i.l_,i.kh,i.mixed,λS w' m av y v X O hf hc=>QW hR X O (by simp_all) hc,i.u6,i.u5,i.uY,i.ops,bd V D,λk=>False.elim k⟩;have C:=pL hP (Q:=λr=>r=s.fn (x,y)) (f0:=g) n _<|a6 _<|pF hP
 have A:eH w S [.arr false s.elem x] (zv s.xh (.own 0)<|ir af s.args y++s.l_.map λf=>.fn f [] []) (zv s.xh v<|aa++fnV s.l_).toArray.toList:=
  Xg Z ((oA (I:=I) (λb p=>by rw[W];exact p) hy).append Ui)
 have⟨a4,_,a5⟩:=kM hF c A;have hB:zV g [K]:=by
  unfold ju at c;cases hbb:F.body with
  | none=>simp_all
  | some b=>
    rw[hbb] at c;simp only at c;split at c
    .cases c;rfl
    .cases c
 have⟨r,z,w',iV,hr,a0,o,a3,j⟩:=C (gP a5) _ _ [] cs w X (λb p=>.inl<|by simp_all) ⟨_,_,rfl,a4,rfl⟩ hB;have⟨g1,g2,g3,g4,g5,I',g6,gc,g7,g8⟩:=a0;rw[hr] at g7 g8;have⟨k1,k2⟩:=g7 x (J x y u hx hy.has) hv;exact⟨.returned z,w',iV,⟨z,rfl,g1,g2,g3,g4,g5,I',λb p=>⟨(g6 b p).1.elim .inl λk=>k.elim (λk=>absurd p<|k2 b k) .inr,(g6 b p).2⟩,gc,k1,g8⟩,o,a3,j⟩
def apq(w0:World)(I0:Nat->Prop)(f:VF)(h:Bool)(res:List Ty)(y:Bool×f.ty.T×Ty.Ts res)(v:Value)(c:World):Prop:=
 c.os=w0.os/\c.tape=w0.tape/\c.output=w0.output/\w0.heap.size<=c.heap.size/\(∀b,b<w0.heap.size->c.heap[b]? = w0.heap[b]?)/\ad2 w0 c I0 f h res v y
def QZ{J:World}{w:World}{V:AV}{f:VF}{i:Bool}{y:Bool×f.ty.T×Ty.Ts res}(C:WR (World.whole J) w S m)(hI:∀b,S.I b->I0 b\/(World.whole J).free b)(h:Zt af f i res V m=some y)(hc:CR w S m V v):apq J I0 f i res y v w:=by
 refine⟨C.os,C.tape.1,C.output,C.size,λb p=>C.base b λk=>absurd (pj k)<|lH p,?_⟩
 have c:∀(a:AV) (o:List AV) (u:Value) (B:List Value),CR w S m a u->eH w S m o B->v=anr (u::B)->(match kE res o with
  | false=>none
  | true=>match fL af res m (o.flatMap AV.cells) with
    | none=>none
    | some (m,cs)=>match q9 res cs with
      | some (y,[])=>match (generalizing:=false) i,a with
        | true,.jX=>some (false,Ty.gy f.ty,y)
        | _,v=>match VF.read m f [v] with
          | some (x,ids,[])=>match og ids&&f.Hl.isEmpty with
            | true=>some (true,x,y)
            | false=>none
          | _=>none
      | _=>none:Option<|Bool×f.ty.T×Ty.Ts res)=some y->ad2 J w I0 f i res v y:=by
  intro a o u B N a7 hv h;split at h
  simp_all
  rename_i a5;have⟨L,hL,A⟩:=ox a5 a7;cases hf:fL af res m (o.flatMap AV.cells) with
  | none=>grind
  | some q=>
    have⟨m1,X⟩:=q;rw[hf] at h;simp only at h;have⟨O,G,a0⟩:=g_ C hf hL;cases htd:q9 res X with
    | none=>grind
    | some q=>
      have⟨z,r⟩:=q;rw[htd] at h;cases r with
      | cons _ _=>cases h
      | nil=>
        have⟨u1,u2,e,hx,W⟩:=nM res htd a0;have a6:=bw.1 W;rw[a6,aL] at e;rw[<-e] at hx;have K:∀b,O.I b->I0 b\/(J.heap.size<=b/\b<w.heap.size):=λb p=>by
         rcases G.grows b p with h|h
         .rcases hI b h with h|h
          .grind
          .exact .inr ⟨pj h,G.wr.nQ b p⟩
         .exact .inr ⟨pj h,G.wr.nQ b p⟩
        have Z:=N.mono G.out
        have rd:(match VF.read m1 f [a] with
          | some (x,ids,[])=>match og ids&&f.Hl.isEmpty with
            | true=>some (true,x,z)
            | false=>none
          | _=>none:Option<|Bool×f.ty.T×Ty.Ts res)=some y->ad2 J w I0 f i res v y:=by
         intro h;cases hrd:VF.read m1 f [a] with
         | none=>grind
         | some q=>
           have⟨x',ids,r⟩:=q;rw[hrd] at h;cases r with
           | cons _ _=>cases h
           | nil=>
             simp only at h;split at h
             rotate_left
             cases h;rename_i hn;cases h;rw[fZ] at hn;have b6:VF.fx m1 f [a]=[]:=by
              have:=(Mi f hrd).1
              simp_all
             have⟨b9,ba,js,e,h2,h3,h4,_,h6⟩:=VF.wv (D:=λ_=>(0,0)) G.wr f hrd (by simp_all)<|bL.2 ⟨u,[],rfl,Z,bw.2 rfl⟩;rw[bw.1 h2,aL] at e;rw[<-e] at h6;have⟨b1,b2,b3,b4⟩:=wj G.wr (by have:=h3.2<|pI hn.1;simp_all) (λj hj=>h3.1 j<|pP.2<|.inl hj) λj hj=>h4 j<|pP.2<|.inl hj;refine⟨O.I,λ_=>(0,0),js.map O.σ,u,B,hv,K,.inr ⟨λ_=>rfl,h6,b1,λb p=>⟨pj<|b3 b p,b2 b p⟩⟩,A _ z hx⟩
        cases i with
        | false=>grind
        | true=>
          cases a<;>first|exact rd h|(cases h;rw[CR] at N;exact⟨O.I,λ_=>(0,0),[],u,B,hv,K,.inl ⟨rfl,rfl,N⟩,A _ z hx⟩)
 unfold Zt at h
 match res,y,h,c with
 | [],y,h1,c=>exact c V [] v [] hc (bw.2 rfl) rfl h1
 | t::ts,y,h1,c=>
   obtain⟨o,rfl⟩:∃o,V=.yV o:=by grind
   obtain⟨B,rfl,a3⟩:=kC.1 hc;cases o with
   | nil=>grind
   | cons a o=>
     have⟨u,iM,e,N,W⟩:=bL.1 a3;have ae:iM≠ []:=by
      rintro rfl
      cases o with
      | nil=>simp only at h1;rw[show kE (t::ts) ([]:List AV)=false from rfl] at h1;grind
      | cons b o=>have⟨_,_,e,_⟩:=bL.1 W;cases e
     refine c a o u iM N W ?_ h1;rw[<-lV (xs:=B),e];cases iM with
     | nil=>simp_all
     | cons _ _=>rfl
def Kd{s:pn}{E:kD<|Bool×s.out.ty.T×Ty.Ts s.res}(f:Base P E)(X:E.fin=Zt af s.out s.opt s.res)(hg:look E.l_ g=some F)(u:F.body.isSome=true)(n:Nat)
  (h:∀x,s.pre x=true->Ty.lC s.args x->∃A,ju g F (ir af s.args x)=some A/\∀G,Closed E (λy=>y=s.fn x) G->Tr.Ok (λy=>y=s.fn x) G (run af E n {bG:=[A],mem:=[]})):s.bI P g:=by
 have⟨V,hn⟩:=f.l_ g F hg;refine⟨λw I x aa hI o z cs=>?_,F,V,u,hn⟩;have⟨A,c,O⟩:=h x z o.has;have W:Fits P E (apq w I s.out s.opt s.res) (World.whole w) I:=⟨f.ti,f.l_,f.kh,f.mixed,λS Z m av y v C B hf hc=>QZ C B (by simp_all) hc,f.u6,f.u5,f.uY,f.ops,aM _,λk=>False.elim k⟩;have p:=pL W (Q:=λy=>y=s.fn x) (f0:=g) n _<|O _<|pF W;have C:=IP hI;have⟨K,_,N⟩:=kM V c<|oA (S:={σ:=λ_=>0,δ:=λ_=>0,vd:=λ_=>false,I:=I}) (m:=[]) (λb u=>u) o;have hB:zV g [A]:=by
  unfold ju at c;cases hbb:F.body with
  | none=>grind
  | some b=>
    rw[hbb] at c;simp only at c;split at c
    .cases c;rfl
    grind
 have⟨y,v,Z,iV,hy,D,j,J,i⟩:=p (gP N) _ _ [] cs w C (λb u=>.inl u) ⟨_,_,rfl,K,rfl⟩ hB;have⟨g1,g2,g3,g4,g5,g6⟩:=D;exact⟨.returned v,Z,iV,⟨v,rfl,g1,g2,g3,g4,g5,by grind⟩,j,J,i⟩
end
end Go.Ev
namespace Go.Ev
inductive LT (R Y:Type) where|ret(r:R)|ak(y:Y)|br(b:Bool)(t e:LT R Y)|ao(b:Bool)(t:LT R Y)|eqs(p:Prop)(t:LT R Y)|and(a b:LT R Y)|bY(n:Nat)(pos:String)
def LT.tr{R Y:Type}(c:Y->gY):LT R Y->Tr R
 | .ret r=>.ret r
 | .ak y=>.ak<|c y
 | .br b t e=>.br b (t.tr c)<|e.tr c
 | .ao b t=>.ao b<|t.tr c
 | .eqs p t=>.eqs p<|t.tr c
 | .and a b=>.and (a.tr c)<|b.tr c
 | .bY n s=>.bY n s
def Tr.full{R:Type}:Tr R->Tr R
 | .br b t e=>.br b t.full e.full
 | .ao b t=>.ao b t.full
 | .eqs p t=>.eqs p t.full
 | .same l r t=>.eqs (o9 l r) t.full
 | .and _ _=>.bY 182 ""
 | t=>t
def AV.alike:AV->AV->Bool
 | .bool c _,.bool d _=>c==d
 | .int _ c _,.int _ d _=>c==d
 | _,_=>true
def Tr.jf{R:Type}(w:Bool):Tr R->Tr R
 | .br b t e=>.br b (t.jf w)<|e.jf w
 | .ao b t=>.ao b<|t.jf w
 | .eqs p t=>.eqs p<|t.jf w
 | .same l r t=>match l.alike r with
   | true=>t.jf w
   | false=>.eqs (o9 l r)<|t.jf w
 | .and a b=>match w with
   | true=>.and (a.jf w)<|b.jf w
   | false=>a.jf w
 | t=>t
def Tr.rK{R:Type}(w:Bool):Tr R->Tr R
 | .br b t e=>.br b (t.rK w)<|e.rK w
 | .ao b t=>.ao b<|t.rK w
 | .eqs p t=>.eqs p<|t.rK w
 | .same l r t=>match l.alike r with
   | true=>t.rK w
   | false=>.eqs (o9 l r)<|t.rK w
 | .and a b=>match w with
   | true=>.and (a.rK w)<|b.rK w
   | false=>a.rK w
 | t=>t
theorem Tr.qq{R:Type}{w:Bool}:∀{t:Tr R},t.rK w=t.jf w
 | .ret _ | .ak _ | .bY _ _=>rfl
 | .br _ t e=>by rw[Tr.rK,Tr.jf,Tr.qq (t:=t),Tr.qq (t:=e)]
 | .ao _ t=>by rw[Tr.rK,Tr.jf,Tr.qq (t:=t)]
 | .eqs _ t=>by rw[Tr.rK,Tr.jf,Tr.qq (t:=t)]
 | .same l r t=>by rw[Tr.rK,Tr.jf,Tr.qq (t:=t)]
 | .and a b=>by cases w<;>simp[Tr.rK,Tr.jf,Tr.qq (t:=a),Tr.qq (t:=b)]
def Tr.lefts{R:Type}(w:Bool):Tr R->List (Sum AV (Tr R))->List (Sum AV (Tr R))
 | .br _ t e,k=>t.lefts w (e.lefts w k)
 | .ao _ t,k=>t.lefts w k
 | .eqs _ t,k=>t.lefts w k
 | .same l r t,k=>match l.alike r with
   | true=>.inl l::t.lefts w k
   | false=>t.lefts w k
 | .and a b,k=>match w with
   | true=>a.lefts w (b.lefts w k)
   | false=>.inr (a.jf w)::a.lefts w (b.lefts w k)
 | _,k=>k
def Tr.o8{R:Type}(w:Bool):Tr R->List (Sum AV (Tr R))->List (Sum AV (Tr R))
 | .br _ t e,k=>t.o8 w (e.o8 w k)
 | .ao _ t,k=>t.o8 w k
 | .eqs _ t,k=>t.o8 w k
 | .same l r t,k=>match l.alike r with
   | true=>.inl r::t.o8 w k
   | false=>t.o8 w k
 | .and a b,k=>match w with
   | true=>a.o8 w (b.o8 w k)
   | false=>.inr (b.rK w)::a.o8 w (b.o8 w k)
 | _,k=>k
theorem Tr.yy{R:Type}{Q:R->Prop}{G:gY->Prop}:∀{t:Tr R},Tr.Ok Q G t.full->Tr.Ok Q G t
 | .ret _,h | .ak _,h | .bY _ _,h=>h
 | .br _ t e,h=>⟨λk=>Tr.yy (t:=t)<|h.1 k,λk=>Tr.yy (t:=e)<|h.2 k⟩
 | .ao _ t,h=>⟨h.1,Tr.yy (t:=t) h.2⟩
 | .eqs _ t,h=>⟨h.1,Tr.yy (t:=t) h.2⟩
 | .same _ _ t,h=>⟨h.1,Tr.yy (t:=t) h.2⟩
 | .and _ _,h=>h.elim
theorem Tr.oR{R:Type}{w:Bool}{Q:R->Prop}{G:gY->Prop}:∀{t:Tr R} {k i:List (Sum AV (Tr R))},t.lefts w k=t.o8 w i->k=i/\(Tr.Ok Q G (t.jf w)->Tr.Ok Q G t)
 | .ret _,_,_,h | .ak _,_,_,h | .bY _ _,_,_,h=>⟨h,λx=>x⟩
 | .br _ t e,_,_,h=>by
   obtain⟨d,c⟩:=Tr.oR (t:=t) h;obtain⟨g,f⟩:=Tr.oR (t:=e) d;exact⟨g,λx=>⟨λk=>c (x.1 k),λk=>f (x.2 k)⟩⟩
 | .ao _ t,_,_,h=>by
   obtain⟨d,c⟩:=Tr.oR (t:=t) h;exact⟨d,λx=>⟨x.1,c x.2⟩⟩
 | .eqs _ t,_,_,h=>by
   obtain⟨d,c⟩:=Tr.oR (t:=t) h;exact⟨d,λx=>⟨x.1,c x.2⟩⟩
 | .same l r t,_,_,h=>by
   simp[Tr.lefts,Tr.o8] at h;simp only[Tr.jf];cases j:l.alike r with
   | true=>
     rw[j] at h;simp at h;obtain⟨d,c⟩:=Tr.oR (t:=t) h.2;exact⟨d,λx=>⟨h.1▸Ew l,c x⟩⟩
   | false=>
     rw[j] at h;obtain⟨d,c⟩:=Tr.oR (t:=t) h;exact⟨d,λx=>⟨x.1,c x.2⟩⟩
 | .and a b,_,_,h=>by
   cases w
   .simp[Tr.lefts,Tr.o8,Tr.qq] at h;obtain⟨d,c⟩:=Tr.oR (t:=a) h.2;obtain⟨g,f⟩:=Tr.oR (t:=b) d;exact⟨g,λx=>⟨c x,f (h.1▸x)⟩⟩
   .obtain⟨d,c⟩:=Tr.oR (t:=a) h;obtain⟨g,f⟩:=Tr.oR (t:=b) d;exact⟨g,λx=>⟨c x.1,f x.2⟩⟩
def kn(l:List<|Bool×Bool)(k:Nat):Bool×Bool:=l.getD k (true,true)
def aid{l:List<|Bool×Bool}(h:∀p∈l,p.1=p.2)(k:Nat):(kn l k).1=(kn l k).2:=by
 unfold kn
 grind
def Tr.cut{R:Type}:List Nat->List (Bool×Bool)->Tr R->(List Nat×Tr R)×List (Bool×Bool)
 | n::c,ks,.ao b t=>match n with
   | 0=>match t.cut c ((b,true)::ks) with|((c,t),l)=>((c,.ao b t),l)
   | k+1=>match t.cut c ks with|(r,l)=>(r,((kn ks k).2,true)::(b,(kn ks k).1)::l)
 | n::c,ks,.br b t e=>match n with
   | 0=>match t.cut c ((b,true)::ks) with|((c,t),l)=>match e.cut c ((b,false)::ks) with|((c,e),f)=>((c,.br b t e),l++f)
   | k+1=>match (kn ks k).2 with
     | true=>match t.cut c ks with|(r,l)=>(r,(b,(kn ks k).1)::l)
     | false=>match e.cut c ks with|(r,l)=>(r,(b,(kn ks k).1)::l)
 | c,ks,.eqs p t=>match t.cut c ks with|((c,t),l)=>((c,.eqs p t),l)
 | c,_,t=>((c,t),[])
theorem Tr.xw{R:Type}{Q:R->Prop}{G:gY->Prop}:∀{t:Tr R} {o:List Nat} {i:List<|Bool×Bool},(∀p∈i,p.1=p.2)->(∀p∈(t.cut o i).2,p.1=p.2)->Tr.Ok Q G (t.cut o i).1.2->Tr.Ok Q G t
 | .ret _,o,i,_,_,h | .ak _,o,i,_,_,h | .bY _ _,o,i,_,_,h | .same _ _ _,o,i,_,_,h | .and _ _,o,i,_,_,h=>by cases o<;>exact h
 | .eqs p t,o,i,a,b,h=>by
   cases o<;>exact⟨h.1,Tr.xw a b h.2⟩
 | .ao b t,[],i,_,_,h=>h
 | .ao b t,n::o,i,a,c,h=>by
   match n with
   | 0=>exact⟨h.1,Tr.xw (λp f=>(aF.1 f).elim (λe=>e▸h.1)<|a p) c h.2⟩
   | k+1=>exact⟨(c _<|aD _<|aJ ..).trans<|(aid a k).trans<|c _<|aJ ..,Tr.xw a (λp f=>c p<|aD _<|aD _ f) h⟩
 | .br b t e,[],i,_,_,h=>h
 | .br b t e,n::o,i,a,c,h=>by
   match n with
   | 0=>
     exact⟨λj=>Tr.xw (λp f=>(aF.1 f).elim (λe=>e▸j)<|a p) (λp f=>c p<|List.mem_append_left _ f)<|h.1 j,λj=>Tr.xw (λp f=>(aF.1 f).elim (λe=>e▸j)<|a p) (λp f=>c p<|List.mem_append_right _ f)<|h.2 j⟩
   | k+1=>
     rw[Tr.cut] at c h;have v:=aid a k;cases e:(kn i k).2<;>rw[e] at c h v
     .have u:b=false:=(c _<|aJ ..).trans v;exact⟨λj=>absurd (u.symm.trans j) nofun,λ_=>Tr.xw a (λp f=>c p<|aD _ f) h⟩
     .have u:b=true:=(c _<|aJ ..).trans v;exact⟨λ_=>Tr.xw a (λp f=>c p<|aD _ f) h,λj=>absurd (u.symm.trans j) nofun⟩
inductive Md where|full|jf(hs:List Nat)|wide
abbrev sl:Md:=.jf []
def Tr.L{R:Type}(t:Tr R):Md->Tr R×List Bool×List (Sum AV<|Tr R)
 | .full=>(t.full,[],[])
 | .jf hs=>(((t.jf false).cut hs []).1.2,((t.jf false).cut hs []).2.map Prod.fst,t.lefts false [])
 | .wide=>(t.jf true,[],t.lefts true [])
def Tr.M{R:Type}(t u:Tr R):Md->Tr R×List Bool×List (Sum AV<|Tr R)
 | .full=>(u,[],[])
 | .jf hs=>(u,((t.rK false).cut hs []).2.map Prod.snd,t.o8 false [])
 | .wide=>(u,[],t.o8 true [])
theorem Pb:∀{l:List<|Bool×Bool},l.map Prod.fst=l.map Prod.snd->∀p∈l,p.1=p.2
 | _::l,h,p,hp=>by
   cases hp with
   | head=>simp_all
   | tail _ hp=>exact Pb (List.cons.inj h).2 p hp
variable{G:gY->Prop}{q:Md}
def Tr.aib{R:Type}{Q:R->Prop}{t u:Tr R}(h:t.L q=t.M u q)(a:Tr.Ok Q G u):Tr.Ok Q G t:=by
 cases q with
 | full=>rw[<-(Prod.mk.inj h).1] at a;exact Tr.yy a
 | jf hs=>
   have c:=(Prod.mk.inj h).2;rw[<-(Prod.mk.inj h).1] at a;have f:=(Prod.mk.inj c).1;rw[Tr.qq] at f;exact(Tr.oR (Prod.mk.inj c).2).2 (Tr.xw (λ_ k=>absurd k aC) (Pb f) a)
 | wide=>
   rw[<-(Prod.mk.inj h).1] at a;exact(Tr.oR (Prod.mk.inj (Prod.mk.inj h).2).2).2 a
inductive aV {R Y:Type} (step:Y->LT R Y):LT R Y->R->Prop where
 | ret (r:R):aV step (.ret r) r
 | ak {y:Y} {r:R} (h:aV step (step y) r):aV step (.ak y) r
 | br {b:Bool} {t e:LT R Y} {r:R} (h:aV step (bif b then t else e) r):aV step (.br b t e) r
 | ao {b:Bool} {t:LT R Y} {r:R} (hb:b=true) (h:aV step t r):aV step (.ao b t) r
 | eqs {p:Prop} {t:LT R Y} {r:R} (hp:p) (h:aV step t r):aV step (.eqs p t) r
 | and {a b:LT R Y} {r:R} (h1:aV step a r) (h2:aV step b r):aV step (.and a b) r
variable{b:Bool}
section
variable {R Y:Type} {step:Y->LT R Y} {r:R}
def lW{a:R}:aV step (.ret a) r↔a=r:=⟨λh=>by cases h;rfl,λh=>by rw[h];exact .ret r⟩
def aG{y:Y}:aV step (.ak y) r↔aV step (step y) r:=⟨λh=>by cases h;omega,.ak⟩
theorem yS{t e:LT R Y}:aV step (.br b t e) r↔aV step (bif b then t else e) r:=⟨λh=>by cases h;omega,.br⟩
def au{t:LT R Y}:aV step (.ao b t) r↔b=true/\aV step t r:=⟨λh=>by cases h;grind,λh=>.ao h.1 h.2⟩
def yd{p:Prop}{t:LT R Y}:aV step (.eqs p t) r↔p/\aV step t r:=⟨λh=>by cases h;grind,λh=>.eqs h.1 h.2⟩
def ar{t e:LT R Y}(a:b=true):aV step (.br b t e) r↔aV step t r:=by grind [yS]
def ap{t e:LT R Y}(a:b=false):aV step (.br b t e) r↔aV step e r:=by grind [yS]
end
def agr{R Y:Type}{E:kD R}{Q:R->Prop}{f:Y->gY}{step:Y->LT R Y}(d:∀y,∃n q,(run af E n (advance E.kh (f y))).L q=(run af E n (advance E.kh (f y))).M ((step y).tr f) q)(l:Closed E Q G){t:LT R Y}{r:R}(h:aV step t r)(a:Q r):Tr.Ok Q G (t.tr f):=by
 induction h with
 | ret r=>exact a
 | ak h c=>
   rename_i y _;obtain⟨n,q,m⟩:=d y;exact l.go n _ (Tr.aib m (c a))
 | br h c=>
   rename_i b t e _;cases b with
   | true=>exact⟨λ_=>c a,λh=>(by cases h)⟩
   | false=>exact⟨λh=>(by cases h),λ_=>c a⟩
 | ao k h c=>exact⟨k,c a⟩
 | eqs j h c=>exact⟨j,c a⟩
 | and p o g i=>exact⟨g a,i a⟩
variable{F:Func}{g:FuncId}
def Oo{aa:List AV}(f:F.body.isSome=true)(d:aa.length<=F.ntmps)(a:F.ntmps<=65535):∃c,ju g F aa=some c:=by
 unfold ju;cases e:F.body with
 | none=>simp_all
 | some b=>
   simp_all [Nat.ble_eq_true_of_le]
theorem mr:∀{c:List Ty} {x:Ty.Ts c},(ir af c x).length=c.length
 | [],_=>rfl
 | [_],_=>rfl
 | t::t2::c,x=>by
   rw[ir,bp,mr];rfl
abbrev ui{R Y:Type}(E:aS->kD R)(step:aS->Y->LT R Y)(c:Y->gY):Prop:=∀A y,∃n q,(run A (E A) n<|advance (E A).kh<|c y).L q=(run A (E A) n<|advance (E A).kh<|c y).M ((step A y).tr c) q
abbrev uO{R Y X:Type}(q:Md)(n:Nat)(E:aS->kD R)(h:aS->X->gY)(f:aS->X->LT R Y)(c:Y->gY):Prop:=∀A x,(run A (E A) n<|h A x).L q=(run A (E A) n<|h A x).M ((f A x).tr c) q
def fits(F:Func)(k:Nat):Bool:=F.body.isSome&&(Nat.ble k F.ntmps&&Nat.ble F.ntmps 65535)
def fits.body{k:Nat}(h:fits F k=true):F.body.isSome=true:=((fZ _ _).mp h).1
def go_ok{R Y X:Type}{E:aS->kD R}{i:List AV}{m:Mem}{n k:Nat}{f:aS->X->LT R Y}{step:aS->Y->LT R Y}{h:aS->X->gY}{c:Y->gY}{r:R}{x:X}(p:fits F k=true)(u:i.length=k)
  (z:ui E step c) (j:uO q n E h f c) (e:h af x=tW g F i m) (v:aV (step af) (f af x) r) :
  ∃h,ju g F i=some h/\∀G,Closed (E af) (λy=>y=r) G->Tr.Ok (λy=>y=r) G (run af (E af) n {bG:=[h],mem:=m}):=by
 have o:=((fZ _ _).mp p).2;rw[fZ] at o;have⟨h,d⟩:=Oo (g:=g) (aa:=i) (fits.body p) (u▸KX o.1)<|KX o.2;refine⟨h,d,λG l=>?_⟩;have j:=j af x;rw[e,tW,d] at j;exact Tr.aib j<|agr (z af) l v rfl
def tt{α:Type}:α->Bool:=λ_=>true
abbrev aK.all(args res:List Ty)(fn:Ty.Ts args->Ty.Ts res):aK:=⟨args,res,tt,fn,true⟩
abbrev cH.all(c:List VF)(args res:List Ty)(fn:Ty.Ts (VF.iq c)×Ty.Ts args->Ty.Ts (VF.iq c)×Ty.Ts res)(f:Bool):cH:=⟨c,args,res,tt,fn,f,true⟩
variable{P:Program}{args res:List Ty}
def fa{fn:Ty.Ts args->Ty.Ts res}(h:aK.bI P g ⟨args,res,tt,fn,false⟩):aK.bI P g<|.all args res fn:=⟨h.calls,λ_ _=>rfl,h.body⟩
def fd{fn:Ty.Ts args->Ty.Ts res}(h:aK.oT P g ⟨args,res,tt,fn,false⟩/\aK.bI P g ⟨args,res,tt,fn,false⟩):aK.oT P g (.all args res fn)/\aK.bI P g (.all args res fn):=⟨h.1,fa h.2⟩
def ma{c:List VF}{fn:Ty.Ts (VF.iq c)×Ty.Ts args->Ty.Ts (VF.iq c)×Ty.Ts res}{f:Bool}(h:cH.bI P g ⟨c,args,res,tt,fn,f,false⟩):cH.bI P g<|.all c args res fn f:=⟨h.calls,h.keep,λ_ _=>rfl,h.body⟩
def aK.bI.congr{pre b:Ty.Ts args->Bool}{fn c:Ty.Ts args->Ty.Ts res}(h:aK.bI P g ⟨args,res,pre,fn,false⟩)
  (e:∀x,b x=true->Ty.lC args x->pre x=true/\fn x=c x):aK.bI P g ⟨args,res,b,c,false⟩:=by
 refine⟨λw I x o f a d=>?_,nofun,h.body⟩;have⟨i,j⟩:=e x d a.has;have:=h.calls w I x o f a i
 grind
def Pg{R:Type}(f:AV->Mem->Option R)(c:Nat)(ops:List<|FuncId×pn)(uY:List<|FuncId×gg)(u5:List<|FuncId×cH)(u6:List<|FuncId×qG)(ti:PT TI)(l_:List<|FuncId×Func)(kh:List<|FuncId×aK)(stops qD:List Stop):kD R:=⟨ti,l_,kh,stops,qD,f,u6,u5,c,uY,ops⟩
def zp{S:Type}(ok:FuncId->S->Prop)(l:List<|FuncId×S):Prop:=∀g s,look l g=some s->ok g s
variable{S:Type}
def all_nil{ok:FuncId->S->Prop}:zp ok []:=λ_ _ h=>by cases h
variable{f:FuncId}
def all_cons{ok:FuncId->S->Prop}{s:S}{l:List<|FuncId×S}(c:ok f s)(h:zp ok l):zp ok<|(f,s)::l:=λg b a=>by
 rw[look] at a;by_cases e:f=g
 .simp_all
 .rw[gJ.2 e] at a;exact h g b a
variable{h:List VF}{l:List (FuncId×aK)}{p:Bool}{s:aK}
section
variable {P:Program}
abbrev Kk(P:Program)(l:List<|FuncId×Func):Prop:=zp (λg F=>P.funcs[g]? = some F/\(F.name == "runtime.NumGoroutine")=false) l
abbrev Of(P:Program)(l:List<|FuncId×aK):Prop:=zp (λg s=>aK.bI P g s) l
abbrev Tj(P:Program)(l:List<|FuncId×qG):Prop:=zp (λg s=>qG.bI P g s) l
abbrev Td(P:Program)(l:List<|FuncId×cH):Prop:=zp (λg s=>cH.bI P g s) l
abbrev Tc(P:Program)(l:List<|FuncId×gg):Prop:=zp (λg s=>gg.bI P g s) l
abbrev Te(P:Program)(l:List<|FuncId×pn):Prop:=zp (λg s=>pn.bI P g s) l
abbrev Ly(P:Program)(l:List<|FuncId×aK):Prop:=zp (λg s=>aK.oT P g s/\aK.bI P g s) l
def oz:Te P []:=all_nil
def oc{s:pn}{l:List<|FuncId×pn}:s.bI P f->Te P l->Te P ((f,s)::l):=all_cons
def szD:Ly P []:=all_nil
def scD:s.oT P f/\s.bI P f->Ly P l->Ly P ((f,s)::l):=λa h=>all_cons a h
def iz:Tc P []:=all_nil
def ic{s:gg}{l:List<|FuncId×gg}:s.bI P f->Tc P l->Tc P ((f,s)::l):=all_cons
def mz:Td P []:=all_nil
def mc{s:cH}{l:List<|FuncId×cH}:s.bI P f->Td P l->Td P ((f,s)::l):=all_cons
def pz:Tj P []:=all_nil
def pc{s:qG}{l:List<|FuncId×qG}:s.bI P f->Tj P l->Tj P ((f,s)::l):=all_cons
def fz:Kk P []:=all_nil
def fc{l:List<|FuncId×Func}(b:P.funcs[f]? = some F)(h:Kk P l)(a:(F.name == "runtime.NumGoroutine")=false:=by kernel_rfl):Kk P<|(f,F)::l:=all_cons ⟨b,a⟩ h
def sz:Of P []:=all_nil
def sc:s.bI P f->Of P l->Of P ((f,s)::l):=all_cons
structure Kit(P:Program)(l_:List (FuncId×Func))(kh:List (FuncId×aK))(ops:List (FuncId×pn))(uY:List (FuncId×gg))(u5:List (FuncId×cH))(u6:List (FuncId×qG)):Prop where
 f:Kk P l_
 s:Of P kh
 o:Te P ops
 i:Tc P uY
 m:Td P u5
 p:Tj P u6
def kz{l_:List<|FuncId×Func}{kh:List<|FuncId×aK}(f:Kk P l_)(s:Of P kh):Kit P l_ kh [] [] [] []:=⟨f,s,oz,iz,mz,pz⟩
variable {ti:PT TI} (ht:nW P ti) (hm:P.follows .mixedOrders=true) {l_:List (FuncId×Func)} {kh:List (FuncId×aK)} {ops:List (FuncId×pn)} {uY:List (FuncId×gg)} {u5:List (FuncId×cH)} {u6:List (FuncId×qG)}
include ht hm
def Kit.base{R:Type}{f:AV->Mem->Option R}{c:Nat}{stops qD:List Stop}(h:Kit P l_ kh ops uY u5 u6):Base P<|Pg f c ops uY u5 u6 ti l_ kh stops qD:=⟨ht,h.f,h.s,hm,h.p,h.m,h.i,h.o⟩
variable {g:FuncId} {F:Func} {args res:List Ty} {pre:Ty.Ts args->Bool} {fn:Ty.Ts args->Ty.Ts res} (q:Md) {Y:Type} (n:Nat) (stops qD:List Stop)
omit ht hm in
def rF:look ((g,F)::l_) g=some F:=by rw[look,tM.2 rfl]
def aX(h:aS->Ty.Ts args->LT (Ty.Ts res) Y)(step:aS->Y->LT (Ty.Ts res) Y)(c:Y->gY)(k:Kit P ((g,F)::l_) kh ops uY u5 u6)
  (b:ui (λA=>Pg (C7 A res) 0 ops uY u5 u6 ti ((g,F)::l_) kh stops qD) step c)
  (i:∀x,pre x=true->Ty.lC args x->aV (step af) (h af x) (fn x))
  (d:fits F args.length=true:=by kernel_rfl)
  (f:uO q n (λA=>Pg (C7 A res) 0 ops uY u5 u6 ti ((g,F)::l_) kh stops qD) (λA x=>tW g F<|ir A args x) h c:=by intro A x;kernel_rfl):aK.bI P g ⟨args,res,pre,fn,false⟩:=
 Ns (s:=⟨args,res,pre,fn,false⟩) (k.base ht hm) rfl rF (fits.body d) nofun n λx j o=>go_ok d mr b f rfl<|i x j o
def sL(o:aS->Ty.Ts args->LT (Ty.Ts res) Y)(step:aS->Y->LT (Ty.Ts res) Y)(c:Y->gY)(j:Kk P<|(g,F)::l_)(k:Ly P kh)
  (b:ui (λA=>Pg (C7 A res) 0 [] [] [] [] ti ((g,F)::l_) kh stops qD) step c)
  (i:∀x,pre x=true->Ty.lC args x->aV (step af) (o af x) (fn x))
  (d:fits F args.length=true:=by kernel_rfl)
  (f:uO q n (λA=>Pg (C7 A res) 0 [] [] [] [] ti ((g,F)::l_) kh stops qD) (λA x=>tW g F<|ir A args x) o c:=by intro A x;kernel_rfl):aK.oT P g ⟨args,res,pre,fn,false⟩/\aK.bI P g ⟨args,res,pre,fn,false⟩:=by
 have h:aK.oT P g ⟨args,res,pre,fn,false⟩:=Ka (s:=⟨args,res,pre,fn,false⟩) ((kz j λg s h=>(k g s h).2).base ht hm) rfl rF ⟨λg s h=>(k g s h).1,rfl,rfl,rfl,rfl⟩ n λx v y=>go_ok d mr b f rfl<|i x v y;exact⟨h,λw I x u t p i=>(h w I x u t p i).mono λ_ _ k=>k.2,nofun,F,(j g F rF).1,fits.body d,(j g F rF).2⟩
def wG{h:VF}{o:Bool}{fn:Ty.Ts args->Bool×h.ty.T×Ty.Ts res}(j:aS->Ty.Ts args->LT (Bool×h.ty.T×Ty.Ts res) Y)(step:aS->Y->LT (Bool×h.ty.T×Ty.Ts res) Y)(c:Y->gY)(k:Kit P ((g,F)::l_) kh ops uY u5 u6)
  (b:ui (λA=>Pg (Zt A h o res) 0 ops uY u5 u6 ti ((g,F)::l_) kh stops qD) step c)
  (i:∀x,pre x=true->Ty.lC args x->aV (step af) (j af x) (fn x))
  (d:fits F args.length=true:=by kernel_rfl)
  (f:uO q n (λA=>Pg (Zt A h o res) 0 ops uY u5 u6 ti ((g,F)::l_) kh stops qD) (λA x=>tW g F<|ir A args x) j c:=by intro A x;kernel_rfl):pn.bI P g ⟨args,h,o,res,pre,fn⟩:=
 Kd (s:=⟨args,h,o,res,pre,fn⟩) (k.base ht hm) rfl rF (fits.body d) n λx p u=>go_ok d mr b f rfl<|i x p u
def wF(u:List<|Option Int){pre:Ty.Ts (VF.iq h)×Ty.Ts args->Bool}{fn:Ty.Ts (VF.iq h)×Ty.Ts args->Ty.Ts (VF.iq h)×Ty.Ts res}(j:aS->Ty.Ts (VF.iq h)×Ty.Ts args->LT (Ty.Ts (VF.iq h)×Ty.Ts res) Y)(step:aS->Y->LT (Ty.Ts (VF.iq h)×Ty.Ts res) Y)(c:Y->gY)(k:Kit P ((g,F)::l_) kh ops uY u5 u6)
  (b:ui (λA=>Pg (QX A p h res) (h.length+(VF.i7 h).length) ops uY u5 u6 ti ((g,F)::l_) kh stops qD) step c)
  (i:∀x,pre x=true->Ty.lC (VF.iq h) x.1->Ty.lC args x.2->aV (step af) (j af x) (fn x))
  (d:fits F (h.length+args.length)=true:=by kernel_rfl) (v:∀x y,pre (x,y)=true->Od u (ir af args y)) (e:iF h=true:=by kernel_rfl)
  (o:VF.i7 h=List.range' h.length (VF.i7 h).length:=by kernel_rfl) (z:∀x y,pre (x,y)=true->VF.lens h (fn (x,y)).1=VF.lens h x:=by intros;rfl)
  (f:uO q n (λA=>Pg (QX A p h res) (h.length+(VF.i7 h).length) ops uY u5 u6 ti ((g,F)::l_) kh stops qD) (λA x=>tW g F (jB h.length++know u (ir A args x.2))<|IN A h x.1) j c:=by intro A x;kernel_rfl):cH.bI P g ⟨h,args,res,pre,fn,p,false⟩:=
 Kc (s:=⟨h,args,res,pre,fn,p,false⟩) (k.base ht hm) rfl (ai _) e o v z rF (fits.body d) nofun n λx y B C D=>go_ok (x:=(x,y)) d (by rw[t_,xS,mr,jB,cy,List.length_range]) b f rfl<|i (x,y) B C D
def bV{pre:Ty.Ts (VF.iq h)×Ty.Ts args->Bool}{fn:Ty.Ts (VF.iq h)×Ty.Ts args->Ty.Ts (VF.iq h)×Ty.Ts res}(j:aS->Ty.Ts (VF.iq h)×Ty.Ts args->LT (Ty.Ts (VF.iq h)×Ty.Ts res) Y)(step:aS->Y->LT (Ty.Ts (VF.iq h)×Ty.Ts res) Y)(c:Y->gY)(k:Kit P ((g,F)::l_) kh ops uY u5 u6)
  (b:ui (λA=>Pg (QX A p h res) (h.length+(VF.i7 h).length) ops uY u5 u6 ti ((g,F)::l_) kh stops qD) step c)
  (i:∀x,pre x=true->Ty.lC (VF.iq h) x.1->Ty.lC args x.2->aV (step af) (j af x) (fn x))
  (d:fits F (h.length+args.length)=true:=by kernel_rfl) (e:iF h=true:=by kernel_rfl)
  (o:VF.i7 h=List.range' h.length (VF.i7 h).length:=by kernel_rfl) (z:∀x y,pre (x,y)=true->VF.lens h (fn (x,y)).1=VF.lens h x:=by intros;rfl)
  (f:uO q n (λA=>Pg (QX A p h res) (h.length+(VF.i7 h).length) ops uY u5 u6 ti ((g,F)::l_) kh stops qD) (λA x=>tW g F (jB h.length++ir A args x.2)<|IN A h x.1) j c:=by intro A x;kernel_rfl):cH.bI P g ⟨h,args,res,pre,fn,p,false⟩:=
 wF ht hm q n stops qD [] j step c k b i d (λ_ _ _=>by cases ir af args _<;>trivial) e o z λA x=>by simp only[aaK];grind
def gv{xh:Bool}{t:Ty}{l:List FuncId}{pre:List t.T×Ty.Ts args->Bool}{fn:List t.T×Ty.Ts args->List t.T×Ty.Ts res}(h:aS->List t.T×Ty.Ts args->LT (List t.T×Ty.Ts res) Y)(step:aS->Y->LT (List t.T×Ty.Ts res) Y)(c:Y->gY)(k:Kit P ((g,F)::l_) kh ops uY u5 u6)
  (b:ui (λA=>Pg (Zs A t res) 1 ops uY u5 u6 ti ((g,F)::l_) kh stops qD) step c)
  (i:∀x,pre x=true->Ty.has (.slice t) x.1->Ty.lC args x.2->(fn x).1.length=x.1.length/\aV (step af) (h af x) (fn x))
  (d:fits F (1+(args.length+l.length))=true:=by kernel_rfl)
  (f:uO q n (λA=>Pg (Zs A t res) 1 ops uY u5 u6 ti ((g,F)::l_) kh stops qD) (λA x=>tW g F (zv xh (.own 0)<|ir A args x.2++l.map λf=>.fn f [] []) [.arr false t x.1]) h c:=by intro A x;kernel_rfl):gg.bI P g ⟨t,args,l,res,pre,fn,xh⟩:=
 Kb (s:=⟨t,args,l,res,pre,fn,xh⟩) (k.base ht hm) rfl (ai _) rF (fits.body d) n (λx y j o p=>(i (x,y) j o p).1) λx y j o p=>go_ok (x:=(x,y)) d (by rw[Vt,t_,mr,cy,mM]) b f rfl (i (x,y) j o p).2
def B9{h:Ty}{pre:h.T×Ty.Ts args->Bool}{fn:h.T×Ty.Ts args->Ty.Ts res}(j:aS->h.T×Ty.Ts args->LT (Ty.Ts res) Y)(step:aS->Y->LT (Ty.Ts res) Y)(c:Y->gY)(k:Kit P ((g,F)::l_) kh ops uY u5 u6)
  (b:ui (λA=>Pg (C7 A res) 0 ops uY u5 u6 ti ((g,F)::l_) kh stops qD) step c)
  (i:∀x,pre x=true->h.has x.1->Ty.lC args x.2->aV (step af) (j af x) (fn x))
  (d:fits F (args.length+1)=true:=by kernel_rfl) (e:Ty.np res=true:=by kernel_rfl)
  (f:uO q n (λA=>Pg (C7 A res) 0 ops uY u5 u6 ti ((g,F)::l_) kh stops qD) (λA x=>tW g F<|.pO h x.1 0::ir A args x.2) j c:=by intro A x;kernel_rfl):qG.bI P g ⟨h,args,res,pre,fn⟩:=
 Ke (s:=⟨h,args,res,pre,fn⟩) (k.base ht hm) rfl rF (fits.body d) n e λx y o p u=>go_ok (x:=(x,y)) d (by rw[bp,mr]) b f rfl<|i (x,y) o p u
def bX(c:aS->Ty.Ts args->LT (Ty.Ts res) Empty)(k:Kit P ((g,F)::l_) kh ops uY u5 u6)
  (i:∀x,pre x=true->Ty.lC args x->aV Empty.elim (c af x) (fn x))
  (d:fits F args.length=true:=by kernel_rfl)
  (f:uO q n (λA=>Pg (C7 A res) 0 ops uY u5 u6 ti ((g,F)::l_) kh [] qD) (λA x=>tW g F<|ir A args x) c Empty.elim:=by intro A x;kernel_rfl):aK.bI P g ⟨args,res,pre,fn,false⟩:=
 aX ht hm q n [] qD c (λ_=>Empty.elim) Empty.elim k (λ_ y=>y.elim) i d f
end
end Go.Ev
namespace Go.Ev
def Tb:AV->Value->Bool
 | .undef,_=>true
 | .int k _ n,.int k' n'=>qR k k'&&(decide (n=0)&&decide (n'=0))
 | .bool _ b,.bool b'=>b==b'
 | .str _ s,.string s'=>s.isEmpty&&s'.data.toList.isEmpty
 | .fG _,.slice none 0 0=>true
 | .sl _ [],.slice none 0 0=>true
 | .jX,.pointer none=>true
 | .tN,.nilFunc=>true
 | _,_=>false
def Ct:List AV->List Value->Bool
 | [],[]=>true
 | a::r,v::vs=>Tb a v&&Ct r vs
 | _,_=>false
def O3(k:IntKind):k.has 0:=by cases k<;>exact⟨by decide,by decide⟩
variable{b:Bool}{t:TypeId}{z:List AV}
section
variable {w:World} {S:St} {m:Mem} {P:Program}
theorem Ca{s:ByteArray}(h:s.data.toList.isEmpty=true):s=⟨#[]⟩:=by
 have⟨⟨l⟩⟩:=s
 grind
def W6{a:AV}{v:Value}(h:Tb a v=true):CR w S m a v:=by
 unfold Tb at h;split at h
 .exact gQ
 .simp at h;obtain⟨c,rfl,rfl⟩:=h;rw[lU c];exact fq.2 ⟨rfl,O3 _⟩
 .rw[beq_iff_eq] at h;exact iD.2 (by rw[h])
 .rw[fZ] at h;rename_i s f;cases s with
  | cons _ _=>grind
  | nil=>exact mo.2 ⟨by rw[Ca h.2],aM _⟩
 .exact nA.2 ⟨none,rfl,λ_=>rfl⟩
 .exact rm.2<|eF.2 ⟨none,0,rfl,ai _,aM _,λ_=>rfl,λi y h=>by cases h⟩
 .rfl
 .rfl
 grind
theorem Cu:∀{f:List AV} {c:List Value},Ct f c=true->eH w S m f c
 | [],[],_=>bw.2 rfl
 | a::r,v::c,h=>by
   rw[Ct,fZ] at h;exact bL.2 ⟨v,c,rfl,W6 h.1,Cu h.2⟩
 | [],_::_,h=>by cases h
 | _::_,[],h=>by cases h
mutual
def Ty.zeros:Ty->List Value
 | .int k=>[.int k 0]
 | .bool=>[.bool false]
 | .str=>[.string ⟨#[]⟩]
 | .slice _=>[.slice none 0 0]
 | .arr n t=>(List.replicate n t.zeros).flatten
 | .struct ts=>Ty.D2 ts
 | .any n=>List.replicate n<|.int .i64 0
def Ty.D2:List Ty->List Value
 | []=>[]
 | t::ts=>t.zeros++Ty.D2 ts
end
mutual
theorem Ty.y7{I:Nat->Prop}:∀(t:Ty),bT w I t t.zeros t.gy
 | .int k=>tf.2 ⟨rfl,O3 k⟩
 | .bool=>CM.2 rfl
 | .str=>AX.2 ⟨rfl,aM _⟩
 | .slice t=>eF.2 ⟨none,0,rfl,ai _,aM _,λ_=>rfl,λi y h=>by cases h⟩
 | .arr n t=>by
   have c:=Ty.y7 (I:=I) t;refine AU.2 ⟨Ht,?_,λi y h=>?_⟩
   .show((List.replicate n t.zeros).flatten).length=_;rw[List.length_flatten,List.map_replicate,List.sum_replicate_nat,c.length]
   .have h:(List.replicate n t.gy)[i]? = some y:=h;have⟨f,j⟩:=aU.1 h;have:=oM (l:=t.zeros) c.length f;show bT w I t ((((List.replicate n t.zeros).flatten).drop<|i*t.size).take t.size) _
    grind
 | .struct ts=>xm.2<|Ty.Jp ts
 | .any n=>by rw[bT];exact Ht
theorem Ty.Jp{I:Nat->Prop}:∀(c:List Ty),gp w I c (Ty.D2 c)<|Ty.aR c
 | []=>yv.2 rfl
 | [t]=>CO.2 (by
   have:Ty.D2 [t]=t.zeros:=by simp[Ty.D2,aL]
   rw[this];exact Ty.y7 t)
 | t::f::c=>zY.2 ⟨t.zeros,Ty.D2<|f::c,rfl,Ty.y7 t,Ty.Jp<|f::c⟩
end
def acf:Value->Value->Bool
 | .int k n,.int k' n'=>qR k k'&&decide (n=n')
 | .bool b,.bool b'=>b==b'
 | .string s,.string s'=>s.data.toList.isEmpty&&s'.data.toList.isEmpty
 | .slice none 0 0,.slice none 0 0=>true
 | _,_=>false
def Nl:List Value->List Value->Bool
 | [],[]=>true
 | a::r,v::vs=>acf a v&&Nl r vs
 | _,_=>false
def acg{a b:Value}(h:acf a b=true):a=b:=by
 unfold acf at h
 grind [lU,Ca]
theorem K8:∀{a b:List Value},Nl a b=true->a=b
 | [],[],_=>rfl
 | a::r,v::vs,h=>by
   rw[Nl,fZ] at h;rw[acg h.1,K8 h.2]
 | [],_::_,h=>by cases h
 | _::_,[],h=>by cases h
def w9(P:Program)(t:TypeId):Option Bool:=
 match P.underlying t with
 | some (.struct _)=>some true
 | some (.array _ _)=>some true
 | some _=>some false
 | none=>none
theorem AZ(h:w9 P t=some b)(w:World):(isAgg t).run P w=.ok b w:=by
 unfold w9 at h;cases hu:P.underlying t with
 | none=>grind
 | some d=>
   rw[hu] at h;unfold isAgg;rw[eE,run_underlying hu];cases d<;>cases h<;>rfl
def FU(a:Option Bool)(b:Bool):Bool:=match a with|some c=>c==b|none=>false
theorem CS{a:Option Bool}(h:FU a b=true):a=some b:=by
 cases a with
 | none=>cases h
 | some c=>simp_all [FU]
def fieldsB(P:Program):List Field->List (Nat×Nat×Bool)->Bool
 | [],[]=>true
 | f::F,(off,sz,ag)::fs=>Nat.beq f.offset off&&(FU (w9 P f.type) ag&&((match P.info? f.type with|some j=>Nat.beq j.size sz|none=>false)&&fieldsB P F fs))
 | _,_=>false
theorem GA:∀{F:List Field} {fs:List<|Nat×Nat×Bool},fieldsB P F fs=true->F.length=fs.length/\∀(i off sz:Nat) (c:Bool),fs[i]? = some (off,sz,c)->
   ∃f j,F[i]? = some f/\f.offset=off/\P.info? f.type=some j/\j.size=sz/\∀w,(isAgg f.type).run P w=.ok c w
 | [],[],_=>⟨rfl,λi off sz c h=>by cases h⟩
 | [],_::_,h=>by cases h
 | _::_,[],h=>by cases h
 | f::F,(off,sz,c)::fs,h=>by
   simp only[fieldsB,fZ] at h;have⟨v,x,y,o⟩:=h;have⟨p,u⟩:=GA o
   grind [vH,AZ,CS]
def aaI(P:Program)(T:TypeId):TK->Bool
 | .bool=>match P.underlying T with|some .bool=>true|_=>false
 | .int k=>match P.underlying T with|some (.int f)=>qR f k|_=>false
 | .str=>match P.underlying T with|some .string=>true|_=>false
 | .slice e=>match P.underlying T with|some (.slice c)=>Nat.beq c e|_=>false
 | .arr n e=>match P.underlying T with|some (.array h c)=>Nat.beq h n&&Nat.beq c e|_=>false
 | .ptr e=>match P.underlying T with|some (.pointer c)=>Nat.beq c e|_=>false
 | .func=>match P.underlying T with|some (.func _ _ _)=>true|_=>false
 | .struct fs=>match P.underlying T with|some (.struct F)=>fieldsB P F.toList fs|_=>false
 | .other=>true
def aaJ{T:TypeId}{k:TK}(h:aaI P T k=true):kindOk P T k:=by
 cases k<;>simp only[aaI] at h<;>simp only[kindOk]
 case bool=>grind
 case int k=>
  grind [lU]
 case str=>grind
 case slice e=>
  split at h
  all_goals simp_all
 case arr n e=>
  split at h
  all_goals simp_all
 case struct fs=>
  split at h
  .rename_i F i;have⟨c,f⟩:=GA h
   simp_all
  simp_all
 case ptr e=>
  split at h
  all_goals simp_all
 grind
def VJ(P:Program)(c:TypeId->List AV->Bool)(z:List AV):Nat->List Field->Option Nat
 | off,[]=>some off
 | off,f::fs=>match decide (f.name≠ "_")&&(Nat.beq f.offset off&&c f.type ((z.drop off).take (P.cellsOf f.type))) with
   | true=>VJ P c z (off+P.cellsOf f.type) fs
   | false=>none
def aim(a:Option Nat)(b:Nat):Bool:=match a with|some c=>Nat.beq c b|none=>false
def aa6{a:Option Nat}{b:Nat}(h:aim a b=true):a=some b:=by
 cases a with
 | none=>cases h
 | some c=>rw[vH h]
def eqB(P:Program):Nat->TypeId->List AV->Bool
 | 0,_,_=>false
 | d+1,t,z=>match P.underlying t with
   | some .bool=>Nat.beq (P.cellsOf t) 1&&(match z with | [.bool _ _]=>true|_=>false)
   | some (.int _)=>Nat.beq (P.cellsOf t) 1&&(match z with | [.int _ _ _]=>true|_=>false)
   | some .string=>Nat.beq (P.cellsOf t) 1&&(match z with | [.str _ _]=>true|_=>false)
   | some (.struct fs)=>!P.stoodInHeld t&&(aim (VJ P (eqB P d) z 0 fs.toList) (P.cellsOf t)&&Nat.beq z.length (P.cellsOf t))
   | _=>false
theorem zQ:∀{a b:List AV},nL a b=true->a.length=b.length
 | [],[],_=>rfl
 | a::as,b::bs,h=>by
   rw[nL,fZ] at h;rw[bp,bp,zQ h.2]
 | [],_::_,h=>by cases h
 | _::_,[],h=>by cases h
theorem Ey:∀{a b:List AV} (n:Nat),nL a b=true->nL (a.drop n) (b.drop n)=true
 | _,_,0,h=>h
 | [],[],n+1,_=>rfl
 | a::as,b::bs,n+1,h=>by
   rw[nL,fZ] at h;exact Ey n h.2
 | [],_::_,_+1,h=>by cases h
 | _::_,[],_+1,h=>by cases h
theorem Ez:∀{a b:List AV} (n:Nat),nL a b=true->nL (a.take n) (b.take n)=true
 | _,_,0,_=>rfl
 | [],[],n+1,_=>rfl
 | a::as,b::bs,n+1,h=>by
   rw[nL,fZ] at h;rw[ib,ib,nL,fZ];exact⟨h.1,Ez n h.2⟩
 | [],_::_,_+1,h=>by cases h
 | _::_,[],_+1,h=>by cases h
theorem zy:∀{a b x y:List AV} {c:Bool} {g:aS->Bool},a.length=b.length->fR (a++x) (b++y)=some (c,g)->
  ∃c1 i c2 j,fR a b=some (c1,i)/\fR x y=some (c2,j)/\g af=(i af&&j af)
 | [],[],x,y,c,g,_,h=>⟨true,λ_=>true,c,g,by rfl,h,rfl⟩
 | [],_::_,_,_,_,_,h,_=>by cases h
 | _::_,[],_,_,_,_,h,_=>by cases h
 | a::as,b::bs,x,y,c,g,u,h=>by
   have u:as.length=bs.length:=by simp_all
   have split:∀(o:Bool) (e:aS->Bool),(match fR (as++x) (bs++y) with|none=>none|some (c2,g)=>some (o&&c2,λA=>A.and (e A)<|g A))=some (c,g)->
     (∀q:Option<|Bool×(aS->Bool),fR as bs=q->fR (a::as) (b::bs)=(match q with|none=>none|some (c2,g)=>some (o&&c2,λA=>A.and (e A)<|g A)))->
     ∃c1 i c2 j,fR (a::as) (b::bs)=some (c1,i)/\fR x y=some (c2,j)/\g af=(i af&&j af):=by
    intro o e h p;cases f:fR (as++x) (bs++y) with
    | none=>simp_all
    | some q=>
      rw[f] at h;have⟨c1,i,c3,v,z,B,C⟩:=zy u f;refine⟨_,_,c3,v,p _ z,B,?_⟩
      grind [af]
   cases a<;>cases b<;>simp[oh,fR] at h<;>try (cases h;done)
   case int.int k c1 n1 k' c2 n2=>
    split at h;cases h;rename_i p;exact split (c1&&c2) (λA=>A.bq n1 n2) h (λq f=>by simp[fR,p,f];rfl)
   case bool.bool c1 n1 c2 n2=>exact split (c1&&c2) (λA=>A.q n1 n2) h (λq f=>by simp[fR,f];rfl)
   case str.str c1 n1 c2 n2=>exact split (c1&&c2) (λA=>A.z .eql n1 n2) h (λq f=>by simp[fR,f];rfl)
def Yo(P:Program)(t:TypeId)(c:List Value)(v:Value):Prop:=(w9 P t=some true/\v=.agg c.toArray)\/(w9 P t=some false/\c=[v])
def H9{us:Array Value}{off:Nat}(f:w9 P t=some b)(c:b=false->P.cellsOf t=1)(h:∃j,P.info? t=some j)(u:off+P.cellsOf t<=us.size)(w:World):
  ∃v,(part t us off).run P w=.ok v w/\Yo P t ((us.toList.drop off).take<|P.cellsOf t) v:=by
 have⟨j,p⟩:=h;have o:P.cellsOf t=j.size:=by grind [Program.cellsOf]
 have x:(sizeOf t).run P w=.ok (P.cellsOf t) w:=by simp_all [sizeOf,typeInfo]
 cases b with
 | true=>
   refine⟨.agg<|us.extract off<|off+P.cellsOf t,by simp_all [AZ,part],.inl ⟨f,?_⟩⟩;congr 1
   grind
 | false=>
   have c:=c rfl;have i:off<us.size:=by omega
   refine⟨us[off],by simp_all [AZ,part],.inr ⟨f,?_⟩⟩
   grind [xx]
def info_of_underlying{d:TypeDesc}(h:P.underlying t=some d):∃j,P.info? t=some j:=by grind [Program.underlying]
def Zj{d:Nat}(h:eqB P d t z=true):(∃j,P.info? t=some j)/\((w9 P t=some false/\P.cellsOf t=1)\/w9 P t=some true):=by
 cases d with
 | zero=>cases h
 | succ d=>
   unfold eqB at h;cases hu:P.underlying t with
   | none=>simp_all
   | some q=>
     refine⟨info_of_underlying hu,?_⟩;cases q<;>simp only at h<;>try (cases h;done)
     all_goals simp_all [w9]
theorem Ky:∀(d:Nat) {D:Nat} {t:TypeId} {z o p:List AV} {C G:List Value} {u v:Value} {c:Bool} {g:aS->Bool} {w:World},d<=D->eqB P d t z=true->nL o z=true->o.length=P.cellsOf t->p.length=P.cellsOf t->fR o p=some (c,g)->
  eH w S m o C->eH w S m p G->Yo P t C u->Yo P t G v->(Op.equalIn D t u v).run P w=.ok (g af) w
 | 0,_,_,_,_,_,_,_,_,_,_,_,_,_,h,_,_,_,_,_,_,_,_=>by cases h
 | d+1,0,_,_,_,_,_,_,_,_,_,_,_,hD,_,_,_,_,_,_,_,_,_=>by omega
 | d+1,D+1,t,z,o,p,C,G,u,v,c,g,w,hD,h,hz,hx,hy,i,hxs,hys,X,Z=>by
   unfold eqB at h;cases hut:P.underlying t with
   | none=>simp_all
   | some q=>
     rw[hut] at h;have one:w9 P t=some false->P.cellsOf t=1->∃a b,o=[a]/\p=[b]/\CR w S m a u/\CR w S m b v:=by
      intro x h1;rw[h1] at hx hy;obtain⟨a,rfl⟩:=kH.1 hx;obtain⟨b,rfl⟩:=kH.1 hy;rcases X with ⟨h',_⟩|⟨_,rfl⟩
      .simp_all
      .rcases Z with ⟨h',_⟩|⟨_,rfl⟩
       .simp_all
       .have⟨_,_,e,h1,_⟩:=bL.1 hxs;have⟨_,_,e',am,_⟩:=bL.1 hys
        simp_all
     cases q<;>simp only at h<;>try (cases h;done)
     case bool=>
      rw[fZ] at h;obtain⟨a,b,rfl,rfl,x,A⟩:=one (by grind [w9])<|vH h.1;have J:=h.2;split at J
      .cases a<;>simp[nL,UX] at hz;cases b<;>simp[fR] at i;obtain⟨_,rfl⟩:=i;rw[iD.1 x,iD.1 A,run_equalIn_bool' w D t _ _ hut];simp[af]
      simp_all
     case int k0=>
      rw[fZ] at h;obtain⟨a,b,rfl,rfl,x,A⟩:=one (by grind [w9])<|vH h.1;have J:=h.2;split at J
      .cases a<;>simp[nL,UX] at hz;cases b<;>simp[fR] at i;split at i;cases i;rename_i hk;have a6:=lU hk;subst a6;obtain⟨_,rfl⟩:=i;rw[(fq.1 x).1,(fq.1 A).1,run_equalIn_int w D t _ k0 _ _ hut];simp[af,xa]
      simp_all
     case string=>
      rw[fZ] at h;obtain⟨a,b,rfl,rfl,x,A⟩:=one (by grind [w9])<|vH h.1;have J:=h.2;split at J
      .cases a<;>simp[nL,UX] at hz;cases b<;>simp[fR] at i;obtain⟨_,rfl⟩:=i;rw[(mo.1 x).1,(mo.1 A).1,run_equalIn_string w D t _ _ hut];simp[af,ach,ByteArray.toList_eq]
      simp_all
     case struct fs=>
      rw[fZ,fM,fZ] at h;have⟨a7,V,_⟩:=h;have V:=aa6 V;have an:w9 P t=some true:=by grind [w9]
      have X:u=.agg C.toArray:=by
       rcases X with ⟨_,e⟩|⟨h',_⟩
       all_goals simp_all
      have Z:v=.agg G.toArray:=by
       rcases Z with ⟨_,e⟩|⟨h',_⟩
       all_goals simp_all
      subst X;subst Z;have j:P.fieldsOf t=fs:=by grind [Program.fieldsOf]
      rw[run_equalIn_struct w D t _ _ (by simp_all) a7,j];have b0:∀(F:List Field) (off:Nat) (g:aS->Bool) (c:Bool),VJ P (eqB P d) z off F=some (P.cellsOf t)->off<=P.cellsOf t->fR (o.drop off) (p.drop off)=some (c,g)->(Op.eqFields D C.toArray G.toArray F).run P w=.ok (g af) w:=by
       intro F
       induction F with
       | nil=>
         intro off g c W _ i;cases W;rw[gx (by omega),gx (by omega)] at i;obtain⟨_,rfl⟩:=i;rfl
       | cons f F az=>
         intro off g c W a9 i;rw[VJ] at W;cases hck:decide (f.name≠ "_")&&(Nat.beq f.offset off&&eqB P d f.type ((z.drop off).take (P.cellsOf f.type))) with
         | false=>grind
         | true=>
           rw[hck] at W;rw[fZ,fZ,uR] at hck;have⟨B,j,O⟩:=hck;have j:=vH j;have as:off+P.cellsOf f.type<=P.cellsOf t:=by
            have mono:∀(F:List Field) (a b:Nat),VJ P (eqB P d) z a F=some b->a<=b:=by
             intro F
             induction F with
             | nil=>intro a b h;cases h;omega
             | cons f F ih=>
               grind [VJ]
            grind
           have⟨y,aa⟩:=Zj O;obtain⟨bb,N,K⟩:∃bb,w9 P f.type=some bb/\(bb=false->P.cellsOf f.type=1):=by simp_all
           have av:C.length=P.cellsOf t:=by rw[hxs.length,hx]
           have aw:G.length=P.cellsOf t:=by rw[hys.length,hy]
           have⟨a,x,a4⟩:=H9 (us:=C.toArray) (off:=off) N K y (by simp_all) w;have⟨b,A,a5⟩:=H9 (us:=G.toArray) (off:=off) N K y (by simp_all) w;have ex:o.drop off=(o.drop off).take (P.cellsOf f.type)++o.drop (off+P.cellsOf f.type):=by rw[<-fh,fu]
           have ey:p.drop off=(p.drop off).take (P.cellsOf f.type)++p.drop (off+P.cellsOf f.type):=by rw[<-fh,fu]
           have lx:((o.drop off).take<|P.cellsOf f.type).length=P.cellsOf f.type:=by grind
           have ly:((p.drop off).take<|P.cellsOf f.type).length=P.cellsOf f.type:=by grind
           rw[ex,ey] at i;have⟨c1,g1,c2,g2,e1,e2,e3⟩:=zy (by omega) i;have r1:=Ky d (D:=D) (by omega) O (Ez _<|Ey _ hz) lx ly e1 ((hxs.drop off).take _) ((hys.drop off).take _) a4 a5;simp only[Op.eqFields,if_pos B,eE,j,x,dH,A,r1];rw[e3];cases hg1:g1 af with
           | true=>grind
           | false=>simp
      grind
def Zk(P:Program)(T:TypeId)(z:List AV):Bool:=
 eqB P 50 T z&&(FU (w9 P T) true&&(Nat.beq (P.cellsOf T) z.length && !P.eqGuardType P.depth T))
theorem Zl{T:TypeId}(h:Zk P T z=true):apm P T z:=by
 simp only[Zk,fZ,fM] at h;have⟨u,j,o,G⟩:=h;have j:=CS j;have o:=vH o;intro w S m i f N O c g p v B C;have J:=zQ p;have A:∀{i f:List AV} {c:Bool} {g:aS->Bool},fR i f=some (c,g)->f.length=i.length:=by
  intro i
  induction i with
  | nil=>intro f c g h;cases f with
    | nil=>rfl
    | cons b _=>grind [fR]
  | cons a i ih=>
    intro f c g h;cases f with
    | nil=>grind [fR]
    | cons b f=>
      have:∃c g,fR i f=some (c,g):=by
       cases hq:fR i f with
       | some q=>grind
       | none=>
         cases a<;>cases b<;>simp[fR,hq] at h<;>(try (cases h;done))
         grind
      grind
 refine⟨?_,λK x y=>?_⟩
 .exact Ky (m:=m) (S:=S) 50 (D:=Op.maxDepth) (by decide) u p (by omega) (by grind) v B C (.inl ⟨j,rfl⟩)<|.inl ⟨j,rfl⟩
 simp_all [eqGuard]
def tiB(P:Program)(T:TypeId)(ti:TI):Bool:=
 (match P.info? T with
   | none=>false
   | some i=>Nat.beq i.size ti.size&&(Nat.beq i.bytes ti.bytes&&(match i.zero with
     | none=>false
     | some z=>Ct ti.zero z.cells.toList&&(match ti.ty with
       | none=>true
       | some t=>Nl z.cells.toList t.zeros&&(Nat.beq t.size ti.size&&((t.isAgg==ti.agg)&&t.sj)))))) &&
 (aaI P T ti.kind&&(FU (w9 P T) ti.agg&&(Nat.beq ti.zero.length ti.size&&(!(ti.eq&&ti.agg)||Zk P T ti.zero))))
theorem apb{T:TypeId}{ti:TI}(h:tiB P T ti=true):CP P T ti:=by
 simp only[tiB,fZ] at h;have⟨j,v,x,y,C⟩:=h;split at j;cases j;rename_i i A;simp only[fZ] at j;have⟨o,p,c⟩:=j;split at c;cases c;rename_i z B;simp at c;have⟨c,u⟩:=c;have f:∀t,ti.ty=some t->z.cells.toList=t.zeros/\(t.size=ti.size/\t.isAgg=ti.agg)/\t.sj=true:=λt ht=>by
  rw[ht] at u
  grind [K8,vH]
 refine⟨⟨i,z,A,vH o,vH p,B,λw S m=>Cu c,λt ht w I=>?_⟩,aaJ v,AZ<|CS x,vH y,λt ht=>(f t ht).2.1,λG D=>?_,λt ht=>(f t ht).2.2⟩
 all_goals grind [Ty.y7,Zl]
def adH(P:Program):Nat->Nat->Nat->PT TI->Bool
 | 0,_,_,t=>match t with | .leaf=>true|_=>false
 | _+1,_,_,.leaf=>true
 | f+1,a,s,.node l v r=>(match v with|some ti=>tiB P a ti|none=>true)&&(adH P f (a+s) (2*s) l&&adH P f (a+2*s) (2*s) r)
theorem ND:∀{f a s:Nat} {t:PT TI},adH P f a s t=true->∀n ti,t.get n=some ti->CP P (a+s*n) ti
 | 0,a,s,.leaf,_,n,ti,hg=>by grind [PT.G6]
 | 0,a,s,.node _ _ _,h,_,_,_=>by cases h
 | f+1,a,s,.leaf,_,n,ti,hg=>by grind [PT.G6]
 | f+1,a,s,.node l v r,h,n,ti,hg=>by
   simp[adH,fZ] at h;rw[PT.p8] at hg;split at hg
   .grind [apb]
   .rename_i i;split at hg
    .rename_i c;have:=ND h.2.1 _ _ hg;have e:a+s+2*s*(n/2)=a+s*n:=by
      have:n=2*(n/2)+1:=by omega
      grind
     simp_all
    .rename_i c;have:=ND h.2.2 _ _ hg;have e:a+2*s+2*s*(n/2-1)=a+s*n:=by
      have:n=2*(n/2-1)+2:=by omega
      grind
     simp_all
def apd{t:PT TI}(h:adH P 30 0 1 t=true):nW P t:=λT ti c=>by
 have:=ND h T ti c
 grind
end
end Go.Ev
namespace Go.Ev
def uL(P:Program)(ty:TypeId->Option Ty):Nat->List Field->Option (List Ty×Nat)
 | off,[]=>some ([],off)
 | off,f::fs=>match ty f.type with
   | none=>none
   | some t=>match Nat.beq f.offset off&&Nat.beq (P.cellsOf f.type) t.size with
     | false=>none
     | true=>match uL P ty (off+t.size) fs with
       | none=>none
       | some (ts,n)=>some (t::ts,n)
mutual
def Ty.low:Ty->Nat
 | .int k=>k.bits/8
 | .bool=>1
 | .str=>16
 | .slice _=>24
 | .arr n t=>n*Ty.low t
 | .struct ts=>Ty.aqG ts
 | .any _=>0
def Ty.aqG:List Ty->Nat
 | []=>0
 | t::ts=>Ty.low t+Ty.aqG ts
end
mutual
def Ty.fit:(t:Ty)->t.T->Prop
 | .slice t,x=>(show List t.T from x).length*t.low<=fX/\∀y∈(show List t.T from x),Ty.fit t y
 | .struct ts,x=>Ty.fits ts x
 | _,_=>True
def Ty.fits:(c:List Ty)->Ty.Ts c->Prop
 | [],_=>True
 | [t],x=>Ty.fit t x
 | t::f::c,x=>Ty.fit t (Prod.fst (α:=t.T) (β:=Ty.Ts<|f::c) x)/\Ty.fits (f::c) (Prod.snd (α:=t.T) (β:=Ty.Ts<|f::c) x)
end
def E0(P:Program):Nat->TypeId->Option Ty
 | 0,_=>none
 | d+1,t=>match P.underlying t with
   | some .bool=>some .bool
   | some (.int k)=>some<|.int k
   | some .string=>some .str
   | some (.slice e)=>match E0 P d e with
     | none=>none
     | some ty=>match Nat.beq (P.cellsOf e) ty.size&&(Nat.blt 0 ty.size&&(Nat.blt 0 (P.bytesOf e)&&Nat.ble ty.low (P.bytesOf e))) with
       | true=>some<|.slice ty
       | false=>none
   | some (.struct fs)=>match uL P (E0 P d) 0 fs.toList with
     | none=>none
     | some (ts,n)=>match Nat.beq (P.cellsOf t) n with
       | true=>some<|.struct ts
       | false=>none
   | _=>none
def Qo(P:Program):List TypeId->Option (List Ty)
 | []=>some []
 | t::ts=>match E0 P 60 t with
   | none=>none
   | some ty=>match Qo P ts with
     | none=>none
     | some iq=>some<|ty::iq
section
variable {H:Type} {enc:TypeId×Value->H} {P:Program} {w:World} {base:Nat} {spare:Nat->Bool} {held:Bool}
theorem Ci{ty:TypeId->Option Ty}:∀{fs:List Field} {off n:Nat} {c:List Ty},uL P ty off fs=some (c,n)->n=off+Ty.mP c
 | [],off,n,c,h=>by cases h;rfl
 | f::fs,off,n,c,h=>by
   rw[uL] at h;cases ht:ty f.type with
   | none=>grind
   | some t=>
     rw[ht] at h;simp only at h;split at h;cases h;split at h;cases h;rename_i j o i;cases h;rw[Ci i,Ty.mP,Nat.add_assoc]
def Ku{a:Addr}{n:Nat}{p:List Value}(h:w.cells? base a n=some p):p.length=n/\(0<n->a.spot=none/\a.block<w.heap.size)/\(a.spot=none->mf w a.block a.off p):=by
 unfold World.cells? at h;split at h
 .have z:p.length=n:=by simpa using mapM_some_length h
  have v:∀i,i<n->w.cell? (a.add i)=p[i]? :=λi C=>by
   have:=mapM_some_get h i i (by grind);omega
  refine⟨z,λA=>?_,λD j u B=>?_⟩
  .have f:=v 0 A;rw[KN<|by omega] at f;have e:a.add 0=a:=by rfl
   unfold World.cell? at f;split at f
   .rename_i c _ _ x;split at f;cases f;exact⟨by simp_all,(dy.1 x).1⟩
   simp_all
  .have y:j<n:=by grind
   have:=v j y;rw[B] at this;have⟨b,o,G⟩:=a
   grind [Addr.add_lit]
 simp_all
theorem D5{α:Type}{p:Nat->α->Prop}:∀(n:Nat),(∀i,i<n->∃x,p i x)->∃l:List α,l.length=n/\∀i x,l[i]? = some x->p i x
 | 0,_=>⟨[],rfl,λi x h=>by grind⟩
 | n+1,h=>by
   have⟨l,c,f⟩:=D5 n λi j=>h i (by omega);have⟨x,o⟩:=h n (by omega);refine⟨l ++ [x],by grind,λi y u=>?_⟩
   grind
theorem EJ{P:Program}{e:TypeId}:∀{l:List<|DataW H} {d:DataW H},d∈l->∀n∈d.weights P e,n∈DataW.weightsAll P e l
 | x::l,d,c,n,hn=>by
   rw[DataW.weightsAll];rcases aF.1 c with rfl|c
   .grind
   .exact pP.2<|.inr<|EJ c n hn
theorem Cp{P:Program}:∀{c:List TypeId} {l:List<|DataW H} {i:Nat} {t:TypeId} {d:DataW H},c[i]? = some t->l[i]? = some d->∀n∈d.weights P t,n∈DataW.weightsEach P c l
 | [],_,i,t,d,h,_,_,_=>by grind
 | _::_,[],i,t,d,_,h,_,_=>by grind
 | t0::c,d0::l,i,t,d,h1,h2,n,hn=>by
   rw[DataW.weightsEach];cases i with
   | zero=>grind
   | succ i=>exact pP.2<|.inr<|Cp (i:=i) (by grind) (by grind) n hn
theorem GB{ty:TypeId->Option Ty}{cs:List Value}{rd:Field->Option (DataW H×List MemPlace)}{I:Nat->Prop} :
  ∀{fs:List Field} {off n:Nat} {c:List Ty},uL P ty off fs=some (c,n)->n<=cs.length->
  (∀(i:Nat) (f:Field) (t:Ty),fs[i]? = some f->ty f.type=some t->P.cellsOf f.type=t.size->∃x,bT w I t ((cs.drop f.offset).take<|P.cellsOf f.type) x/\t.fit x)->∃x,gp w I c ((cs.drop off).take<|n-off) x/\Ty.fits c x
 | [],off,n,c,h,_,_=>by
   cases h;exact⟨(),yv.2<|by simp_all,trivial⟩
 | f::fs,off,n,c,h,hn,hx=>by
   have p:=Ci h;rw[uL] at h;cases ht:ty f.type with
   | none=>simp_all
   | some t=>
     rw[ht] at h;simp only at h;cases hck:Nat.beq f.offset off&&Nat.beq (P.cellsOf f.type) t.size with
     | false=>simp_all
     | true=>
       rw[hck] at h;simp only at h;rw[fZ] at hck;have B:=vH hck.1;have v:=vH hck.2;split at h;cases h;rename_i j K C;cases h;have⟨x,o,z⟩:=hx 0 f t rfl ht v;have⟨y,u,D⟩:=GB (rd:=rd) C hn λi g G J=>hx (i+1) g G (by simp_all);rw[B,v] at o;rw[Ty.mP] at p;have e:(cs.drop off).take (n-off)=(cs.drop off).take t.size++(cs.drop<|off+t.size).take (n-(off+t.size)):=by
        rw[show n-off=t.size+(n-(off+t.size)) from by omega,List.take_add,fh]
       rw[e];cases j with
       | nil=>
         have A:=yv.1 u;rw[A,aL];exact⟨x,CO.2 o,z⟩
       | cons t2 j=>exact⟨(x,y),zY.2 ⟨_,_,rfl,o,u⟩,⟨z,D⟩⟩
def VT{k:IntKind}{n:Int}(h:(Lit.int k n).wf=true):k.has n:=by
 simp[Lit.wf,fZ,uR] at h;exact⟨h.1,h.2⟩
theorem I4:∀(d:Nat) {t:TypeId} {ty:Ty} {fuel:Nat} {cs:List Value} {r:DataW H×List MemPlace},E0 P d t=some ty->DataW.trod enc P w base spare held fuel t cs=some r->(∀n∈r.1.weights P t,n<=reachBytes)->
  ∃x,bT w (λb=>b<w.heap.size) ty cs x/\ty.fit x
 | 0,_,_,_,_,_,h,_,_=>by cases h
 | d+1,t,ty,fuel,cs,r,h,htr,hwt=>by
   rw[E0] at h;cases hu:P.underlying t with
   | none=>simp_all
   | some q=>
     cases q<;>simp_all<;>try (cases h;done)
     case bool=>
      cases h;obtain⟨b,rfl,_⟩:=DataW.trod_bool hu htr;exact⟨b,CM.2 rfl,trivial⟩
     case int k=>
      cases h;obtain⟨n,rfl,_,hw⟩:=DataW.trod_int hu htr;exact⟨n,tf.2 ⟨rfl,VT hw⟩,trivial⟩
     case string=>
      cases h;obtain⟨s,rfl,hr,_⟩:=DataW.trod_string hu htr;refine⟨s.data.toList,AX.2 ⟨by simp,?_⟩,trivial⟩;have:=hwt s.data.toList.length (by rw[hr];simp[DataW.weights]);exact bd this (by decide)
     case slice e=>
      cases hte:E0 P d e with
      | none=>simp_all
      | some ty'=>
        rw[hte] at h;simp only at h;split at h
        rotate_left
        cases h;rename_i hck;cases h;rw[fZ,fZ,fZ] at hck;have hce:=vH hck.1;have hpos:0<ty'.size:=KX hck.2.1;have hbytes:0<P.bytesOf e:=KX hck.2.2.1;have hlow:ty'.low<=P.bytesOf e:=KX hck.2.2.2;rcases DataW.trod_slice hu htr with ⟨rfl,_⟩|⟨a,len,cap,elems,rest,n,rfl,rfl,hr,_,hlc,_,hel,hget,_,_⟩
        .exact⟨[],eF.2 ⟨none,0,rfl,ai _,aM _,λ_=>rfl,λi y h=>by cases h⟩,⟨by simp,λy h=>by cases h⟩⟩
        .have hw0:(elems.length+rest.length)*P.bytesOf e<=reachBytes:=hwt _ (by rw[hr];simp[DataW.weights,hu]);have hlen:len<=fX:=by
          have h1:len*1<=(elems.length+rest.length)*P.bytesOf e:=Nat.mul_le_mul (by omega) hbytes;have h2:reachBytes<=fX:=by decide
          omega
         have hfit:len*ty'.low<=fX:=by
          have h1:len*ty'.low<=(elems.length+rest.length)*P.bytesOf e:=Nat.mul_le_mul (by omega) hlow;have h2:reachBytes<=fX:=by decide
          omega
         have each:∀i,i<len->∃x,∃us,a.spot=none/\a.block<w.heap.size/\us.length=ty'.size/\mf w a.block (a.off+i*ty'.size) us/\bT w (λb=>b<w.heap.size) ty' us x/\ty'.fit x:=by
          intro i hi;have hg:=hget i hi;rw[KN (by omega)] at hg;obtain⟨us,hcs,hrd⟩:=Option.bind_eq_some_iff.1 hg;obtain⟨c1,c2,c3⟩:=Ku hcs;rw[hce] at c1 c2 c3;obtain⟨hsp,hblk⟩:=c2 hpos;have hspa:a.spot=none:=by
           have hg0:=hget 0 (by omega);rw[KN (by omega)] at hg0;obtain⟨us0,hcs0,_⟩:=Option.bind_eq_some_iff.1 hg0;rw[Nat.zero_mul] at hcs0;have e0:a.add 0=a:=by rfl
           exact((Ku hcs0).2.1 (by omega)).1
          have hadd:a.add (i*ty'.size)=⟨a.block,a.off+i*ty'.size,none⟩:=by
           obtain⟨b,o,sp⟩:=a;have hs:sp=none:=hspa;subst hs;exact kI b o _
          obtain⟨x,hx,hf⟩:=I4 d hte hrd λn hn=>hwt n (by
           rw[hr];simp only[DataW.weights,hu];refine aD _ (pP.2 (.inl (EJ (dG.2 ⟨elems[i],cZ _,rfl⟩) n hn))))
          grind
         obtain⟨xs,hxl,hxs⟩:=D5 len each;refine⟨xs,eF.2 ⟨some a,cap,by grind,by omega,by omega,λh=>(by cases h),λi y hy=>?_⟩,by
          refine⟨by show xs.length*_<=_;rw[hxl];exact hfit,λy hy=>?_⟩;obtain⟨i,hi⟩:=List.mem_iff_getElem?.1 hy;exact(hxs i y hi).choose_spec.2.2.2.2.2⟩
         obtain⟨us,g1,g2,g3,g4,g5,_⟩:=hxs i y hy;refine⟨a.block,a.off,us,?_,g2,g3,g4,g5⟩;obtain⟨b,o,sp⟩:=a
         simp_all
     case struct fs=>
      cases hf:uL P (E0 P d) 0 fs.toList with
      | none=>simp_all
      | some q=>
        obtain⟨ts,n⟩:=q;rw[hf] at h;simp only at h;split at h
        .rename_i hck;cases h;have hn:=vH hck;obtain⟨xs,m,rfl,hr,hlen,hxl,hx⟩:=DataW.trod_struct hu htr;obtain⟨y,hy,hf'⟩:=GB (w:=w) (cs:=cs) (I:=λb=>b<w.heap.size) (rd:=λ_=>(none:Option (DataW H×List MemPlace))) hf (by omega) λi f t' hi hty hc=>by
          have hi':fs[i]? = some f:=by simp_all
          have hlt:i<xs.length:=by grind
          have:=hx i f hi';rw[KN hlt] at this;refine I4 d hty this λn hn=>hwt n ?_;rw[hr];simp[DataW.weights,hu];exact Cp (i:=i) (by simp_all) (by grind) n hn
         rw[qi,Nat.sub_zero,dI (by omega)] at hy;exact⟨y,xm.2 hy,hf'⟩
        simp_all
def Ru{r:Reach}{f d:Nat}{t:TypeId}{ty:Ty}{v:Value}{x:ty.T}(ht:E0 P d t=some ty)(c:Value.okWide P w r f t v)(h:bT w (λb=>b<w.heap.size) ty v.cells.toList x):mU w (λb=>b<w.heap.size) ty v x:=by
 cases d with
 | zero=>cases ht
 | succ d=>
   rw[E0] at ht;unfold Value.okWide at c;cases hu:P.underlying t with
   | none=>simp_all
   | some q=>
     rw[hu] at ht c;have cu:ty.isAgg=false->Cell.okWide P w r f t v->mU w (λb=>b<w.heap.size) ty v x:=by
      intro j o;rw[mU,if_neg (by simp_all)];have:v.cells.toList=[v]:=by
       cases v<;>(try rfl)
       simp_all [Cell.okWide,Cell.ok]
      simp_all
     cases q<;>simp only at ht c<;>try (cases ht;done)
     case bool=>cases ht;exact cu rfl c
     case int k=>cases ht;exact cu rfl c
     case string=>cases ht;exact cu rfl c
     case slice e=>
      have:ty.isAgg=false:=by
       cases hte:E0 P d e with
       | none=>simp_all
       | some i=>
         rw[hte] at ht;simp only at ht;split at ht
         .cases ht;rfl
         simp_all
      simp_all
     case struct fs=>
      obtain⟨cs,rfl,_,_⟩:=c;have:ty.isAgg=true:=by
       cases hf:uL P (E0 P d) 0 fs.toList with
       | none=>simp_all
       | some q=>
         rw[hf] at ht;simp only at ht;split at ht
         .cases ht;rfl
         simp_all
      rw[mU,if_pos this];exact⟨cs,rfl,h⟩
theorem Ch{r:Reach}{b0:Nat}:∀{ts:List TypeId} {iq:List Ty} {vs:List Value} {ds:List<|DataW H} {ps:List MemPlace},Qo P ts=some iq->DataW.TrodAll enc P w base spare held ts vs ds ps->
  (∀(j:Nat) t v,ts[j]? = some t->vs[j]? = some v->Value.okWide P w r b0 t v)->(∀n∈DataW.weightsEach P ts ds,n<=reachBytes)->∃x,lg w (λb=>b<w.heap.size) iq vs x/\Ty.fits iq x
 | [],iq,[],[],ps,h,_,_,_=>by cases h;exact⟨(),rfl,trivial⟩
 | t::ts,iq,v::vs,d::ds,ps,h,htr,hok,hwt=>by
   rw[Qo] at h;cases hty:E0 P 60 t with
   | none=>simp_all
   | some ty=>
     rw[hty] at h;simp only at h;split at h;cases h;rename_i tys' hts;cases h;have⟨p,q,⟨fuel,h1⟩,h2,_⟩:=htr;have⟨x,hx,kx⟩:=I4 60 hty h1 λn hn=>hwt n<|pP.2<|.inl hn;have hx':=Ru hty (hok 0 t v rfl rfl) hx;have⟨y,hy,ky⟩:=Ch hts h2 (λj t v ht hv=>hok (j+1) t v (by simp_all)<|by simp_all) λn hn=>hwt n<|pP.2<|.inr hn;cases tys' with
     | nil=>
       subst hy;exact⟨x,⟨v,rfl,hx'⟩,kx⟩
     | cons t2 tys'=>exact⟨(x,y),⟨v,vs,rfl,hx',hy⟩,⟨kx,ky⟩⟩
 | [],_,_::_,_,_,_,h,_,_=>by exact h.elim
 | [],_,[],_::_,_,_,h,_,_=>by exact h.elim
 | _::_,_,[],_,_,_,h,_,_=>by exact h.elim
 | _::_,_,_::_,[],_,_,h,_,_=>by exact h.elim
open Go.RowKit
theorem zU(z:laidOutB P=true){W u:World}(y:Below W.heap.size W u){A:Nat->Bool}:∀{i:List TypeId} {o:List Value} {j:List<|DataW H} {f:List MemPlace},(∀t∈i,P.readableRec t=true/\t<P.types.size)->
  DataW.TrodAll enc P W 0 (λ_=>true) true i o j f->(∀p∈f,p.block<W.heap.size)->(∀p∈f,A p.block=true)->DataW.TrodAll enc P u 0 A true i o j f
 | [],[],[],f,_,h,_,_=>h
 | t::i,v::o,d::j,f,hts,h,hlt,hsp=>by
   obtain⟨p,q,B,C,rfl⟩:=h;refine⟨p,q,WideElems.Trod_stays z (hts t aJ).1 (hts t aJ).2 B (λx c=>y.same<|hlt x<|pP.2<|.inl c)<|λx c=>hsp x<|pP.2<|.inl c,?_,rfl⟩;exact zU z y (λt ht=>hts t<|aD _ ht) C (λx c=>hlt x<|pP.2<|.inr c)<|λx c=>hsp x<|pP.2<|.inr c
 | [],_::_,_,_,_,h,_,_=>by exact h.elim
 | [],[],_::_,_,_,h,_,_=>by exact h.elim
 | _::_,[],_,_,_,h,_,_=>by exact h.elim
 | _::_,_::_,[],_,_,h,_,_=>by exact h.elim
theorem trodAll_length:∀{f:List TypeId} {j:List Value} {c:List<|DataW H} {i:List MemPlace},DataW.TrodAll enc P w base spare held f j c i->c.length=f.length
 | [],[],[],_,_=>rfl
 | t::f,v::j,d::c,i,h=>by
   have⟨p,q,_,o,_⟩:=h;rw[bp,bp,trodAll_length o]
 | [],_::_,_,_,h=>by exact h.elim
 | [],[],_::_,_,h=>by exact h.elim
 | _::_,[],_,_,h=>by exact h.elim
 | _::_,_::_,[],_,h=>by exact h.elim
def aaM{f:Func}{s:ChangeSpec}{h fresh o z:Bool}{W D:World}{args:Array Value}{i O:List<|DataW H}{y:List MemPlace}{tb:TypeId}(c:s.vars=[])
  (a0:∀(H:Type) (i:List<|DataW H),i.length=f.params.size->s.fn H i={results:=[.lit<|.bool true],args:=i}) (u:f.resultTypes=#[tb]) (K:P.underlying tb=some .bool)
  (hl:laidOutB P=true) (a5:∀t∈f.params.toList,P.readableRec t=true/\t<P.types.size)
  (X:DataW.Whole enc P f.params.toList s.vars h W args.toList i O y) (Z:Below W.heap.size W D):s.post enc P f h fresh o z W args (.bool true) D:=by
 have A:=X.lt;have G:=X;obtain⟨p,q,hA,V,rfl,hz,J⟩:=X;rw[c] at V;have a3:O=[]/\q=[]:=by
  cases O with
  | nil=>exact⟨rfl,V⟩
  | cons _ _=>exact V.elim
 obtain⟨rfl,rfl⟩:=a3;rw[aL] at A hz J G;have a9:=trodAll_length hA;have hf:=a0 H (i ++ []) (by simp_all);have B:∀C:Nat->Bool,(∀x∈p,C x.block=true)->DataW.TrodAll enc P D 0 C true f.params.toList args.toList i p:=λC a4=>zU hl Z a5 hA A a4;have v:((Value.bool true).resultList f.resultTypes.size)=[.bool true]:=by rw[u];rfl
 have hr:∀(b:Nat) (C:Nat->Bool) (hd:Bool),DataW.TrodAll enc P D b C hd f.resultTypes.toList ((Value.bool true).resultList f.resultTypes.size) (s.fn H<|i ++ []).results []:=λb C hd=>by
  rw[v,u,hf];exact⟨[],[],shut_bool K true,rfl,rfl⟩
 refine⟨i,[],p,[],p,[],G,hr _ _ _,?_,?_,World.keptBut_mono (λx N=>⟨N,.inr<|.inl N⟩) (Z.frame (· ∈p)),λ_=>⟨λj t r hj hv=>?_,?_⟩⟩
 .simp_all
 .rw[c,hf];rfl
 .grind [okWide_bool_mk]
 .have h1:DataW.TrodAll enc P D 0 (λ_=>true) true (f.resultTypes.toList++f.params.toList) ((Value.bool true).resultList f.resultTypes.size++args.toList) (.lit (.bool true)::i) p:=by
   rw[v,u];exact⟨[],p,shut_bool K true,B _<|λ_ _=>rfl,rfl⟩
  refine⟨.lit (.bool true)::i,[],p,⟨p,[],h1,by rw[c];rfl,by simp_all,λb off hp=>?_,J⟩,λx N _=>N⟩;rw[Z.frozen<|A _ hp];exact hz b off hp
def V2{f:FuncId}{iq:List Ty}{pre:Ty.Ts iq->Bool}{fn:Ty.Ts iq->Bool}{N_:Bool}(hs:aK.bI P f ⟨iq,[.bool],pre,fn,N_⟩)(htrue:∀x,Ty.lC iq x->Ty.fits iq x->pre x=true/\fn x=true){F:Func}(htys:Qo P F.params.toList=some iq)
  {r:Reach} {b0:Nat} {W:World} {args:Array Value} {ds:List<|DataW H} {ps:List MemPlace} (hA:DataW.TrodAll enc P W base spare held F.params.toList args.toList ds ps)
  (hval:∀(j:Nat) t v,F.params[j]? = some t->args[j]? = some v->Value.okWide P W r b0 t v) (hwt:∀n∈DataW.weightsEach P F.params.toList ds,n<=reachBytes) :
  Calls P f args W λe W'=>e=.returned (.bool true)/\Below W.heap.size W W':=by
 have⟨x,hx,kx⟩:=Ch htys hA (λj t v ht hv=>hval j t v (by simp_all)<|by simp_all) hwt;have⟨h1,h2⟩:=htrue x hx.has kx;refine(hs.calls W _ x args (λb hb=>hb) hx h1).mono ?_
 rintro e W' ⟨v,rfl,g1,g2,g3,g4,g5,I',_,g7⟩
 have g7:[v]=[Value.bool<|fn x]:=g7;cases g7;refine⟨by rw[h2],⟨g1,g2,g3,g4,g5⟩⟩
def Rk{C:Checked}{os:Os}{f:FuncId}{F:Func}{s:ChangeSpec}{conds:List PathCond}{apart fresh handsOn again:Bool}{a:Assume}{tb:TypeId}{iq:List Ty}{pre:Ty.Ts iq->Bool}{fn:Ty.Ts iq->Bool}{N_:Bool}
  (own:ownKnob C.prog.godebug=none) (started:os.Started) (noInit:C.prog.inits.idxOf? f=none) (hF:C.prog.funcs[f]? = some F)
  (witness:∃(w:World) (tape:Tape) (i:Input),w.os=os/\(w.forCall tape i).Shaped C.prog/\i.vars=[]/\Input.okWide C.prog (w.forCall tape i) .any w.heap.size f i/\
    s.pre6 enc C.prog F conds apart (w.forCall tape i).memory i.args/\a.holds C.prog (lone (Frame.enter C.prog f i.args .normal) []<|w.forCall tape i))
  (hs:aK.bI C.prog f ⟨iq,[.bool],pre,fn,N_⟩) (htrue:∀x,Ty.lC iq x->Ty.fits iq x->pre x=true/\fn x=true) (htys:Qo C.prog F.params.toList=some iq) (hvars:s.vars=[])
  (hfn:∀(H:Type) (ds:List<|DataW H),ds.length=F.params.size->s.fn H ds={results:=[.lit<|.bool true],args:=ds}) (hres:F.resultTypes=#[tb]) (htb:C.prog.underlying tb=some .bool)
  (hl:laidOutB C.prog=true) (hts:F.params.toList.all (λt=>C.prog.readableRec t&&decide (t<C.prog.types.size))=true) :
  ReturnsInHanded a C os f .any (s.pre6 enc C.prog F conds apart) (s.post enc C.prog F apart fresh handsOn again):=by
 refine returnsInHanded_of_change_sized own started noInit hF witness ?_;intro W b0 args ds gs before hval hW _ hsz _;have hW':=hW;have⟨p,q,hA,hV,_,_,_⟩:=hW;rw[hvars] at hV;have hgs:gs=[]:=by
  cases gs with
  | nil=>rfl
  | cons _ _=>exact hV.elim
 have hwt:∀n∈DataW.weightsEach C.prog F.params.toList ds,n<=reachBytes:=by
  have e:s.plain.varTypes C.prog=[]:=by simp[DataSpec.varTypes,ChangeSpec.plain,hvars]
  simp_all
 refine(V2 hs htrue htys hA hval hwt).mono ?_
 rintro e W' ⟨rfl,hb⟩
 refine⟨_,rfl,aaM hvars hfn hres htb hl (λt ht=>?_) hW' hb⟩
 grind
end
end Go.Ev
namespace Go.Ev
def LT.val{R Y:Type}(d:R):LT R Y->R
 | .ret r=>r
 | .ak _=>d
 | .br b t e=>bif b then t.val d else e.val d
 | .ao _ t=>t.val d
 | .eqs _ t=>t.val d
 | .and a _=>a.val d
 | .bY _ _=>d
def LT.pre{R Y:Type}:LT R Y->Bool
 | .ret _=>true
 | .ak _=>false
 | .br b t e=>bif b then t.pre else e.pre
 | .ao b t=>b&&t.pre
 | .eqs _ t=>t.pre
 | .and _ _=>false
 | .bY _ _=>false
def LT.Eqs{R Y:Type}:LT R Y->Prop
 | .ret _=>True
 | .ak _=>True
 | .br _ t e=>t.Eqs/\e.Eqs
 | .ao _ t=>t.Eqs
 | .eqs p t=>p/\t.Eqs
 | .and _ _=>True
 | .bY _ _=>True
theorem LT.runs{R Y:Type}{d:R}{step:Y->LT R Y}:∀{t:LT R Y},t.Eqs->t.pre=true->aV step t (t.val d)
 | .ret r,_,_=>.ret r
 | .ak _,_,h=>by cases h
 | .br b t e,h1,h2=>by
   cases b with
   | true=>exact .br<|LT.runs h1.1 h2
   | false=>exact .br<|LT.runs h1.2 h2
 | .ao b t,h1,h2=>by
   rw[LT.pre,fZ] at h2;exact .ao h2.1<|LT.runs h1 h2.2
 | .eqs p t,h1,h2=>.eqs h1.1<|LT.runs h1.2 h2
 | .and _ _,_,h=>by cases h
 | .bY _ _,_,h=>by cases h
def LT.all{R Y:Type}(p:R->Prop):LT R Y->Prop
 | .ret r=>p r
 | .ak _=>True
 | .br _ t e=>t.all p/\e.all p
 | .ao _ t=>t.all p
 | .eqs _ t=>t.all p
 | .and a b=>a.all p/\b.all p
 | .bY _ _=>True
theorem LT.sQ{R Y:Type}{d:R}{p:R->Prop}(c:p d):∀{t:LT R Y},t.all p->p (t.val d)
 | .ret r,h=>h
 | .ak _,_=>c
 | .br b t e,h=>by
   cases b with
   | true=>exact LT.sQ (t:=t) c h.1
   | false=>exact LT.sQ (t:=e) c h.2
 | .ao b t,h=>LT.sQ (t:=t) c h
 | .eqs _ t,h=>LT.sQ (t:=t) c h
 | .and a _,h=>LT.sQ c (t:=a) h.1
 | .bY _ _,_=>c
variable{α:Type}{v:α}{x:List α}
section
variable {a b:Int} {k:IntKind}
def bg:af.bq a b=(a==b):=rfl
def bZ:af.cm a b=(a != b):=rfl
def bi:af.bo a b=decide (a<b):=rfl
def aB:af.bE a b=decide (a<=b):=rfl
def iA:af.jD a b=decide (b<a):=rfl
def kW:af.ov a b=decide (b<=a):=rfl
def bu{x y:Bool}:af.and x y=(x&&y):=rfl
def lJ{x:Bool}:af.not x=!x:=rfl
def agY{x y:Bool}:af.q x y=(x==y):=rfl
def b_{β:Type}{f:α->β}{x:α}:af.k f x=f x:=rfl
def gG:af.b .add k a b=k.wrap (a+b):=rfl
def gX:af.b .sub k a b=k.wrap (a-b):=rfl
def jq:af.b .mul k a b=k.wrap (a*b):=rfl
def Fs:af.b .quo k a b=k.wrap (a.tdiv b):=rfl
def Nv:af.b .rem k a b=a.tmod b:=rfl
def acY:af.v k a=k.wrap a:=rfl
def mZ:af.mn a b=if b<a then b else a:=rfl
def tX:af.mx a b=if b > a then b else a:=rfl
def Vb{t:Ty}{x:List t.T}:af.n t x a=x.getD a.toNat t.gy:=rfl
def jc:af.s x a b=(x.take b.toNat).drop a.toNat:=rfl
def Nw:af.set x a v=x.set a.toNat v:=rfl
def uK:af.r a v=List.replicate a.toNat v:=rfl
def nU{y:List α}:af.spl x a y=x.take a.toNat++y++x.drop (a.toNat+y.length):=rfl
theorem lZ(c:-9223372036854775808<=a)(f:a<=9223372036854775807):IntKind.i64.wrap a=a:=IntWalk.i64_in a ⟨c,f⟩
def apk(c:0<=a)(f:a<=18446744073709551615):IntKind.u64.wrap a=a:=IntWalk.u64_in a ⟨c,f⟩
end
variable{n:Int}
def KQ:IntKind.i64.has n↔ -9223372036854775808<=n/\n<=9223372036854775807:=fH
def ap5:IntKind.u8.has n↔0<=n/\n<=255:=fH
variable{b:Bool}
def Gn{x y:Bool}:(bif b then x else y)=true↔(b=true->x=true)/\(b=false->y=true):=by grind
def Aa{x y r:α}:(bif b then x else y)=r↔(b=true/\x=r)\/(b=false/\y=r):=by grind
def adD{x:α}:tt x=true:=rfl
def LT.Pq{R Y:Type}:LT R Y->Bool
 | .br _ t e=>t.Pq&&e.Pq
 | .ao _ t=>t.Pq
 | .eqs _ _=>false
 | _=>true
theorem LT.gI{R Y:Type}:∀{t:LT R Y},t.Pq=true->t.Eqs
 | .ret _,_=>trivial
 | .ak _,_=>trivial
 | .br _ t e,h=>by
   rw[LT.Pq,fZ] at h;exact⟨LT.gI h.1,LT.gI h.2⟩
 | .ao _ t,h=>LT.gI (t:=t) h
 | .and _ _,_=>trivial
 | .bY _ _,_=>trivial
def LT.free{R Y:Type}:LT R Y->Bool
 | .ret _=>true
 | .br _ t e=>t.free&&e.free
 | .eqs _ t=>t.free
 | _=>false
theorem LT.jg{R Y:Type}:∀{t:LT R Y},t.free=true->t.pre=true
 | .ret _,_=>rfl
 | .br b t e,h=>by
   rw[LT.free,fZ] at h;rw[LT.pre,LT.jg h.1,LT.jg h.2,Bool.cond_self]
 | .eqs _ t,h=>LT.jg (t:=t) h
def aQ{P:Program}{ti:PT TI}(ht:nW P ti)(hm:P.follows .mixedOrders=true){g:FuncId}{F:Func}{args res:List Ty}{l_:List<|FuncId×Func}{kh:List<|FuncId×aK}{pre:Ty.Ts args->Bool}{fn:Ty.Ts args->Ty.Ts res}
  (q:Md) (n:Nat) (qD:List Stop) (c:aS->Ty.Ts args->LT (Ty.Ts res) Empty) (k:Kit P ((g,F)::l_) kh [] [] [] [])
  (u:∀x,pre x=true->Ty.lC args x->(c af x).pre=true:=by exact λ_ _ _=>LT.jg<|by kernel_rfl)
  (f:∀x,(c af x).Eqs:=by intro x;exact LT.gI<|by kernel_rfl)
  (o:fits F args.length=true:=by kernel_rfl)
  (j:uO q n (λA=>Pg (C7 A res) 0 [] [] [] [] ti ((g,F)::l_) kh [] qD) (λA x=>tW g F<|ir A args x) c Empty.elim:=by intro A x;kernel_rfl)
  (i:∀x,fn x=(c af x).val (Ty.aR res):=by intro x;kernel_rfl):aK.bI P g ⟨args,res,pre,fn,false⟩:=
 bX ht hm q n qD c k (λx p h=>i x▸LT.runs (f x) (u x p h)) o j
def aV.one{R Y:Type}{s:Y->LT R Y}{t:LT R Y}{a:R}(h:aV s t a):∀{b:R},aV s t b->a=b:=by
 induction h with
 | ret r=>exact λk=>lW.1 k
 | ak _ ih=>exact λk=>ih<|aG.1 k
 | br _ ih=>exact λk=>ih<|yS.1 k
 | ao _ _ ih=>exact λk=>ih (au.1 k).2
 | eqs _ _ ih=>exact λk=>ih (yd.1 k).2
 | and _ _ ih _=>exact λk=>by cases k with|and k _=>grind
def LT.ev{R Y:Type}(s:Y->LT R Y):Nat->LT R Y->Option R
 | 0,_=>none
 | n+1,t=>match t with
   | .ret r=>some r
   | .ak y=>LT.ev s n<|s y
   | .br b t e=>bif b then LT.ev s n t else LT.ev s n e
   | .ao b t=>bif b then LT.ev s n t else none
   | _=>none
theorem LT.Gz{R Y:Type}{s:Y->LT R Y}:∀{n:Nat} {t:LT R Y} {r:R},LT.ev s n t=some r->aV s t r
 | 0,_,_,h=>by cases h
 | n+1,t,r,h=>by
   cases t with
   | ret q=>cases h;exact .ret _
   | ak y=>exact .ak<|LT.Gz (n:=n) h
   | br b t e=>
     cases b
     .exact(ap rfl).2 (LT.Gz (n:=n) h)
     .exact(ar rfl).2 (LT.Gz (n:=n) h)
   | ao b t=>
     cases b
     .cases h
     .exact au.2 ⟨rfl,LT.Gz (n:=n) h⟩
   | eqs _ _=>cases h
   | and _ _=>cases h
   | bY _ _=>cases h
section
variable {R Y:Type} {s:Y->LT R Y} {t e:LT R Y} {d r:R} {P Q:R->Prop} {a b:Int}
noncomputable def fO(s:Y->LT R Y)(t:LT R Y):Bool:=bif (LT.ev s 5000 t).isSome then true else @decide (∃r,aV s t r) (Classical.propDecidable _)
noncomputable def fA(s:Y->LT R Y)(t:LT R Y)(d:R):R:=match LT.ev s 5000 t with
 | some r=>r
 | none=>@dite R (∃r,aV s t r) (Classical.propDecidable _) (λh=>h.choose) λ_=>d
def dN(h:fO s t=true):aV s t<|fA s t d:=by
 unfold fO at h;unfold fA;cases k:LT.ev s 5000 t with
 | some r=>exact LT.Gz k
 | none=>
   grind
def rf(h:aV s t r):fO s t=true:=by
 unfold fO
 grind
def nT(h:aV s t r):fA s t d=r:=(dN<|rf h).one h
def Go(s:Y->LT R Y)(t:LT R Y)(P:R->Prop):Prop:=∃r,aV s t r/\P r
def fQ(h:Go s t P):fO s t=true/\P (fA s t d):=h.elim λ_ k=>⟨rf k.1,by rw[nT k.1];grind⟩
theorem Go.mono(h:Go s t P)(k:∀r,P r->Q r):Go s t Q:=h.elim λr a=>⟨r,a.1,k r a.2⟩
def ay(h:P r):Go s (.ret r) P:=⟨r,.ret _,h⟩
def aP{y:Y}(h:Go s (s y) P):Go s (.ak y) P:=h.elim λr k=>⟨r,.ak k.1,k.2⟩
def ah{b:Bool}(c:b=true)(h:Go s t P):Go s (.ao b t) P:=h.elim λr k=>⟨r,.ao c k.1,k.2⟩
def du{b:Bool}(c:b=true->Go s t P)(f:b=false->Go s e P):Go s (.br b t e) P:=by
 cases b
 .exact(f rfl).elim λr k=>⟨r,.br k.1,k.2⟩
 .exact(c rfl).elim λr k=>⟨r,.br k.1,k.2⟩
def aW(c:a<b->Go s t P)(f:b<=a->Go s e P):Go s (.br (af.bo a b) t e) P:=
 du (λh=>c<|of_decide_eq_true (p:=a<b) h) λh=>f<|iX.1<|of_decide_eq_false (p:=a<b) h
def kY(c:b<a->Go s t P)(f:a<=b->Go s e P):Go s (.br (af.jD a b) t e) P:=
 du (λh=>c<|of_decide_eq_true (p:=a > b) h) λh=>f<|iX.1<|of_decide_eq_false (p:=a > b) h
def xQ(c:a<=b->Go s t P)(f:b<a->Go s e P):Go s (.br (af.bE a b) t e) P:=
 du (λh=>c<|of_decide_eq_true (p:=a<=b) h) λh=>f<|Int.not_le.1<|of_decide_eq_false (p:=a<=b) h
def nE(c:b<=a->Go s t P)(f:a<b->Go s e P):Go s (.br (af.ov a b) t e) P:=
 du (λh=>c<|of_decide_eq_true (p:=a >= b) h) λh=>f<|Int.not_le.1<|of_decide_eq_false (p:=a >= b) h
def cv(c:a=b->Go s t P)(f:¬a=b->Go s e P):Go s (.br (af.bq a b) t e) P:=
 du (λh=>c<|eq_of_beq (a:=a) (b:=b) h) λh=>f (λk=>by rw[k] at h;exact absurd h<|by simp[bg])
def dD(c:¬a=b->Go s t P)(f:a=b->Go s e P):Go s (.br (af.cm a b) t e) P:=
 du (λh=>c<|by simpa [bZ] using h) λh=>f (by simpa [bZ] using h)
def cX{c:Bool}(f:c=false->Go s t P)(h:c=true->Go s e P):Go s (.br (af.not c) t e) P:=by
 cases c
 .exact du (λ_=>f rfl) nofun
 .exact du nofun λ_=>h rfl
end
def vi(x:Int):AV:=.int .i64 false x
def vb(x:Bool):AV:=.bool false x
def dc(t:Ty)(x:t.T):List AV:=lK af t x
def en(l:List<|Nat×AV):Env:=l.foldl (λe p=>e.put p.1 p.2) .leaf
def blZ:Nat->Nat->List Nat->List Nat
 | 0,_,a=>a
 | f+1,n,a=>bif n.ble 1 then a else blZ f (n/2) (n%2::a)
def cw(F:Func)(w:Nat):Code:=Code.way (QK F)<|blZ 99 w []
def sk(F:Func)(w:Nat):List dX:=stk (QK F) (blZ 99 w []) []
def ow(F:Func)(w:Nat):Array Oper:=opsOf<|Code.way (QK F)<|blZ 99 w []
abbrev yI:Ty:=.int .i64
abbrev yU:Ty:=.int .u8
abbrev yB:Ty:=.slice yU
abbrev Cr:Ty:=.slice yI
def Zr (f n:Nat) (e:List<|Nat×AV) (t:List dX):dK:=⟨f,n,en e,t,[],none⟩
def gW (f n:Nat) (e:List<|Nat×AV) (F:Func) (w:Nat):dK:=Zr f n e<|sk F w
def Ac (f n:Nat) (e:List<|Nat×AV) (F:Func) (w:Nat):dK:=Zr f n e<|.code (cw F w)::sk F w
def oDZ (F:Func) (w k:Nat):dX:=.ops (ow F w)<|(ow F w).toList.drop k
def E8 (f n:Nat) (e:List<|Nat×AV) (F:Func) (w k:Nat):dK:=Zr f n e<|oDZ F w k::sk F w
def fDZ (f n:Nat) (e:List<|Nat×AV) (F:Func) (w k:Nat):dK:=Zr f n e [oDZ F w k]
def pZ (k:Nat):AV:=.ptr k 0
def iZ (n:Int):AV:=.int .i64 true n
def uZ (n:Int):AV:=.int .u32 false n
def gZ (l:List AV):iN:=.cu false l
def vZ (n:Int):iN:=gZ [vi n]
def dZ (t:Ty) (x:t.T):iN:=gZ<|dc t x
def aZ (t:Ty) (x:List t.T):iN:=.arr false t x
abbrev LT.fP {R Y:Type} (A:aS) {τ:Type} (i:Int) (l:List τ) (t:LT R Y):LT R Y:=.ao (A.and (A.bE 0 i)<|A.bo i<|A.l l) t
abbrev LT.qI {R Y:Type} (A:aS) {τ:Type} (l:List τ) (t:LT R Y):LT R Y:=.ao (A.cm (A.l l) 0) t
def JW{R Y:Type}{s:Y->LT R Y}{t:LT R Y}{d:R}(h:(fO s t&&b)=true):aV s t<|fA s t d:=dN ((Bool.and_eq_true _ _).mp h).1
def Jv{a:Bool}{p:Prop}[Decidable p](h:(a&&decide p)=true):p:=of_decide_eq_true ((Bool.and_eq_true _ _).mp h).2
end Go.Ev
