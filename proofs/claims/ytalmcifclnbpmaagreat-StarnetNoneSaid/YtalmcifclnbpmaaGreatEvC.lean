/- PROVED: an evaluator is right, the whole; contracts. Conditions: tables and contracts fit. -/
import Derived.Test.YtalmcifclnbpmaaGreatEvB
import Derived.KernelRfl
import Derived.Laws.StructEq
import Derived.WalkKit
import Derived.ProofKit
import Derived.OpenShut
import Derived.SizedLaws
import Derived.Carry
import Derived.IntWalk
set_option linter.unusedVariables false
set_option linter.defProp false
set_option linter.unusedSimpArgs false
set_option linter.unusedSectionVars false
namespace Go.Ev
section
variable {P:Program} {R:Type} {E:kD R} {w0:nE} {I0:Nat->Prop} {f0:FuncId} {Fin:R->Value->World->Prop} {Q:R->Prop}
variable {w:World} {S:St} {m:Mem} {fr:Frame} {fs:List dI} {frs cs:List Frame}
variable {n:Nat}
theorem KI:∀{f:List Nat} {j:List AV} {h:List Value} {env:Env} {c:Array Value} {nn:Nat},eD w S m j h->f.length=j.length->(∀p∈f,p<nn)->c.size=nn->nn<=65535->(∀i,CR w S m (env.at i)<|c.getD i undef)->
  ((f.zip h).foldl (λc (t,a)=>c.setIfInBounds t a) c).size=nn/\∀i,CR w S m ((As f j env).at i)<|((f.zip h).foldl (λc (t,a)=>c.setIfInBounds t a) c).getD i undef
 | [],j,h,env,c,nn,_,_,_,hs,_,he=>by simp_all [As]
 | p::f,[],h,env,c,nn,_,hl,_,_,_,_=>by simp_all
 | p::f,a::j,h,env,c,nn,hc,hl,hp,hs,hn,he=>by
   obtain⟨u,r,rfl,A,v⟩:=bL.1 hc;simp only[As];have x:=hp p aM;refine KI (nn:=nn) v (by simp_all) (λq y=>hp q<|aB _ y) (by grind) hn λi=>?_;rw[Env.zY<|by omega];by_cases B:i=p
   all_goals simp_all [ir]
def Gv{α β γ:Type}(f:γ->α×β->γ)(x:γ)(a:Array α)(b:Array β):(a.zip b).foldl f x=(a.toList.zip b.toList).foldl f x:=by
 rw[<-Array.foldl_toList,Array.toList_zip]
def JD{ρ:Operand->Value}{x:Operand}{args:Array Operand}{f:Array TypeId}{t:TypeId}{l:Nat}{r:Loop}(i:ρ x=.func (.yield l) #[] #[])(h:w.heap[l]? = some (.loop r))(j:args.size=r.params.size) :
  (do let d <-resolve ρ {callee:=.value x,args:=args,argTypes:=f} t;invoke d.target d.args:Sem Next).run P w =
    .ok (.round l r.fn ((r.params.zip<|args.map ρ).foldl (λc (t,a)=>c.setIfInBounds t a) r.tmps) r.assign r.body) w:=by
 simp only[resolve,i,Deferred.ofValue,Array.empty_append];exact run_yield h (by grind)
theorem JW{c:Operand->AV}{f:Operand->Value}(h:∀x,CR w S m (c x)<|f x)(l:Array Operand):eD w S m (l.toList.map c) (l.map f).toList:=by grind [Array.toList_map,EX]
def Tx(hP:Fits P E Fin w0 I0)(ih:∀c,Tr.Ok Q (Good P E w0 I0 f0 Fin Q) (run af E n c)->Good P E w0 I0 f0 Fin Q c)
  {all:Array Oper} {i:Nat} {l:List Nat} {kc:List Item} {o:Oper} {ρ:Operand->AV} {fn:FuncId} {below:dI} {next:AV->Mem->Tr R}
  (hW:WR w0 w S m) (hI:∀b,S.I b->I0 b\/w0.free b) (as:Fs w S m fs frs) (hB:zT f0<|below::fs) (hm:fr.mode=.run)
  (ht:fr.todo=.inRegion all (i::l)::kc) (ho:all[i]? = some o) (hw:Region.wanted o (yielded all fr.tmps)=true)
  (hρ:∀x∈o.op.operands.toList,CR w S m (ρ x)<|fr.eval x) (J:FR w S m below fr)
  (u:∀v Z w' S' z,Step w0 w S m w' S' Z->CR w' S' Z v z->Tr.Ok Q (Good P E w0 I0 f0 Fin Q) (next v Z)->Ends P f0 Fin Q (fr.finish z) frs cs w')
  (h:Tr.Ok Q (Good P E w0 I0 f0 Fin Q) (match ub af E ρ m o with
        | some tv=>tv.bind o.pos λv=>next v m
        | none=>match o.op with
          | .call {callee:=.value x,args,.. }=>match ρ x with
            | .fn g first j=>match look E.jK g with
              | some s=>(vW af s m<|first++(args.toList.map ρ++j)).bind o.pos λp=>next p.1 p.2
              | none=>match sV af E g m (first++(args.toList.map ρ++j)) with
               | some tv=>tv.bind o.pos λp=>next p.1 p.2
               | none=>match look E.ll g with
                | none=>.bU 163 o.pos
                | some G=>match jj g G (first++(args.toList.map ρ++j)) with
                  | none=>.bU 164 o.pos
                  | some h=>run af E n {bI:=h::below::fs,mem:=m}
            | .yield l=>match m.at l with
               | .loop r=>match Nat.beq r.params.length (args.toList.map ρ).length&&r.params.all (λp=>Nat.blt p r.n) with
                 | true=>run af E n {bI:={fn:=r.fn,n:=r.n,env:=As r.params (args.toList.map ρ) r.env,todo:=[.code r.assign,.beginRound,.code r.body],marks:=[],gy:=some l}::below::fs,mem:=m}
                 | false=>.bU 165 o.pos
               | _=>.bU 166 o.pos
            | _=>.bU 167 o.pos
          | _=>(xE af E fn ρ m o).bind o.pos λp=>next p.1 p.2)):Ends P f0 Fin Q fr frs cs w:=by
 classical
 let ρ':Operand->AV:=λx=>if x∈o.op.operands.toList then ρ x else .undef
 have b0:∀x,CR w S m (ρ' x)<|fr.eval x:=λx=>by
  by_cases hx:x∈o.op.operands.toList
  .grind
  .simp only[ρ',if_neg hx];exact gT
 have D:∀x∈o.op.operands.toList,ρ x=ρ' x:=λx hx=>by grind
 rw[DC D,NM D] at h;cases hev:ub af E ρ' m o with
 | some tv=>
   rw[hev] at h;have⟨v,X,h⟩:=TV.bind_ok h;have⟨z,hz,hc⟩:=DD hP.ti hW b0 hev X;have O:∀c,o.op≠.defer c:=λc e=>by grind [ub]
   exact .step (Ry hm ht ho hw O hz)<|u v m w S z (.refl hW) hc h
 | none=>
   rw[hev] at h;simp only at h;have other:Tr.Ok Q (Good P E w0 I0 f0 Fin Q) ((xE af E fn ρ' m o).bind o.pos λp=>next p.1 p.2)->Ends P f0 Fin Q fr frs cs w:=by
    intro h;have⟨⟨v,Z⟩,X,h⟩:=TV.bind_ok h;have⟨nx,z,w',S',a6,b9,hs,hc⟩:=NN hP.ti hW b0 X;have O:∀c,o.op≠.defer c:=λc e=>by simp[xE,e,TV.Is] at X
    rcases b9 with rfl|⟨rfl,rfl⟩
    .exact .step (Ry hm ht ho hw O a6)<|u v Z w' S' z hs hc h
    .exact .step (amy hm ht ho hw O a6)<|u _ Z w' S' undef hs gT h
   split at h
   .rename_i x args b3 ac;have O:∀c,o.op≠.defer c:=λc e=>by rw[ac] at e;cases e
    have hx:CR w S m (ρ x)<|fr.eval x:=hρ x (by rw[ac];simp[Op.operands,Call.operands]);have N:eD w S m (args.toList.map ρ) (args.map fr.eval).toList:=by
     have e:args.toList.map ρ=args.toList.map ρ':=vo λy hy=>D y (by grind [Op.operands,Call.operands])
     grind [JW]
    have A:∀nx,(do let d <-resolve fr.eval {callee:=.value x,args:=args,argTypes:=b3} o.type;invoke d.target d.args:Sem Next).run P w=.ok nx w->(execOp fr.eval o).run P w=.ok nx w:=λnx he=>by
     simp only[execOp,ac];exact he
    cases X:ρ x<;>rw[X] at h hx<;>(try simp only at h)<;>try exact h.elim
    .rename_i g first j
     have⟨us,vs,W,bb,bc⟩:=vk.1 hx;have K:eD w S m (first++(args.toList.map ρ++j)) (us++args.map fr.eval++vs).toList:=by
      rw[Array.append_assoc,gp,gp];exact bb.append<|N.append bc
     cases hsp:look E.jK g with
     | some s=>
       rw[hsp] at h;have⟨⟨v,Z⟩,X,h⟩:=TV.bind_ok h;have⟨F,hF,hb,hn⟩:=(hP.jK g s hsp).body;have⟨w',S',z,iU,hs,hc,C,B⟩:=Bh (hP.jK g s hsp) (λd=>(hP.zk d).1 g s hsp) hW K X<|fr::(frs++cs);have f:=MV (cs:=frs++cs) hm ht ho hw O<|A _<|oF W hF hn hb w;exact .steps ((Steps.head f C).trans<|.one<|step_leave_returned B)<|u v Z w' S' z hs hc h
     | none=>
       rw[hsp] at h;cases hpp:sV af E g m (first++(args.toList.map ρ++j)) with
       | some tv=>
         rw[hpp] at h;have⟨⟨v,Z⟩,X,h⟩:=TV.bind_ok h;have⟨⟨F,hF,hb,hn⟩,aa⟩:=F1 hP hpp;have⟨w',S',z,iU,hs,hc,C,B⟩:=aa hW K X<|fr::(frs++cs);have f:=MV (cs:=frs++cs) hm ht ho hw O<|A _<|oF W hF hn hb w;exact .steps ((Steps.head f C).trans<|.one<|step_leave_returned B)<|u v Z w' S' z hs hc h
       | none=>
       rw[hpp] at h;simp only at h;cases hG:look E.ll g with
       | none=>rw[hG] at h;exact h.elim
       | some G=>
         rw[hG] at h;simp only at h;cases hen:jj g G (first++(args.toList.map ρ++j)) with
         | none=>rw[hen] at h;exact h.elim
         | some h'=>
           rw[hen] at h;simp only at h;have⟨aq,b6⟩:=hP.ll _ _ hG;have⟨b7,a8,aw⟩:=kE aq hen K;have f:=MV (cs:=frs++cs) hm ht ho hw O<|A _<|oF W aq b6 a8 w;exact .step (frs2:=fr::frs) f<|ih _ h (gS aw) S _ _ cs w hW hI ⟨_,_,rfl,b7,_,_,rfl,J,as⟩ hB
    .rename_i lp;cases hml:m.at lp<;>rw[hml] at h<;>(try simp only at h)<;>try exact h.elim
     rename_i r;have W:fr.eval x=.func (.yield<|S.σ lp) #[] #[]:=by grind [CR]
     cases hok:Nat.beq r.params.length (args.toList.map ρ).length&&r.params.all (λp=>Nat.blt p r.n) with
     | false=>rw[hok] at h;exact h.elim
     | true=>
       rw[hok] at h;simp only at h;rw[eH] at hok;have⟨V,av⟩:=hok;have V:=vL V;have av:∀p∈r.params,p<r.n:=λp hp=>by simp_all
       have hb:=hW.box lp;rw[hml] at hb;have⟨L,g1,g2,g3,g4,g5,g6,g7,⟨g8,g9⟩,b4⟩:=hb;have ba:args.size=L.params.size:=by grind
       have f:=amx (P:=P) (cs:=frs++cs) hm ht ho hw O<|A _<|JD W g1 ba;have a5:=KI N V av g8 g9 b4;rw[Gv,g4,g5,g6,g7] at f;refine .step (frs2:=fr::frs) f<|ih _ h (gS λa ha=>by cases ha;rfl) S _ _ cs w hW hI ⟨_,_,rfl,?_,_,_,rfl,J,as⟩ hB;refine⟨rfl,a5.1,g9,λy _=>a5.2 y,fV.code<|.mk (a:=.beginRound) rfl<|fV.code rfl,?_,λa ha=>?_,rfl,λd O=>absurd O aF,rfl,rfl,rfl,λq hq=>by cases hq;rw[hml];rfl⟩
       .exact .mk trivial<|.mk trivial<|.mk trivial λa ha=>absurd ha aF
       .simp only[List.tail_cons,aC,aF,or_false] at ha;rcases ha with rfl|rfl<;>rfl
   .exact other h
end
end Go.Ev
namespace Go.Ev
variable{D:List Nat}
section
variable {P:Program} {R:Type} {E:kD R} {w0:nE} {I0:Nat->Prop} {f0:FuncId} {Fin:R->Value->World->Prop} {Q:R->Prop}
variable {w:World} {S:St} {m:Mem} {fr:Frame} {fs:List dI} {frs cs:List Frame}
variable {fn:FuncId} {nn:Nat} {env:Env} {marks:List Nat} {gy:Option Nat} {k:List dT} {n:Nat}
def EZ(env c:Env)(D:List Nat):Prop:=∀x,c.at x=env.at x\/(x∈D/\∃v,env.at x=.bool false v/\c.at x=.bool true v)
theorem EZ.CR{c:Env}(h:EZ env c D){x:Nat}{v:Value}(f:CR w S m (env.at x) v):CR w S m (c.at x) v:=by
 rcases h x with e|⟨_,b,i,j⟩
 .grind
 .rw[i] at f;rw[j];exact iE.2<|iE.1 f
def FR.TG{f:Env}{j:List dT}(h:EZ env f D)(c:FR w S m ⟨fn,nn,env,j,marks,gy⟩ fr):FR w S m ⟨fn,nn,f,j,marks,gy⟩ fr:=
 ⟨c.fn,c.n,c.small,λi p=>h.CR<|c.env i p,c.todo,c.live,c.cH,c.defers,c.marks,c.mode,c.kind,c.gy,c.uH⟩
def acL{f:List dT}(p:FR w S m ⟨fn,nn,env,f,marks,gy⟩ fr){d:Nat}{c v:Bool}(j:¬Hid ⟨fn,nn,env,f,marks,gy⟩ fr d)(h:env.at d=.bool c v):d<nn:=by
 have i:=p.env d j;rw[show(dI.env ⟨fn,nn,env,f,marks,gy⟩).at d=.bool c v from h] at i;rcases Nat.lt_or_ge d nn with u|u
 .omega
 .rw[dW,Array.getElem?_eq_none (by rw[p.n];omega)] at i;cases i
theorem afz(hP:Fits P E Fin w0 I0)(ih:∀c,Tr.Ok Q (Good P E w0 I0 f0 Fin Q) (run af E n c)->Good P E w0 I0 f0 Fin Q c){all:Array Oper}{o:Oper}{f:List Oper}
  (h:Tr.Ok Q (Good P E w0 I0 f0 Fin Q)<|run af E (n+1) {bI:=⟨fn,nn,env,.ops all (o::f)::k,marks,gy⟩::fs,mem:=m})
  (hW:WR w0 w S m) (hI:∀b,S.I b->I0 b\/w0.free b) (B:FR w S m ⟨fn,nn,env,.ops all (o::f)::k,marks,gy⟩ fr) (G:Fs w S m fs frs) (hB:zT f0<|⟨fn,nn,env,.ops all (o::f)::k,marks,gy⟩::fs) :
  Ends P f0 Fin Q fr frs cs w:=by
 have A:∀{env:Env} y,¬Hid ⟨fn,nn,env,.ops all (o::f)::k,marks,gy⟩ fr y:=λy=>oM λa V=>by cases V;rfl
 have⟨it,kc,ht,h1,h2⟩:=B.todo.cons_inv;obtain⟨l,rfl,X⟩:∃l:List Nat,it=.inRegion all l/\l.map (λi=>all[i]?)=(o::f).map some:=h1;cases l with
 | nil=>grind
 | cons i l=>
   simp at X;simp only[run] at h;split at h;exact h.elim;rename_i hd;have⟨j,Z,h⟩:=GF h λd _ c v e=>by have:=acL B (A d) e;have:nn<=65535:=B.small;omega
   have p:=B.TG (D:=iI all o) Z;have hw:∀{t:Bool},jw all j o t->Region.wanted o (yielded all fr.tmps)=t:=λJ=>tg J λd _=>p.env d<|A d
   have u:∀{v:AV} {K:Mem} {N:World} {O:St} {z:Value},Step w0 w S m N O K->CR N O K v z->
     Tr.Ok Q (Good P E w0 I0 f0 Fin Q) (run af E n {bI:=⟨fn,nn,j.oE o.dst v,.ops all f::k,marks,gy⟩::fs,mem:=K})->Ends P f0 Fin Q (fr.finish z) frs cs N:=λC W h=>
    ih _ h (gS λa V=>by cases V;rfl) _ _ _ cs _ C.wr (λb hb=>(C.grows b hb).elim (hI b) .inr) ⟨_,_,rfl,F_ (p.mono C.out) hd W,G.mono C.out⟩ (hB.swap rfl)
   rcases h with ⟨J,h⟩|⟨J,h⟩
   .exact Tx (fn:=fn) (ρ:=mQ j) (below:=⟨fn,nn,j,.ops all (o::f)::k,marks,gy⟩) (next:=λv m=>run af E n {bI:=⟨fn,nn,j.oE o.dst v,.ops all f::k,marks,gy⟩::fs,mem:=m})
     hP ih hW hI G (hB.swap rfl) B.mode ht X.1 (hw J) (λx _=>BK p x λt _=>A t) p (λv K N O z C W h=>u C W h) h
   .exact .step (KY B.mode ht X.1<|hw J)<|u (.refl hW) (jZ.2 ⟨#[],rfl,bA.2 rfl⟩) h
end
end Go.Ev
namespace Go.Ev
theorem J3(e:Edge):Region.binds .any e=uQ e:=by rfl
theorem xD:∀{c:List Oper} {k i:Nat} {o:Oper},p_ k c=true->c[i]? = some o->∀e∈o.after.toList,uQ e=true->e.on<k+i
 | [],k,i,o,_,h=>by grind
 | p::c,k,i,o,he,h=>by
   rw[p_,eH] at he;cases i with
   | zero=>
     cases h;intro e hm f;have:=cv.1 he.1 e hm
     simp_all
   | succ i=>
     intro e hm f;have:=xD he.2 (by simpa using h) e hm f;omega
variable{i:Nat}
def uC{all:Array Oper}{j:Nat}:j∈oN all i↔∃o e,all[i]? = some o/\e∈o.after.toList/\uQ e=true/\e.on=j:=by grind [oN]
def pred_lt{all:Array Oper}(h:p_ 0 all.toList=true){j:Nat}(u:j∈oN all i):j<i:=by
 obtain⟨o,e,c,f,p,rfl⟩:=uC.1 u;have:=xD h (by rw[Array.getElem?_toList];exact c) e f p;omega
structure ail(all:Array Oper)(acc:List Nat):Prop where
 nodup:acc.Nodup
 lt:∀i∈acc,i<all.size
 ahA:∀i∈acc,∀j∈oN all i,j∈acc
 pw:acc.Pairwise λi j=>i ∉ oN all j
def ail.lin{all:Array Oper}{c:List Nat}(h:ail all c)(p:p_ 0 all.toList=true)(j:∀i,i<all.size->i∈c):Wb all c.reverse/\∀i,i<all.size->i∈c.reverse:=
 ⟨⟨List.pairwise_reverse.2<|h.nodup.imp ir,λi f=>h.lt i<|nY.1 f,List.pairwise_reverse.2 h.pw,λi _ x=>bJ _<|pred_lt p x,
  λk u v=>absurd (nY.2<|j k u) v⟩,λi f=>nY.2<|j i f⟩
def KJ{all:Array Oper}{c:Array Bool}{f:List Nat}(K:c.size=all.size)(hm:∀i,i<all.size->(c.getD i false=true↔i∈f))(B:∀i∈f,i<all.size)(u:i<all.size):
  (!c.getD i true&&((all[i]?).map (·.after.all λe=>!Region.binds .any e||c.getD e.on false)).getD false)=true↔i ∉ f/\∀j∈oN all i,j∈f:=by
 have v:c.getD i true=c.getD i false:=by simp_all
 have x:∀j,c.getD j false=true↔j∈f:=λj=>by grind
 rw[v,eH,fK,eU u];simp only[o_,Option.getD_some,Array.all_eq_true',o6];constructor
 .rintro ⟨y,p⟩
  refine⟨λh=>by grind,λj A=>?_⟩;obtain⟨o,e,C,D,G,rfl⟩:=uC.1 A
  grind [J3]
 .rintro ⟨y,p⟩
  refine⟨?_,λe J=>?_⟩
  .grind
  .cases hb:Region.binds .any e with
   | false=>simp_all
   | true=>exact .inr<|(x _).2<|p _<|uC.2 ⟨_,e,eU u,by simp_all,by grind [J3],rfl⟩
theorem By{all:Array Oper}(y:p_ 0 all.toList=true):∀(h t:Nat) (c:Array Bool) (f:List Nat),c.size=all.size->(∀i,i<all.size->(c.getD i false=true↔i∈f))->ail all f->
  ((List.range all.size).filter λi=>decide<|i ∉ f).length<=h->Wb all (Region.linearise.go .any all h t c f)/\∀i,i<all.size->i∈Region.linearise.go .any all h t c f
 | 0,t,c,f,hl,hm,hP,hf=>by
   refine hP.lin y λi x=>?_
   simp_all
 | h+1,t,c,f,hl,hm,hP,hf=>by
   rw[Region.linearise.go];split
   .rename_i i x;have v:=jf x;have⟨J,K⟩:=gh.1 v;have C:=kJ.1 J;have⟨B,X⟩:=(KJ hl hm hP.lt C).1 K;refine By y h _ _ _ (by grind) (λj u=>?_) ⟨bS.2 ⟨B,hP.nodup⟩,λj u=>?_,λj u k N=>?_,mU.2 ⟨λj u O=>B<|hP.ahA j u i O,hP.pw⟩⟩ ?_
    .simp only[dW,Array.getElem?_setIfInBounds];by_cases D:i=j
     .simp_all
     .rw[if_neg D,<-dW,hm j u,aC]
      grind
    .rcases aC.1 u with rfl|u
     .omega
     .exact hP.lt j u
    .rcases aC.1 u with rfl|u
     .simp_all
     .exact aB _<|hP.ahA j u k N
    .have e:(List.range all.size).filter (λj=>decide<|j ∉ i::f)=((List.range all.size).filter λj=>decide<|j ∉ f).filter λj=>decide<|j≠i:=by simp_all
     rw[e]
     have:(((List.range all.size).filter λj=>decide<|j ∉ f).filter λj=>decide<|j≠i).length<((List.range all.size).filter λj=>decide<|j ∉ f).length:=
      List.length_filter_lt_length_iff_exists.2 ⟨i,gh.2 ⟨J,by simpa using B⟩,by simp⟩
     omega
   .rename_i Z;refine hP.lin y λi x=>?_;have W:∀i,i<all.size->i∈f:=λi=>by
     induction i using Nat.strongRecOn with
     | ind i G=>
       intro x;by_cases A:i∈f
       .exact A
       .have V:=(KJ hl hm hP.lt x).2 ⟨A,λj u=>G j (pred_lt y u) (by have:=pred_lt y u;omega)⟩;have v:=gh (p:=λi=>!c.getD i true&&((all[i]?).map (·.after.all λe=>!Region.binds .any e||c.getD e.on false)).getD false) |>.2 ⟨kJ.2 x,V⟩
        grind [Nat.mod_lt]
    grind
def ML{all:Array Oper}(c:p_ 0 all.toList=true)(t:Nat):Wb all (Region.schedule true all t)/\∀i,i<all.size->i∈Region.schedule true all t:=by
 refine By c _ _ _ _ (by simp) (λi f=>?_) ⟨qo,λ_ h=>absurd h aF,λ_ h=>absurd h aF,.nil⟩ ?_
 .simp_all
 grind
theorem Am{f:List Nat}{b:Nat}:∀{c:List Edge},(qh f c).testBit b=true->∃e∈c,uQ e=true/\(b=e.on\/(f.getD e.on 0).testBit b=true)
 | [],h=>by grind [qh]
 | e::c,h=>by
   simp only[qh] at h;cases hb:uQ e with
   | false=>
     rw[hb] at h;have⟨i,j,p⟩:=Am h
     grind
   | true=>
     rw[hb] at h;simp at h;rcases h with (h|h)|h
     .grind
     .simp_all
     .have⟨i,j,p⟩:=Am h
      grind
theorem xW:∀{f:List Oper} {c:List Nat} {j:Nat},j<c.length->(oK f c).getD j 0=c.getD j 0
 | [],c,j,_=>by rfl
 | o::f,c,j,h=>by
   rw[oK,xW (by simp;omega)]
   grind
theorem D2:∀{os:List Oper} {ms:List Nat} {i:Nat} {o:Oper},os[i]? = some o->(∀e∈o.after.toList,uQ e=true->e.on<ms.length+i)->(oK os ms).getD (ms.length+i) 0=qh (oK os ms) o.after.toList
 | [],ms,i,o,h,_=>by grind
 | p::os,ms,i,o,h,he=>by
   rw[oK];have f:(ms ++ [qh ms p.after.toList]).length=ms.length+1:=by simp
   cases i with
   | zero=>
     rw[kv,xW<|by omega];have u:∀j,j<ms.length->(oK os<|ms ++ [qh ms p.after.toList]).getD j 0=ms.getD j 0:=λj y=>by grind [xW]
     have v:∀c:List Edge,(∀e∈c,uQ e=true->e.on<ms.length)->qh ms c=qh (oK os<|ms ++ [qh ms p.after.toList]) c:=λc=>by
      induction c with
      | nil=>intro _;rfl
      | cons e c ih=>
        grind [qh]
     grind
   | succ i=>
     have:=D2 (os:=os) (ms:=ms ++ [qh ms p.after.toList]) (i:=i) (o:=o) (by simp_all) (λe hm x=>by grind)
     grind
variable{l:List Nat}
def UY{all:Array Oper}(y:p_ 0 all.toList=true)(D:Wb all l):∀{i b:Nat},i<all.size->(∀j∈oN all i,j ∉ l)->((oK all.toList []).getD i 0).testBit b=true->b ∉ l:=by
 intro i
 induction i using Nat.strongRecOn with
 | ind i v=>
   intro b G K x;obtain⟨o,J⟩:∃o,all[i]? = some o:=⟨_,eU G⟩;have c:all.toList[i]? = some o:=by grind
   have p:=xD y c;have:=D2 (ms:=[]) c (λe hm h=>by grind);rw[List.length_nil,Nat.zero_add] at this;rw[this] at x;have⟨e,B,C,f⟩:=Am x;have A:e.on∈oN all i:=uC.2 ⟨o,e,J,B,C,rfl⟩;have u:=pred_lt y A;rcases f with rfl|f
   .grind
   .exact v e.on u (by omega) (D.closed e.on (by omega)<|K _ A) f
def Wb.UP{all:Array Oper}(h:Wb all<|i::l):∀j∈oN all i,j ∉ i::l:=λj c hm=>by
 rcases aC.1 hm with rfl|hm
 .exact h.self j aM c
 .exact(mU.1 h.pw).1 j hm c
def iW.done{n:Nat}{all:Array Oper}{f c bs:List Nat}{b:Nat}(h:iW n all f c bs<|i::l)(j:(f.getD i 0).testBit b=true):b ∉ i::l:=by
 exact h.msk [] i l rfl b j
def ZJ{all:Array Oper}(j:p_ 0 all.toList=true)(f:Wb all l):Fv (oK all.toList []) l:=λl1 i l2 e b h=>by
 subst e;have c:Wb all<|i::l2:=by
  induction l1 with
  | nil=>grind
  | cons x l1 ih=>exact ih f.tail
 exact UY j c (c.lt i aM) c.UP h
end Go.Ev
namespace Go.Ev
variable{i:Nat}{l:List Nat}{t:Nat}{v:AV}
section
variable {P:Program} {R:Type} {E:kD R} {w0:nE} {I0:Nat->Prop} {f0:FuncId} {Fin:R->Value->World->Prop} {Q:R->Prop}
variable {w:World} {S:St} {m:Mem} {fr:Frame} {fs:List dI} {frs cs:List Frame}
variable {fn:FuncId} {nn:Nat} {env:Env} {marks:List Nat} {gy:Option Nat} {k:List dT} {n:Nat}
def Vv{a b:AV}{z:Value}(h:pj a b)(c:CR w S m a z):CR w S m b z:=by
 unfold pj at h;split at h
 .subst h;exact iE.2<|iE.1 c
 .obtain⟨rfl,rfl⟩:=h;exact fu.2<|fu.1 c
 grind
def Lq{A:aS}{s:aL}{c:List AV}{f:Mem}(i:uF (c.flatMap AV.cells)=true)(h:(vW A s m c).Is (v,f)):f=m:=by
 unfold vW at h;cases hok:j6 s.args c with
 | false=>rw[hok] at h;exact h.elim
 | true=>
   rw[hok,Gx i] at h;simp only at h;cases htd:q9 s.args (c.flatMap AV.cells) with
   | none=>rw[htd] at h;exact h.elim
   | some q=>
     have⟨x,r⟩:=q;rw[htd] at h;cases r with
     | cons _ _=>exact h.elim
     | nil=>
       cases hs:s.JS<;>rw[hs] at h
       .cases h.2;rfl
       .cases h;rfl
def agP(W:Fits P E Fin w0 I0){all:Array Oper}{kc:List Item}{o:Oper}{ρ:Operand->AV}{tv:TV AV}(Z:WR w0 w S m)(hm:fr.mode=.run)
  (ht:fr.todo=.inRegion all (i::l)::kc) (ho:all[i]? = some o) (hw:Region.wanted o (yielded all fr.tmps)=true) (hρ:∀x∈o.op.operands.toList,CR w S m (ρ x)<|fr.eval x)
  (h:evV af E m ρ o=some tv) (hv:tv.Is v) (cs:List Frame):∃O V z,Step w0 w S m O V m/\CR O V m v z/\Steps P (lone fr cs w) (lone (fr.finish z) cs O):=by
 classical
 let D:Operand->AV:=λx=>if x∈o.op.operands.toList then ρ x else .undef
 have C:∀x,CR w S m (D x)<|fr.eval x:=λx=>by
  by_cases N:x∈o.op.operands.toList
  .grind
  .simp only[D,if_neg N];exact gT
 have A:∀x∈o.op.operands.toList,ρ x=D x:=λx N=>by grind
 rw[Cz A] at h;unfold evV at h;cases hev:ub af E D m o with
 | some as=>
   rw[hev] at h;cases h;have⟨z,hz,hc⟩:=DD W.ti Z C hev hv;have hd:∀c,o.op≠.defer c:=λc e=>by grind [ub]
   exact⟨w,S,z,.refl Z,hc,.one<|Ry hm ht ho hw hd hz⟩
 | none=>
   rw[hev] at h;unfold Bg at h;cases hop:o.op<;>rw[hop] at h<;>(try simp only at h)<;>try (cases h;done)
   rename_i c;have⟨f,args,X⟩:=c;cases f<;>simp only at h<;>try (cases h;done)
   rename_i x;have hd:∀c,o.op≠.defer c:=λc e=>by simp_all
   have N:=C x;have u:eD w S m (args.toList.map D) (args.map fr.eval).toList:=JW C args;have y:∀nx,(do let d <-resolve fr.eval {callee:=.value x,args:=args,argTypes:=X} o.type;invoke d.target d.args:Sem Next).run P w=.ok nx w->(execOp fr.eval o).run P w=.ok nx w:=λnx he=>by grind [execOp]
   cases hvx:D x<;>rw[hvx] at h N<;>(try simp only at h)<;>try (cases h;done)
   rename_i g first G
   have⟨us,vs,a7,a5,a6⟩:=vk.1 N;have J:eD w S m (first++(args.toList.map D++G)) (us++args.map fr.eval++vs).toList:=by
    rw[Array.append_assoc,gp,gp];exact a5.append<|u.append a6
   cases hsp:look E.jK g with
   | none=>simp_all
   | some s=>
     rw[hsp] at h;simp only at h;split at h
     rotate_left
     cases h;rename_i a4;cases h;obtain⟨⟨v',m'⟩,K,rfl⟩:=TV.GX hv;obtain rfl:=Lq a4 K;have⟨F,hF,hb,hn⟩:=(W.jK g s hsp).body;have⟨O,V,z,iU,hs,hc,p,j⟩:=Bh (W.jK g s hsp) (λd=>(W.zk d).1 g s hsp) Z J K<|fr::cs;have B:=MV (cs:=cs) hm ht ho hw hd<|y _<|oF a7 hF hn hb w;exact⟨O,V,z,hs,hc,(Steps.head B p).trans<|.one<|step_leave_returned j⟩
theorem An{t:Nat}:∀{l:List Operand},Operand.tmp t∈l->t∈tmpsOf l
 | x::l,h=>by
   rcases aC.1 h with rfl|c
   .exact aM
   .cases x<;>simp only[tmpsOf]
    .exact aB _<|An c
    all_goals exact An c
theorem wE{all:Array Oper}{o:Oper}(h:Operand.tmp t∈o.op.operands.toList):t∈kL all o:=oJ.2<|.inl<|An h
def pP{all:Array Oper}{o:Oper}(h:t∈iI all o):t∈kL all o:=oJ.2<|.inr h
def BF{all:Array Oper}{A c bs:List Nat}{V:List Item}{o:Oper}{f:dI}(K:iW nn all A c bs<|i::l)(N:f.todo.head?.bind dT.drawn=some (all,bs))(ht:fr.todo=.inRegion all (i::l)::V)
  (j:∀b∈bs,i≠b->∀p d,all[b]? = some p->p.dst=some d->d∈kL all o->(A.getD i 0).testBit b=true) (y:i∈bs->∀d,∀p,all[i]? = some p->p.dst=some d->d ∉ kL all o) {t:Nat} (O:t∈kL all o):¬Hid f fr t:=by
 rintro ⟨u,B,X,W,b,p,v,x,C,D,G,J⟩
 rw[N] at v;cases v;rw[ht] at x;cases x;by_cases h:i=b
 .grind
 .exact K.done (j b C h p t G J O) D
def iW.drop{all:Array Oper}{p c bs:List Nat}(h:iW nn all p c bs<|i::l)(u:i ∉ c):iW nn all p c bs l:=by
 refine⟨h.msk.tail,(bS.1 h.lnd).2,h.nodup,λj f=>?_,λj f=>h.cov j<|aB _ f,h.lt,h.read,h.dst,h.own,h.grd,h.dok⟩;rcases aC.1 (h.sub j f) with rfl|hm
 all_goals grind
theorem A_(hP:Fits P E Fin w0 I0){all:Array Oper}{K c bs:List Nat}(cs:List Frame)(aa:∀b∈bs,Ja E env m all b):∀(l:List Nat) {w:World} {S:St} {fr:Frame} {O:List Item},WR w0 w S m->FR w S m ⟨fn,nn,env,.jH all K c bs::k,marks,gy⟩ fr->
  fr.todo=.inRegion all l::O->iW nn all K c bs l->fV nn S k O->
  ∃N G C D y,Step w0 w S m N G m/\FR N G m ⟨fn,nn,env,.jH all K c bs::k,marks,gy⟩ C/\Steps P (lone fr cs w) (lone C cs N)/\C.todo=.inRegion all D::y/\iW nn all K c bs D/\fV nn G k y/\(∀i,D.head? = some i->i∈c)/\C.fn=fr.fn
 | [],w,S,fr,O,hW,hf,ht,hD,hk=>⟨w,S,fr,[],O,.refl hW,hf,.refl _ _,ht,hD,hk,λi h=>(by cases h),rfl⟩
 | i::l,w,S,fr,O,hW,hf,ht,hD,hk=>by
   by_cases a6:i∈c
   .exact⟨w,S,fr,i::l,O,.refl hW,hf,.refl _ _,ht,hD,hk,λj h=>(by simp_all),rfl⟩
   .have J:i∈bs:=(hD.cov i aM).resolve_left a6;obtain⟨o,X,W⟩:=aa i J
    have a8:∀{t:Nat},t∈kL all o->¬Hid ⟨fn,nn,env,.jH all K c bs::k,marks,gy⟩ fr t:=λhr=>
     BF hD rfl ht (λb hb am p d hp hd hr=>hD.read i J b hb am o p d X hp hd hr) (λ_ d p hp hd=>by rw[X] at hp;cases hp;exact hD.own i J o d X hd) hr
    have an:∀x∈o.op.operands.toList,CR w S m (mQ env x) (fr.eval x):=λx hx=>BK hf x λt e=>a8 (by grind [wE]);have B:∀{t:Bool},jw all env o t->Region.wanted o (yielded all fr.tmps)=t:=λW=>tg W λd hd=>hf.env d (a8 (pP hd));have b0:=hD.dok i J o X
    have ab:∀{Z:World} {S1:St} {v:AV} {z:Value},Step w0 w S m Z S1 m->CR Z S1 m v z->wG env o.dst v->Steps P (lone fr cs w) (lone (fr.finish z) cs Z)->
      ∃N G C D y,Step w0 w S m N G m/\FR N G m ⟨fn,nn,env,.jH all K c bs::k,marks,gy⟩ C/\Steps P (lone fr cs w) (lone C cs N)/\C.todo=.inRegion all D::y/\iW nn all K c bs D/\fV nn G k y/\(∀i,D.head? = some i->i∈c)/\C.fn=fr.fn:=by
     intro Z S1 v z hs hc A u;have a3:=hD.drop a6;have f:=hf.mono hs.out;have a7:=fV.mono hs.out hf.live.tail hk;have a5:=uS (z:=z) ht X;rw[a5] at u;have ag:FR Z S1 m ⟨fn,nn,env,.jH all K c bs::k,marks,gy⟩ {fr with tmps:=OP fr.tmps o.dst z,todo:=.inRegion all l::O}:=by
      refine⟨f.fn,C3.trans f.n,f.small,λx hx=>?_,.mk (a:=.jH all K c bs) ⟨l,rfl,a3⟩ a7,f.live,f.cH,f.defers,f.marks,f.mode,f.kind,f.gy,f.uH⟩;rw[OQ (by rw[hf.n];omega)];by_cases V:o.dst=some x
      .rw[if_pos V];rw[V] at A;exact Vv A hc
      .rw[if_neg V];refine f.env x λhh=>hx ?_;obtain⟨as,b2,D,k',b,p,e1,e2,e3,e4,e5,e6⟩:=hh;cases e1;rw[ht] at e2;cases e2;rcases aC.1 e4 with rfl|e4
       .simp_all
       .exact⟨all,bs,l,O,b,p,rfl,rfl,e3,e4,e5,e6⟩
     obtain⟨N,G,C,D,y,g1,g2,g3,g4,g5,g6,g7,g8⟩:=A_ hP cs aa l hs.wr ag rfl a3 a7;exact⟨N,G,C,D,y,hs.trans g1,g2,u.trans g3,g4,g5,g6,g7,g8⟩
    rcases W with ⟨W,A⟩|⟨W,tv,v,ae,hv,A⟩
    .exact ab (.refl hW) (jZ.2 ⟨#[],rfl,bA.2 rfl⟩) A (.one (KY hf.mode ht X (B W)))
    .obtain⟨Z,S1,z,hs,hc,u⟩:=agP hP hW hf.mode ht X (B W) an ae hv cs
     grind
end
end Go.Ev
namespace Go.Ev
def Lj{jK:List<|FuncId×aL}{c:Array Oper}{u f:List Nat}(h:qO jK c=some (u,f)):
  u=oK c.toList []/\p_ 0 c.toList=true/\f.Nodup/\(∀i∈f,i<c.size)/\∀i,i<c.size->i∈f:=by
 unfold qO at h;simp only at h;split at h
 .rename_i p;cases h;rw[eH,eH,eH] at p;have⟨v,x,y,A⟩:=p;refine⟨rfl,v,pO x,λi j=>KE<|cv.1 y i j,λi j=>jP.1<|cv.1 A i<|kJ.2 j⟩
 grind
theorem D8(v:AV):pj v v:=by cases v<;>simp[pj]
theorem O0{v:AV}{b:Bool}(h:pj v<|.bool false b):pj v<|.bool true b:=by
 cases v<;>simp[pj] at h ⊢;exact h
variable{c:Env}{d i:Nat}
section
variable {P:Program} {R:Type} {E:kD R} {w0:nE} {I0:Nat->Prop} {f0:FuncId} {Fin:R->Value->World->Prop} {Q:R->Prop}
variable {w:World} {S:St} {m:Mem} {fr:Frame} {fs:List dI} {frs cs:List Frame}
variable {fn:FuncId} {nn:Nat} {env:Env} {marks:List Nat} {gy:Option Nat} {k:List dT} {n:Nat}
def UM{G:iF->Prop}{all:Array Oper}{bs:List Nat}{o:Oper}{i j:Env->Tr R}(h:Tr.Ok Q G<|Qk all bs env o i j)(y:∀d∈iI all o,∀c v,env.at d=.bool c v->d<=65535):
  ∃f:Env,EZ env f (iI all o)/\((∀x,f.at x=env.at x)\/∀d∈iI all o,BE all bs d=true)/\((jw all f o true/\Tr.Ok Q G (i f))\/(jw all f o false/\Tr.Ok Q G (j f))):=by
 unfold Qk at h;cases hk:qR all env o with
 | some t=>
   refine⟨env,λ_=>.inl rfl,.inl λ_=>rfl,?_⟩
   grind [uY]
 | none=>
   rw[hk] at h;simp only at h;split at h
   .rename_i d A;split at h
    rotate_left
    exact h.elim;have⟨f,p,u⟩:=GF h y;exact⟨f,p,.inr λx B=>by simp_all,u⟩
   .exact h.elim
def jw.congr{all:Array Oper}{o:Oper}{t:Bool}(h:jw all env o t)(f:∀x∈iI all o,c.at x=env.at x):jw all c o t:=by grind [jw,iI]
theorem G6{x:Operand}(h:∀t,x=.tmp t->c.at t=env.at t):mQ c x=mQ env x:=by
 cases x with
 | tmp t=>exact h t rfl
 | const v=>rfl
 | global g=>rfl
 | func f=>rfl
def Ja.congr{all:Array Oper}{b:Nat}(h:Ja E env m all b)(C:∀o,all[b]? = some o->(∀x∈kL all o,c.at x=env.at x)/\∀v d,o.dst=some d->pj v (env.at d)->pj v (c.at d)):Ja E c m all b:=by
 have⟨o,A,h⟩:=h;have⟨u,B⟩:=C o A;have y:∀v,wG env o.dst v->wG c o.dst v:=λv f=>by
  cases hod:o.dst with
  | none=>trivial
  | some d=>rw[hod] at f;exact B v d hod f
 refine⟨o,A,?_⟩;rcases h with ⟨i,j⟩|⟨i,G,v,D,f,j⟩
 .exact .inl ⟨i.congr λx p=>u x<|pP p,y _ j⟩
 .refine .inr ⟨i.congr λx p=>u x<|pP p,G,v,?_,f,y _ j⟩
  grind [Cz,G6,wE]
theorem Hw(hP:Fits P E Fin w0 I0){id:Nat}{j:Array Oper}{J G:List Nat}(hd:qO E.jK j=some (J,G))
  (hg:Good P E w0 I0 f0 Fin Q {bI:=⟨fn,nn,env,.jH j J G []::k,marks,gy⟩::fs,mem:=m})
  (hW:WR w0 w S m) (hI:∀b,S.I b->I0 b\/w0.free b) (u:FR w S m ⟨fn,nn,env,.code (.region id j true)::k,marks,gy⟩ fr) (B:Fs w S m fs frs) (Z:zT f0<|⟨fn,nn,env,.code (.region id j true)::k,marks,gy⟩::fs) :
  Ends P f0 Fin Q fr frs cs w:=by
 have⟨it,kc,ht,W,X⟩:=u.todo.cons_inv;subst W;have D:∀y,¬Hid ⟨fn,nn,env,.code (.region id j true)::k,marks,gy⟩ fr y:=λy=>oM λa ha=>by cases ha;rfl
 have⟨N,K,g3,O,V⟩:=Lj hd;have f:=Rz (P:=P) (cs:=frs++cs) (w:=w) u.mode ht;rw[hP.mixed] at f;have⟨A,p⟩:=ML K<|w.tape w.drawn<|.order fr.fn id;have v:=Step.drew hW;have c:=u.mono v.out;refine .step f<|hg (λb hb=>absurd hb aF) S _ _ cs _ v.wr hI ⟨_,_,rfl,?_,B.mono v.out⟩<|Z.swap rfl;refine⟨c.fn,c.n,c.small,λx _=>c.env x<|λhh=>D x hh,.mk (a:=.jH j J G []) ⟨_,rfl,?_⟩<|fV.mono v.out u.live.tail X,.mk trivial c.live.tail,c.cH,c.defers,c.marks,c.mode,c.kind,c.gy,c.uH⟩
 exact⟨N▸ZJ K A,A.nodup,by grind,λi C=>p i<|O i C,λi C=>.inl<|V i<|A.lt i C,λ_ h=>absurd h aF,λ_ h=>absurd h aF,λ_ h=>absurd h aF,λ_ h=>absurd h aF,
  λ_ h=>absurd h aF,λ_ h=>absurd h aF⟩
def OX(D:Fits P E Fin w0 I0)(i:∀v f fs m,(∀a∈f.todo.head?,a.GK=false)->Good P E w0 I0 f0 Fin Q (canon E.keep v {bI:=f::fs,mem:=m})->Good P E w0 I0 f0 Fin Q {bI:=f::fs,mem:=m})
  (G:∀c,Tr.Ok Q (Good P E w0 I0 f0 Fin Q) (run af E n c)->Good P E w0 I0 f0 Fin Q c) {id:Nat} {j:Array Oper}
  (h:Tr.Ok Q (Good P E w0 I0 f0 Fin Q)<|run af E (n+1) {bI:=⟨fn,nn,env,.code (.region id j true)::k,marks,gy⟩::fs,mem:=m})
  (u:t6 E {bI:=⟨fn,nn,env,.code (.region id j true)::k,marks,gy⟩::fs,mem:=m})
  (A:WR w0 w S m) (y:∀b,S.I b->I0 b\/w0.free b) (C:FR w S m ⟨fn,nn,env,.code (.region id j true)::k,marks,gy⟩ fr) (p:Fs w S m fs frs) (x:zT f0<|⟨fn,nn,env,.code (.region id j true)::k,marks,gy⟩::fs) :
  Ends P f0 Fin Q fr frs cs w:=by
 simp only[run] at h;cases hcut:Db E.oW fn (some id) with
 | some v=>rw[hcut] at h;exact i v _ _ _ (λa B=>by cases B;rfl) h u S fr frs cs w A y ⟨fr,frs,rfl,C,p⟩ x
 | none=>
   rw[hcut] at h;cases hd:qO E.jK j with
   | none=>rw[hd] at h;exact h.elim
   | some q=>
     grind [Hw]
def Vg(hP:Fits P E Fin w0 I0)(ih:∀c,Tr.Ok Q (Good P E w0 I0 f0 Fin Q) (run af E n c)->Good P E w0 I0 f0 Fin Q c){all:Array Oper}{v bs:List Nat}
  (h:Tr.Ok Q (Good P E w0 I0 f0 Fin Q)<|run af E (n+1) {bI:=⟨fn,nn,env,.jH all v [] bs::k,marks,gy⟩::fs,mem:=m})
  (G:∀b∈bs,Ja E env m all b)
  (hW:WR w0 w S m) (hI:∀b,S.I b->I0 b\/w0.free b) (u:FR w S m ⟨fn,nn,env,.jH all v [] bs::k,marks,gy⟩ fr) (A:Fs w S m fs frs) (Z:zT f0<|⟨fn,nn,env,.jH all v [] bs::k,marks,gy⟩::fs) :
  Ends P f0 Fin Q fr frs cs w:=by
 have⟨it,kc,ht,W,X⟩:=u.todo.cons_inv;obtain⟨l,rfl,hD⟩:∃l:List Nat,it=.inRegion all l/\iW nn all v [] bs l:=W;have⟨w',O,iU,K,aa,D,j,f,J,a3,C,B,_⟩:=A_ hP (frs++cs) G l hW u ht hD X;cases K with
 | cons i K=>simp_all
 | nil=>
   refine .steps (f.trans<|.one<|Ic j.mode J)<|ih _ h (gS λa y=>u.cH a<|kV y) O _ _ cs _ D.wr (λb hb=>(D.grows b hb).elim (hI b) .inr) ⟨_,_,rfl,j.next ?_ C j.live.tail<|λa y=>u.cH a<|jg y,A.mono D.out⟩<|Z.swap rfl
   rintro x ⟨N,V,K,k',b,p,e1,e2,e3,e4,e5,e6⟩
   grind
theorem Aq{all:Array Oper}{bs:List Nat}{b:Nat}{o:Oper}(h:BE all bs d=true)(c:b∈bs)(f:all[b]? = some o):d ∉ kL all o:=by
 have:=cv.1 h b c;rw[f] at this;simp at this;intro hm;rw[jP.2 hm] at this
 grind
def CM{all:Array Oper}{bs:List Nat}{b:Nat}{o:Oper}(h:Qv all bs d=true)(c:b∈bs)(f:all[b]? = some o):o.dst≠some d:=by
 have:=cv.1 h b c;rw[f] at this;intro e
 simp_all [isDst]
def vz{all:Array Oper}{bs:List Nat}{o:Oper}(h:uX all bs o.dst=true)(c:o.dst=some d):BE all bs d=true/\Qv all bs d=true:=by grind [uX]
theorem OF{all:Array Oper}{o:Oper}(h:G8 all o=true)(c:o.dst=some d):d ∉ kL all o:=by
 unfold G8 at h;rw[c] at h;simp at h;intro hm;rw[jP.2 hm] at h;cases h
theorem Tz{all:Array Oper}{mk:Nat}{bs:List Nat}{o:Oper}(h:aah all mk bs o=true){b:Nat}(c:b∈bs){p:Oper}(i:all[b]? = some p)(f:p.dst=some d)(j:d∈kL all o):mk.testBit b=true:=by
 have:=cv.1 h b c;rw[i] at this;simp[f,jP.2 j] at this;omega
theorem iW.add{all:Array Oper}{K B bs l:List Nat}{o:Oper}(h:iW nn all K (i::B) bs l)(N:all[i]? = some o)(O:sU nn o.dst=true)(V:aah all (K.getD i 0) bs o=true)(hg:yL (K.getD i 0) o=true)
  (C:uX all bs o.dst=true) (W:G8 all o=true):iW nn all K B (i::bs) l:=by
 have Z:=h.nodup;refine⟨h.msk,h.lnd,?_,λj D=>h.sub j<|aB _ D,λj D=>?_,λj D=>?_,?_,?_,?_,?_,?_⟩
 .grind
 .rcases h.cov j D with hm|hm
  all_goals grind
 .rcases aC.1 D with rfl|D
  .grind
  .exact h.lt j D
 .intro a f b J G y p d c A u X;rcases aC.1 f with rfl|v
  .grind [Tz]
  .rcases aC.1 J with rfl|x
   .rw[N] at A;cases A;exact absurd X<|Aq (vz C u).1 v c
   .exact h.read a v b x G y p d c A u X
 .intro a f b J G y p d c A u;rcases aC.1 f with rfl|v
  .rcases aC.1 J with rfl|x
   .omega
   .rw[N] at c;cases c;intro e;exact CM (vz C e).2 x A u
  .rcases aC.1 J with rfl|x
   .rw[N] at A;cases A;exact CM (vz C u).2 v c
   .exact h.dst a v b x G y p d c A u
 .intro a f y d c O;rcases aC.1 f with rfl|f
  .grind [OF]
  .exact h.own a f y d c O
 .intro a f y c;rcases aC.1 f with rfl|f
  .simp_all
  .exact h.grd a f y c
 .intro a f y c;rcases aC.1 f with rfl|f
  .simp_all
  .exact h.dok a f y c
theorem zX{j:Nat}{rest:List Nat}:∀{ms:List Nat} {k i b:Nat},(((uP j rest k ms).getD i 0).testBit b=true->(ms.getD i 0).testBit b=true\/(b=j/\k+i∈rest/\k+i≠j))/\((ms.getD i 0).testBit b=true->((uP j rest k ms).getD i 0).testBit b=true)
 | [],k,i,b=>by grind [uP]
 | m::ms,k,0,b=>by
   rw[uP];simp;cases hc:tx rest k && !Nat.beq k j with
   | false=>simp_all
   | true=>
     rw[eH,fK] at hc;refine⟨λh=>?_,λh=>?_⟩
     .rw[Nat.testBit_or,o6] at h;rcases h with h|h
      .simp_all
      .refine .inr ⟨?_,jP.1 hc.1,λe=>?_⟩
       .grind
       simp_all
     simp_all
 | m::ms,k,i+1,b=>by
   rw[uP];have:=zX (j:=j) (rest:=rest) (ms:=ms) (k:=k+1) (i:=i) (b:=b)
   grind
theorem Ct{j x:Nat}:∀{l:List Nat},(x∈vq l j->x∈l)/\(x∈l->x=j\/x∈vq l j)
 | []=>by grind [vq]
 | i::l=>by
   have c:=Ct (j:=j) (x:=x) (l:=l);rw[vq];by_cases e:i=j
   .simp_all
   .rw[gI.2 e]
    grind
def iW.next{jK:List (FuncId×aL)}{all:Array Oper}{v c bs l B O:List Nat}{j:Nat}(h:iW nn all v c bs (j::l))(hj:j∈c)(C:Tt jK all v c j=some (B,O)) :
  iW nn all B O bs (j::l):=by
 unfold Tt at C;simp only at C;split at C
 case h_2=>grind
 rename_i N;cases C;rw[eH,eH] at N;obtain⟨h1,V,W⟩:=N;have G:∀x,x∈j::eager jK all (uP j c 0 v) (vq c j).length (Si (vq c j)) (vq c j)->x∈c:=λx f=>by
  rcases aC.1 f with rfl|f
  .omega
  .exact Ct.1 (jP.1 (cv.1 V x f))
 have A:∀x,x∈c->x∈j::eager jK all (uP j c 0 v) (vq c j).length (Si (vq c j)) (vq c j):=λx f=>by
  rcases (Ct (j:=j)).2 f with rfl|f
  .simp_all
  .exact aB _ (jP.1 (cv.1 W x f))
 have K:∀i b,(v.getD i 0).testBit b=true->((uP j c 0 v).getD i 0).testBit b=true:=λi b=>zX.2;have Z:=dV.1 h.nodup;refine⟨λl1 i l2 e b y=>?_,h.lnd,?_,λx f=>h.sub x (G x f),λx f=>(h.cov x f).imp (A x) id,h.lt,λi D b y u o p d J hp X hr=>K _ _ (h.read i D b y u o p d J hp X hr),h.dst,h.own,λi D o J=>?_,h.dok⟩
 .rcases zX.1 y with y|⟨rfl,_,u⟩
  .exact h.msk l1 i l2 e b y
  .rw[gJ] at u;cases l1 with
   | nil=>simp_all
   | cons x l1=>
     cases e;intro hm;exact(bS.1 h.lnd).1 (oJ.2 (.inr hm))
 .grind [pO]
 .have:=h.grd i D o J
  grind [yL]
theorem NI{G:iF->Prop}{K:Nat->Tr R}:∀{l:List Nat},Tr.Ok Q G (NH K l)->∀j∈l,Tr.Ok Q G<|K j
 | [],_,_,h=>absurd h aF
 | [i],h,j,c=>by rw[aG.1 c];exact h
 | i::p::l,h,j,c=>by
   obtain⟨u,f⟩:Tr.Ok Q G (K i)/\Tr.Ok Q G (NH K (p::l)):=h;rcases aC.1 c with rfl|c
   .omega
   .exact NI f j c
def iW.cut{all:Array Oper}{v f bs l:List Nat}(h:iW nn all v f bs<|i::l):iW nn all v f (sR (v.getD i 0) bs)<|i::l:=by
 have c:∀b∈sR (v.getD i 0) bs,b∈bs:=λb u=>(gh.1 u).1;refine⟨h.msk,h.lnd,?_,h.sub,λj x=>?_,λj x=>h.lt j<|c j x,λa p b u=>h.read a (c a p) b<|c b u,λa p b u=>h.dst a (c a p) b<|c b u,λa p=>h.own a<|c a p,λa p=>h.grd a<|c a p,λa p=>h.dok a<|c a p⟩
 .exact h.nodup.sublist<|List.Sublist.append_left List.filter_sublist f
 .rcases h.cov j x with hm|hm
  .grind
  .refine .inr<|gh.2 ⟨hm,?_⟩;cases u:(v.getD i 0).testBit j with
   | false=>rfl
   | true=>exact absurd x<|h.done u
end
end Go.Ev
namespace Go.Ev
section
variable {P:Program} {R:Type} {E:kD R} {w0:nE} {I0:Nat->Prop} {f0:FuncId} {Fin:R->Value->World->Prop} {Q:R->Prop}
variable {w:World} {S:St} {m:Mem} {fr:Frame} {fs:List dI} {frs cs:List Frame}
variable {fn:FuncId} {nn:Nat} {env:Env} {marks:List Nat} {gy:Option Nat} {k:List dT} {n:Nat}
def ZD(ih:∀c,Tr.Ok Q (Good P E w0 I0 f0 Fin Q) (run af E n c)->Good P E w0 I0 f0 Fin Q c){all:Array Oper}{K f bs l:List Nat}{i:Nat}{o:Oper}{kc:List Item}{v:AV}
  (h:Tr.Ok Q (Good P E w0 I0 f0 Fin Q)<|run af E n {bI:=⟨fn,nn,env.oE o.dst v,.jH all K f (i::bs)::k,marks,gy⟩::fs,mem:=m})
  (ho:all[i]? = some o) (C:sU nn o.dst=true) (N:aah all (K.getD i 0) bs o=true) (hg:yL (K.getD i 0) o=true) (J:uX all bs o.dst=true) (D:G8 all o=true)
  (a6:∀b∈bs,Ja E env m all b) (hi:(jw all env o false/\v=.xb [])\/(jw all env o true/\∃W,evV af E m (mQ env) o=some W/\W.Is v))
  (hW:WR w0 w S m) (hI:∀b,S.I b->I0 b\/w0.free b) (B:FR w S m ⟨fn,nn,env,.jH all K (i::f) bs::k,marks,gy⟩ fr) (Z:Fs w S m fs frs) (hB:zT f0<|⟨fn,nn,env,.jH all K (i::f) bs::k,marks,gy⟩::fs)
  (ht:fr.todo=.inRegion all l::kc) (hD:iW nn all K (i::f) bs l) (hk:fV nn S k kc):Ends P f0 Fin Q fr frs cs w:=by
 have V:nn<=65535:=B.small;have j:∀x,o.dst≠some x->(env.oE o.dst v).at x=env.at x:=λx A=>by rw[Env.Ld C V,if_neg A]
 have a5:∀x,o.dst=some x->(env.oE o.dst v).at x=v:=λx A=>by rw[Env.Ld C V,if_pos A]
 have y:∀x∈kL all o,(env.oE o.dst v).at x=env.at x:=λx A=>j x λe=>OF D e A;have O:wG (env.oE o.dst v) o.dst v:=by
  cases hd:o.dst with
  | none=>trivial
  | some d=>show pj v<|(env.oE (some d) v).at d;grind [D8]
 refine ih _ h (λb hb=>?_) S fr frs cs w hW hI ⟨fr,frs,rfl,?_,Z⟩<|hB.swap rfl
 .rcases aC.1 hb with rfl|G
  .refine⟨o,ho,?_⟩;rcases hi with ⟨X,rfl⟩|⟨X,W,h2,h3⟩
   .exact .inl ⟨X.congr λx A=>y x<|pP A,O⟩
   .refine .inr ⟨X.congr λx A=>y x<|pP A,W,v,?_,h3,O⟩
    grind [Cz,G6,wE]
  .refine(a6 b G).congr λp hp=>⟨λx A=>j x λe=>Aq (vz J e).1 G hp A,λu d hd hs=>?_⟩;rw[j d λe=>CM (vz J e).2 G hp hd];omega
 .have a0:i∈l:=hD.sub i aM;refine⟨B.fn,B.n,B.small,λx A=>?_,by rw[ht];exact .mk (a:=.jH all K f<|i::bs) ⟨l,rfl,hD.add ho C N hg J D⟩ hk,.mk trivial B.live.tail,B.cH,B.defers,B.marks,B.mode,B.kind,B.gy,B.uH⟩;have a3:o.dst≠some x:=λe=>A ⟨all,i::bs,l,kc,i,o,rfl,ht,aM,a0,ho,e⟩;rw[j x a3];refine B.env x λhh=>A ?_;have⟨a8,ac,l',k',b,p,e1,e2,e3,e4,e5,e6⟩:=hh;cases e1;exact⟨all,i::bs,l',k',b,p,rfl,e2,aB _ e3,e4,e5,e6⟩
def aaG(hP:Fits P E Fin w0 I0)(ih:∀c,Tr.Ok Q (Good P E w0 I0 f0 Fin Q) (run af E n c)->Good P E w0 I0 f0 Fin Q c){all:Array Oper}{A y bs:List Nat}{i:Nat}
  (h:Tr.Ok Q (Good P E w0 I0 f0 Fin Q)<|run af E (n+1) {bI:=⟨fn,nn,env,.jH all A (i::y) bs::k,marks,gy⟩::fs,mem:=m})
  (ae:∀b∈bs,Ja E env m all b)
  (hW:WR w0 w S m) (hI:∀b,S.I b->I0 b\/w0.free b) (hf:FR w S m ⟨fn,nn,env,.jH all A (i::y) bs::k,marks,gy⟩ fr) (a3:Fs w S m fs frs) (hB:zT f0<|⟨fn,nn,env,.jH all A (i::y) bs::k,marks,gy⟩::fs) :
  Ends P f0 Fin Q fr frs cs w:=by
 have⟨it,kc,ht,h1,h2⟩:=hf.todo.cons_inv;obtain⟨l,rfl,hD⟩:∃l:List Nat,it=.inRegion all l/\iW nn all A (i::y) bs l:=h1;have d3:nn<=65535:=hf.small;simp only[run] at h;cases ho:all[i]? with
 | none=>rw[ho] at h;exact h.elim
 | some o=>
   rw[ho] at h;simp only at h;cases hck:sU nn o.dst&&(aah all (A.getD i 0) bs o&&yL (A.getD i 0) o) with
   | false=>rw[hck] at h;exact h.elim
   | true=>
     rw[hck] at h;rw[eH,eH] at hck;have⟨a0,a4,ab⟩:=hck;have a9:∀d∈iI all o,∀c v,env.at d=.bool c v->d<=65535:=λd _ c v e=>by
      by_cases hh:Hid ⟨fn,nn,env,.jH all A (i::y) bs::k,marks,gy⟩ fr d
      .have⟨aa,av,l',k',b,p,e1,e2,e3,e4,e5,e6⟩:=hh;cases e1;have:=hD.dok b e3 p e5;rw[e6] at this;have:d<nn:=KE this;omega
      .have:=acL hf hh e;omega
     have⟨u,a5,b9,h⟩:=UM h a9;have a6:∀b∈bs,Ja E u m all b:=λb W=>(ae b W).congr λp hp=>by
      rcases b9 with d2|b9
      .grind
      .refine⟨λx hx=>?_,λv d _ hs=>?_⟩
       .rcases a5 x with e|⟨d6,_⟩
        all_goals grind [Aq]
       .rcases a5 d with e|⟨_,b',e1,e2⟩
        all_goals grind [O0]
     have b5:=hf.TG (D:=iI all o) a5;rcases h with ⟨hg,h⟩|⟨hg,h⟩
     .-- wanted
      have bv:Tr.Ok Q (Good P E w0 I0 f0 Fin Q) (match y.all (λj=>(A.getD j 0).testBit i) with
           | false=>NH (λj=>match Tt E.jK all A (i::y) j with
              | some (ag,is)=>run af E n {bI:=⟨fn,nn,u,.jH all ag is bs::k,marks,gy⟩::fs,mem:=m}
              | none=>.bU 180 o.pos)<|(i::y).filter<|Re A<|i::y
           | true=>match uX all (sR (A.getD i 0) bs) o.dst with
            | false=>.bU 178 o.pos
            | true=>
              match ub af E (mQ u) m o with
              | some tv=>tv.bind o.pos λv=>yg af E (u.oE o.dst v) m all (sR (A.getD i 0) bs)<|run af E n {bI:=⟨fn,nn,u.oE o.dst v,.jH all A y (sR (A.getD i 0) bs)::k,marks,gy⟩::fs,mem:=m}
              | none=>match o.op with
                | .call {callee:=.value x,args,.. }=>match mQ u x with
                  | .fn g first X=>match look E.jK g with
                    | some s=>(vW af s m<|first++(args.toList.map (mQ u)++X)).bind o.pos λp=>yg af E (u.oE o.dst p.1) p.2 all (sR (A.getD i 0) bs)<|run af E n {bI:=⟨fn,nn,u.oE o.dst p.1,.jH all A y (sR (A.getD i 0) bs)::k,marks,gy⟩::fs,mem:=p.2}
                    | none=>match sV af E g m (first++(args.toList.map (mQ u)++X)) with
                     | some tv=>tv.bind o.pos λp=>yg af E (u.oE o.dst p.1) p.2 all (sR (A.getD i 0) bs)<|run af E n {bI:=⟨fn,nn,u.oE o.dst p.1,.jH all A y (sR (A.getD i 0) bs)::k,marks,gy⟩::fs,mem:=p.2}
                     | none=>match look E.ll g with
                      | none=>.bU 163 o.pos
                      | some G=>match jj g G (first++(args.toList.map (mQ u)++X)) with
                        | none=>.bU 164 o.pos
                        | some h=>run af E n {bI:=h::⟨fn,nn,u,.sT all A i y (sR (A.getD i 0) bs)::k,marks,gy⟩::fs,mem:=m}
                  | .yield l=>match m.at l with
                     | .loop r=>match Nat.beq r.params.length (args.toList.map (mQ u)).length&&r.params.all (λp=>Nat.blt p r.n) with
                       | true=>run af E n {bI:={fn:=r.fn,n:=r.n,env:=As r.params (args.toList.map<|mQ u) r.env,todo:=[.code r.assign,.beginRound,.code r.body],marks:=[],gy:=some l}::⟨fn,nn,u,.sT all A i y (sR (A.getD i 0) bs)::k,marks,gy⟩::fs,mem:=m}
                       | false=>.bU 165 o.pos
                     | _=>.bU 166 o.pos
                  | _=>.bU 167 o.pos
                | _=>(xE af E fn (mQ u) m o).bind o.pos λp=>yg af E (u.oE o.dst p.1) p.2 all (sR (A.getD i 0) bs)<|run af E n {bI:=⟨fn,nn,u.oE o.dst p.1,.jH all A y (sR (A.getD i 0) bs)::k,marks,gy⟩::fs,mem:=p.2})->Ends P f0 Fin Q fr frs cs w:=by
       intro h;cases Z:y.all (λj=>(A.getD j 0).testBit i) with
       | false=>
         rw[Z] at h;have⟨w1,S1,a7,l1,be,K,a8,C,O,B,ac,N,b6⟩:=A_ hP (frs++cs) ae l hW hf ht hD h2;have b7:i∈l1:=B.sub i aM;cases l1 with
         | nil=>grind
         | cons j l1=>
           have hj:=N j rfl;have ch:Re A (i::y) j=true:=cv.2 λb W=>by
            rw[fK];cases hbt:(A.getD j 0).testBit b with
            | false=>rfl
            | true=>exact absurd (B.sub b W)<|B.done hbt
           have h:=NI h j<|gh.2 ⟨hj,ch⟩;split at h
           rotate_left
           exact h.elim;rename_i ag is cf;have f:=a8.TG (D:=iI all o) a5;refine .steps C<|ih _ h a6 S1 _ _ cs w1 K.wr (λb W=>(K.grows b W).elim (hI b) .inr) ⟨_,_,rfl,?_,a3.mono K.out⟩<|hB.swap rfl;refine⟨f.fn,f.n,f.small,λx hx=>f.env x λhh=>hx ?_,by rw[O];exact .mk (a:=.jH all ag is bs) ⟨_,rfl,B.next hj cf⟩ ac,.mk trivial f.live.tail,f.cH,f.defers,f.marks,f.mode,f.kind,f.gy,f.uH⟩;have⟨aa,av,l',k',b,p,e1,e2,e3,e4,e5,e6⟩:=hh;cases e1;exact⟨all,bs,l',k',b,p,rfl,e2,e3,e4,e5,e6⟩
       | true=>
        rw[Z] at h;cases hck2:uX all (sR (A.getD i 0) bs) o.dst with
        | false=>rw[hck2] at h;exact h.elim
        | true=>
         rw[hck2] at h;have⟨w1,S1,a7,l1,be,K,a8,C,O,B,ac,N,b6⟩:=A_ hP (frs++cs) ae l hW hf ht hD h2;have b7:i∈l1:=B.sub i aM;cases l1 with
         | nil=>grind
         | cons j l1=>
           have cc:j=i:=by
            rcases aC.1 (N j rfl) with e|hj
            .exact e
            .exact absurd b7<|B.done<|cv.1 Z j hj
           subst cc;have ce:j ∉ y++bs:=(bS.1 (by have:=B.nodup;grind)).1;have cb:j ∉ bs:=λhm=>ce<|oJ.2<|.inr hm;have f:=a8.TG (D:=iI all o) a5
           have b8:∀{t:Nat},t∈kL all o->¬Hid ⟨fn,nn,u,.jH all A (j::y) bs::k,marks,gy⟩ a7 t:=λhr=>
            BF B rfl O (λb W _ p d hp hd hr=>Tz a4 W hp hd hr) (λhm=>absurd hm cb) hr
           have hw:Region.wanted o (yielded all a7.tmps)=true:=tg hg λd hd=>f.env d<|b8<|pP hd;have V:FR w1 S1 m ⟨fn,nn,u,.sT all A j y (sR (A.getD j 0) bs)::k,marks,gy⟩ a7:=by
            refine⟨f.fn,f.n,f.small,λx hx=>f.env x λhh=>hx ?_,by rw[O];exact .mk (a:=.sT all A j y<|sR (A.getD j 0) bs) ⟨l1,rfl,B.cut⟩ ac,.mk trivial f.live.tail,f.cH,f.defers,f.marks,f.mode,f.kind,f.gy,f.uH⟩;have⟨aa,av,l',k',b,p,e1,e2,e3,e4,e5,e6⟩:=hh;cases e1;rw[O] at e2;cases e2;refine⟨all,_,j::l1,be,b,p,rfl,O,gh.2 ⟨e3,?_⟩,e4,e5,e6⟩;cases W:(A.getD j 0).testBit b with
            | false=>rfl
            | true=>exact absurd e4<|B.done W
           refine .steps C (Tx (fn:=fn) (ρ:=mQ u) (below:=⟨fn,nn,u,.sT all A j y (sR (A.getD j 0) bs)::k,marks,gy⟩) (next:=λv m=>yg af E (u.oE o.dst v) m all (sR (A.getD j 0) bs)<|run af E n {bI:=⟨fn,nn,u.oE o.dst v,.jH all A y (sR (A.getD j 0) bs)::k,marks,gy⟩::fs,mem:=m})
            hP ih K.wr (λb W=>(K.grows b W).elim (hI b) .inr) (a3.mono K.out) (hB.swap rfl) a8.mode O ho hw (λx hx=>BK f x λt e=>b8<|by grind [wE]) V (λv m' w' S' z hs hc h=>?_) h)
           have⟨ba,h⟩:=BZ h;have ad:=K.trans hs;exact ih _ h ba S' _ _ cs w' ad.wr (λb W=>(ad.grows b W).elim (hI b) .inr) ⟨_,_,rfl,DG (V.mono hs.out) ho a0 hc,a3.mono ad.out⟩<|hB.swap rfl
      split at h
      .rename_i tv ca J;rw[eH] at J;have⟨v,hv,h⟩:=TV.bind_ok h;exact ZD ih h ho a0 a4 ab J.1 J.2 a6 (.inr ⟨hg,tv,ca,hv⟩) hW hI b5 a3 (hB.swap rfl) ht hD h2
      .exact bv h
     .-- not wanted
      cases J:uX all bs o.dst&&G8 all o with
      | false=>rw[J] at h;exact h.elim
      | true=>
        rw[J] at h;rw[eH] at J;exact ZD ih h ho a0 a4 ab J.1 J.2 a6 (.inl ⟨hg,rfl⟩) hW hI b5 a3 (hB.swap rfl) ht hD h2
end
end Go.Ev
namespace Go.Ev
theorem yN:∀{l:List Nat} {id k:Nat},id∈l->∃j,idxOf l id k=k+j/\l[j]? = some id/\j<l.length
 | i::l,id,k,h=>by
   rw[idxOf];by_cases c:i=id
   .simp_all
   .rw[gI.2 c];have⟨j,f,p,u⟩:=yN (k:=k+1)<|(aC.1 h).resolve_left<|λe=>c e.symm;exact⟨j+1,by grind,by grind,by grind⟩
theorem Ky:∀{l:List Nat} {id k:Nat},id ∉ l->idxOf l id k=k+l.length
 | [],id,k,_=>rfl
 | i::l,id,k,h=>by
   rw[idxOf,gI.2 λe=>h<|by grind];simp only;rw[Ky λhm=>h<|aB _ hm,bd];omega
theorem yE:∀{r acc:List Nat},acc.Nodup->(oU acc r).Nodup/\(∀i∈acc,i∈oU acc r)/\∀i∈r,i∈oU acc r
 | [],acc,h=>⟨h,λ_ h=>h,λ_ h=>absurd h aF⟩
 | j::r,acc,h=>by
   rw[oU];cases hm:tx acc j with
   | true=>
     have⟨f,c,u⟩:=yE (r:=r) h;refine⟨f,c,λi p=>?_⟩;rcases aC.1 p with rfl|p
     .exact c _<|jP.1 hm
     grind
   | false=>
     have y:j ∉ acc:=λh=>by rw[jP.2 h] at hm;grind
     have⟨f,c,u⟩:=yE (r:=r) (acc:=acc ++ [j])<|dV.2 ⟨h,by simp,λa v b x=>by grind⟩
     grind
theorem Dy:∀{f:Nat} {m:Mem} {c:List Nat} {p:Nat},c.Nodup->(oi f m c p).Nodup/\∀i∈c,i∈oi f m c p
 | 0,m,c,p,h=>⟨h,λ_ h=>h⟩
 | f+1,m,c,p,h=>by
   rw[oi];cases c[p]? with
   | none=>grind
   | some id=>
     have⟨j,u,_⟩:=yE (r:=Bu<|m.at id) h;have⟨v,x⟩:=Dy (f:=f) (m:=m) (p:=p+1) j
     grind
theorem vT:∀{r acc:List Nat},∃t,oU acc r=acc++t
 | [],acc=>⟨[],(aJ _).symm⟩
 | j::r,acc=>by
   rw[oU];cases tx acc j with
   | true=>exact vT
   | false=>
     have⟨t,h⟩:=vT (r:=r) (acc:=acc ++ [j])
     grind
theorem Bc:∀{f:Nat} {m:Mem} {acc:List Nat} {p:Nat},∃t,oi f m acc p=acc++t
 | 0,m,acc,p=>⟨[],(aJ _).symm⟩
 | f+1,m,acc,p=>by
   rw[oi];cases acc[p]? with
   | none=>simp_all
   | some id=>
     have⟨t,h⟩:=vT (r:=Bu<|m.at id) (acc:=acc);have⟨u,c⟩:=Bc (f:=f) (m:=m) (acc:=oU acc<|Bu<|m.at id) (p:=p+1)
     grind
theorem zI{l:List Nat}:∀{cs:List AV},(u6 l cs).length=cs.length
 | []=>by rfl
 | a::cs=>by rw[u6,bd,bd,zI]
variable{cs:List AV}
def Mr{l:List Nat}{fz:Bool}:(OT l fz cs).length=cs.length:=by
 unfold OT;split
 .rfl
 .exact zI
def St.ren(S:St)(l:List Nat):St:={σ:=λi=>S.σ<|l.getD i 0,δ:=λi=>S.δ<|l.getD i 0,vd:=λi=>S.vd<|l.getD i 0,I:=S.I}
def Mem.ren(m:Mem)(l:List Nat):Mem:=(l.map λid=>qq l<|m.at id) ++ [.aU]
variable{i j:Nat}
section
variable {w0:nE} {w:World} {S:St} {m:Mem} {l:List Nat}
def C5{id:Nat}(h:l[j]? = some id):(m.ren l).at j=qq l (m.at id):=by grind [Mem.ren,Mem.at]
def Hz:(m.ren l).at l.length=.aU:=by simp_all [Mem.ren,Mem.at]
def U9(h:l.length<j):(m.ren l).at j=.bU:=by
 rw[Mem.ren,Mem.at,GB,kU (by rw[uy,cy];simp;omega)];rfl
def C6(j:Nat):(∃id,l[j]? = some id/\(m.ren l).at j=qq l (m.at id)/\(S.ren l).σ j=S.σ id/\(S.ren l).δ j=S.δ id/\(S.ren l).vd j=S.vd id)\/(m.ren l).at j=.aU\/(m.ren l).at j=.bU:=by
 rcases Nat.lt_trichotomy j l.length with h|h|h
 all_goals simp_all [C5,Hz,U9,St.ren]
def C7(id:Nat):(id∈l/\(m.ren l).at (idxOf l id 0)=qq l (m.at id)/\(S.ren l).σ (idxOf l id 0)=S.σ id/\(S.ren l).δ (idxOf l id 0)=S.δ id/\(S.ren l).vd (idxOf l id 0)=S.vd id)\/(m.ren l).at (idxOf l id 0)=.aU:=by
 by_cases h:id∈l
 .have⟨j,c,f,i⟩:=yN (k:=0) h
  simp_all [C5,St.ren]
 simp_all [Ky,Hz]
mutual
theorem Rf:∀{a:AV} {v:Value},CR w S m a v->CR w (S.ren l) (m.ren l) (nt l a) v
 | .undef,v,_=>by rw[nt];exact gT
 | .int k c n,v,h=>by rw[nt];exact fu.2<|fu.1 h
 | .bool c b,v,h=>by rw[nt];exact iE.2<|iE.1 h
 | .str c s,v,h=>by rw[nt];exact vO.2<|vO.1 h
 | .sl t x,v,h=>by rw[nt,CR];rw[CR] at h;exact h
 | .eT b,v,h=>by rw[nt];exact m_.2<|m_.1 h
 | .nI t x off,v,h=>by rw[nt,CR];rw[CR] at h;exact h
 | .gN,v,h=>by rw[nt];exact qN.2<|qN.1 h
 | .tC,v,h=>by rw[nt];exact sN.2<|sN.1 h
 | .own id,v,h=>by
   rw[nt,CR];rw[CR] at h;rcases C7 (S:=S) (m:=m) (l:=l) id with ⟨_,j,p,u,y⟩|j
   .rw[j,p,u,y];cases hb:m.at id<;>rw[hb] at h<;>(try exact h.elim)<;>exact h
   simp_all
 | .wq id sz c lo len,v,h=>by
   rw[nt,CR];rw[CR] at h;rcases C7 (S:=S) (m:=m) (l:=l) id with ⟨_,j,p,u,y⟩|j
   .rw[j,p,u,y];cases hb:m.at id<;>rw[hb] at h<;>(try exact h.elim)<;>(try exact h);have⟨K,n,B,a,C,D,G,O,J⟩:=h;exact⟨K,n,B,a,C,D,G,by rw[Mr];omega,J⟩
   simp_all
 | .ptr id off,v,h=>by
   rw[nt,CR];rw[CR] at h;rcases C7 (S:=S) (m:=m) (l:=l) id with ⟨_,j,p,u,y⟩|j
   .rw[j,p];cases hb:m.at id<;>rw[hb] at h<;>(try exact h.elim)<;>exact h
   simp_all
 | .kR id i off,v,h=>by
   rw[nt,CR];rw[CR] at h;rcases C7 (S:=S) (m:=m) (l:=l) id with ⟨_,j,p,u,y⟩|j
   .rw[j,p,u];cases hb:m.at id<;>rw[hb] at h<;>(try exact h.elim)<;>exact h
   simp_all
 | .zp id off n t i,v,h=>by
   rw[nt,CR];rw[CR] at h;rcases C7 (S:=S) (m:=m) (l:=l) id with ⟨_,j,p,u,y⟩|j
   .rw[j,p];cases hb:m.at id<;>rw[hb] at h<;>(try exact h.elim)<;>exact h
   simp_all
 | .yield id,v,h=>by
   rw[nt,CR];rw[CR] at h;rcases C7 (S:=S) (m:=m) (l:=l) id with ⟨_,j,p,u,y⟩|j
   .rw[j,p];cases hb:m.at id<;>rw[hb] at h<;>(try exact h.elim)<;>exact h
   simp_all
 | .fn f a c,v,h=>by
   have⟨A,N,e,j,p⟩:=vk.1 h;exact vk.2 ⟨A,N,e,yX j,yX p⟩
 | .agg cs,v,h=>by
   have⟨A,e,j⟩:=uN.1 h;exact uN.2 ⟨A,e,yX j⟩
 | .xb cs,v,h=>by
   have⟨A,e,j⟩:=jZ.1 h;exact jZ.2 ⟨A,e,yX j⟩
theorem yX:∀{cs:List AV} {c:List Value},eD w S m cs c->eD w (S.ren l) (m.ren l) (u6 l cs) c
 | [],c,h=>by rw[u6];exact bA.2<|bA.1 h
 | a::cs,c,h=>by
   have⟨v,r,e,f,i⟩:=bL.1 h;exact bL.2 ⟨v,r,e,Rf f,yX i⟩
end
def U8{fz:Bool}{c:List Value}(h:eD w S m cs c):eD w (S.ren l) (m.ren l) (OT l fz cs) c:=by
 unfold OT;split
 .have⟨v,r,e,f,i⟩:=bL.1 h;exact bL.2 ⟨v,r,e,fu.2<|fu.1 f,bA.2<|bA.1 i⟩
 .exact yX h
theorem C4:∀{e:PT AV} {i:Nat},(Hy l e).get i=(e.get i).map (nt l)
 | .leaf,i=>by rfl
 | .node a v b,i=>by
   show(PT.node (Hy l a) (match v with|some x=>some (nt l x)|none=>none)<|Hy l b).get i=_;rw[PT.qd,PT.qd];by_cases f:i=0
   .grind
   .rw[if_neg f,if_neg f];by_cases c:i%2=1
    .rw[if_pos c,if_pos c,C4]
    .rw[if_neg c,if_neg c,C4]
def aaA{e:Env}:Env.at (Hy l e) i=nt l (e.at i):=by
 rw[Env.at,Env.at,C4];cases PT.get e i<;>first|rfl|(simp;rw[nt])
def afu{id:Nat}(c:r8 w S m id<|m.at id)(N:(S.ren l).σ j=S.σ id)(K:(S.ren l).δ j=S.δ id)(A:(S.ren l).vd j=S.vd id):r8 w (S.ren l) (m.ren l) j<|qq l<|m.at id:=by
 cases hm:m.at id<;>rw[hm] at c<;>simp only[qq]
 case bU=>trivial
 case aU=>trivial
 case UE=>trivial
 case FU=>exact(show w.heap[(S.ren l).σ j]? = _ by rw[N];exact c)
 case cH fz cs=>
  have⟨v,T,fr,y,f,h⟩:=c;exact⟨v,T,fr,by simp_all,f,U8 h⟩
 case arr fz t x=>
  refine⟨c.1,λe=>c.2.1<|A.symm.trans e,λu=>?_⟩;have⟨v,T,fr,y,f,h,p⟩:=c.2.2<|A.symm.trans u;exact⟨v,T,fr,by simp_all,f,by omega,by rw[K];exact p⟩
 case loop r=>
  have⟨L,y,f,h,p,B,C,D,G,J⟩:=c;exact⟨L,by simp_all,f,h,p,B,C,D,G,λi=>by
   rw[aaA];exact Rf<|J i⟩
theorem OS{c:St}{b:iM}(h:c.vd j=S.vd i):c.lv j (qq l b)=S.lv i b:=by cases b<;>simp_all [qq,St.lv]
def KL{c:St}{b:iM}(h:c.vd j=S.vd i):c.fz j (qq l b)=S.fz i b:=by cases b<;>simp_all [qq,St.fz]
def wF{b:iM}:(qq l b).jY=b.jY:=by cases b<;>rfl
def al0(p:WR w0 w S m)(V:l.Nodup)(G:∀i,i<w0.R.length->l[i]? = some i):WR w0 w (S.ren l)<|m.ren l:=by
 have f:∀j,(S.ren l).lv j ((m.ren l).at j)=true->∃id,l[j]? = some id/\(m.ren l).at j=qq l (m.at id)/\((S.ren l).σ j=S.σ id/\(S.ren l).vd j=S.vd id)/\S.lv id (m.at id)=true:=λj h=>by
  rcases C6 (S:=S) (m:=m) (l:=l) j with ⟨id,c,v,u,_,y⟩|c|c
  .grind [OS]
  .rw[c] at h;cases h
  .rw[c] at h;cases h
 refine⟨p.os,p.tape,p.output,p.size,p.base,p.nH,λj=>?_,λj J h A e=>?_,λj h=>?_,λj h A=>?_,λj h=>?_,λi b h=>?_,p.cells⟩
 .rcases C6 (S:=S) (m:=m) (l:=l) j with ⟨id,c,v,u,x,y⟩|c|c
  .rw[v];exact afu (p.box id) u x y
  .rw[c];trivial
  .rw[c];trivial
 .have⟨id,c,v,⟨u,_⟩,x⟩:=f j h;have⟨B,K,N,⟨O,_⟩,C⟩:=f J A;have:=p.inj id B x C (by omega)
  grind [List.getElem_inj]
 .have⟨id,c,v,⟨u,_⟩,x⟩:=f j h;rw[u];exact p.lo id x
 .have⟨id,c,v,⟨u,y⟩,x⟩:=f j h;rw[u];rw[v,KL y] at A;exact p.qV id x A
 .rcases C6 (S:=S) (m:=m) (l:=l) j with ⟨id,c,v,u,x,y⟩|c|c
  .rw[u];rw[v,KL y] at h;exact p.Ju id h
  .rw[c] at h;cases h
  .rw[c] at h;cases h
 .have D:=G i (aR.1 h).1;refine⟨bD (aR.1 D).1<|by simp[Mem.ren],?_⟩;have⟨_,v,u⟩:=p.root i b h
  simp_all [St.ren]
def yY{id:Nat}(h:id∈l):(m.ren l).at (idxOf l id 0)=qq l (m.at id):=by
 have⟨j,c,f,i⟩:=yN (k:=0) h
 simp_all [C5]
theorem BP{id:Nat}(h:id∈l):(S.ren l).σ (idxOf l id 0)=S.σ id:=by
 have⟨j,c,f,i⟩:=yN (k:=0) h
 grind [St.ren]
theorem OU{n:Nat}:∀{k:List dT} {p:List Item},(∀i∈k.flatMap qS,i∈l)->fV n S k p->fV n (S.ren l) (k.map<|uG l) p
 | [],p,_,h=>h
 | a::k,p,hl,h=>by
   obtain⟨j,x,rfl,c,u⟩:=h.cons_inv;refine .mk ?_<|OU (λi v=>hl i<|by grind) u;have f:∀i∈qS a,i∈l:=λi v=>hl i (by grind);cases a<;>try exact c
   case oA id=>
    have c:j=.inRangeFunc (S.σ id):=c;show j=.inRangeFunc ((S.ren l).σ<|idxOf l id 0);rw[(BP<|f id<|aG.2 rfl)];omega
   case pJ id=>
    have c:j=.endRangeFunc (S.σ id):=c;show j=.endRangeFunc ((S.ren l).σ<|idxOf l id 0);rw[(BP<|f id<|aG.2 rfl)];omega
theorem D7{a:dT}:(uG l a).GK=a.GK:=by cases a<;>rfl
def Jz{a:dT}:(uG l a).drawn=a.drawn:=by cases a<;>rfl
def aaB{k:List dT}(u:∀i∈k.flatMap qS,i∈l)(h:eF m k):eF (m.ren l)<|k.map<|uG l:=by
 intro b j;obtain⟨a,f,rfl⟩:=dE.1 j;have v:=h a f;have c:∀i∈qS a,i∈l:=λi p=>u i<|List.mem_flatMap.2 ⟨a,f,p⟩;cases a<;>(try trivial)
 case oA id=>
  show((m.ren l).at<|idxOf l id 0).jY=true;rw[(yY<|c id<|aG.2 rfl),wF];omega
 case pJ id=>
  show((m.ren l).at<|idxOf l id 0).jY=true;rw[(yY<|c id<|aG.2 rfl),wF];omega
def Zz(e r:Env)(q i:Nat):Env.at (Tg e q r) i=Env.at r i\/(i=q/\∃k c n,e.at q=.int k c n/\Env.at (Tg e q r) i=.int k c n):=by grind [Env.zY,KE,Tg]
theorem Aj{e:Env}{v:Nat->Value}{H:Nat->Prop}(h:∀i,¬H i->CR w S m (e.at i) (v i)):∀{f:List Nat} {i:Nat},¬H i->CR w (S.ren l) (m.ren l) ((uv l e f).at i) (v i)
 | [],i,_=>by grind [Env.Se,gT,uv]
 | j::f,i,hi=>by
   rw[uv];cases hj:Nat.ble j 65535 with
   | false=>
     rcases Zz e (uv l e f) (ahk j) i with p|⟨p,k,c,n,u,x⟩
     .rw[p];exact Aj h hi
     grind [CR]
   | true=>
     rw[Env.zY<|KE hj];by_cases e:i=j
     .simp_all [Rf]
     .rw[if_neg e];exact Aj h hi
def alZ{f:dI}{fr:Frame}{K:List Nat}(c:FR w S m f fr)(hm:∀i∈f.marks,i∈l)(G:∀i,f.gy=some i->i∈l)(ht:∀i∈f.todo.flatMap qS,i∈l):
  FR w (S.ren l) (m.ren l) {f with env:=uv l f.env K,todo:=f.todo.map<|uG l,marks:=f.marks.map (idxOf l · 0),gy:=f.gy.map (idxOf l · 0)} fr:=by
 refine⟨c.fn,c.n,c.small,λi v=>Aj (H:=λi=>Hid f fr i) c.env<|λD=>v ?_,OU ht c.todo,aaB ht c.live,λa u=>?_,?_,λd C=>?_,c.mode,c.kind,?_,λi v=>?_⟩
 .have⟨all,bs,N,J,b,p,y,A⟩:=D;refine⟨all,bs,N,J,b,p,?_,A⟩;rw[<-y];cases f.todo with
  | nil=>rfl
  | cons a k=>exact Jz
 .have u:a∈(f.todo.map<|uG l).tail:=u;rw[<-List.map_tail] at u;obtain⟨b,B,rfl⟩:=dE.1 u;rw[D7];exact c.cH b B
 .rw[c.defers,gj]
  grind [List.map_congr_left,BP]
 .obtain⟨x,h,rfl⟩:=dE.1 C;rw[(yY<|hm x h),wF];exact c.marks x h
 .rw[c.gy];cases hr':f.gy with
  | none=>rfl
  | some i=>grind [BP]
 .cases hr':f.gy with
  | none=>simp_all
  | some j=>
    rw[hr'] at v;cases v;rw[(yY<|G j hr'),wF];exact c.uH j hr'
theorem TH:∀{fs:List dI} {frs:List Frame} {p:List<|List Nat},(∀i∈qs p fs,i∈l)->Fs w S m fs frs->Fs w (S.ren l) (m.ren l) (sL l p fs) frs
 | [],frs,p,_,h=>by rw[sL];exact h
 | f::fs,frs,p,hl,h=>by
   obtain⟨fr,r,rfl,u,v⟩:=h;have c:∀i,i∈f.marks++((match f.gy with|some l=>[l]|none=>[])++(f.todo.flatMap qS++qs p.tail fs))->i∈l:=λi j=>hl i (by grind [qs])
   refine⟨fr,r,rfl,alZ u (λi j=>c i<|oJ.2<|.inl j) (λi j=>c i<|oJ.2<|.inr<|oJ.2<|.inl ?_)<|λi j=>c i<|oJ.2<|.inr<|oJ.2<|.inr<|oJ.2<|.inl j,
    TH (λi j=>c i<|oJ.2<|.inr<|oJ.2<|.inr<|oJ.2<|.inr j) v⟩
   simp_all
theorem TJ{f0:FuncId}:∀{fs:List dI} {ks:List<|List Nat},zT f0 fs->zT f0 (sL l ks fs)
 | [],ks,h=>h.elim
 | [f],ks,h=>h
 | f::g::r,ks,h=>by
   have:=TJ (fs:=g::r) (ks:=ks.tail) h;exact this
def FM{P:Program}{R:Type}{E:kD R}{I0:Nat->Prop}{f0:FuncId}{Fin:R->Value->World->Prop}{Q:R->Prop}(X:w0.R.length<=E.keep)(c:List<|List Nat)(f:dI)(fs:List dI)(m:Mem)(W:∀a∈f.todo.head?,a.GK=false)
  (h:Good P E w0 I0 f0 Fin Q<|canon E.keep c {bI:=f::fs,mem:=m}):Good P E w0 I0 f0 Fin Q {bI:=f::fs,mem:=m}:=by
 intro _ S fr frs cs w J G K D;have⟨x,V,y⟩:=yE (acc:=List.range E.keep) (r:=qs c<|f::fs) List.nodup_range;have⟨A,B⟩:=Dy (f:=m.length+1) (m:=m) (p:=0) x;have C:∀i,i<w0.R.length->(oi (m.length+1) m (oU (List.range E.keep)<|qs c<|f::fs) 0)[i]? = some i:=λi u=>by
  have⟨t1,N⟩:=vT (r:=qs c<|f::fs) (acc:=List.range E.keep);have⟨t2,O⟩:=Bc (f:=m.length+1) (m:=m) (acc:=oU (List.range E.keep)<|qs c<|f::fs) (p:=0)
  grind
 refine h ?_ (S.ren<|oi (m.length+1) m (oU (List.range E.keep)<|qs c<|f::fs) 0) fr frs cs w (al0 J A C) G (TH (λi u=>B i<|y i u) K)<|TJ D;unfold t6 canon;simp[sL];split
 .rename_i all Z v bs k j;cases ht:f.todo with
  | nil=>simp_all
  | cons a k'=>
    rw[ht] at j;simp at j;have:(uG (oi (m.length+1) m (oU (List.range E.keep)<|qs c<|f::fs) 0) a).GK=true:=by rw[j.1];rfl
    grind [D7]
 simp_all
end
end Go.Ev
namespace Go.Ev
section
variable {P:Program} {R:Type} {E:kD R} {w0:nE} {I0:Nat->Prop} {f0:FuncId} {Fin:R->Value->World->Prop} {Q:R->Prop}
def KP(D:Fits P E Fin w0 I0){n:Nat}(C:∀c,Tr.Ok Q (Good P E w0 I0 f0 Fin Q) (run af E n c)->Good P E w0 I0 f0 Fin Q c)
  {w:World} {S:St} {m:Mem} {fr:Frame} {fs:List dI} {frs cs:List Frame} {f:dI} {jump:Option Code}
  (h:Tr.Ok Q (Good P E w0 I0 f0 Fin Q) (match f.gy with
    | none=>match sG f.marks m with
      | none=>.bU 139 ""
      | some m=>match look E.ll f.fn with
        | none=>.bU 141 ""
        | some F=>match qP af E f.env m F.results.toList with
          | none=>.bU 142 ""
          | some vs=>match fs with
            | []=>match E.fin (gW vs) m with
              | some y=>.ret y
              | none=>.bU 143 ""
            | g::gs=>match finish g (gW vs) with
              | some g=>wK af E g m<|run af E n {bI:=g::gs,mem:=m}
              | none=>.bU 144 ""
    | some l=>match m.at l with
      | .loop r=>match fs with
        | g::gs=>match finish g (.bool true (Oo jump)) with
          | some g=>wK af E g (m.set l<|.loop {r with state:=GL jump,pending:=jump})<|run af E n {bI:=g::gs,mem:=m.set l<|.loop {r with state:=GL jump,pending:=jump}}
          | none=>.bU 145 ""
        | []=>.bU 146 ""
      | _=>.bU 147 ""))
  (p:∀x,¬Hid f fr x) (j:f.gy=none->step P (lone fr (frs++cs) w)=.next (lone {fr with mode:=.returning} (frs++cs) w))
  (ht:f.gy≠none->(fr.todo=[]/\jump=none)\/(∃k,fr.todo=.code .ret::k/\jump=some .ret)\/(∃id k,fr.todo=.code (.exit id)::k/\exitTo id k=none/\jump=some (.exit id))\/(∃id k,fr.todo=.code (.goto id)::k/\gotoIn id k=none/\jump=some (.goto id)))
  (A:WR w0 w S m) (v:∀b,S.I b->I0 b\/w0.free b) (B:FR w S m f fr) (i:Fs w S m fs frs) (u:zT f0<|f::fs) :
  Ends P f0 Fin Q fr frs cs w:=by
 cases hr:f.gy with
 | none=>
   rw[hr] at h;exact Ot D C h p (j hr) A v B i u
 | some l=>
   rw[hr] at h;exact xV C hr h (ht<|by grind) A v B i u
theorem pR(C:Fits P E Fin w0 I0):∀(n:Nat) (c:iF),Tr.Ok Q (Good P E w0 I0 f0 Fin Q) (run af E n c)->Good P E w0 I0 f0 Fin Q c
 | 0,c,h=>by rw[run] at h;exact h
 | n+1,c,h=>by
   have A:=pR C n;have⟨bI,m⟩:=c;intro B S fr frs cs w y v hF u;cases bI with
   | nil=>exact u.elim
   | cons f fs=>
     have⟨iU,a3,e,j,p⟩:=hF;cases e;have⟨fn,nn,env,K,marks,gy⟩:=f;cases K with
     | nil=>
       have ht:fr.todo=[]:=j.todo;refine KP (jump:=none) C A ?_ (λx=>oM λa J=>by cases J) (λX=>af2 j.mode (by rw[j.gy,X];rfl) ht) (λ_=>.inl ⟨ht,rfl⟩) y v j p u;exact h
     | cons i k=>
       have⟨it,Z,ht,h1,N⟩:=j.todo.cons_inv;have plain:=λhi=>Vi (FM (P:=P) (E:=E) (I0:=I0) (f0:=f0) (Fin:=Fin) (Q:=Q) C.keep) A (i:=i) (k:=k) hi h B y v j p u (cs:=cs);have G:i.GK=false->∀x,¬Hid ⟨fn,nn,env,i::k,marks,gy⟩ fr x:=λa8 x=>oM λa J=>by grind
       cases i with
       | inBlock id=>grind
       | inLoop b=>grind
       | inScope b=>grind
       | oA l=>simp only[run] at h;exact h.elim
       | sT all ms i rest bs=>simp only[run] at h;exact h.elim
       | pJ l=>grind [Vh]
       | beginRound=>grind [Vf]
       | ops all rest=>
         cases rest with
         | nil=>grind
         | cons o rest=>grind [afz]
       | jH all ms rest bs=>
         cases rest with
         | nil=>exact Vg C A h B y v j p u
         | cons i rest=>exact aaG C A h B y v j p u
       | code x=>
         subst h1;cases x with
         | skip=>grind
         | label l=>grind
         | seq a b=>grind
         | cond x a b=>grind
         | block id b=>grind
         | loop b=>grind
         | scope b=>grind
         | refuse why=>simp only[run] at h;exact h.elim
         | region id os draw=>
           cases draw with
           | false=>grind
           | true=>exact OX C (FM (P:=P) (E:=E) (I0:=I0) (f0:=f0) (Fin:=Fin) (Q:=Q) C.keep) A h B y v j p u
         | rangeFunc x ps a b=>grind [JC]
         | ret=>
           refine KP (jump:=some .ret) C A ?_ (G rfl) (λX=>af5 j.mode (by rw[j.gy,X];rfl) ht) (λ_=>.inr<|.inl ⟨Z,ht,rfl⟩) y v j p u;exact h
         | exit id=>
           simp only[run] at h;cases he:mJ id k with
           | some k'=>
             rw[he] at h;have⟨a0,D,O,V,W⟩:=Bn (m:=m) N he;exact jW y v j p u (G rfl) (af3 j.mode ht D) O (V j.live.tail) (λa J=>j.cH a<|W a J)<|A _ h
           | none=>
             rw[he] at h;have D:=xH N he;cases gy with
             | none=>exact h.elim
             | some l=>simp only at h;exact xV (f:=⟨fn,nn,env,.code (.exit id)::k,marks,some l⟩) (jump:=some<|.exit id) A rfl h (.inr<|.inr<|.inl ⟨id,Z,ht,D,rfl⟩) y v j p u
         | goto id=>
           simp only[run] at h;cases he:mK id k with
           | some k'=>
             rw[he] at h;have⟨a0,D,O,V,W⟩:=Bt (m:=m) N he;exact jW y v j p u (G rfl) (af4 j.mode ht D) O (V j.live.tail) (λa J=>(W a J).elim (j.cH a) λh=>h)<|A _ h
           | none=>
             rw[he] at h;have D:=xR N he;cases gy with
             | none=>exact h.elim
             | some l=>simp only at h;exact xV (f:=⟨fn,nn,env,.code (.goto id)::k,marks,some l⟩) (jump:=some<|.goto id) A rfl h (.inr<|.inr<|.inr ⟨id,Z,ht,D,rfl⟩) y v j p u
end
end Go.Ev
namespace Go.Ev
mutual
def Ty.has:(t:Ty)->t.T->Prop
 | .int k,x=>k.has x
 | .bool,_=>True
 | .str,x=>(show List UInt8 from x).length<=gg
 | .slice t,x=>(show List t.T from x).length<=gg/\∀y∈(show List t.T from x),Ty.has t y
 | .arr n t,x=>(show List t.T from x).length=n/\∀y∈(show List t.T from x),Ty.has t y
 | .struct ts,x=>Ty.kS ts x
 | .any _,_=>True
def Ty.kS:(c:List Ty)->Ty.Ts c->Prop
 | [],_=>True
 | [t],x=>Ty.has t x
 | t::f::c,x=>Ty.has t (Prod.fst (α:=t.T) (β:=Ty.Ts<|f::c) x)/\Ty.kS (f::c) (Prod.snd (α:=t.T) (β:=Ty.Ts<|f::c) x)
end
variable{t:Ty}{v:Value}
section
variable {w:World} {I:Nat->Prop}
mutual
theorem bW.has:∀(t:Ty) {cs:List Value} {x:t.T},bW w I t cs x->t.has x
 | .int k,cs,x,h=>by rw[Ty.has];exact(vm.1 h).2
 | .bool,cs,x,h=>by rw[Ty.has];trivial
 | .str,cs,x,h=>by rw[Ty.has];exact(AZ.1 h).2
 | .slice t,cs,x,h=>by
   have⟨a,u,p,v,c,C,A⟩:=eP.1 h;refine⟨c,λy j=>?_⟩;have⟨i,f⟩:=gX j;have⟨b,off,D,_,_,_,_,B⟩:=A i y f;exact bW.has t B
 | .arr n t,cs,x,h=>by
   have⟨p,v,c⟩:=AY.1 h;refine⟨p,λy j=>?_⟩;have⟨i,f⟩:=gX j;exact bW.has t<|c i y f
 | .struct ts,cs,x,h=>by rw[Ty.has];exact gk.has ts<|xr.1 h
 | .any n,cs,x,h=>by rw[Ty.has];trivial
theorem gk.has:∀(c:List Ty) {cs:List Value} {x:Ty.Ts c},gk w I c cs x->Ty.kS c x
 | [],cs,x,h=>by rw[Ty.kS];trivial
 | [t],cs,x,h=>by rw[Ty.kS];exact bW.has t<|Cm.1 h
 | t::j::c,cs,x,h=>by
   have⟨p,u,_,f,i⟩:=h;exact⟨bW.has t f,gk.has (j::c) i⟩
end
def mO.has{x:t.T}(h:mO w I t v x):t.has x:=by
 unfold mO at h;split at h;have⟨c,_,h⟩:=h;exact h.has;exact h.has
theorem kY.has:∀{c:List Ty} {f:List Value} {x:Ty.Ts c},kY w I c f x->Ty.kS c x
 | [],f,x,h=>by rw[Ty.kS];trivial
 | [t],f,x,h=>by
   have⟨v,_,h⟩:=h;exact h.has
 | t::t2::c,f,x,h=>by
   have⟨v,r,_,i,j⟩:=h;exact⟨i.has,j.has⟩
end
def OR{c:Array Oper}:(List.range c.size).map (λi=>c[i]?)=c.toList.map some:=by
 apply dL
 grind
structure Closed{R:Type}(E:kD R)(Q:R->Prop)(G:iF->Prop):Prop where
 go:∀(n:Nat) (c:iF),Tr.Ok Q G (run af E n (advance E.jK c))->G c
variable{F:Func}{I:Nat->Prop}{K:World}{S:St}{g:FuncId}{ks:List (Option Int)}{res:List Ty}
section
variable {P:Program} {R:Type} {E:kD R} {w0:nE} {I0:Nat->Prop} {f0:FuncId} {Fin:R->Value->World->Prop} {Q:R->Prop}
def LK(X:Fits P E Fin w0 I0){c:iF}(v:Good P E w0 I0 f0 Fin Q<|advance E.jK c):Good P E w0 I0 f0 Fin Q c:=by
 have⟨V,m⟩:=c;cases V with
 | nil=>exact v
 | cons f fs=>
   have⟨fn,nn,env,A,marks,gy⟩:=f;cases A with
   | nil=>exact v
   | cons i k=>
     cases i with
     | inLoop b=>
       intro _ S fr frs cs w D C y B;have⟨N,u,e,j,p⟩:=y;cases e;have⟨W,O,ht,G,J⟩:=j.todo.cons_inv;have K:step P (lone fr (frs++cs) w)=.next (lone {fr with todo:=.code b :: .inLoop b::O} (frs++cs) w):=by
        rcases G with rfl|rfl
        .exact KW j.mode ht
        .exact T9 j.mode ht
       refine jW D C j p B (λx=>oM λa h=>by cases h;rfl) K J.inLoop.code (.mk trivial<|.mk trivial j.live.tail) (λa h=>?_) v;rcases aC.1 h with rfl|h
       .rfl
       .rcases aC.1 h with rfl|h
        .rfl
        .exact j.cH a h
     | code x=>
       cases x with
       | region id os draw=>
         cases draw with
         | false=>
           intro _ S fr frs cs w D C y B;have⟨N,u,e,j,p⟩:=y;cases e;have⟨W,O,ht,G,J⟩:=j.todo.cons_inv;subst G;refine jW D C j p B (λx=>oM λa h=>by cases h;rfl) (KX j.mode ht) (.mk (a:=.ops os os.toList) ⟨_,rfl,OR⟩ J) (.mk trivial j.live.tail) (λa h=>?_) v;rcases aC.1 h with rfl|h
           .rfl
           .exact j.cH a h
         | true=>
           simp only[advance] at v;cases hd:qO E.jK os with
           | none=>simp_all
           | some q=>
             intro _ S fr frs cs w D C y B;have⟨N,u,e,j,p⟩:=y
             grind [Hw]
       | _=>exact v
     | _=>exact v
def pK(f:Fits P E Fin w0 I0):Closed E Q<|Good P E w0 I0 f0 Fin Q:=
 ⟨λn c h=>LK f<|pR f n _ h⟩
def adl(w0:World)(I0:Nat->Prop)(res:List Ty)(y:Ty.Ts res)(v:Value)(c:World):Prop:=
 c.os=w0.os/\c.tape=w0.tape/\c.output=w0.output/\w0.heap.size<=c.heap.size/\(∀b,b<w0.heap.size->c.heap[b]? = w0.heap[b]?)/\
  ∃f,(∀b,f b->I0 b\/(w0.heap.size<=b/\b<c.heap.size))/\rO c f res v y
def pF{c:World}{b:Nat}(h:(World.whole c).free b):c.heap.size<=b:=h.elim id λk=>k.elim
def Ab{w:World}{m:Mem}{B:AV}{y:Ty.Ts res}(A:WR (World.whole K) w S m)(hI:∀b,S.I b->I0 b\/(World.whole K).free b)(h:Aa af res B m=some y)(O:CR w S m B v):adl K I0 res y v w:=by
 have c:∀(i:List AV) (u:List Value),j6 res i=true->eD w S m i u->(match fJ af res m (i.flatMap AV.cells) with
   | none=>none
   | some (_,cs)=>match q9 res cs with
     | some (y,[])=>some y
     | _=>none)=some y->∃p,(∀b,p b->I0 b\/(K.heap.size<=b/\b<w.heap.size))/\kY w p res u y:=by
  intro i u f j h;have⟨L,hL,D⟩:=oh f j;cases hf:fJ af res m (i.flatMap AV.cells) with
  | none=>simp_all
  | some q=>
    have⟨m1,N⟩:=q;rw[hf] at h;simp only at h;have⟨S1,X,V⟩:=ib A hf hL;cases htd:q9 res N with
    | none=>simp_all
    | some q=>
      have⟨x,r⟩:=q;rw[htd] at h;cases r with
      | cons _ _=>cases h
      | nil=>
        cases h;have⟨u1,u2,e,Z,hr⟩:=nD res htd V;have W:=bA.1 hr;rw[W,aJ] at e;rw[<-e] at Z;refine⟨S1.I,λb C=>?_,D _ y Z⟩;rcases X.grows b C with h|h
        .rcases hI b h with h|h
         .simp_all
         .exact .inr ⟨pF h,X.wr.nH b C⟩
        .exact .inr ⟨pF h,X.wr.nH b C⟩
 refine⟨A.os,A.tape.1,A.output,A.size,λb C=>A.base b λk=>absurd (pF k)<|lD C,?_⟩;unfold Aa at h
 match res,y,h,c with
 | [],y,h1,c=>
   obtain⟨i,rfl⟩:∃i,B=.xb i:=by grind
   obtain⟨u,rfl,j⟩:=jZ.1 O;simp only at h1;split at h1;cases h1;rename_i f;have⟨p,G,J⟩:=c i u.toList f j h1;exact⟨p,G,by rw[rO,dX.1 J]⟩
 | [t],y,h1,c=>
   simp only at h1;split at h1;cases h1;rename_i f;have⟨p,G,J⟩:=c [B] [v] f (bL.2 ⟨v,[],rfl,O,bA.2 rfl⟩) h1;have⟨v',e,J⟩:=J;exact⟨p,G,by grind [rO]⟩
 | t::t2::ts,y,h1,c=>
   obtain⟨i,rfl⟩:∃i,B=.xb i:=by grind
   obtain⟨u,rfl,j⟩:=jZ.1 O;simp only at h1;split at h1;cases h1;rename_i f;have⟨p,G,J⟩:=c i u.toList f j h1;exact⟨p,G,by grind [rO]⟩
structure Base{R:Type}(P:Program)(E:kD R):Prop where
 ti:og P E.ti
 ll:∀g F,look E.ll g=some F->P.funcs[g]? = some F/\(F.name == "runtime.NumGoroutine")=false
 jK:∀g s,look E.jK g=some s->s.bp P g
 mixed:P.follows .mixedOrders=true
 tO:∀g s,look E.tO g=some s->s.bp P g
 tN:∀g s,look E.tN g=some s->s.bp P g
 tM:∀g s,look E.tM g=some s->s.bp P g
 ops:∀g s,look E.ops g=some s->s.bp P g
def Iq{w:World}(c:∀b,I b->b<w.heap.size):WR (World.whole w) w {σ:=λ_=>0,δ:=λ_=>0,vd:=λ_=>false,I:=I} []:=
 ⟨rfl,⟨rfl,λ_=>ah _⟩,rfl,ah _,λ_ _=>rfl,c,λ_=>trivial,λ_ _ h=>(by cases h),λ_ h=>(by cases h),λ_ h=>(by cases h),λ_ h=>(by cases h),λ_ _ h=>(by grind [World.whole]),λb f T fr h=>⟨f,T,fr,h,rfl⟩⟩
def MR{g:FuncId}{F:Func}{s:aL}{E:kD<|Ty.Ts s.res}(f:Base P E)(a0:E.fin=Aa af s.res)(hg:look E.ll g=some F)(A:F.body.isSome=true)(ha:s.JS=true->∀x,s.pre x=true)(n:Nat)
  (h:∀x,s.pre x=true->Ty.kS s.args x->∃C,jj g F (gL af s.args x)=some C/\∀G,Closed E (λy=>y=s.fn x) G->Tr.Ok (λy=>y=s.fn x) G (run af E n {bI:=[C],mem:=[]})):s.bp P g:=by
 have⟨X,hn⟩:=f.ll g F hg;refine⟨λw I x aa hI p B cs=>?_,ha,F,X,A,hn⟩;have⟨C,c,W⟩:=h x B p.has;have Z:Fits P E (adl w I s.res) (World.whole w) I:=⟨f.ti,f.ll,f.jK,f.mixed,λS w' m av y v J D hf hc=>Ab J D (by simp_all) hc,f.tO,f.tN,f.tM,f.ops,aQ _,λk=>False.elim k⟩;have u:=pR Z (Q:=λy=>y=s.fn x) (f0:=g) n _<|W _<|pK Z;have J:=Iq hI;have⟨O,_,V⟩:=kE X c<|oo (S:={σ:=λ_=>0,δ:=λ_=>0,vd:=λ_=>false,I:=I}) (m:=[]) (λb A=>A) p;have hB:zT g [C]:=by
  unfold jj at c;cases hbb:F.body with
  | none=>grind
  | some b=>
    rw[hbb] at c;simp only at c;split at c
    .cases c;rfl
    grind
 have⟨y,v,w',iU,hy,K,j,N,i⟩:=u (gS V) _ _ [] cs w J (λb A=>.inl A) ⟨_,_,rfl,O,rfl⟩ hB;have⟨g1,g2,g3,g4,g5,I',g6,g7⟩:=K;exact⟨.returned v,w',iU,⟨v,rfl,g1,g2,g3,g4,g5,I',g6,by grind⟩,j,N,i⟩
def WR.plain{o w:World}{m:Mem}(h:WR (World.Np o) w S m):WR (World.whole o) w S m:=
 ⟨h.os,⟨h.tape.1,λk=>False.elim k⟩,h.output,h.size,h.base,h.nH,h.box,h.inj,h.lo,h.qV,h.Ju,h.root,h.cells⟩
def VH{w:World}(c:∀b,I b->b<w.heap.size):WR (World.Np w) w {σ:=λ_=>0,δ:=λ_=>0,vd:=λ_=>false,I:=I} []:=
 ⟨rfl,⟨rfl,λ_=>ah _⟩,rfl,ah _,λ_ _=>rfl,c,λ_=>trivial,λ_ _ h=>(by cases h),λ_ h=>(by cases h),λ_ h=>(by cases h),λ_ h=>(by cases h),λ_ _ h=>(by grind [World.Np]),λb f T fr h=>⟨f,T,fr,h,rfl⟩⟩
def JL{g:FuncId}{F:Func}{s:aL}{E:kD<|Ty.Ts s.res}(f:Base P E)(a3:E.fin=Aa af s.res)(hg:look E.ll g=some F)(X:(∀g s,look E.jK g=some s->s.oT P g)/\E.tO=[]/\E.tN=[]/\E.tM=[]/\E.ops=[])(n:Nat)
  (h:∀x,s.pre x=true->Ty.kS s.args x->∃C,jj g F (gL af s.args x)=some C/\∀G,Closed E (λy=>y=s.fn x) G->Tr.Ok (λy=>y=s.fn x) G (run af E n {bI:=[C],mem:=[]})):s.oT P g:=by
 have⟨hF,hn⟩:=f.ll g F hg;intro w I x aa hI p A cs;have⟨C,c,Z⟩:=h x A p.has;have hP:Fits P E (λy v B=>w.drawn<=B.drawn/\adl w I s.res y v B) (World.Np w) I:=⟨f.ti,f.ll,f.jK,f.mixed,λS B m av y v D J hf hc=>⟨D.tape.2 trivial,Ab D.plain J (by simp_all) hc⟩,f.tO,f.tN,f.tM,f.ops,aQ _,λ_=>X⟩;have u:=pR hP (Q:=λy=>y=s.fn x) (f0:=g) n _<|Z _<|pK hP;have D:=VH hI;have⟨V,_,W⟩:=kE hF c<|oo (S:={σ:=λ_=>0,δ:=λ_=>0,vd:=λ_=>false,I:=I}) (m:=[]) (λb K=>K) p;have hB:zT g [C]:=by
  unfold jj at c;cases hbb:F.body with
  | none=>grind
  | some b=>
    rw[hbb] at c;simp only at c;split at c
    .cases c;rfl
    grind
 have⟨y,v,B,iU,hy,N,j,O,i⟩:=u (gS W) _ _ [] cs w D (λb K=>.inl K) ⟨_,_,rfl,V,rfl⟩ hB;have⟨g0,g1,g2,g3,g4,g5,I',g6,g7⟩:=N;exact⟨.returned v,B,iU,⟨g0,v,rfl,g1,g2,g3,g4,g5,I',g6,by grind⟩,j,O,i⟩
mutual
theorem bW.anyI{w:World}{I c:Nat->Prop}:∀(t:Ty) {cs:List Value} {x:t.T},t.scalar=true->bW w I t cs x->bW w c t cs x
 | .int k,cs,x,_,h=>by grind [bW]
 | .bool,cs,x,_,h=>by grind [bW]
 | .str,cs,x,_,h=>by grind [bW]
 | .slice t,cs,x,ht,h=>by cases ht
 | .arr n t,cs,x,ht,h=>by
   exact⟨h.1,h.2.1,λi y f=>bW.anyI t (by grind [Ty.scalar])<|h.2.2 i y f⟩
 | .struct ts,cs,x,ht,h=>by rw[bW] at h ⊢;exact gk.anyI ts (by grind [Ty.scalar]) h
 | .any n,cs,x,ht,h=>by cases ht
theorem gk.anyI{w:World}{I f:Nat->Prop}:∀(c:List Ty) {cs:List Value} {x:Ty.Ts c},Ty.mo c=true->gk w I c cs x->gk w f c cs x
 | [],cs,x,_,h=>by grind [gk]
 | [t],cs,x,ht,h=>by rw[gk] at h ⊢;exact bW.anyI t (by grind [Ty.mo]) h
 | t::u::c,cs,x,ht,h=>by
   rw[Ty.mo,eH] at ht;have⟨v,y,i,j,p⟩:=h;exact⟨v,y,i,bW.anyI t ht.1 j,gk.anyI (u::c) ht.2 p⟩
end
theorem mO.anyI{w:World}{f:Nat->Prop}{x:t.T}(ht:t.scalar=true)(h:mO w I t v x):mO w f t v x:=by
 unfold mO at h ⊢;split at h;rename_i c;rw[if_pos c];have⟨i,e,h⟩:=h;exact⟨i,e,bW.anyI t ht h⟩;rename_i c;rw[if_neg c];grind [bW.anyI]
theorem kY.anyI{w:World}{I i:Nat->Prop}:∀{c:List Ty} {f:List Value} {x:Ty.Ts c},Ty.mo c=true->kY w I c f x->kY w i c f x
 | [],f,x,_,h=>by grind [kY]
 | [t],f,x,ht,h=>by
   have⟨v,e,h⟩:=h;exact⟨v,e,mO.anyI (by grind [Ty.mo]) h⟩
 | t::t2::c,f,x,ht,h=>by
   rw[Ty.mo,eH] at ht;have⟨v,r,e,j,p⟩:=h;exact⟨v,r,e,mO.anyI ht.1 j,kY.anyI ht.2 p⟩
theorem rO.anyI{w:World}{c:Nat->Prop}:∀{res:List Ty} {v:Value} {y:Ty.Ts res},Ty.mo res=true->rO w I res v y->rO w c res v y
 | [],v,y,_,h=>by grind [rO]
 | [t],v,y,ht,h=>by grind [mO.anyI,rO,Ty.mo]
 | t::t2::ts,v,y,ht,h=>by
   have⟨f,e,h⟩:=h;exact⟨f,e,kY.anyI ht h⟩
def know:List (Option Int)->List AV->List AV
 | some n::ks,.int k _ _::l=>.int k true n::know ks l
 | _::ks,a::l=>a::know ks l
 | _,l=>l
def Fu:List (Option Int)->List AV->Prop
 | some n::ks,.int _ _ x::l=>x=n/\Fu ks l
 | _::ks,_::l=>Fu ks l
 | _,_=>True
theorem Oq:∀{l:List AV},know [] l=l
 | []|_::_=>rfl
theorem uw:∀{c:List<|Option Int} {l:List AV},(know c l).length=l.length
 | [],l=>by rfl
 | none::_,[]|some _::_,[]=>rfl
 | none::c,a::l=>by rw[know,bd,bd,uw];nofun
 | some n::c,a::l=>by cases a<;>simp[know,uw]
theorem xU{w:World}{S:St}{m:Mem}:∀{ks:List<|Option Int} {l:List AV} {c:List Value},Fu ks l->eD w S m l c->eD w S m (know ks l) c
 | [],l,c,_,h=>by cases l<;>exact h
 | none::_,[],c,_,h|some _::_,[],c,_,h=>h
 | none::ks,a::l,c,hk,h=>by
   have⟨v,r,e,f,i⟩:=bL.1 h;cases a<;>exact bL.2 ⟨v,r,e,f,xU (ks:=ks) hk i⟩
 | some n::ks,a::l,c,hk,h=>by
   have⟨v,r,e,f,i⟩:=bL.1 h;cases a<;>first|exact bL.2 ⟨v,r,e,f,xU (ks:=ks) hk i⟩|exact bL.2 ⟨v,r,e,by rw[<-hk.1];exact f,xU (ks:=ks) hk.2 i⟩
def JP{s:lG}{E:kD (Ty.Ts s.res)}(i:Base P E)(ac:E.fin=Aa af s.res)(hg:look E.ll g=some F)(O:F.body.isSome=true)(n:Nat)(a6:Ty.mo s.res=true)(a0:∀x y,s.pre (x,y)=true->Fu ks (gL af s.args y))
  (h:∀x y,s.pre (x,y)=true->s.view.has x->Ty.kS s.args y->∃D,jj g F (.nI s.view x 0::know ks (gL af s.args y))=some D/\∀G,Closed E (λr=>r=s.fn (x,y)) G->Tr.Ok (λr=>r=s.fn (x,y)) G (run af E n {bI:=[D],mem:=[]})):s.bp P g:=by
 obtain⟨hF,hn⟩:=i.ll g F hg;refine⟨λw I x y b us T fr aa hI hh hx hy u cs=>?_,F,hF,O,hn⟩;obtain⟨D,f,a5⟩:=h x y u hx.has hy.has;have V:b<w.heap.size:=(dy.1 hh).1;have K:∀c,(I c\/c=b)->c<w.heap.size:=λc B=>B.elim (hI c) (λe=>e▸V);have a3:∀c,I c->(I c\/c=b)/\w.heap[c]? = w.heap[c]? :=λc B=>⟨.inl B,rfl⟩;have hP:Fits P E (adl w (λc=>I c\/c=b) s.res) (World.whole w) (λc=>I c\/c=b):=⟨i.ti,i.ll,i.jK,i.mixed,λS w' m av y v N J hf B=>Ab N J (by simp_all) B,i.tO,i.tN,i.tM,i.ops,aQ _,λk=>False.elim k⟩;have C:=pR hP (Q:=λr=>r=s.fn (x,y)) (f0:=g) n _ (a5 _ (pK hP));have N:=Iq K;have A:eD w {σ:=λ_=>0,δ:=λ_=>0,vd:=λ_=>false,I:=λc=>I c\/c=b} [] (.nI s.view x 0::know ks (gL af s.args y)) (Value.pointer (some ⟨b,0,none⟩)::aa).toArray.toList:=by
  refine bL.2 ⟨_,_,rfl,rf.2 ⟨b,0,us.toList,rfl,.inr rfl,bW.length _ hx,?_,bW.mono a3 _ hx⟩,xU (a0 x y u) (oo (I:=I) (λc B=>Or.inl B) hy)⟩;have:=jm (w:=w) hh 0 us.size
  rwa [ik,dH (by simp)] at this
 obtain⟨Z,_,a4⟩:=kE hF f A;have hB:zT g [D]:=by
  unfold jj at f;cases hbb:F.body with
  | none=>simp_all
  | some b=>
    rw[hbb] at f;simp only at f;split at f
    .cases f;rfl
    simp_all
 obtain⟨r,v,w',iU,hr,W,p,X,j⟩:=C (gS a4) _ _ [] cs w N (λb O=>.inl O) ⟨_,_,rfl,Z,rfl⟩ hB;obtain⟨g1,g2,g3,g4,g5,I',g6,g7⟩:=W;exact⟨.returned v,w',iU,⟨v,rfl,g1,g2,g3,g4,g5,by rw[<-hr];exact rO.anyI a6 g7⟩,p,X,j⟩
end
def World.with(w:World)(B:List Nat)(c:List<|Nat×Option Nat):nE:={w with X:=λb=>b∈B,R:=c}
def G2(c:List Nat):List<|Nat×Option Nat:=c.map λb=>(b,none)
def yc(D:Nat->Nat×Nat)(c:List VF)(f:List Nat):List<|Nat×Option Nat:=G2 f++(VF.i7 c).map λk=>((D k).1,some (D k).2)
variable{D:Nat->Nat×Nat}
def KM{f:List VF}{c:List Nat}{i b:Nat}(h:c[i]? = some b):(yc D f c)[i]? = some (b,none):=by
 have⟨j,p⟩:=aR.1 h;rw[yc,cN (by rw[G2,cy];exact j),G2,da,h];rfl
variable{c:List VF}
def Va{f:List Nat}(v:f.length=c.length)(p:VF.i7 c=List.range' c.length (VF.i7 c).length){k:Nat}(h:k∈VF.i7 c):(yc D c f)[k]? = some ((D k).1,some (D k).2):=by
 have⟨j,u,e⟩:=je.1 h;have i:k=c.length+j:=by grind
 have x:(G2 f).length=c.length:=by rw[G2,cy,v]
 rw[yc,dz<|by omega,x,i,Nat.add_sub_cancel_left,da,Jv u,e,<-i];rfl
theorem Kt:∀{fx:List<|Nat×Nat},GA fx=true->∀p∈fx,p.2=p.1
 | [],_,p,c=>absurd c aF
 | (k,id)::r,h,p,c=>by
   rw[GA,eH] at h;rcases aC.1 c with rfl|c
   .simp_all
   .exact Kt h.2 p c
def aoc(w0:World)(I0:Nat->Prop)(D:Nat->Nat×Nat)(B p:List Nat)(C:Bool)(f:List VF)(res:List Ty)(y:Ty.Ts (VF.iA f)×Ty.Ts res)(v:Value)(c:World):Prop:=
 c.os=w0.os/\c.tape=w0.tape/\c.output=w0.output/\w0.heap.size<=c.heap.size/\(∀b,b<w0.heap.size->b ∉ B++oX D f->c.heap[b]? = w0.heap[b]?)/\
  ∃(h:Nat->Prop) (i:List Nat),(∀b,h b->(I0 b\/b∈B++oX D f\/w0.heap.size<=b)/\b<c.heap.size)/\(∀(b:Nat) (u:Array Value) (T:TypeId) (fr:Nat×Nat),w0.heap[b]? = some (.cells u T fr)->∃(j:Array Value) (x:TypeId) (A:Nat×Nat),c.heap[b]? = some (.cells j x A)/\j.size=u.size)/\ry c h D f (mZ p) y.1 i/\(i++oX D f).Nodup/\(∀b∈i++oX D f,(b∈B++oX D f\/w0.heap.size<=b)/\¬h b)/\adn c h C p res v y.2
theorem HV{w0:nE}{w:World}{S:St}{m:Mem}(G:WR w0 w S m):∀{j:List VF} {k:Nat} {c:List Nat} {x:Ty.Ts<|VF.iA j} {ids:List Nat},iG j=true->(∀i b,c[i]? = some b->S.σ (k+i)=b)->c.length=j.length->
  VF.reads m j ((List.range j.length).map λi=>AV.ptr (k+i) 0)=some (x,ids,[])->eD w S m ((List.range j.length).map λi=>AV.ptr (k+i) 0) (mZ c)
 | [],k,c,x,ids,_,_,hl,_=>by
   have:c=[]:=cu.1 hl;subst this;rfl
 | f::fs,k,[],x,ids,_,_,hl,_=>by grind
 | f::fs,k,r::c,x,ids,v,hr,hl,h=>by
   have e:(List.range (f::fs).length).map (λi=>AV.ptr (k+i) 0)=AV.ptr k 0::(List.range fs.length).map λi=>AV.ptr (k+1+i) 0:=by
    rw[bd,List.range_succ_eq_map,eX,gj];congr 1
    grind [List.map_congr_left]
   rw[e] at h ⊢;have⟨B,v⟩:=ij v;have one:∀{y:f.ty.T} {C:List Nat} {u:List AV},VF.read m f (AV.ptr k 0::(List.range fs.length).map λi=>AV.ptr (k+1+i) 0)=some (y,C,u)->CR w S m (.ptr k 0) (.pointer<|some ⟨r,0,none⟩)/\u=(List.range fs.length).map λi=>AV.ptr (k+1+i) 0:=by
    intro y C u h;generalize f.sub=J at B;rcases B with rfl|rfl
    all_goals
     simp only[VF.read] at h;cases hm:m.at k<;>rw[hm] at h<;>(try simp only at h)<;>try (cases h;done)
     case cH fz l=>
      refine⟨?_,?_⟩
      .rw[CR,hm];rw[<-hr 0 r rfl];rfl
      grind
   cases fs with
   | nil=>
     have A:c=[]:=cu.1 (by simp_all);subst A;exact bL.2 ⟨_,_,rfl,(one h).1,bA.2 rfl⟩
   | cons g fs=>
     simp only[VF.reads] at h;cases h1:VF.read m f (AV.ptr k 0::(List.range (g::fs).length).map λi=>AV.ptr (k+1+i) 0) with
     | none=>simp_all
     | some p=>
       have⟨a,N,u⟩:=p;rw[h1] at h;simp only at h;have⟨c1,D⟩:=one h1;cases h2:VF.reads m (g::fs) u with
       | none=>grind
       | some q=>
         have⟨b,O,V⟩:=q;rw[h2] at h;obtain⟨_,_,rfl⟩:=h;rw[D] at h2;exact bL.2 ⟨_,_,rfl,c1,HV G v (λi b K=>by rw[Nat.add_assoc,ko 1 i];simp_all) (by simpa using hl) h2⟩
def Rh{k n:Nat}:fY ((List.range n).map λi=>AV.ptr (k+i) 0)=(List.range n).map (k + ·):=by
 induction List.range n with
 | nil=>rfl
 | cons a l ih=>grind [fY]
variable{B:List Nat}{I0:Nat->Prop}{X:List Nat}
def P5{w1:World}{w:World}{m:Mem}{av:AV}{rp:Bool}{y:Ty.Ts (VF.iA c)×Ty.Ts res}(hk:X.length=c.length)(ab:VF.i7 c=List.range' c.length (VF.i7 c).length)(J:WR (World.with w1 (B++oX D c)<|yc D c X) w S m)
  (hI:∀b,S.I b->I0 b\/(World.with w1 (B++oX D c)<|yc D c X).free b) (h:P4 af rp c res av m=some y) (hc:CR w S m av v):aoc w1 I0 D B X rp c res y v w:=by
 have f:∀(A:List AV) (Z:List Value),j6 res A=true->eD w S m A Z->(match fJ af res m (A.flatMap AV.cells) with
   | none=>none
   | some (m,cs)=>match q9 res cs with
     | some (y,[])=>match VF.reads m c (jl c.length) with
       | some (x,ids,[])=>match nV ids&&(iG c&&GA (VF.yJ m c (jl c.length))) with
         | true=>some (x,y)
         | false=>none
       | _=>none
     | _=>none)=some y->∃(C:Nat->Prop) (G:List Nat),(∀b,C b->(I0 b\/b∈B++oX D c\/w1.heap.size<=b)/\b<w.heap.size)/\ry w C D c (mZ X) y.1 G/\(G++oX D c).Nodup/\(∀b∈G++oX D c,(b∈B++oX D c\/w1.heap.size<=b)/\¬C b)/\kY w C res Z y.2:=by
  intro A Z j K h;have⟨L,hL,ae⟩:=oh j K;cases hf:fJ af res m (A.flatMap AV.cells) with
  | none=>grind
  | some q=>
    have⟨m1,aq⟩:=q;rw[hf] at h;simp only at h;have⟨N,s1,aw⟩:=ib J hf hL;cases htd:q9 res aq with
    | none=>grind
    | some q=>
      have⟨x,r⟩:=q;rw[htd] at h;cases r with
      | cons _ _=>cases h
      | nil=>
        have⟨u1,u2,e,hx,hr⟩:=nD res htd aw;have b6:=bA.1 hr;rw[b6,aJ] at e;rw[<-e] at hx;cases hrd:VF.reads m1 c (jl c.length) with
        | none=>grind
        | some q=>
          have⟨z,ids,r⟩:=q;rw[hrd] at h;cases r with
          | cons _ _=>cases h
          | nil=>
            simp only at h;split at h
            rotate_left
            cases h;rename_i V;cases h;rw[eH,eH] at V;have e0:jl c.length=(List.range c.length).map λi=>AV.ptr (0+i) 0:=by
             rw[jl];grind
            have az:eD w N m1 (jl c.length)<|mZ X:=by
             rw[e0] at hrd ⊢;exact HV s1.wr V.2.1 (λi b O=>by rw[gJ];exact(s1.wr.root i (b,none)<|KM O).2.1) hk hrd
            have⟨a0,_⟩:=xQ c hrd;have hD:∀p∈VF.yJ m1 c (jl c.length),D p.1=(N.σ p.2,N.δ p.2)/\N.vd p.2=false:=λp hp=>by
             rw[Kt V.2.2 p hp];have⟨_,r1,r2⟩:=s1.wr.root p.1 _<|Va hk ab (by grind)
             grind
            have⟨v1,v2,js,e3,b5,W,b0,bz,ag⟩:=VF.pQ s1.wr c hrd hD az;have be:oX D c=((VF.yJ m1 c<|jl c.length).map Prod.snd).map N.σ:=by
             rw[oX,<-a0,gj,gj];exact fh λp hp=>by grind
            have as:(js++(VF.yJ m1 c<|jl c.length).map Prod.snd).map N.σ=js.map N.σ++oX D c:=by grind
            rw[bA.1 b5,aJ] at e3;rw[<-e3] at ag;have⟨b1,b2,b3,b4⟩:=wu s1.wr (W.2<|pO V.1) W.1 b0;rw[as] at b1 b2 b3;refine⟨N.I,js.map N.σ,λb O=>⟨?_,s1.wr.nH b O⟩,ag,b1,λb O=>⟨(b3 b O).elim .inr .inl,b2 b O⟩,ae _ _ hx⟩;rcases s1.grows b O with h|h
            .rcases hI b h with h|h
             .grind
             .exact .inr<|h.elim .inr .inl
            .exact .inr<|h.elim .inr .inl
 refine⟨J.os,J.tape.1,J.output,J.size,λb O hB=>J.base b λk=>k.elim (λk=>absurd k<|lD O) hB,?_⟩;unfold P4 at h;cases rp with
 | true=>
   unfold aqL at h;cases av<;>try (cases h;done)
   rename_i i d;simp only at h;cases hq:Nat.beq i 0&&(Nat.beq d 0&&Nat.ble 1 c.length) with
   | false=>grind
   | true=>
     rw[hq] at h;have hq:=(eH _ _).mp hq;have ad:=(eH _ _).mp hq.2;cases vL hq.1;cases vL ad.1;have u:=KE ad.2;cases hm:m.at 0<;>rw[hm] at h<;>try (cases h;done)
     simp only at h;split at h;cases h;rename_i j;have⟨C,G,k1,k2,k3,k4,_⟩:=f [] [] j (bA.2 rfl) h;refine⟨C,G,k1,J.cells,k2,k3,k4,?_⟩;cases X with
     | nil=>grind
     | cons b X=>
       have e:=(J.root 0 (b,none)<|KM<|by rfl).2.1;rw[CR,hm] at hc;rw[hc];show some (Value.pointer<|some ⟨b,0,none⟩)=_
       grind
 | false=>
 simp only at h
 match res,y,h,f with
 | [],y,u,f=>
   obtain⟨A,rfl⟩:∃A,av=.xb A:=by grind
   obtain⟨Z,rfl,K⟩:=jZ.1 hc;simp only at u;split at u;cases u;rename_i j;have⟨C,G,k1,k2,k3,k4,k5⟩:=f A Z.toList j K u;exact⟨C,G,k1,J.cells,k2,k3,k4,by rw[adn,rO,dX.1 k5]⟩
 | [t],y,u,f=>
   simp only at u;split at u;cases u;rename_i j;have⟨C,G,k1,k2,k3,k4,k5⟩:=f [av] [v] j (bL.2 ⟨v,[],rfl,hc,bA.2 rfl⟩) u;have⟨v',e,k5⟩:=k5;cases e;exact⟨C,G,k1,J.cells,k2,k3,k4,by rw[adn,rO];omega⟩
 | t::t2::ts,y,u,f=>
   obtain⟨A,rfl⟩:∃A,av=.xb A:=by grind
   obtain⟨Z,rfl,K⟩:=jZ.1 hc;simp only at u;split at u;cases u;rename_i j;have⟨C,G,k1,k2,k3,k4,k5⟩:=f A Z.toList j K u;exact⟨C,G,k1,J.cells,k2,k3,k4,by simp_all;exact⟨Z,rfl,k5⟩⟩
mutual
theorem VR.has{w:World}{I:Nat->Prop}{D:Nat->Nat×Nat}:∀(f:VF) {c:List Value} {x:f.ty.T} {B:List Nat},VR w I D f c x B->f.ty.has x
 | .d t,c,x,B,h=>(ajh.1 h).1.has
 | .own t,c,x,B,h=>by
   rcases nT.1 h with ⟨e,_⟩|⟨b,K,p,_,_,_,u,G,T,fr,_,_,_,A⟩
   .have e:x=([]:List t.T):=e;subst e;exact⟨aQ _,λy j=>absurd j aF⟩
   .refine⟨u,λy j=>?_⟩;have⟨i,C⟩:=gX j;exact(A i y C).has
 | .fix k t,c,x,B,h=>by
   have⟨_,p,_,_,u,G,T,fr,_,_,_,A⟩:=vS.1 h;refine⟨u,λy j=>?_⟩;have⟨i,C⟩:=gX j;exact(A i y C).has
 | .ptr fs,c,x,B,h=>by
   have⟨b,J,_,_,G,T,fr,_,_,v⟩:=FC.1 h;exact ry.has fs v
 | .nU fs,c,x,B,h=>by
   have⟨b,_,_,G,T,fr,_,_,v⟩:=vR.1 h;exact ry.has fs v
theorem ry.has{w:World}{I:Nat->Prop}{D:Nat->Nat×Nat}:∀(fs:List VF) {c:List Value} {x:Ty.Ts<|VF.iA fs} {B:List Nat},ry w I D fs c x B->Ty.kS (VF.iA fs) x
 | [],c,x,B,h=>trivial
 | [f],c,x,B,h=>VR.has f<|t7.1 h
 | f::g::fs,c,x,B,h=>by
   have⟨v,y,p,u,_,_,i,j⟩:=A8.1 h;exact⟨VR.has f i,ry.has (g::fs) j⟩
end
theorem GI:∀{aK:List VF} {m:Mem} {i:Nat},(m++holds aK).at (m.length+i)=match aK[i]? with|some f=>GH f|none=>.bU
 | [],m,i=>by simp_all [holds,Mem.at]
 | f::fs,m,0=>by
   rw[Mem.at,holds,List.getElem?_cons_zero,kv,GB,dz<|ah _,mH];rfl
 | f::fs,m,i+1=>by
   rw[holds,List.getElem?_cons_succ,<-GI (m:=m ++ [GH f])]
   grind
theorem FH{A:aS}{h:Nat->AV}:∀{aK:List VF} {vs:List AV} {x:Ty.Ts<|VF.iA aK} {m:Mem},iG aK=true->vs.length=aK.length->(∀v∈vs,∃id off,v=.ptr id off)->∃j,VF.J2 A h aK vs x m=some j
 | [],vs,x,m,_,_,_=>⟨m,by rfl⟩
 | f::fs,[],x,m,_,hl,_=>by grind
 | [f],v::vs,x,m,hp,hl,hv=>by
   obtain⟨id,off,rfl⟩:=hv v aM;cases f<;>simp only[iG] at hp<;>simp_all
   all_goals exact⟨_,by rfl⟩
 | f::g::fs,v::vs,x,m,hp,hl,hv=>by
   obtain⟨id,off,rfl⟩:=hv v aM;have c:=(ij hp).2;cases f<;>simp only[iG] at hp<;>try (cases hp;done)
   all_goals
    exact FH (aK:=g::fs) c (by grind) λv i=>hv v<|aB _ i
theorem ry.Mu{w:World}{I:Nat->Prop}{D:Nat->Nat×Nat}:∀{aK:List VF} {j:List Nat} {x:Ty.Ts<|VF.iA aK} {B:List Nat},iG aK=true->ry w I D aK (mZ j) x B->j.length=aK.length/\
  ∀(i:Nat) (f:VF),aK[i]? = some f->∃(b:Nat) (p:Array Value) (T:TypeId) (fr:Nat×Nat),j[i]? = some b/\(f.fz=false->b∈B)/\(f.fz=true->I b)/\w.heap[b]? = some (.cells p T fr)/\gU fr p.size/\p.size=VF.mI f.sub
 | [],j,x,B,_,h=>by
   have:j=[]:=List.map_eq_nil_iff.1 (K_.1 h).1
   grind
 | [f],[],x,B,hp,h=>by
   have:=ry.length _ h;have⟨c,_⟩:=ij hp;rw[show VF.mI [f]=1 from by rcases c with h|h<;>rw[h]<;>rfl] at this;cases this
 | f::g::fs,[],x,B,hp,h=>by
   have:=ry.length _ h;have⟨c,_⟩:=ij hp;have J:f.size=1:=by rcases c with h|h<;>rw[h]<;>rfl
   rw[VF.mI,J] at this;have this:0=1+VF.mI (g::fs):=this;omega
 | [f],r::j,x,B,hp,h=>by
   have⟨c,_⟩:=ij hp;have⟨e,v,y,p,T,fr,A,C,G⟩:=VR.blk c<|t7.1 h;have K:j=[]:=List.map_eq_nil_iff.1 e
   grind
 | f::g::fs,r::j,x,B,hp,h=>by
   have⟨c,u⟩:=ij hp;obtain⟨V,W,rfl,N,O⟩:=ry.head c h;have⟨e,v,y,p,T,fr,A,C,G⟩:=VR.blk c N;have⟨X,Z⟩:=ry.Mu (aK:=g::fs) u O
   grind
theorem Hu:∀{c:List VF} {i:Nat} {f:VF},iG c=true->c[i]? = some f->f=.ptr f.sub\/f=.nU f.sub
 | [],i,f,_,h=>by grind
 | g::c,0,f,hp,h=>by
   simp at h;exact h▸(ij hp).1
 | g::c,i+1,f,hp,h=>by
   exact Hu (ij hp).2 h
theorem Kx{f:VF}(c:f=.ptr f.sub\/f=.nU f.sub):GH f=.cH f.fz (List.replicate (VF.mI f.sub) .undef):=by
 generalize f.sub=h at c ⊢;rcases c with rfl|rfl<;>rfl
def vA{i:Nat}(j:iG c=true):(∃f,c[i]? = some f/\(holds c).at i=.cH f.fz (List.replicate (VF.mI f.sub) .undef))\/(c[i]? = none/\(holds c).at i=.bU):=by
 have h:=GI (aK:=c) (m:=[]) (i:=i)
 grind [Kx,Hu]
theorem v8:∀{c:List VF},(holds c).length=c.length
 | []=>rfl
 | f::fs=>by rw[holds,bd,bd,v8]
def qf(c:List Nat)(I:Nat->Prop):St:={σ:=λi=>c.getD i 0,δ:=λ_=>0,vd:=λ_=>false,I:=I}
def WR.al2{w f:World}{R c:List<|Nat×Option Nat}{m:Mem}(h:WR (World.with w X R) f S m)(j:∀i b,c[i]? = some b->i<m.length/\S.σ i=b.1/\∀d,b.2=some d->S.δ i=d/\S.vd i=false):WR (World.with w X c) f S m:=
 ⟨h.os,⟨h.tape.1,λk=>False.elim k⟩,h.output,h.size,h.base,h.nH,h.box,h.inj,h.lo,h.qV,h.Ju,j,h.cells⟩
theorem KO{w0:nE}{w:World}{I:Nat->Prop}{D:Nat->Nat×Nat}:∀(l:List<|Nat×iM) {S:St} {m:Mem},WR w0 w S m->(∀b,I b->S.I b)->(∀p∈l,∃(t:Ty) (y:List t.T) (N:List Value),p.2=.arr false t y/\VR w I D (.fix p.1 t) N y [])->(l.map λp=>(D p.1).1).Nodup->(∀p∈l,JY w0 S m (D p.1).1)->
  ∃c,Step w0 w S m w c (m++l.map Prod.snd)/\(∀b,c.I b->S.I b)/\(∀j,j<m.length->c.σ j=S.σ j/\c.δ j=S.δ j/\c.vd j=S.vd j)/\∀i p,l[i]? = some p->c.σ (m.length+i)=(D p.1).1/\c.δ (m.length+i)=(D p.1).2/\c.vd (m.length+i)=false
 | [],S,m,hW,_,_,_,_=>⟨S,by rw[mG,aJ];exact .refl hW,λ_ h=>h,λ_ _=>⟨rfl,rfl,rfl⟩,λi p h=>by cases h⟩
 | (k,bx)::l,S,m,hW,hI,hl,hn,hf=>by
   have⟨t,y,N,e,hv⟩:=hl (k,bx) aM;subst e;have⟨n1,n2⟩:=bS.1 hn;have⟨_,Z,_,h1,h2,O,T,fr,h3,h4,h5,h6⟩:=vS.1 hv;have v:=hf (k,.arr false t y) aM;have A:=Step.J7 hW (b:=(D k).1) (d:=(D k).2) (bx:=.arr false t y) v (yM h3) rfl λhO=>⟨h2,yW,λ_=>⟨O,T,fr,by
     show w.heap[if m.length=m.length then(D k).1 else S.σ m.length]? = _
     grind,h4,by
     show(if m.length=m.length then(D k).2 else S.δ m.length)+_<=_;rw[if_pos rfl];exact aV (fO (aH _ h1) _) h5,λi y hy=>by
     show bW w _ t ((O.toList.drop<|(if m.length=m.length then(D k).2 else S.δ m.length)+_).take _) y;rw[if_pos rfl];exact bW.mono (λb f=>⟨.inl<|hI b f,rfl⟩) t<|h6 i y hy⟩⟩
   have B:Wrote S m [(D k).1] (S.push m.length (D k).1 (D k).2 false)<|m ++ [.arr false t y]:=wC λ_=>aG.2 rfl;have⟨V,K,i2,J,r2⟩:=KO l A.wr (λb f=>(A.out.nH b<|hI b f).1) (λp x=>hl p<|aB _ x) n2 λp x=>B.fresh (C:=[]) (hf p<|aB _ x) λhm=>n1 (by grind);rw[show(m ++ [iM.arr false t y])++l.map Prod.snd=m++((k,iM.arr false t y)::l).map Prod.snd from by simp] at K;refine⟨V,A.trans K,λb f=>B.nH b<|i2 b f,λj G=>?_,λi p hi=>?_⟩
   .have⟨a1,a2,u⟩:=J j (by grind);have⟨_,W,X⟩:=B.old j G;exact⟨a1.trans W,a2.trans<|if_neg<|eY G,u.trans X⟩
   .cases i with
    | zero=>
      cases hi;have⟨a1,a2,u⟩:=J m.length (by simp_all);exact⟨a1.trans<|if_pos rfl,a2.trans<|if_pos rfl,u.trans<|if_pos rfl⟩
    | succ i=>
      grind
def Zi{w:World}{K:List VF}{v:List Nat}{x:Ty.Ts<|VF.iA K}(hI:∀b,I b->b<w.heap.size)(O:iG K=true)(hv:ry w I D K (mZ v) x B)(Z:v.Nodup)(hB:∀b∈B,¬I b)(hX:∀b∈B,b∈X):
  WR (World.with w X<|G2 v) w (qf v I) (holds K):=by
 have⟨h1,h3⟩:=hv.Mu O;have p:∀i,(qf v I).lv i ((holds K).at i)=true->∃(f:VF) (b:Nat) (J:Array Value) (T:TypeId) (fr:Nat×Nat),(qf v I).fz i ((holds K).at i)=f.fz/\v[i]? = some b/\(qf v I).σ i=b/\w.heap[b]? = some (.cells J T fr)/\(f.fz=false->b∈B)/\(f.fz=true->I b):=λi hl=>by
  rcases vA (i:=i) O with ⟨f,u,A⟩|⟨u,A⟩
  .have⟨b,J,T,fr,a1,a2,C,G,_⟩:=h3 i f u;exact⟨f,b,J,T,fr,by rw[A];rfl,a1,by simp[qf,GB,a1],G,a2,C⟩
  .rw[A] at hl;cases hl
 refine⟨rfl,⟨rfl,λ_=>ah _⟩,rfl,ah _,λ_ _=>rfl,hI,λi=>?_,λi j u A e=>?_,λi u=>?_,λi u k0 y=>?_,λi u=>?_,λi b y=>?_,λb J T fr h=>⟨J,T,fr,h,rfl⟩⟩
 .rcases vA (i:=i) O with ⟨f,u,A⟩|⟨u,A⟩
  .rw[A];have⟨b,J,T,fr,a1,_,_,a2,C,G⟩:=h3 i f u;exact⟨J,T,fr,by rw[show(qf v I).σ i=b by simp[qf,GB,a1]];omega,C,Dp<|by omega⟩
  .rw[A];trivial
 .have⟨_,b,_,_,_,_,a1,a2,_⟩:=p i u;have⟨_,c,_,_,_,_,b1,b2,_⟩:=p j A;rw[a2,b2] at e;subst e;have⟨l1,l2⟩:=aR.1 a1;have⟨l3,l4⟩:=aR.1 b1;exact(rZ Z).1 (l2.trans l4.symm)
 .have⟨f,b,_,_,_,_,a1,a2,C,G,N⟩:=p i u;rw[a2];refine⟨?_,yM C⟩;cases hz:f.fz with
  | false=>exact .inr<|.inr<|hX _<|G hz
  | true=>exact .inl<|N hz
 .have⟨f,b,_,_,_,V,a1,a2,C,G,N⟩:=p i u;rw[a2] at y;rw[V] at k0;exact hB b (G k0) y
 .rcases vA (i:=i) O with ⟨f,e1,W⟩|⟨_,W⟩
  .have⟨f,b,_,_,_,V,a1,a2,C,G,N⟩:=p i (by rw[W];rfl);rw[V] at u;rw[a2];exact N u
  .rw[W] at u;cases u
 .have y:(G2 v)[i]? = some b:=y;rw[G2,da] at y;cases hr:v[i]? with
  | none=>rw[hr] at y;cases y
  | some c=>
    rw[hr] at y;cases y;exact⟨by rw[v8,<-h1];grind,by simp[qf,GB,hr],λd hd=>by grind⟩
theorem DY{S:St}:∀{aK:List VF} {rs:List Nat} {m:Mem},iG aK=true->rs.length=aK.length->(∀i b,rs[i]? = some b->S.σ (m.length+i)=b)->
  oS S (m++holds aK) aK ((List.range aK.length).map λi=>AV.ptr (m.length+i) 0) rs
 | [],rs,m,_,hl,_=>⟨rfl,cu.1 hl⟩
 | f::fs,[],m,_,hl,_=>by grind
 | f::fs,r::rs,m,h,hl,hr=>by
   have c:=GI (aK:=f::fs) (m:=m) (i:=0);have⟨j,h⟩:=ij h;have c:=c.trans<|Kx j;rw[show holds (f::fs)=GH f::holds fs from rfl] at c ⊢;have e:(List.range (f::fs).length).map (λi=>AV.ptr (m.length+i) 0)=AV.ptr m.length 0::(List.range fs.length).map λi=>AV.ptr ((m ++ [GH f]).length+i) 0:=by
    rw[bd,List.range_succ_eq_map,eX,gj]
    grind [List.map_congr_left]
   rw[e];refine⟨m.length,0,_,rs,_,j,rfl,by rw[<-hr 0 r rfl];rfl,c,GU,?_⟩;have:=DY (S:=S) (aK:=fs) (rs:=rs) (m:=m ++ [GH f]) h (by simp_all) λi b p=>by
    rw[<-hr (i+1) b p]
    grind
   simp_all
section
variable {P:Program}
def JN{s:cn}{E:kD<|Ty.Ts (VF.iA s.aK)×Ty.Ts s.res}(W:Base P E)(b1:E.fin=P4 af s.rp s.aK s.res)(an:s.aK.length+(VF.i7 s.aK).length<=E.keep)(N:iG s.aK=true)(a9:VF.i7 s.aK=List.range' s.aK.length (VF.i7 s.aK).length)(bt:∀x y,s.pre (x,y)=true->Fu ks (gL af s.args y))(aq:∀x y,s.pre (x,y)=true->VF.lens s.aK (s.fn (x,y)).1=VF.lens s.aK x)(hg:look E.ll g=some F)(c:F.body.isSome=true)(ha:s.JS=true->∀x,s.pre x=true)(n:Nat)
  (h:∀x y,s.pre (x,y)=true->Ty.kS (VF.iA s.aK) x->Ty.kS s.args y->∃h0,jj g F (jl s.aK.length++know ks (gL af s.args y))=some h0/\∀G,Closed E (λr=>r=s.fn (x,y)) G->Tr.Ok (λr=>r=s.fn (x,y)) G (run af E n {bI:=[h0],mem:=Ip af s.aK x})):s.bp P g:=by
 have⟨hF,hn⟩:=W.ll g F hg;refine⟨λw I D x y C aa B hI hv bz b3 V hy ac cs=>?_,aq,ha,F,hF,c,hn⟩;have⟨h0,J,b4⟩:=h x y ac hv.has hy.has;have⟨hl,_⟩:=hv.Mu N;have e0:jl s.aK.length=(List.range s.aK.length).map λi=>AV.ptr (0+i) 0:=by
  rw[jl];grind
 have⟨m0,b2⟩:=FH (A:=af) (h:=.own) (aK:=s.aK) (vs:=jl s.aK.length) (x:=x) (m:=holds s.aK++(VF.gz s.aK x).map Prod.snd) N (by grind) λv hv=>by grind
 have ca:Ip af s.aK x=m0:=by rw[Ip,b2];rfl
 rw[ca] at b4;have ad:oS (qf C I) (holds s.aK) s.aK (jl s.aK.length) C:=by
  have:=DY (S:=qf C I) (aK:=s.aK) (rs:=C) (m:=[]) N hl λi b c=>by
   rw[o9,gJ];simp[qf,GB,c]
  grind
 have a8:=Zi hI N hv bz (λb c=>V b<|oJ.2<|.inl c) (X:=B++oX D s.aK) λb c=>oJ.2<|.inl c;have u:=nu s.aK x x;have bj:(VF.gz s.aK x).map (λp=>(D p.1).1)=oX D s.aK:=by
  rw[oX,<-u.2.1,gj];rfl
 have O:(holds s.aK).length=s.aK.length:=v8;have⟨_,nf,nx⟩:=dV.1 b3;have a5:∀j,(qf C I).lv j ((holds s.aK).at j)=true->(qf C I).σ j∈B\/I ((qf C I).σ j):=λj hl=>by
  have⟨h1,h3⟩:=hv.Mu N;rcases vA (i:=j) N with ⟨f,k1,k2⟩|⟨k1,k2⟩
  .have⟨b,us,T,fr,a1,a2,a3,_⟩:=h3 j f k1;have e:(qf C I).σ j=b:=by simp[qf,GB,a1]
   grind
  .rw[k2] at hl;cases hl
 have⟨S0,s0,i0,o0,r0⟩:=KO (I:=I) (D:=D) (VF.gz s.aK x) a8 (λ_ h=>h) (λp hp=>by
  have⟨t,y,e⟩:=u.2.2 p hp;have⟨iH,h'⟩:=ry.row (k:=p.1) (t:=t) (y:=y) s.aK hv (by rw[<-e];exact hp)
  grind) (by grind) λp hp=>by
   have c:(D p.1).1∈oX D s.aK:=by grind
   refine⟨.inr<|oJ.2<|.inr c,V _<|oJ.2<|.inr c,λj hl e=>?_⟩;rcases a5 j hl with k|k
   .exact nx _ k _ c e
   .exact V _ (oJ.2<|.inr c)<|e▸k
 have ec:(VF.gz s.aK x).length=(VF.i7 s.aK).length:=by rw[<-u.2.1,cy]
 have be:WR (World.with w (B++oX D s.aK)<|yc D s.aK C) w S0<|holds s.aK++(VF.gz s.aK x).map Prod.snd:=s0.wr.al2 λi b c=>by
  rw[yc,List.getElem?_append] at c;have bx:(G2 C).length=s.aK.length:=by rw[G2,cy,hl]
  split at c
  .rename_i a6;have⟨q1,q2,q3⟩:=a8.root i b c
   grind
  .rename_i a6;rw[bx] at c a6;rw[da] at c;cases hq:(VF.i7 s.aK)[i-s.aK.length]? with
   | none=>rw[hq] at c;cases c
   | some k=>
     rw[hq] at c;cases c;rw[<-u.2.1,da] at hq;cases hp:(VF.gz s.aK x)[i-s.aK.length]? with
     | none=>rw[hp] at hq;cases hq
     | some p=>
       rw[hp] at hq;cases hq;have hi:=(aR.1 hp).1;have:=r0 _ p hp;rw[O,show s.aK.length+(i-s.aK.length)=i from by omega] at this;refine⟨by rw[uy,O,cy];omega,this.1,λd hd=>?_⟩;cases hd;exact this.2
 have K:fY (jl s.aK.length)=List.range s.aK.length:=by
  rw[e0,Rh];simp
 have b5:∀j,j<s.aK.length->(holds s.aK++(VF.gz s.aK x).map Prod.snd).at j=(holds s.aK).at j:=λj Z=>by
  rw[Mem.at,Mem.at,GB,GB,cN<|by omega]
 have hR:oS S0 (holds s.aK++(VF.gz s.aK x).map Prod.snd) s.aK (jl s.aK.length) C:=ad.congr λj Z fz cs hm=>by
  rw[K] at Z;have Z:=kJ.1 Z;exact⟨(o0 j<|by omega).1,cs,by rw[b5 j Z];exact hm,rfl⟩
 have⟨S,st,b0⟩:=VF.xw (I:=I) (D:=D) s.aK be (λb h=>(s0.out.nH b h).1) hv (dV.1 b3).1 (λb c=>⟨.inr<|oJ.2<|.inl c,λk=>V b (oJ.2<|.inl c)<|i0 b k⟩) hR (by rw[K];exact List.nodup_range) (λb c j Z he=>by
  rw[K];by_cases eb:j<s.aK.length
  .grind
  .have a6:=Mem.jO Z;rw[uy,O,cy] at a6;have hi:j-s.aK.length<(VF.gz s.aK x).length:=by omega
   have this:=(r0 (j-s.aK.length) _<|Jv hi).1;rw[O,show s.aK.length+(j-s.aK.length)=j from by omega,he] at this;have hm:b∈oX D s.aK:=by rw[<-bj];exact dE.2 ⟨_,dQ hi,this.symm⟩
   exact absurd rfl<|nx b c b hm) (λk t y us hm cb=>by
  have⟨i,hi,e⟩:=je.1 hm;have q:(VF.gz s.aK x)[i]? = some (k,.arr false t y):=by rw[Jv hi,e]
  have ql:(VF.i7 s.aK)[i]? = some k:=by rw[<-u.2.1,da,q];rfl
  rw[a9,List.getElem?_range'<|by omega] at ql;have hk:k=s.aK.length+i:=by have:=Option.some.inj ql;omega
  have⟨t1,t2,t3⟩:=r0 i _ q;rw[O,<-hk] at t1 t2 t3;obtain⟨_,b9,rfl,k1,_,vs,T,fr,k3,_,k5,_⟩:=vS.1 cb;refine bL.2 ⟨_,[],rfl,?_,bA.2 rfl⟩;have bh:(holds s.aK++(VF.gz s.aK x).map Prod.snd).at k=.arr false t y:=by
   rw[Mem.at,GB,dz<|by omega,O,hk,Nat.add_sub_cancel_left,da,q];rfl
  rw[CR,bh];exact .inr ⟨t3,b9,by rw[t1,t2],k1,vs,T,fr,by rw[t1];exact k3,by rw[t2];exact k5⟩) b2
 have bc:∀b,S.I b->I b:=λb c=>i0 b<|b0 b c;have hP:Fits P E (aoc w I D B C s.rp s.aK s.res) (World.with w (B++oX D s.aK)<|yc D s.aK C) I:=⟨W.ti,W.ll,W.jK,W.mixed,λS w' m av y v hW bb hf hc=>P5 hl a9 hW bb (by rw[<-b1];exact hf) hc,W.tO,W.tN,W.tM,W.ops,by
  show(yc D s.aK C).length<=E.keep;rw[yc,G2,uy,cy,cy,hl];exact an,λk=>False.elim k⟩
 have ag:=pR hP (Q:=λr=>r=s.fn (x,y)) (f0:=g) n _<|b4 _<|pK hP;have as:eD w S m0 (jl s.aK.length)<|mZ C:=by
  refine eD.mono st.out<|eD.mono s0.out ?_;have e1:mZ C=(List.range s.aK.length).map λi=>.pointer<|some ⟨(qf C I).σ i,0,none⟩:=by
   rw[ad.ids,K,mZ,gj];exact fh λi _=>by
    simp;rw[<-K,<-ad.ids]
  rw[e1,jl];have:∀l:List Nat,(∀i∈l,i<s.aK.length)->eD w (qf C I) (holds s.aK) (l.map λi=>AV.ptr i 0) (l.map λi=>.pointer<|some ⟨(qf C I).σ i,0,none⟩):=by
   intro l
   induction l with
   | nil=>intro _;rfl
   | cons i l ih=>
     intro hh;refine bL.2 ⟨_,_,rfl,?_,ih λj Z=>hh j<|aB _ Z⟩;rw[CR];rcases vA (i:=i) N with ⟨fs,_,k2⟩|⟨k1,_⟩
     .rw[k2]
     .exact absurd (hh i aM) (by have:=List.getElem?_eq_none_iff.1 k1;omega)
  exact this _ λi hi=>kJ.1 hi
 have ae:eD w S m0 (jl s.aK.length++know ks (gL af s.args y)) (mZ C++aa).toArray.toList:=by
  exact as.append<|xU (bt x y ac)<|oo (I:=I) (λb c=>(st.out.nH b (s0.out.nH b c).1).1) hy
 have⟨bn,_,bv⟩:=kE hF J ae;have hB:zT g [h0]:=by
  unfold jj at J;cases hbb:F.body with
  | none=>rw[hbb] at J;cases J
  | some b=>
    rw[hbb] at J;simp only at J;split at J
    .cases J;rfl
    .cases J
 have⟨r,v,w',iU,hr,bk,a7,bm,a4⟩:=ag (gS bv) _ _ [] cs w st.wr (λb c=>.inl<|bc b c) ⟨_,_,rfl,bn,rfl⟩ hB;have⟨g1,g2,g3,g4,g5,I',B',g6,gc,g7,g8,g9,ba⟩:=bk;exact⟨.returned v,w',iU,⟨v,rfl,g1,g2,g3,g4,g5,I',B',g6,gc,by rw[<-hr];exact g7,g8,g9,by rw[<-hr];exact ba⟩,a7,bm,a4⟩
end
def aob(w0:World)(I0:Nat->Prop)(B:List Nat)(j:Value)(t:Ty)(res:List Ty)(y:List t.T×Ty.Ts res)(v:Value)(c:World):Prop:=
 c.os=w0.os/\c.tape=w0.tape/\c.output=w0.output/\w0.heap.size<=c.heap.size/\(∀b,b<w0.heap.size->b ∉ B->c.heap[b]? = w0.heap[b]?)/\
  ∃f:Nat->Prop,(∀b,f b->(I0 b\/b∈B\/w0.heap.size<=b)/\b<c.heap.size)/\(∀(b:Nat) (i:Array Value) (T:TypeId) (fr:Nat×Nat),w0.heap[b]? = some (.cells i T fr)->∃(h:Array Value) (p:TypeId) (u:Nat×Nat),c.heap[b]? = some (.cells h p u)/\h.size=i.size)/\
   (∀x:List t.T,y.1.length=x.length->VR w0 I0 (λ_=>(0,0)) (.own t) [j] x B->VR c f (λ_=>(0,0)) (.own t) [j] y.1 B/\∀b∈B,¬f b)/\rO c f res v y.2
def P2{W:World}{w:World}{m:Mem}{X:AV}{R:List<|Nat×Option Nat}{v0:Value}{y:List t.T×Ty.Ts res}(hR:∀x:List t.T,VR W I0 (λ_=>(0,0)) (.own t) [v0] x B->B≠ []->∃b d K,R=[(b,some d)]/\B=[b]/\v0=.slice (some ⟨b,d,none⟩) x.length K)
  (A:WR (World.with W B R) w S m) (hI:∀b,S.I b->I0 b\/(World.with W B R).free b) (h:Yn af t res X m=some y) (O:CR w S m X v):aob W I0 B v0 t res y v w:=by
 have f:∀(j:List AV) (D:List Value),j6 res j=true->eD w S m j D->(match fJ af res m (j.flatMap AV.cells) with
   | none=>none
   | some (m,cs)=>match q9 res cs with
     | some (y,[])=>match m.at 0 with
       | .arr false t' x=>if h:t'.beq t=true then some ((Ty.eq_of_beq h▸x:List t.T),y) else none
       | _=>none
     | _=>none)=some y->∃u:Nat->Prop,(∀b,u b->(I0 b\/b∈B\/W.heap.size<=b)/\b<w.heap.size)/\
   (∀x:List t.T,y.1.length=x.length->VR W I0 (λ_=>(0,0)) (.own t) [v0] x B->VR w u (λ_=>(0,0)) (.own t) [v0] y.1 B/\∀b∈B,¬u b)/\kY w u res D y.2:=by
  intro j D i p h;obtain⟨L,hL,a3⟩:=oh i p;cases hf:fJ af res m (j.flatMap AV.cells) with
  | none=>grind
  | some q=>
    obtain⟨m1,a8⟩:=q;rw[hf] at h;simp only at h;obtain⟨S1,V,aa⟩:=ib A hf hL;cases htd:q9 res a8 with
    | none=>grind
    | some q=>
      obtain⟨z,r⟩:=q;rw[htd] at h;cases r with
      | cons _ _=>cases h
      | nil=>
        simp only at h;obtain⟨u1,u2,e,hx,hr⟩:=nD res htd aa;rw[bA.1 hr,aJ] at e;rw[<-e] at hx;cases hm:m1.at 0<;>rw[hm] at h<;>(try simp only at h)<;>(try (cases h;done));rename_i fz t' x';cases fz with
        | true=>cases h
        | false=>
          simp only at h;by_cases G:t'.beq t=true
          .rw[dif_pos G] at h;have ht:=Ty.eq_of_beq G;subst ht;cases h;refine⟨S1.I,λb G=>⟨?_,V.wr.nH b G⟩,λx hl hv=>?_,a3 _ _ hx⟩
           .rcases V.grows b G with h|h
            .rcases hI b h with h|h
             .grind
             .exact .inr<|h.elim .inr .inl
            .exact .inr<|h.elim .inr .inl
           .have hl:x'.length=x.length:=hl;by_cases ac:B=[]
            .rcases nT.1 hv with ⟨N,C,k3⟩|⟨b',dl,Z,C,_⟩
             .exact⟨nT.2<|.inl ⟨cu.1<|by simp_all,C,k3⟩,λb G=>by grind⟩
             simp_all
            .obtain⟨b,d,K,q1,q2,q3⟩:=hR x hv ac;obtain⟨_,r1,r2⟩:=V.wr.root 0 (b,some d) (by show R[0]? = _;grind);obtain⟨r2,r3⟩:=r2 d rfl;have a0:=V.wr.box 0;rw[hm] at a0;obtain⟨c1,_,c2⟩:=a0;obtain⟨D,T,fr,c3,c4,c5,c6⟩:=c2 r3;rcases nT.1 hv with ⟨_,N,_⟩|⟨b',dl,Z,C,k3,k4,J,ad,T0,a9,k6,k7,k8,_⟩
             .simp_all
             .rw[q3] at k3;simp at k3;obtain⟨⟨p1,p2⟩,_,p4⟩:=k3;have r1:S1.σ 0=b:=r1;obtain⟨bb,T2,b2,d1,d2⟩:=V.wr.cells b ad T0 a9 (by rw[p1];exact k6);rw[r1,d1] at c3;cases c3;refine⟨nT.2<|.inr ⟨b,d,K,q2,by simp_all,by omega,c1,D,T,fr,d1,c4,?_,by simp_all⟩,λc O=>?_⟩
              .simp_all
              .rw[q2] at O;rw[aG.1 O,<-r1];exact V.wr.qV 0 (by rw[hm,rP,r3];rfl) (by rw[hm];rfl)
          simp_all
 refine⟨A.os,A.tape.1,A.output,A.size,λb G hB=>A.base b λk=>k.elim (λk=>absurd k<|lD G) hB,?_⟩;unfold Yn at h
 match res,y,h,f with
 | [],y,h1,f=>
   obtain⟨j,rfl⟩:∃j,X=.xb j:=by grind
   obtain⟨D,rfl,p⟩:=jZ.1 O;simp only at h1;split at h1;cases h1;rename_i i;obtain⟨u,N,C,J⟩:=f j D.toList i p h1;exact⟨u,N,A.cells,C,by rw[rO,dX.1 J]⟩
 | [t'],y,h1,f=>
   simp only at h1;split at h1;cases h1;rename_i i;obtain⟨u,N,C,J⟩:=f [X] [v] i (bL.2 ⟨v,[],rfl,O,bA.2 rfl⟩) h1;rw[kY] at J;obtain⟨v',e,J⟩:=J;cases e;exact⟨u,N,A.cells,C,by rw[rO];exact J⟩
 | t'::t2::ts,y,h1,f=>
   obtain⟨j,rfl⟩:∃j,X=.xb j:=by grind
   obtain⟨D,rfl,p⟩:=jZ.1 O;simp only at h1;split at h1;cases h1;rename_i i;obtain⟨u,N,C,J⟩:=f j D.toList i p h1;exact⟨u,N,A.cells,C,by rw[rO];simp_all⟩
def VG{w:World}{x:List t.T}(N:∀b,I b->b<w.heap.size)(hv:VR w I (λ_=>(0,0)) (.own t) [v] x B)(hB:∀b∈B,¬I b):
  ∃(S:St) (R:List (Nat×Option Nat)),R.length<=1/\S.I=I/\WR (World.with w B R) w S [.arr false t x]/\CR w S [.arr false t x] (.own 0) v/\∀y:List t.T,VR w I (λ_=>(0,0)) (.own t) [v] y B->B≠ []->∃b d p,R=[(b,some d)]/\B=[b]/\v=.slice (some ⟨b,d,none⟩) y.length p:=by
 have aa:∀j,j≠0->Mem.at [iM.arr false t x] j=.bU:=λj hj=>by
  cases j with
  | zero=>omega
  | succ j=>rfl
 rcases nT.1 hv with ⟨hx,rfl,a,e⟩|⟨b,u,p,rfl,e,J,Z,W,T,fr,A,h4,K,h6⟩
 .subst hx;simp at e;subst e;have C:∀j,St.lv {σ:=λ_=>0,δ:=λ_=>0,vd:=λ_=>true,I:=I} j (Mem.at [iM.arr false t ([]:List t.T)] j)=true->False:=λj h=>by
   cases j with
   | zero=>cases h
   | succ j=>cases h
  refine⟨{σ:=λ_=>0,δ:=λ_=>0,vd:=λ_=>true,I:=I},[],by decide,rfl,⟨rfl,⟨rfl,λ_=>ah _⟩,rfl,ah _,λ_ _=>rfl,N,λj=>?_,λi j h=>(C i h).elim,λi h=>(C i h).elim,λi h=>(C i h).elim,λi h=>?_,λi b h=>?_,λb D T fr h=>⟨D,T,fr,h,rfl⟩⟩,?_,λy O a5=>?_⟩
  .cases j with
   | zero=>exact⟨aQ _,λ_=>rfl,λh=>by cases h⟩
   | succ j=>trivial
  .cases i with
   | zero=>cases h
   | succ i=>cases h
  .have h:([]:List (Nat×Option Nat))[i]? = some b:=h
   grind
  .rw[CR];exact .inl ⟨rfl,rfl,a,rfl⟩
  simp_all
 .simp at e;subst e;have f:∀j,St.lv {σ:=λ_=>b,δ:=λ_=>u,vd:=λ_=>false,I:=I} j (Mem.at [iM.arr false t x] j)=true->j=0:=λj h=>by
   cases j with
   | zero=>rfl
   | succ j=>cases h
  refine⟨{σ:=λ_=>b,δ:=λ_=>u,vd:=λ_=>false,I:=I},[(b,some u)],ah 1,rfl,⟨rfl,⟨rfl,λ_=>ah _⟩,rfl,ah _,λ_ _=>rfl,N,λj=>?_,λi j k1 V _=>(f i k1).trans (f j V).symm,λi _=>⟨.inr (.inr (aG.2 rfl)),yM A⟩,λi _ _=>hB b (aG.2 rfl),λi h=>?_,λi c h=>?_,λb D T fr h=>⟨D,T,fr,h,rfl⟩⟩,?_,λy O a6=>?_⟩
  .cases j with
   | zero=>exact⟨Z,λh=>(by cases h),λ_=>⟨W,T,fr,A,h4,aV (fO (aH _ J) _) K,h6⟩⟩
   | succ j=>trivial
  .cases i with
   | zero=>simp_all;cases h
   | succ i=>cases h
  .have h:[(b,some u)][i]? = some c:=h
   grind
  .rw[CR];exact .inr ⟨rfl,p,rfl,J,W,T,fr,A,K⟩
  .rcases nT.1 O with ⟨_,k,_⟩|⟨b',X,G,k,V,_⟩
   all_goals grind
theorem S8{w:World}{S:St}{m:Mem}:∀{fs:List FuncId},eD w S m (fs.map λf=>.fn f [] [])<|fnV fs
 | []=>bA.2 rfl
 | f::fs=>bL.2 ⟨_,_,rfl,vk.2 ⟨#[],#[],rfl,bA.2 rfl,bA.2 rfl⟩,S8⟩
section
variable {P:Program}
def JM{s:fH}{E:kD<|List s.elem.T×Ty.Ts s.res}(i:Base P E)(am:E.fin=Yn af s.elem s.res)(J:1<=E.keep)(hg:look E.ll g=some F)(u:F.body.isSome=true)(n:Nat)
  (K:∀x y,s.pre (x,y)=true->Ty.has (.slice s.elem) x->Ty.kS s.args y->(s.fn (x,y)).1.length=x.length)
  (h:∀x y,s.pre (x,y)=true->Ty.has (.slice s.elem) x->Ty.kS s.args y->∃N,jj g F (zu s.xk (.own 0)<|gL af s.args y++s.ll.map λf=>.fn f [] [])=some N/\∀G,Closed E (λr=>r=s.fn (x,y)) G->Tr.Ok (λr=>r=s.fn (x,y)) G (run af E n {bI:=[N],mem:=[.arr false s.elem x]})):s.bp P g:=by
 have⟨hF,hn⟩:=i.ll g F hg;refine⟨λw I x y v aa B hI hv O hy A cs=>?_,F,hF,u,hn⟩;have hx:Ty.has (.slice s.elem) x:=VR.has (.own s.elem) hv;have⟨N,c,a7⟩:=h x y A hx hy.has;have⟨S,R,W,X,Z,a0,hR⟩:=VG hI hv O;have hP:Fits P E (aob w I B v s.elem s.res) (World.with w B R) I:=⟨i.ti,i.ll,i.jK,i.mixed,λS w' m av y v Z V hf hc=>P2 hR Z V (by simp_all) hc,i.tO,i.tN,i.tM,i.ops,aV W J,λk=>False.elim k⟩;have D:=pR hP (Q:=λr=>r=s.fn (x,y)) (f0:=g) n _<|a7 _<|pK hP
 have C:eD w S [.arr false s.elem x] (zu s.xk (.own 0)<|gL af s.args y++s.ll.map λf=>.fn f [] []) (zu s.xk v<|aa++fnV s.ll).toArray.toList:=
  V5 a0 ((oo (I:=I) (λb u=>by rw[X];exact u) hy).append S8)
 have⟨a5,_,a6⟩:=kE hF c C;have hB:zT g [N]:=by
  unfold jj at c;cases hbb:F.body with
  | none=>simp_all
  | some b=>
    rw[hbb] at c;simp only at c;split at c
    .cases c;rfl
    .cases c
 have⟨r,z,w',iU,hr,a3,p,a4,j⟩:=D (gS a6) _ _ [] cs w Z (λb u=>.inl<|by simp_all) ⟨_,_,rfl,a5,rfl⟩ hB;have⟨g1,g2,g3,g4,g5,I',g6,gc,g7,g8⟩:=a3;rw[hr] at g7 g8;have⟨k1,k2⟩:=g7 x (K x y A hx hy.has) hv;exact⟨.returned z,w',iU,⟨z,rfl,g1,g2,g3,g4,g5,I',λb u=>⟨(g6 b u).1.elim .inl λk=>k.elim (λk=>absurd u<|k2 b k) .inr,(g6 b u).2⟩,gc,k1,g8⟩,p,a4,j⟩
def aod(w0:World)(I0:Nat->Prop)(f:VF)(h:Bool)(res:List Ty)(y:Bool×f.ty.T×Ty.Ts res)(v:Value)(c:World):Prop:=
 c.os=w0.os/\c.tape=w0.tape/\c.output=w0.output/\w0.heap.size<=c.heap.size/\(∀b,b<w0.heap.size->c.heap[b]? = w0.heap[b]?)/\ado w0 c I0 f h res v y
def P6{w:World}{m:Mem}{W:AV}{f:VF}{i:Bool}{y:Bool×f.ty.T×Ty.Ts res}(G:WR (World.whole K) w S m)(hI:∀b,S.I b->I0 b\/(World.whole K).free b)(h:Yo af f i res W m=some y)(hc:CR w S m W v):aod K I0 f i res y v w:=by
 refine⟨G.os,G.tape.1,G.output,G.size,λb A=>G.base b λk=>absurd (pF k)<|lD A,?_⟩
 have c:∀(a:AV) (p:List AV) (u:Value) (C:List Value),CR w S m a u->eD w S m p C->v=al3 (u::C)->(match j6 res p with
  | false=>none
  | true=>match fJ af res m (p.flatMap AV.cells) with
    | none=>none
    | some (m,cs)=>match q9 res cs with
      | some (y,[])=>match (generalizing:=false) i,a with
        | true,.gN=>some (false,Ty.gH f.ty,y)
        | _,v=>match VF.read m f [v] with
          | some (x,ids,[])=>match nV ids&&f.GM.isEmpty with
            | true=>some (true,x,y)
            | false=>none
          | _=>none
      | _=>none:Option<|Bool×f.ty.T×Ty.Ts res)=some y->ado K w I0 f i res v y:=by
  intro a p u C O a8 hv h;split at h
  simp_all
  rename_i a6;have⟨L,hL,B⟩:=oh a6 a8;cases hf:fJ af res m (p.flatMap AV.cells) with
  | none=>grind
  | some q=>
    have⟨m1,Z⟩:=q;rw[hf] at h;simp only at h;have⟨V,J,a3⟩:=ib G hf hL;cases htd:q9 res Z with
    | none=>grind
    | some q=>
      have⟨z,r⟩:=q;rw[htd] at h;cases r with
      | cons _ _=>cases h
      | nil=>
        have⟨u1,u2,e,hx,X⟩:=nD res htd a3;have a7:=bA.1 X;rw[a7,aJ] at e;rw[<-e] at hx;have N:∀b,V.I b->I0 b\/(K.heap.size<=b/\b<w.heap.size):=λb A=>by
         rcases J.grows b A with h|h
         .rcases hI b h with h|h
          .grind
          .exact .inr ⟨pF h,J.wr.nH b A⟩
         .exact .inr ⟨pF h,J.wr.nH b A⟩
        have a0:=O.mono J.out
        have rd:(match VF.read m1 f [a] with
          | some (x,ids,[])=>match nV ids&&f.GM.isEmpty with
            | true=>some (true,x,z)
            | false=>none
          | _=>none:Option<|Bool×f.ty.T×Ty.Ts res)=some y->ado K w I0 f i res v y:=by
         intro h;cases hrd:VF.read m1 f [a] with
         | none=>grind
         | some q=>
           have⟨x',ids,r⟩:=q;rw[hrd] at h;cases r with
           | cons _ _=>cases h
           | nil=>
             simp only at h;split at h
             rotate_left
             cases h;rename_i hn;cases h;rw[eH] at hn;have b7:VF.fx m1 f [a]=[]:=by
              have:=(LJ f hrd).1
              simp_all
             have⟨ba,bb,js,e,h2,h3,h4,_,h6⟩:=VF.wD (D:=λ_=>(0,0)) J.wr f hrd (by simp_all)<|bL.2 ⟨u,[],rfl,a0,bA.2 rfl⟩;rw[bA.1 h2,aJ] at e;rw[<-e] at h6;have⟨b1,b2,b3,b4⟩:=wu J.wr (by have:=h3.2<|pO hn.1;simp_all) (λj hj=>h3.1 j<|oJ.2<|.inl hj) λj hj=>h4 j<|oJ.2<|.inl hj;refine⟨V.I,λ_=>(0,0),js.map V.σ,u,C,hv,N,.inr ⟨λ_=>rfl,h6,b1,λb A=>⟨pF<|b3 b A,b2 b A⟩⟩,B _ z hx⟩
        cases i with
        | false=>grind
        | true=>
          cases a<;>first|exact rd h|(cases h;rw[CR] at O;exact⟨V.I,λ_=>(0,0),[],u,C,hv,N,.inl ⟨rfl,rfl,O⟩,B _ z hx⟩)
 unfold Yo at h
 match res,y,h,c with
 | [],y,h1,c=>exact c W [] v [] hc (bA.2 rfl) rfl h1
 | t::ts,y,h1,c=>
   obtain⟨p,rfl⟩:∃p,W=.xb p:=by grind
   obtain⟨C,rfl,a4⟩:=jZ.1 hc;cases p with
   | nil=>grind
   | cons a p=>
     have⟨u,iH,e,O,X⟩:=bL.1 a4;have ag:iH≠ []:=by
      rintro rfl
      cases p with
      | nil=>simp only at h1;rw[show j6 (t::ts) ([]:List AV)=false from rfl] at h1;grind
      | cons b p=>have⟨_,_,e,_⟩:=bL.1 X;cases e
     refine c a p u iH O X ?_ h1;rw[<-lS (xs:=C),e];cases iH with
     | nil=>simp_all
     | cons _ _=>rfl
def JO{s:pG}{E:kD<|Bool×s.out.ty.T×Ty.Ts s.res}(f:Base P E)(a0:E.fin=Yo af s.out s.opt s.res)(hg:look E.ll g=some F)(A:F.body.isSome=true)(n:Nat)
  (h:∀x,s.pre x=true->Ty.kS s.args x->∃C,jj g F (gL af s.args x)=some C/\∀G,Closed E (λy=>y=s.fn x) G->Tr.Ok (λy=>y=s.fn x) G (run af E n {bI:=[C],mem:=[]})):s.bp P g:=by
 have⟨X,hn⟩:=f.ll g F hg;refine⟨λw I x aa hI p B cs=>?_,F,X,A,hn⟩;have⟨C,c,W⟩:=h x B p.has;have Z:Fits P E (aod w I s.out s.opt s.res) (World.whole w) I:=⟨f.ti,f.ll,f.jK,f.mixed,λS w' m av y v J D hf hc=>P6 J D (by simp_all) hc,f.tO,f.tN,f.tM,f.ops,aQ _,λk=>False.elim k⟩;have u:=pR Z (Q:=λy=>y=s.fn x) (f0:=g) n _<|W _<|pK Z;have J:=Iq hI;have⟨O,_,V⟩:=kE X c<|oo (S:={σ:=λ_=>0,δ:=λ_=>0,vd:=λ_=>false,I:=I}) (m:=[]) (λb A=>A) p;have hB:zT g [C]:=by
  unfold jj at c;cases hbb:F.body with
  | none=>grind
  | some b=>
    rw[hbb] at c;simp only at c;split at c
    .cases c;rfl
    grind
 have⟨y,v,w',iU,hy,K,j,N,i⟩:=u (gS V) _ _ [] cs w J (λb A=>.inl A) ⟨_,_,rfl,O,rfl⟩ hB;have⟨g1,g2,g3,g4,g5,g6⟩:=K;exact⟨.returned v,w',iU,⟨v,rfl,g1,g2,g3,g4,g5,by grind⟩,j,N,i⟩
end
end Go.Ev
namespace Go.Ev
inductive LT (R Y:Type) where|ret(r:R)|ak(y:Y)|br(b:Bool)(t e:LT R Y)|ao(b:Bool)(t:LT R Y)|eqs(p:Prop)(t:LT R Y)|and(a b:LT R Y)|bU(n:Nat)(pos:String)
def LT.tr{R Y:Type}(c:Y->iF):LT R Y->Tr R
 | .ret r=>.ret r
 | .ak y=>.ak<|c y
 | .br b t e=>.br b (t.tr c)<|e.tr c
 | .ao b t=>.ao b<|t.tr c
 | .eqs p t=>.eqs p<|t.tr c
 | .and a b=>.and (a.tr c)<|b.tr c
 | .bU n s=>.bU n s
def Tr.full{R:Type}:Tr R->Tr R
 | .br b t e=>.br b t.full e.full
 | .ao b t=>.ao b t.full
 | .eqs p t=>.eqs p t.full
 | .same l r t=>.eqs (pj l r) t.full
 | .and _ _=>.bU 182 ""
 | t=>t
def AV.alike:AV->AV->Bool
 | .bool c _,.bool d _=>c==d
 | .int _ c _,.int _ d _=>c==d
 | _,_=>true
def Tr.kP{R:Type}(w:Bool):Tr R->Tr R
 | .br b t e=>.br b (t.kP w)<|e.kP w
 | .ao b t=>.ao b<|t.kP w
 | .eqs p t=>.eqs p<|t.kP w
 | .same l r t=>match l.alike r with
   | true=>t.kP w
   | false=>.eqs (pj l r)<|t.kP w
 | .and a b=>match w with
   | true=>.and (a.kP w)<|b.kP w
   | false=>a.kP w
 | t=>t
def Tr.rK{R:Type}(w:Bool):Tr R->Tr R
 | .br b t e=>.br b (t.rK w)<|e.rK w
 | .ao b t=>.ao b<|t.rK w
 | .eqs p t=>.eqs p<|t.rK w
 | .same l r t=>match l.alike r with
   | true=>t.rK w
   | false=>.eqs (pj l r)<|t.rK w
 | .and a b=>match w with
   | true=>.and (a.rK w)<|b.rK w
   | false=>a.rK w
 | t=>t
theorem Tr.qx{R:Type}{w:Bool}:∀{t:Tr R},t.rK w=t.kP w
 | .ret _ | .ak _ | .bU _ _=>rfl
 | .br _ t e=>by rw[Tr.rK,Tr.kP,Tr.qx (t:=t),Tr.qx (t:=e)]
 | .ao _ t=>by rw[Tr.rK,Tr.kP,Tr.qx (t:=t)]
 | .eqs _ t=>by rw[Tr.rK,Tr.kP,Tr.qx (t:=t)]
 | .same l r t=>by rw[Tr.rK,Tr.kP,Tr.qx (t:=t)]
 | .and a b=>by cases w<;>simp[Tr.rK,Tr.kP,Tr.qx (t:=a),Tr.qx (t:=b)]
def Tr.lefts{R:Type}(w:Bool):Tr R->List (Sum AV (Tr R))->List (Sum AV (Tr R))
 | .br _ t e,k=>t.lefts w (e.lefts w k)
 | .ao _ t,k=>t.lefts w k
 | .eqs _ t,k=>t.lefts w k
 | .same l r t,k=>match l.alike r with
   | true=>.inl l::t.lefts w k
   | false=>t.lefts w k
 | .and a b,k=>match w with
   | true=>a.lefts w (b.lefts w k)
   | false=>.inr (a.kP w)::a.lefts w (b.lefts w k)
 | _,k=>k
def Tr.pg{R:Type}(w:Bool):Tr R->List (Sum AV (Tr R))->List (Sum AV (Tr R))
 | .br _ t e,k=>t.pg w (e.pg w k)
 | .ao _ t,k=>t.pg w k
 | .eqs _ t,k=>t.pg w k
 | .same l r t,k=>match l.alike r with
   | true=>.inl r::t.pg w k
   | false=>t.pg w k
 | .and a b,k=>match w with
   | true=>a.pg w (b.pg w k)
   | false=>.inr (b.rK w)::a.pg w (b.pg w k)
 | _,k=>k
theorem Tr.yH{R:Type}{Q:R->Prop}{G:iF->Prop}:∀{t:Tr R},Tr.Ok Q G t.full->Tr.Ok Q G t
 | .ret _,h | .ak _,h | .bU _ _,h=>h
 | .br _ t e,h=>⟨λk=>Tr.yH (t:=t)<|h.1 k,λk=>Tr.yH (t:=e)<|h.2 k⟩
 | .ao _ t,h=>⟨h.1,Tr.yH (t:=t) h.2⟩
 | .eqs _ t,h=>⟨h.1,Tr.yH (t:=t) h.2⟩
 | .same _ _ t,h=>⟨h.1,Tr.yH (t:=t) h.2⟩
 | .and _ _,h=>h.elim
theorem Tr.oP{R:Type}{w:Bool}{Q:R->Prop}{G:iF->Prop}:∀{t:Tr R} {k i:List (Sum AV (Tr R))},t.lefts w k=t.pg w i->k=i/\(Tr.Ok Q G (t.kP w)->Tr.Ok Q G t)
 | .ret _,_,_,h | .ak _,_,_,h | .bU _ _,_,_,h=>⟨h,λx=>x⟩
 | .br _ t e,_,_,h=>by
   obtain⟨d,c⟩:=Tr.oP (t:=t) h;obtain⟨g,f⟩:=Tr.oP (t:=e) d;exact⟨g,λx=>⟨λk=>c (x.1 k),λk=>f (x.2 k)⟩⟩
 | .ao _ t,_,_,h=>by
   obtain⟨d,c⟩:=Tr.oP (t:=t) h;exact⟨d,λx=>⟨x.1,c x.2⟩⟩
 | .eqs _ t,_,_,h=>by
   obtain⟨d,c⟩:=Tr.oP (t:=t) h;exact⟨d,λx=>⟨x.1,c x.2⟩⟩
 | .same l r t,_,_,h=>by
   simp[Tr.lefts,Tr.pg] at h;simp only[Tr.kP];cases j:l.alike r with
   | true=>
     rw[j] at h;simp at h;obtain⟨d,c⟩:=Tr.oP (t:=t) h.2;exact⟨d,λx=>⟨h.1▸D8 l,c x⟩⟩
   | false=>
     rw[j] at h;obtain⟨d,c⟩:=Tr.oP (t:=t) h;exact⟨d,λx=>⟨x.1,c x.2⟩⟩
 | .and a b,_,_,h=>by
   cases w
   .simp[Tr.lefts,Tr.pg,Tr.qx] at h;obtain⟨d,c⟩:=Tr.oP (t:=a) h.2;obtain⟨g,f⟩:=Tr.oP (t:=b) d;exact⟨g,λx=>⟨c x,f (h.1▸x)⟩⟩
   .obtain⟨d,c⟩:=Tr.oP (t:=a) h;obtain⟨g,f⟩:=Tr.oP (t:=b) d;exact⟨g,λx=>⟨c x.1,f x.2⟩⟩
def kn(l:List<|Bool×Bool)(k:Nat):Bool×Bool:=l.getD k (true,true)
def ahl{l:List<|Bool×Bool}(h:∀p∈l,p.1=p.2)(k:Nat):(kn l k).1=(kn l k).2:=by
 unfold kn
 grind
def Tr.cut{R:Type}:List Nat->List (Bool×Bool)->Tr R->(List Nat×Tr R)×List (Bool×Bool)
 | n::c,ks,.ao b t=>match n with
   | 0=>match t.cut c ((b,true)::ks) with|((c,t),l)=>((c,.ao b t),l)
   | k+1=>match t.cut c ks with|(r,l)=>(r,((kn ks k).2,true)::(b,(kn ks k).1)::l)
 | n::c,ks,.br b t e=>match n with
   | 0=>match t.cut c ((b,true)::ks) with|((c,t),l)=>match e.cut c ((b,false)::ks) with|((c,e),f)=>((c,.br b t e),l++f)
   | k+1=>match (kn ks k).2 with
     | true=>match t.cut c ks with|(r,l)=>(r,(b,(kn ks k).1)::l)
     | false=>match e.cut c ks with|(r,l)=>(r,(b,(kn ks k).1)::l)
 | c,ks,.eqs p t=>match t.cut c ks with|((c,t),l)=>((c,.eqs p t),l)
 | c,_,t=>((c,t),[])
theorem Tr.xC{R:Type}{Q:R->Prop}{G:iF->Prop}:∀{t:Tr R} {u:List Nat} {i:List<|Bool×Bool},(∀p∈i,p.1=p.2)->(∀p∈(t.cut u i).2,p.1=p.2)->Tr.Ok Q G (t.cut u i).1.2->Tr.Ok Q G t
 | .ret _,u,i,_,_,h | .ak _,u,i,_,_,h | .bU _ _,u,i,_,_,h | .same _ _ _,u,i,_,_,h | .and _ _,u,i,_,_,h=>by cases u<;>exact h
 | .eqs p t,u,i,a,b,h=>by
   cases u<;>exact⟨h.1,Tr.xC a b h.2⟩
 | .ao b t,[],i,_,_,h=>h
 | .ao b t,n::u,i,a,c,h=>by
   match n with
   | 0=>exact⟨h.1,Tr.xC (λp f=>(aC.1 f).elim (λe=>e▸h.1)<|a p) c h.2⟩
   | k+1=>exact⟨(c _<|aB _<|aM ..).trans<|(ahl a k).trans<|c _<|aM ..,Tr.xC a (λp f=>c p<|aB _<|aB _ f) h⟩
 | .br b t e,[],i,_,_,h=>h
 | .br b t e,n::u,i,a,c,h=>by
   match n with
   | 0=>
     exact⟨λj=>Tr.xC (λp f=>(aC.1 f).elim (λe=>e▸j)<|a p) (λp f=>c p<|List.mem_append_left _ f)<|h.1 j,λj=>Tr.xC (λp f=>(aC.1 f).elim (λe=>e▸j)<|a p) (λp f=>c p<|List.mem_append_right _ f)<|h.2 j⟩
   | k+1=>
     rw[Tr.cut] at c h;have x:=ahl a k;cases e:(kn i k).2<;>rw[e] at c h x
     .have v:b=false:=(c _<|aM ..).trans x;exact⟨λj=>absurd (v.symm.trans j) nofun,λ_=>Tr.xC a (λp f=>c p<|aB _ f) h⟩
     .have v:b=true:=(c _<|aM ..).trans x;exact⟨λ_=>Tr.xC a (λp f=>c p<|aB _ f) h,λj=>absurd (v.symm.trans j) nofun⟩
inductive Md where|full|kP(hs:List Nat)|wide
abbrev sl:Md:=.kP []
def Tr.L{R:Type}(t:Tr R):Md->Tr R×List Bool×List (Sum AV<|Tr R)
 | .full=>(t.full,[],[])
 | .kP hs=>(((t.kP false).cut hs []).1.2,((t.kP false).cut hs []).2.map Prod.fst,t.lefts false [])
 | .wide=>(t.kP true,[],t.lefts true [])
def Tr.M{R:Type}(t u:Tr R):Md->Tr R×List Bool×List (Sum AV<|Tr R)
 | .full=>(u,[],[])
 | .kP hs=>(u,((t.rK false).cut hs []).2.map Prod.snd,t.pg false [])
 | .wide=>(u,[],t.pg true [])
theorem Ow:∀{l:List<|Bool×Bool},l.map Prod.fst=l.map Prod.snd->∀p∈l,p.1=p.2
 | _::l,h,p,hp=>by
   cases hp with
   | head=>simp_all
   | tail _ hp=>exact Ow (List.cons.inj h).2 p hp
variable{G:iF->Prop}
def Tr.ahj{R:Type}{q:Md}{Q:R->Prop}{t u:Tr R}(h:t.L q=t.M u q)(a:Tr.Ok Q G u):Tr.Ok Q G t:=by
 cases q with
 | full=>rw[<-(Prod.mk.inj h).1] at a;exact Tr.yH a
 | kP hs=>
   have c:=(Prod.mk.inj h).2;rw[<-(Prod.mk.inj h).1] at a;have f:=(Prod.mk.inj c).1;rw[Tr.qx] at f;exact(Tr.oP (Prod.mk.inj c).2).2 (Tr.xC (λ_ k=>absurd k aF) (Ow f) a)
 | wide=>
   rw[<-(Prod.mk.inj h).1] at a;exact(Tr.oP (Prod.mk.inj (Prod.mk.inj h).2).2).2 a
inductive bi {R Y:Type} (step:Y->LT R Y):LT R Y->R->Prop where
 | ret (r:R):bi step (.ret r) r
 | ak {y:Y} {r:R} (h:bi step (step y) r):bi step (.ak y) r
 | br {b:Bool} {t e:LT R Y} {r:R} (h:bi step (bif b then t else e) r):bi step (.br b t e) r
 | ao {b:Bool} {t:LT R Y} {r:R} (hb:b=true) (h:bi step t r):bi step (.ao b t) r
 | eqs {p:Prop} {t:LT R Y} {r:R} (hp:p) (h:bi step t r):bi step (.eqs p t) r
 | and {a b:LT R Y} {r:R} (h1:bi step a r) (h2:bi step b r):bi step (.and a b) r
section
variable {R Y:Type} {step:Y->LT R Y} {r:R}
def BS{a:R}:bi step (.ret a) r↔a=r:=⟨λh=>by cases h;rfl,λh=>by rw[h];exact .ret r⟩
def aI{y:Y}:bi step (.ak y) r↔bi step (step y) r:=⟨λh=>by cases h;omega,.ak⟩
theorem yZ{b:Bool}{t e:LT R Y}:bi step (.br b t e) r↔bi step (bif b then t else e) r:=⟨λh=>by cases h;omega,.br⟩
def aA{b:Bool}{t:LT R Y}:bi step (.ao b t) r↔b=true/\bi step t r:=⟨λh=>by cases h;grind,λh=>.ao h.1 h.2⟩
def aaH{p:Prop}{t:LT R Y}:bi step (.eqs p t) r↔p/\bi step t r:=⟨λh=>by cases h;grind,λh=>.eqs h.1 h.2⟩
def ap{b:Bool}{t e:LT R Y}(a:b=true):bi step (.br b t e) r↔bi step t r:=by grind [yZ]
def al{b:Bool}{t e:LT R Y}(a:b=false):bi step (.br b t e) r↔bi step e r:=by grind [yZ]
end
def afA{R Y:Type}{E:kD R}{Q:R->Prop}{f:Y->iF}{step:Y->LT R Y}(d:∀y,∃n q,(run af E n (advance E.jK (f y))).L q=(run af E n (advance E.jK (f y))).M ((step y).tr f) q)(l:Closed E Q G){t:LT R Y}{r:R}(h:bi step t r)(a:Q r):Tr.Ok Q G (t.tr f):=by
 induction h with
 | ret r=>exact a
 | ak h c=>
   rename_i y _;obtain⟨n,q,m⟩:=d y;exact l.go n _ (Tr.ahj m (c a))
 | br h c=>
   rename_i b t e _;cases b with
   | true=>exact⟨λ_=>c a,λh=>(by cases h)⟩
   | false=>exact⟨λh=>(by cases h),λ_=>c a⟩
 | ao k h c=>exact⟨k,c a⟩
 | eqs j h c=>exact⟨j,c a⟩
 | and p o g i=>exact⟨g a,i a⟩
variable{F:Func}{g:FuncId}
def NK{aa:List AV}(f:F.body.isSome=true)(d:aa.length<=F.ntmps)(a:F.ntmps<=65535):∃c,jj g F aa=some c:=by
 unfold jj;cases e:F.body with
 | none=>simp_all
 | some b=>
   simp_all [Nat.ble_eq_true_of_le]
theorem l_:∀{c:List Ty} {x:Ty.Ts c},(gL af c x).length=c.length
 | [],_=>rfl
 | [_],_=>rfl
 | t::t2::c,x=>by
   rw[gL,bd,l_];rfl
abbrev r9{R Y:Type}(E:aS->kD R)(step:aS->Y->LT R Y)(c:Y->iF):Prop:=∀A y,∃n q,(run A (E A) n<|advance (E A).jK<|c y).L q=(run A (E A) n<|advance (E A).jK<|c y).M ((step A y).tr c) q
abbrev sP{R Y X:Type}(q:Md)(n:Nat)(E:aS->kD R)(h:aS->X->iF)(f:aS->X->LT R Y)(c:Y->iF):Prop:=∀A x,(run A (E A) n<|h A x).L q=(run A (E A) n<|h A x).M ((f A x).tr c) q
def fits(F:Func)(k:Nat):Bool:=F.body.isSome&&(Nat.ble k F.ntmps&&Nat.ble F.ntmps 65535)
def fits.body{k:Nat}(h:fits F k=true):F.body.isSome=true:=((eH _ _).mp h).1
def go_ok{R Y X:Type}{E:aS->kD R}{i:List AV}{m:Mem}{q:Md}{n k:Nat}{f:aS->X->LT R Y}{step:aS->Y->LT R Y}{h:aS->X->iF}{c:Y->iF}{r:R}{x:X}(u:fits F k=true)(v:i.length=k)
  (B:r9 E step c) (j:sP q n E h f c) (e:h af x=rT g F i m) (A:bi (step af) (f af x) r) :
  ∃h,jj g F i=some h/\∀G,Closed (E af) (λy=>y=r) G->Tr.Ok (λy=>y=r) G (run af (E af) n {bI:=[h],mem:=m}):=by
 have p:=((eH _ _).mp u).2;rw[eH] at p;have⟨h,d⟩:=NK (g:=g) (aa:=i) (fits.body u) (v▸KE p.1)<|KE p.2;refine⟨h,d,λG l=>?_⟩;have j:=j af x;rw[e,rT,d] at j;exact Tr.ahj j<|afA (B af) l A rfl
def tt{α:Type}:α->Bool:=λ_=>true
abbrev aL.all(args res:List Ty)(fn:Ty.Ts args->Ty.Ts res):aL:=⟨args,res,tt,fn,true⟩
abbrev cn.all(c:List VF)(args res:List Ty)(fn:Ty.Ts (VF.iA c)×Ty.Ts args->Ty.Ts (VF.iA c)×Ty.Ts res)(f:Bool):cn:=⟨c,args,res,tt,fn,f,true⟩
variable{P:Program}{args res:List Ty}
def fa{fn:Ty.Ts args->Ty.Ts res}(h:aL.bp P g ⟨args,res,tt,fn,false⟩):aL.bp P g<|.all args res fn:=⟨h.calls,λ_ _=>rfl,h.body⟩
def fd{fn:Ty.Ts args->Ty.Ts res}(h:aL.oT P g ⟨args,res,tt,fn,false⟩/\aL.bp P g ⟨args,res,tt,fn,false⟩):aL.oT P g (.all args res fn)/\aL.bp P g (.all args res fn):=⟨h.1,fa h.2⟩
def ma{c:List VF}{fn:Ty.Ts (VF.iA c)×Ty.Ts args->Ty.Ts (VF.iA c)×Ty.Ts res}{f:Bool}(h:cn.bp P g ⟨c,args,res,tt,fn,f,false⟩):cn.bp P g<|.all c args res fn f:=⟨h.calls,h.keep,λ_ _=>rfl,h.body⟩
def aL.bp.congr{pre b:Ty.Ts args->Bool}{fn c:Ty.Ts args->Ty.Ts res}(h:aL.bp P g ⟨args,res,pre,fn,false⟩)
  (e:∀x,b x=true->Ty.kS args x->pre x=true/\fn x=c x):aL.bp P g ⟨args,res,b,c,false⟩:=by
 refine⟨λw I x p f a d=>?_,nofun,h.body⟩;have⟨i,j⟩:=e x d a.has;have:=h.calls w I x p f a i
 grind
def LU{R:Type}(f:AV->Mem->Option R)(c:Nat)(ops:List<|FuncId×pG)(tM:List<|FuncId×fH)(tN:List<|FuncId×cn)(tO:List<|FuncId×lG)(ti:PT TI)(ll:List<|FuncId×Func)(jK:List<|FuncId×aL)(stops oW:List Stop):kD R:=⟨ti,ll,jK,stops,oW,f,tO,tN,c,tM,ops⟩
def zq{S:Type}(ok:FuncId->S->Prop)(l:List<|FuncId×S):Prop:=∀g s,look l g=some s->ok g s
variable{S:Type}
def all_nil{ok:FuncId->S->Prop}:zq ok []:=λ_ _ h=>by cases h
variable{f:FuncId}
def all_cons{ok:FuncId->S->Prop}{s:S}{l:List<|FuncId×S}(c:ok f s)(h:zq ok l):zq ok<|(f,s)::l:=λg b a=>by
 rw[look] at a;by_cases e:f=g
 .simp_all
 .rw[gI.2 e] at a;exact h g b a
variable{h:List VF}{l:List (FuncId×aL)}{p:Bool}
section
variable {P:Program}
abbrev JX(P:Program)(l:List<|FuncId×Func):Prop:=zq (λg F=>P.funcs[g]? = some F/\(F.name == "runtime.NumGoroutine")=false) l
abbrev NG(P:Program)(l:List<|FuncId×aL):Prop:=zq (λg s=>aL.bp P g s) l
abbrev R7(P:Program)(l:List<|FuncId×lG):Prop:=zq (λg s=>lG.bp P g s) l
abbrev R2(P:Program)(l:List<|FuncId×cn):Prop:=zq (λg s=>cn.bp P g s) l
abbrev R1(P:Program)(l:List<|FuncId×fH):Prop:=zq (λg s=>fH.bp P g s) l
abbrev R3(P:Program)(l:List<|FuncId×pG):Prop:=zq (λg s=>pG.bp P g s) l
abbrev K9(P:Program)(l:List<|FuncId×aL):Prop:=zq (λg s=>aL.oT P g s/\aL.bp P g s) l
def oz:R3 P []:=all_nil
def oc{s:pG}{l:List<|FuncId×pG}:s.bp P f->R3 P l->R3 P ((f,s)::l):=all_cons
def szD:K9 P []:=all_nil
def scD{s:aL}:s.oT P f/\s.bp P f->K9 P l->K9 P ((f,s)::l):=λa h=>all_cons a h
def iz:R1 P []:=all_nil
def ic{s:fH}{l:List<|FuncId×fH}:s.bp P f->R1 P l->R1 P ((f,s)::l):=all_cons
def mz:R2 P []:=all_nil
def mc{s:cn}{l:List<|FuncId×cn}:s.bp P f->R2 P l->R2 P ((f,s)::l):=all_cons
def pz:R7 P []:=all_nil
def pc{s:lG}{l:List<|FuncId×lG}:s.bp P f->R7 P l->R7 P ((f,s)::l):=all_cons
def fz:JX P []:=all_nil
def fc{l:List<|FuncId×Func}(b:P.funcs[f]? = some F)(h:JX P l)(a:(F.name == "runtime.NumGoroutine")=false:=by kernel_rfl):JX P<|(f,F)::l:=all_cons ⟨b,a⟩ h
def sz:NG P []:=all_nil
def sc{s:aL}:s.bp P f->NG P l->NG P ((f,s)::l):=all_cons
structure Kit(P:Program)(ll:List (FuncId×Func))(jK:List (FuncId×aL))(ops:List (FuncId×pG))(tM:List (FuncId×fH))(tN:List (FuncId×cn))(tO:List (FuncId×lG)):Prop where
 f:JX P ll
 s:NG P jK
 o:R3 P ops
 i:R1 P tM
 m:R2 P tN
 p:R7 P tO
def kz{ll:List<|FuncId×Func}{jK:List<|FuncId×aL}(f:JX P ll)(s:NG P jK):Kit P ll jK [] [] [] []:=⟨f,s,oz,iz,mz,pz⟩
variable {ti:PT TI} (ht:og P ti) (hm:P.follows .mixedOrders=true) {ll:List (FuncId×Func)} {jK:List (FuncId×aL)} {ops:List (FuncId×pG)} {tM:List (FuncId×fH)} {tN:List (FuncId×cn)} {tO:List (FuncId×lG)}
include ht hm
def Kit.base{R:Type}{f:AV->Mem->Option R}{c:Nat}{stops oW:List Stop}(h:Kit P ll jK ops tM tN tO):Base P<|LU f c ops tM tN tO ti ll jK stops oW:=⟨ht,h.f,h.s,hm,h.p,h.m,h.i,h.o⟩
variable {g:FuncId} {F:Func} {args res:List Ty} {pre:Ty.Ts args->Bool} {fn:Ty.Ts args->Ty.Ts res} (q:Md) {Y:Type} (n:Nat) (stops oW:List Stop)
omit ht hm in
def rG:look ((g,F)::ll) g=some F:=by rw[look,tA.2 rfl]
def bE(h:aS->Ty.Ts args->LT (Ty.Ts res) Y)(step:aS->Y->LT (Ty.Ts res) Y)(c:Y->iF)(k:Kit P ((g,F)::ll) jK ops tM tN tO)
  (b:r9 (λA=>LU (Aa A res) 0 ops tM tN tO ti ((g,F)::ll) jK stops oW) step c)
  (i:∀x,pre x=true->Ty.kS args x->bi (step af) (h af x) (fn x))
  (d:fits F args.length=true:=by kernel_rfl)
  (f:sP q n (λA=>LU (Aa A res) 0 ops tM tN tO ti ((g,F)::ll) jK stops oW) (λA x=>rT g F<|gL A args x) h c:=by intro A x;kernel_rfl):aL.bp P g ⟨args,res,pre,fn,false⟩:=
 MR (s:=⟨args,res,pre,fn,false⟩) (k.base ht hm) rfl rG (fits.body d) nofun n λx j p=>go_ok d l_ b f rfl<|i x j p
def r_(u:aS->Ty.Ts args->LT (Ty.Ts res) Y)(step:aS->Y->LT (Ty.Ts res) Y)(c:Y->iF)(j:JX P<|(g,F)::ll)(k:K9 P jK)
  (b:r9 (λA=>LU (Aa A res) 0 [] [] [] [] ti ((g,F)::ll) jK stops oW) step c)
  (i:∀x,pre x=true->Ty.kS args x->bi (step af) (u af x) (fn x))
  (d:fits F args.length=true:=by kernel_rfl)
  (f:sP q n (λA=>LU (Aa A res) 0 [] [] [] [] ti ((g,F)::ll) jK stops oW) (λA x=>rT g F<|gL A args x) u c:=by intro A x;kernel_rfl):aL.oT P g ⟨args,res,pre,fn,false⟩/\aL.bp P g ⟨args,res,pre,fn,false⟩:=by
 have h:aL.oT P g ⟨args,res,pre,fn,false⟩:=JL (s:=⟨args,res,pre,fn,false⟩) ((kz j λg s h=>(k g s h).2).base ht hm) rfl rG ⟨λg s h=>(k g s h).1,rfl,rfl,rfl,rfl⟩ n λx y B=>go_ok d l_ b f rfl<|i x y B;exact⟨h,λw I x v t p i=>(h w I x v t p i).mono λ_ _ k=>k.2,nofun,F,(j g F rG).1,fits.body d,(j g F rG).2⟩
def wI{h:VF}{fn:Ty.Ts args->Bool×h.ty.T×Ty.Ts res}(j:aS->Ty.Ts args->LT (Bool×h.ty.T×Ty.Ts res) Y)(step:aS->Y->LT (Bool×h.ty.T×Ty.Ts res) Y)(c:Y->iF)(k:Kit P ((g,F)::ll) jK ops tM tN tO)
  (b:r9 (λA=>LU (Yo A h p res) 0 ops tM tN tO ti ((g,F)::ll) jK stops oW) step c)
  (i:∀x,pre x=true->Ty.kS args x->bi (step af) (j af x) (fn x))
  (d:fits F args.length=true:=by kernel_rfl)
  (f:sP q n (λA=>LU (Yo A h p res) 0 ops tM tN tO ti ((g,F)::ll) jK stops oW) (λA x=>rT g F<|gL A args x) j c:=by intro A x;kernel_rfl):pG.bp P g ⟨args,h,p,res,pre,fn⟩:=
 JO (s:=⟨args,h,p,res,pre,fn⟩) (k.base ht hm) rfl rG (fits.body d) n λx u v=>go_ok d l_ b f rfl<|i x u v
def jF(u:List<|Option Int){pre:Ty.Ts (VF.iA h)×Ty.Ts args->Bool}{fn:Ty.Ts (VF.iA h)×Ty.Ts args->Ty.Ts (VF.iA h)×Ty.Ts res}(j:aS->Ty.Ts (VF.iA h)×Ty.Ts args->LT (Ty.Ts (VF.iA h)×Ty.Ts res) Y)(step:aS->Y->LT (Ty.Ts (VF.iA h)×Ty.Ts res) Y)(c:Y->iF)(k:Kit P ((g,F)::ll) jK ops tM tN tO)
  (b:r9 (λA=>LU (P4 A p h res) (h.length+(VF.i7 h).length) ops tM tN tO ti ((g,F)::ll) jK stops oW) step c)
  (i:∀x,pre x=true->Ty.kS (VF.iA h) x.1->Ty.kS args x.2->bi (step af) (j af x) (fn x))
  (d:fits F (h.length+args.length)=true:=by kernel_rfl) (v:∀x y,pre (x,y)=true->Fu u (gL af args y)) (e:iG h=true:=by kernel_rfl)
  (o:VF.i7 h=List.range' h.length (VF.i7 h).length:=by kernel_rfl) (z:∀x y,pre (x,y)=true->VF.lens h (fn (x,y)).1=VF.lens h x:=by intros;rfl)
  (f:sP q n (λA=>LU (P4 A p h res) (h.length+(VF.i7 h).length) ops tM tN tO ti ((g,F)::ll) jK stops oW) (λA x=>rT g F (jl h.length++know u (gL A args x.2))<|Ip A h x.1) j c:=by intro A x;kernel_rfl):cn.bp P g ⟨h,args,res,pre,fn,p,false⟩:=
 JN (s:=⟨h,args,res,pre,fn,p,false⟩) (k.base ht hm) rfl (ah _) e o v z rG (fits.body d) nofun n λx y B C D=>go_ok (x:=(x,y)) d (by rw[uy,uw,l_,jl,cy,List.length_range]) b f rfl<|i (x,y) B C D
def bV{pre:Ty.Ts (VF.iA h)×Ty.Ts args->Bool}{fn:Ty.Ts (VF.iA h)×Ty.Ts args->Ty.Ts (VF.iA h)×Ty.Ts res}(j:aS->Ty.Ts (VF.iA h)×Ty.Ts args->LT (Ty.Ts (VF.iA h)×Ty.Ts res) Y)(step:aS->Y->LT (Ty.Ts (VF.iA h)×Ty.Ts res) Y)(c:Y->iF)(k:Kit P ((g,F)::ll) jK ops tM tN tO)
  (b:r9 (λA=>LU (P4 A p h res) (h.length+(VF.i7 h).length) ops tM tN tO ti ((g,F)::ll) jK stops oW) step c)
  (i:∀x,pre x=true->Ty.kS (VF.iA h) x.1->Ty.kS args x.2->bi (step af) (j af x) (fn x))
  (d:fits F (h.length+args.length)=true:=by kernel_rfl) (e:iG h=true:=by kernel_rfl)
  (o:VF.i7 h=List.range' h.length (VF.i7 h).length:=by kernel_rfl) (z:∀x y,pre (x,y)=true->VF.lens h (fn (x,y)).1=VF.lens h x:=by intros;rfl)
  (f:sP q n (λA=>LU (P4 A p h res) (h.length+(VF.i7 h).length) ops tM tN tO ti ((g,F)::ll) jK stops oW) (λA x=>rT g F (jl h.length++gL A args x.2)<|Ip A h x.1) j c:=by intro A x;kernel_rfl):cn.bp P g ⟨h,args,res,pre,fn,p,false⟩:=
 jF ht hm q n stops oW [] j step c k b i d (λ_ _ _=>by cases gL af args _<;>trivial) e o z λA x=>by simp only[Oq];grind
def fA{xk:Bool}{t:Ty}{l:List FuncId}{pre:List t.T×Ty.Ts args->Bool}{fn:List t.T×Ty.Ts args->List t.T×Ty.Ts res}(h:aS->List t.T×Ty.Ts args->LT (List t.T×Ty.Ts res) Y)(step:aS->Y->LT (List t.T×Ty.Ts res) Y)(c:Y->iF)(k:Kit P ((g,F)::ll) jK ops tM tN tO)
  (b:r9 (λA=>LU (Yn A t res) 1 ops tM tN tO ti ((g,F)::ll) jK stops oW) step c)
  (i:∀x,pre x=true->Ty.has (.slice t) x.1->Ty.kS args x.2->(fn x).1.length=x.1.length/\bi (step af) (h af x) (fn x))
  (d:fits F (1+(args.length+l.length))=true:=by kernel_rfl)
  (f:sP q n (λA=>LU (Yn A t res) 1 ops tM tN tO ti ((g,F)::ll) jK stops oW) (λA x=>rT g F (zu xk (.own 0)<|gL A args x.2++l.map λf=>.fn f [] []) [.arr false t x.1]) h c:=by intro A x;kernel_rfl):fH.bp P g ⟨t,args,l,res,pre,fn,xk⟩:=
 JM (s:=⟨t,args,l,res,pre,fn,xk⟩) (k.base ht hm) rfl (ah _) rG (fits.body d) n (λx y j p u=>(i (x,y) j p u).1) λx y j p u=>go_ok (x:=(x,y)) d (by rw[Uv,uy,l_,cy,ko]) b f rfl (i (x,y) j p u).2
def wJ(p:List (Option Int)){h:Ty}{pre:h.T×Ty.Ts args->Bool}{fn:h.T×Ty.Ts args->Ty.Ts res}(j:aS->h.T×Ty.Ts args->LT (Ty.Ts res) Y)(step:aS->Y->LT (Ty.Ts res) Y)(c:Y->iF)(k:Kit P ((g,F)::ll) jK ops tM tN tO)
  (b:r9 (λA=>LU (Aa A res) 0 ops tM tN tO ti ((g,F)::ll) jK stops oW) step c)
  (i:∀x,pre x=true->h.has x.1->Ty.kS args x.2->bi (step af) (j af x) (fn x))
  (d:fits F (args.length+1)=true:=by kernel_rfl) (v:∀x y,pre (x,y)=true->Fu p (gL af args y)) (e:Ty.mo res=true:=by kernel_rfl)
  (f:sP q n (λA=>LU (Aa A res) 0 ops tM tN tO ti ((g,F)::ll) jK stops oW) (λA x=>rT g F (.nI h x.1 0::know p (gL A args x.2))) j c:=by intro A x;kernel_rfl):lG.bp P g ⟨h,args,res,pre,fn⟩:=
 JP (s:=⟨h,args,res,pre,fn⟩) (k.base ht hm) rfl rG (fits.body d) n e v λx y u B C=>go_ok (x:=(x,y)) d (by rw[bd,uw,l_]) b f rfl (i (x,y) u B C)
def BX{h:Ty}{pre:h.T×Ty.Ts args->Bool}{fn:h.T×Ty.Ts args->Ty.Ts res}(j:aS->h.T×Ty.Ts args->LT (Ty.Ts res) Y)(step:aS->Y->LT (Ty.Ts res) Y)(c:Y->iF)(k:Kit P ((g,F)::ll) jK ops tM tN tO)
  (b:r9 (λA=>LU (Aa A res) 0 ops tM tN tO ti ((g,F)::ll) jK stops oW) step c)
  (i:∀x,pre x=true->h.has x.1->Ty.kS args x.2->bi (step af) (j af x) (fn x))
  (d:fits F (args.length+1)=true:=by kernel_rfl) (e:Ty.mo res=true:=by kernel_rfl)
  (f:sP q n (λA=>LU (Aa A res) 0 ops tM tN tO ti ((g,F)::ll) jK stops oW) (λA x=>rT g F<|.nI h x.1 0::gL A args x.2) j c:=by intro A x;kernel_rfl):lG.bp P g ⟨h,args,res,pre,fn⟩:=
 wJ ht hm q n stops oW [] j step c k b i d (λ_ _ _=>by cases gL af args _<;>trivial) e λA x=>by simp only[Oq];exact f A x
def cK(c:aS->Ty.Ts args->LT (Ty.Ts res) Empty)(k:Kit P ((g,F)::ll) jK ops tM tN tO)
  (i:∀x,pre x=true->Ty.kS args x->bi Empty.elim (c af x) (fn x))
  (d:fits F args.length=true:=by kernel_rfl)
  (f:sP q n (λA=>LU (Aa A res) 0 ops tM tN tO ti ((g,F)::ll) jK [] oW) (λA x=>rT g F<|gL A args x) c Empty.elim:=by intro A x;kernel_rfl):aL.bp P g ⟨args,res,pre,fn,false⟩:=
 bE ht hm q n [] oW c (λ_=>Empty.elim) Empty.elim k (λ_ y=>y.elim) i d f
end
end Go.Ev
namespace Go.Ev
def RX:AV->Value->Bool
 | .undef,_=>true
 | .int k _ n,.int k' n'=>qT k k'&&(decide (n=0)&&decide (n'=0))
 | .bool _ b,.bool b'=>b==b'
 | .str _ s,.string s'=>s.isEmpty&&s'.data.toList.isEmpty
 | .eT _,.slice none 0 0=>true
 | .sl _ [],.slice none 0 0=>true
 | .gN,.pointer none=>true
 | .tC,.nilFunc=>true
 | _,_=>false
def Cg:List AV->List Value->Bool
 | [],[]=>true
 | a::r,v::vs=>RX a v&&Cg r vs
 | _,_=>false
def Om(k:IntKind):k.has 0:=by cases k<;>exact⟨by decide,by decide⟩
variable{t:TypeId}
section
variable {w:World} {S:St} {m:Mem} {P:Program}
theorem B4{s:ByteArray}(h:s.data.toList.isEmpty=true):s=⟨#[]⟩:=by
 have⟨⟨l⟩⟩:=s
 grind
def VX{a:AV}{v:Value}(h:RX a v=true):CR w S m a v:=by
 unfold RX at h;split at h
 .exact gT
 .simp at h;obtain⟨c,rfl,rfl⟩:=h;rw[lQ c];exact fu.2 ⟨rfl,Om _⟩
 .rw[beq_iff_eq] at h;exact iE.2 (by rw[h])
 .rw[eH] at h;rename_i s f;cases s with
  | cons _ _=>grind
  | nil=>exact vO.2 ⟨by rw[B4 h.2],aQ _⟩
 .exact m_.2 ⟨none,rfl,λ_=>rfl⟩
 .exact sO.2<|eP.2 ⟨none,0,rfl,ah _,aQ _,λ_=>rfl,λi y h=>by cases h⟩
 .rfl
 .rfl
 grind
theorem Ch:∀{f:List AV} {c:List Value},Cg f c=true->eD w S m f c
 | [],[],_=>bA.2 rfl
 | a::r,v::c,h=>by
   rw[Cg,eH] at h;exact bL.2 ⟨v,c,rfl,VX h.1,Ch h.2⟩
 | [],_::_,h=>by cases h
 | _::_,[],h=>by cases h
mutual
def Ty.zeros:Ty->List Value
 | .int k=>[.int k 0]
 | .bool=>[.bool false]
 | .str=>[.string ⟨#[]⟩]
 | .slice _=>[.slice none 0 0]
 | .arr n t=>(List.replicate n t.zeros).flatten
 | .struct ts=>Ty.Dt ts
 | .any n=>List.replicate n<|.int .i64 0
def Ty.Dt:List Ty->List Value
 | []=>[]
 | t::ts=>t.zeros++Ty.Dt ts
end
mutual
theorem Ty.y_{I:Nat->Prop}:∀(t:Ty),bW w I t t.zeros t.gH
 | .int k=>vm.2 ⟨rfl,Om k⟩
 | .bool=>Ck.2 rfl
 | .str=>AZ.2 ⟨rfl,aQ _⟩
 | .slice t=>eP.2 ⟨none,0,rfl,ah _,aQ _,λ_=>rfl,λi y h=>by cases h⟩
 | .arr n t=>by
   have c:=Ty.y_ (I:=I) t;refine AY.2 ⟨GU,?_,λi y h=>?_⟩
   .show((List.replicate n t.zeros).flatten).length=_;rw[mm,mT,kj,c.length]
   .have h:(List.replicate n t.gH)[i]? = some y:=h;have⟨f,j⟩:=aR.1 h;have:=oI (l:=t.zeros) c.length f;show bW w I t ((((List.replicate n t.zeros).flatten).drop<|i*t.size).take t.size) _
    grind
 | .struct ts=>xr.2<|Ty.I6 ts
 | .any n=>by rw[bW];exact GU
theorem Ty.I6{I:Nat->Prop}:∀(c:List Ty),gk w I c (Ty.Dt c)<|Ty.aO c
 | []=>yD.2 rfl
 | [t]=>Cm.2 (by
   have:Ty.Dt [t]=t.zeros:=by simp[Ty.Dt,aJ]
   rw[this];exact Ty.y_ t)
 | t::f::c=>zW.2 ⟨t.zeros,Ty.Dt<|f::c,rfl,Ty.y_ t,Ty.I6<|f::c⟩
end
def aaV:Value->Value->Bool
 | .int k n,.int k' n'=>qT k k'&&decide (n=n')
 | .bool b,.bool b'=>b==b'
 | .string s,.string s'=>s.data.toList.isEmpty&&s'.data.toList.isEmpty
 | .slice none 0 0,.slice none 0 0=>true
 | _,_=>false
def MK:List Value->List Value->Bool
 | [],[]=>true
 | a::r,v::vs=>aaV a v&&MK r vs
 | _,_=>false
def aaW{a b:Value}(h:aaV a b=true):a=b:=by
 unfold aaV at h
 grind [lQ,B4]
theorem KR:∀{a b:List Value},MK a b=true->a=b
 | [],[],_=>rfl
 | a::r,v::vs,h=>by
   rw[MK,eH] at h;rw[aaW h.1,KR h.2]
 | [],_::_,h=>by cases h
 | _::_,[],h=>by cases h
def xd(P:Program)(t:TypeId):Option Bool:=
 match P.underlying t with
 | some (.struct _)=>some true
 | some (.array _ _)=>some true
 | some _=>some false
 | none=>none
theorem A9{b:Bool}(h:xd P t=some b)(w:World):(isAgg t).run P w=.ok b w:=by
 unfold xd at h;cases hu:P.underlying t with
 | none=>grind
 | some d=>
   rw[hu] at h;unfold isAgg;rw[dN,run_underlying hu];cases d<;>cases h<;>rfl
def FK(a:Option Bool)(b:Bool):Bool:=match a with|some c=>c==b|none=>false
theorem Cp{a:Option Bool}{b:Bool}(h:FK a b=true):a=some b:=by
 cases a with
 | none=>cases h
 | some c=>simp_all [FK]
def fieldsB(P:Program):List Field->List (Nat×Nat×Bool)->Bool
 | [],[]=>true
 | f::F,(off,sz,ag)::fs=>Nat.beq f.offset off&&(FK (xd P f.type) ag&&((match P.info? f.type with|some j=>Nat.beq j.size sz|none=>false)&&fieldsB P F fs))
 | _,_=>false
theorem F7:∀{F:List Field} {fs:List<|Nat×Nat×Bool},fieldsB P F fs=true->F.length=fs.length/\∀(i off sz:Nat) (c:Bool),fs[i]? = some (off,sz,c)->
   ∃f j,F[i]? = some f/\f.offset=off/\P.info? f.type=some j/\j.size=sz/\∀w,(isAgg f.type).run P w=.ok c w
 | [],[],_=>⟨rfl,λi off sz c h=>by cases h⟩
 | [],_::_,h=>by cases h
 | _::_,[],h=>by cases h
 | f::F,(off,sz,c)::fs,h=>by
   simp only[fieldsB,eH] at h;have⟨x,y,A,p⟩:=h;have⟨u,v⟩:=F7 p
   grind [vL,A9,Cp]
def ZA(P:Program)(T:TypeId):TK->Bool
 | .bool=>match P.underlying T with|some .bool=>true|_=>false
 | .int k=>match P.underlying T with|some (.int f)=>qT f k|_=>false
 | .str=>match P.underlying T with|some .string=>true|_=>false
 | .slice e=>match P.underlying T with|some (.slice c)=>Nat.beq c e|_=>false
 | .arr n e=>match P.underlying T with|some (.array h c)=>Nat.beq h n&&Nat.beq c e|_=>false
 | .ptr e=>match P.underlying T with|some (.pointer c)=>Nat.beq c e|_=>false
 | .func=>match P.underlying T with|some (.func _ _ _)=>true|_=>false
 | .struct fs=>match P.underlying T with|some (.struct F)=>fieldsB P F.toList fs|_=>false
 | .other=>true
def ZB{T:TypeId}{k:TK}(h:ZA P T k=true):kindOk P T k:=by
 cases k<;>simp only[ZA] at h<;>simp only[kindOk]
 case bool=>grind
 case int k=>
  grind [lQ]
 case str=>grind
 case slice e=>
  split at h
  all_goals simp_all
 case arr n e=>
  split at h
  all_goals simp_all
 case struct fs=>
  split at h
  .rename_i F i;have⟨c,f⟩:=F7 h
   simp_all
  simp_all
 case ptr e=>
  split at h
  all_goals simp_all
 grind
def UG(P:Program)(c:TypeId->List AV->Bool)(z:List AV):Nat->List Field->Option Nat
 | off,[]=>some off
 | off,f::fs=>match decide (f.name≠ "_")&&(Nat.beq f.offset off&&c f.type ((z.drop off).take (P.cellsOf f.type))) with
   | true=>UG P c z (off+P.cellsOf f.type) fs
   | false=>none
def ahv(a:Option Nat)(b:Nat):Bool:=match a with|some c=>Nat.beq c b|none=>false
def ZY{a:Option Nat}{b:Nat}(h:ahv a b=true):a=some b:=by
 cases a with
 | none=>cases h
 | some c=>rw[vL h]
def eqB(P:Program):Nat->TypeId->List AV->Bool
 | 0,_,_=>false
 | d+1,t,z=>match P.underlying t with
   | some .bool=>Nat.beq (P.cellsOf t) 1&&(match z with | [.bool _ _]=>true|_=>false)
   | some (.int _)=>Nat.beq (P.cellsOf t) 1&&(match z with | [.int _ _ _]=>true|_=>false)
   | some .string=>Nat.beq (P.cellsOf t) 1&&(match z with | [.str _ _]=>true|_=>false)
   | some (.struct fs)=>!P.stoodInHeld t&&(ahv (UG P (eqB P d) z 0 fs.toList) (P.cellsOf t)&&Nat.beq z.length (P.cellsOf t))
   | _=>false
theorem zK:∀{a b:List AV},nA a b=true->a.length=b.length
 | [],[],_=>rfl
 | a::as,b::bs,h=>by
   rw[nA,eH] at h;rw[bd,bd,zK h.2]
 | [],_::_,h=>by cases h
 | _::_,[],h=>by cases h
theorem D9:∀{a b:List AV} (n:Nat),nA a b=true->nA (a.drop n) (b.drop n)=true
 | _,_,0,h=>h
 | [],[],n+1,_=>rfl
 | a::as,b::bs,n+1,h=>by
   rw[nA,eH] at h;exact D9 n h.2
 | [],_::_,_+1,h=>by cases h
 | _::_,[],_+1,h=>by cases h
theorem D_:∀{a b:List AV} (n:Nat),nA a b=true->nA (a.take n) (b.take n)=true
 | _,_,0,_=>rfl
 | [],[],n+1,_=>rfl
 | a::as,b::bs,n+1,h=>by
   rw[nA,eH] at h;rw[im,im,nA,eH];exact⟨h.1,D_ n h.2⟩
 | [],_::_,_+1,h=>by cases h
 | _::_,[],_+1,h=>by cases h
theorem zx:∀{a b x y:List AV} {c:Bool} {g:aS->Bool},a.length=b.length->gl (a++x) (b++y)=some (c,g)->
  ∃c1 f c2 i,gl a b=some (c1,f)/\gl x y=some (c2,i)/\g af=(f af&&i af)
 | [],[],x,y,c,g,_,h=>⟨true,λ_=>true,c,g,by rfl,h,rfl⟩
 | [],_::_,_,_,_,_,h,_=>by cases h
 | _::_,[],_,_,_,_,h,_=>by cases h
 | a::as,b::bs,x,y,c,g,B,h=>by
   have B:as.length=bs.length:=by simp_all
   have split:∀(u:Bool) (e:aS->Bool),(match gl (as++x) (bs++y) with|none=>none|some (c2,g)=>some (u&&c2,λA=>A.and (e A)<|g A))=some (c,g)->
     (∀q:Option<|Bool×(aS->Bool),gl as bs=q->gl (a::as) (b::bs)=(match q with|none=>none|some (c2,g)=>some (u&&c2,λA=>A.and (e A)<|g A)))->
     ∃c1 f c2 i,gl (a::as) (b::bs)=some (c1,f)/\gl x y=some (c2,i)/\g af=(f af&&i af):=by
    intro u e h v;cases j:gl (as++x) (bs++y) with
    | none=>simp_all
    | some q=>
      have⟨c2,i⟩:=q;rw[j] at h;cases h;have⟨c1,f,c3,p,C,D,G⟩:=zx B j;refine⟨_,_,c3,p,v _ C,D,?_⟩;show af.and (e af) (i af)=(af.and (e af) (f af)&&p af);rw[G];show(e af&&(f af&&p af))=((e af&&f af)&&p af)
      grind
   cases a<;>cases b<;>simp[lu,gl] at h<;>try (cases h;done)
   case int.int k c1 n1 k' c2 n2=>
    split at h;cases h;rename_i v;exact split (c1&&c2) (λA=>A.bG n1 n2) h (λq j=>by simp[gl,v,j];rfl)
   case bool.bool c1 n1 c2 n2=>exact split (c1&&c2) (λA=>A.q n1 n2) h (λq j=>by simp[gl,j];rfl)
def Xp(P:Program)(t:TypeId)(c:List Value)(v:Value):Prop:=(xd P t=some true/\v=.agg c.toArray)\/(xd P t=some false/\c=[v])
def G_{us:Array Value}{off:Nat}{b:Bool}(f:xd P t=some b)(c:b=false->P.cellsOf t=1)(h:∃j,P.info? t=some j)(x:off+P.cellsOf t<=us.size)(w:World):
  ∃v,(part t us off).run P w=.ok v w/\Xp P t ((us.toList.drop off).take<|P.cellsOf t) v:=by
 have⟨j,u⟩:=h;have p:P.cellsOf t=j.size:=by grind [Program.cellsOf]
 have y:(sizeOf t).run P w=.ok (P.cellsOf t) w:=by simp_all [sizeOf,typeInfo]
 cases b with
 | true=>
   refine⟨.agg<|us.extract off<|off+P.cellsOf t,by simp_all [A9,part],.inl ⟨f,?_⟩⟩;congr 1
   grind
 | false=>
   have c:=c rfl;have i:off<us.size:=by omega
   refine⟨us[off],by simp_all [A9,part],.inr ⟨f,?_⟩⟩
   grind [AX]
def info_of_underlying{d:TypeDesc}(h:P.underlying t=some d):∃j,P.info? t=some j:=by grind [Program.underlying]
def Yf{d:Nat}{z:List AV}(h:eqB P d t z=true):(∃j,P.info? t=some j)/\((xd P t=some false/\P.cellsOf t=1)\/xd P t=some true):=by
 cases d with
 | zero=>cases h
 | succ d=>
   unfold eqB at h;cases hu:P.underlying t with
   | none=>simp_all
   | some q=>
     refine⟨info_of_underlying hu,?_⟩;cases q<;>simp only at h<;>try (cases h;done)
     all_goals simp_all [xd]
theorem J_:∀(d:Nat) {D:Nat} {t:TypeId} {z p x:List AV} {C G:List Value} {u v:Value} {c:Bool} {g:aS->Bool} {w:World},d<=D->eqB P d t z=true->nA p z=true->p.length=P.cellsOf t->x.length=P.cellsOf t->gl p x=some (c,g)->
  eD w S m p C->eD w S m x G->Xp P t C u->Xp P t G v->(Op.equalIn D t u v).run P w=.ok (g af) w
 | 0,_,_,_,_,_,_,_,_,_,_,_,_,_,h,_,_,_,_,_,_,_,_=>by cases h
 | d+1,0,_,_,_,_,_,_,_,_,_,_,_,hD,_,_,_,_,_,_,_,_,_=>by omega
 | d+1,D+1,t,z,p,x,C,G,u,v,c,g,w,hD,h,hz,hx,hy,i,hxs,hys,Z,hv=>by
   unfold eqB at h;cases hut:P.underlying t with
   | none=>simp_all
   | some q=>
     rw[hut] at h;have one:xd P t=some false->P.cellsOf t=1->∃a b,p=[a]/\x=[b]/\CR w S m a u/\CR w S m b v:=by
      intro A h1;rw[h1] at hx hy;obtain⟨a,rfl⟩:=kh.1 hx;obtain⟨b,rfl⟩:=kh.1 hy;rcases Z with ⟨h',_⟩|⟨_,rfl⟩
      .simp_all
      .rcases hv with ⟨h',_⟩|⟨_,rfl⟩
       .simp_all
       .have⟨_,_,e,h1,_⟩:=bL.1 hxs;have⟨_,_,e',an,_⟩:=bL.1 hys
        simp_all
     cases q<;>simp only at h<;>try (cases h;done)
     case bool=>
      rw[eH] at h;obtain⟨a,b,rfl,rfl,A,J⟩:=one (by simp[xd,hut])<|vL h.1;have K:=h.2;split at K
      .cases a<;>simp[nA,TQ] at hz;cases b<;>simp[gl] at i;obtain⟨_,rfl⟩:=i;rw[iE.1 A,iE.1 J,run_equalIn_bool' w D t _ _ hut];simp[af]
      simp_all
     case int k0=>
      rw[eH] at h;obtain⟨a,b,rfl,rfl,A,J⟩:=one (by simp[xd,hut])<|vL h.1;have K:=h.2;split at K
      .cases a<;>simp[nA,TQ] at hz;cases b<;>simp[gl] at i;split at i;cases i;rename_i hk;have a7:=lQ hk;subst a7;obtain⟨_,rfl⟩:=i;rw[(fu.1 A).1,(fu.1 J).1,run_equalIn_int w D t _ k0 _ _ hut];simp[af,xB]
      simp_all
     case string=>
      rw[eH] at h;obtain⟨a,b,rfl,rfl,A,J⟩:=one (by simp[xd,hut])<|vL h.1;have K:=h.2;split at K
      .cases a<;>simp[nA,TQ] at hz
      simp_all
     case struct fs=>
      rw[eH,fK,eH] at h;have⟨a8,W,_⟩:=h;have W:=ZY W;have aq:xd P t=some true:=by simp[xd,hut]
      have Z:u=.agg C.toArray:=by
       rcases Z with ⟨_,e⟩|⟨h',_⟩
       all_goals simp_all
      have hv:v=.agg G.toArray:=by
       rcases hv with ⟨_,e⟩|⟨h',_⟩
       all_goals simp_all
      subst Z;subst hv;have j:P.fieldsOf t=fs:=by simp[Program.fieldsOf,hut]
      rw[run_equalIn_struct w D t _ _ (by simp_all) a8,j];have b1:∀(F:List Field) (off:Nat) (g:aS->Bool) (c:Bool),UG P (eqB P d) z off F=some (P.cellsOf t)->off<=P.cellsOf t->gl (p.drop off) (x.drop off)=some (c,g)->(Op.eqFields D C.toArray G.toArray F).run P w=.ok (g af) w:=by
       intro F
       induction F with
       | nil=>
         intro off g c X _ i;cases X;rw[gq (by omega),gq (by omega)] at i;obtain⟨_,rfl⟩:=i;rfl
       | cons f F b0=>
         intro off g c X aa i;rw[UG] at X;cases hck:decide (f.name≠ "_")&&(Nat.beq f.offset off&&eqB P d f.type ((z.drop off).take (P.cellsOf f.type))) with
         | false=>grind
         | true=>
           rw[hck] at X;rw[eH,eH,tP] at hck;have⟨B,j,V⟩:=hck;have j:=vL j;have av:off+P.cellsOf f.type<=P.cellsOf t:=by
            have mono:∀(F:List Field) (a b:Nat),UG P (eqB P d) z a F=some b->a<=b:=by
             intro F
             induction F with
             | nil=>intro a b h;cases h;omega
             | cons f F ih=>
               intro a b h;rw[UG] at h
               grind
            grind
           have⟨y,ab⟩:=Yf V;obtain⟨bb,O,N⟩:∃bb,xd P f.type=some bb/\(bb=false->P.cellsOf f.type=1):=by simp_all
           have aw:C.length=P.cellsOf t:=by rw[hxs.length,hx]
           have az:G.length=P.cellsOf t:=by rw[hys.length,hy]
           have⟨a,A,a5⟩:=G_ (us:=C.toArray) (off:=off) O N y (by simp_all) w;have⟨b,J,a6⟩:=G_ (us:=G.toArray) (off:=off) O N y (by simp_all) w;have ex:p.drop off=(p.drop off).take (P.cellsOf f.type)++p.drop (off+P.cellsOf f.type):=by rw[<-fe,fo]
           have ey:x.drop off=(x.drop off).take (P.cellsOf f.type)++x.drop (off+P.cellsOf f.type):=by rw[<-fe,fo]
           have lx:((p.drop off).take<|P.cellsOf f.type).length=P.cellsOf f.type:=by grind
           have ly:((x.drop off).take<|P.cellsOf f.type).length=P.cellsOf f.type:=by grind
           rw[ex,ey] at i;have⟨c1,g1,c2,g2,e1,e2,e3⟩:=zx (by omega) i;have r1:=J_ d (D:=D) (by omega) V (D_ _<|D9 _ hz) lx ly e1 ((hxs.drop off).take _) ((hys.drop off).take _) a5 a6;simp only[Op.eqFields,if_pos B,dN,j,A,dF,J,r1];rw[e3];cases hg1:g1 af with
           | true=>grind
           | false=>simp
      grind
def Yg(P:Program)(T:TypeId)(z:List AV):Bool:=
 eqB P 50 T z&&(FK (xd P T) true&&(Nat.beq (P.cellsOf T) z.length && !P.eqGuardType P.depth T))
theorem Yh{T:TypeId}{z:List AV}(h:Yg P T z=true):aoa P T z:=by
 simp only[Yg,eH,fK] at h;have⟨v,j,p,J⟩:=h;have j:=Cp j;have p:=vL p;intro w S m i f O V c g u A C G;have K:=zK u;have B:∀{i f:List AV} {c:Bool} {g:aS->Bool},gl i f=some (c,g)->f.length=i.length:=by
  intro i
  induction i with
  | nil=>intro f c g h;cases f with
    | nil=>rfl
    | cons b _=>grind [gl]
  | cons a i ih=>
    intro f c g h;cases f with
    | nil=>grind [gl]
    | cons b f=>
      have:∃c g,gl i f=some (c,g):=by
       cases hq:gl i f with
       | some q=>grind
       | none=>
         cases a<;>cases b<;>simp[gl,hq] at h<;>(try (cases h;done))
         grind
      grind
 refine⟨?_,λN x y=>?_⟩
 .exact J_ (m:=m) (S:=S) 50 (D:=Op.maxDepth) (by decide) v u (by omega) (by grind) A C G (.inl ⟨j,rfl⟩)<|.inl ⟨j,rfl⟩
 simp_all [eqGuard]
def tiB(P:Program)(T:TypeId)(ti:TI):Bool:=
 (match P.info? T with
   | none=>false
   | some i=>Nat.beq i.size ti.size&&(Nat.beq i.bytes ti.bytes&&(match i.zero with
     | none=>false
     | some z=>Cg ti.zero z.cells.toList&&(match ti.ty with
       | none=>true
       | some t=>MK z.cells.toList t.zeros&&(Nat.beq t.size ti.size&&((t.isAgg==ti.agg)&&t.r7)))))) &&
 (ZA P T ti.kind&&(FK (xd P T) ti.agg&&(Nat.beq ti.zero.length ti.size&&(!(ti.eq&&ti.agg)||Yg P T ti.zero))))
theorem anT{T:TypeId}{ti:TI}(h:tiB P T ti=true):Cn P T ti:=by
 simp only[tiB,eH] at h;have⟨j,x,y,A,D⟩:=h;split at j;cases j;rename_i i B;simp only[eH] at j;have⟨p,u,c⟩:=j;split at c;cases c;rename_i z C;simp at c;have⟨c,v⟩:=c;have f:∀t,ti.ty=some t->z.cells.toList=t.zeros/\(t.size=ti.size/\t.isAgg=ti.agg)/\t.r7=true:=λt ht=>by
  rw[ht] at v
  grind [KR,vL]
 refine⟨⟨i,z,B,vL p,vL u,C,λw S m=>Ch c,λt ht w I=>?_⟩,ZB x,A9<|Cp y,vL A,λt ht=>(f t ht).2.1,λJ G=>?_,λt ht=>(f t ht).2.2⟩
 all_goals grind [Ty.y_,Yh]
def acR(P:Program):Nat->Nat->Nat->PT TI->Bool
 | 0,_,_,t=>match t with | .leaf=>true|_=>false
 | _+1,_,_,.leaf=>true
 | f+1,a,s,.node l v r=>(match v with|some ti=>tiB P a ti|none=>true)&&(acR P f (a+s) (2*s) l&&acR P f (a+2*s) (2*s) r)
theorem M4:∀{f a s:Nat} {t:PT TI},acR P f a s t=true->∀n ti,t.get n=some ti->Cn P (a+s*n) ti
 | 0,a,s,.leaf,_,n,ti,hg=>by grind [PT.GD]
 | 0,a,s,.node _ _ _,h,_,_,_=>by cases h
 | f+1,a,s,.leaf,_,n,ti,hg=>by grind [PT.GD]
 | f+1,a,s,.node l v r,h,n,ti,hg=>by
   simp[acR,eH] at h;rw[PT.qd] at hg;split at hg
   .grind [anT]
   .rename_i i;split at hg
    .rename_i c;have:=M4 h.2.1 _ _ hg;have e:a+s+2*s*(n/2)=a+s*n:=by
      have:n=2*(n/2)+1:=by omega
      grind
     simp_all
    .rename_i c;have:=M4 h.2.2 _ _ hg;have e:a+2*s+2*s*(n/2-1)=a+s*n:=by
      have:n=2*(n/2-1)+2:=by omega
      grind
     simp_all
def anW{t:PT TI}(h:acR P 30 0 1 t=true):og P t:=λT ti c=>by
 have:=M4 h T ti c
 grind
end
end Go.Ev
namespace Go.Ev
def uM(P:Program)(ty:TypeId->Option Ty):Nat->List Field->Option (List Ty×Nat)
 | off,[]=>some ([],off)
 | off,f::fs=>match ty f.type with
   | none=>none
   | some t=>match Nat.beq f.offset off&&Nat.beq (P.cellsOf f.type) t.size with
     | false=>none
     | true=>match uM P ty (off+t.size) fs with
       | none=>none
       | some (ts,n)=>some (t::ts,n)
mutual
def Ty.low:Ty->Nat
 | .int k=>k.bits/8
 | .bool=>1
 | .str=>16
 | .slice _=>24
 | .arr n t=>n*Ty.low t
 | .struct ts=>Ty.apv ts
 | .any _=>0
def Ty.apv:List Ty->Nat
 | []=>0
 | t::ts=>Ty.low t+Ty.apv ts
end
mutual
def Ty.fit:(t:Ty)->t.T->Prop
 | .slice t,x=>(show List t.T from x).length*t.low<=gg/\∀y∈(show List t.T from x),Ty.fit t y
 | .struct ts,x=>Ty.fits ts x
 | _,_=>True
def Ty.fits:(c:List Ty)->Ty.Ts c->Prop
 | [],_=>True
 | [t],x=>Ty.fit t x
 | t::f::c,x=>Ty.fit t (Prod.fst (α:=t.T) (β:=Ty.Ts<|f::c) x)/\Ty.fits (f::c) (Prod.snd (α:=t.T) (β:=Ty.Ts<|f::c) x)
end
def EU(P:Program):Nat->TypeId->Option Ty
 | 0,_=>none
 | d+1,t=>match P.underlying t with
   | some .bool=>some .bool
   | some (.int k)=>some<|.int k
   | some .string=>some .str
   | some (.slice e)=>match EU P d e with
     | none=>none
     | some ty=>match Nat.beq (P.cellsOf e) ty.size&&(Nat.blt 0 ty.size&&(Nat.blt 0 (P.bytesOf e)&&Nat.ble ty.low (P.bytesOf e))) with
       | true=>some<|.slice ty
       | false=>none
   | some (.struct fs)=>match uM P (EU P d) 0 fs.toList with
     | none=>none
     | some (ts,n)=>match Nat.beq (P.cellsOf t) n with
       | true=>some<|.struct ts
       | false=>none
   | _=>none
def Pm(P:Program):List TypeId->Option (List Ty)
 | []=>some []
 | t::ts=>match EU P 60 t with
   | none=>none
   | some ty=>match Pm P ts with
     | none=>none
     | some iA=>some<|ty::iA
section
variable {H:Type} {enc:TypeId×Value->H} {P:Program} {w:World} {base:Nat} {spare:Nat->Bool} {held:Bool}
theorem B9{ty:TypeId->Option Ty}:∀{fs:List Field} {off n:Nat} {c:List Ty},uM P ty off fs=some (c,n)->n=off+Ty.mI c
 | [],off,n,c,h=>by cases h;rfl
 | f::fs,off,n,c,h=>by
   rw[uM] at h;cases ht:ty f.type with
   | none=>grind
   | some t=>
     rw[ht] at h;simp only at h;split at h;cases h;split at h;cases h;rename_i j p i;cases h;rw[B9 i,Ty.mI,Nat.add_assoc]
def J6{a:Addr}{n:Nat}{p:List Value}(h:w.cells? base a n=some p):p.length=n/\(0<n->a.spot=none/\a.block<w.heap.size)/\(a.spot=none->lV w a.block a.off p):=by
 unfold World.cells? at h;split at h
 .have A:p.length=n:=by simpa using mapM_some_length h
  have v:∀i,i<n->w.cell? (a.add i)=p[i]? :=λi D=>by
   have:=mapM_some_get h i i (by grind);omega
  refine⟨A,λB=>?_,λG j u C=>?_⟩
  .have f:=v 0 B;rw[Jv<|by omega] at f;have e:a.add 0=a:=by rfl
   unfold World.cell? at f;split at f
   .rename_i c _ _ x;split at f;cases f;exact⟨by simp_all,(dy.1 x).1⟩
   simp_all
  .have y:j<n:=by grind
   have:=v j y;rw[C] at this;have⟨b,o,J⟩:=a
   grind [Addr.add_lit]
 simp_all
theorem Dx{α:Type}{p:Nat->α->Prop}:∀(n:Nat),(∀i,i<n->∃x,p i x)->∃l:List α,l.length=n/\∀i x,l[i]? = some x->p i x
 | 0,_=>⟨[],rfl,λi x h=>by grind⟩
 | n+1,h=>by
   have⟨l,c,f⟩:=Dx n λi j=>h i (by omega);have⟨x,u⟩:=h n (by omega);refine⟨l ++ [x],by grind,λi y v=>?_⟩
   grind
theorem Eh{P:Program}{e:TypeId}:∀{l:List<|DataW H} {d:DataW H},d∈l->∀n∈d.weights P e,n∈DataW.weightsAll P e l
 | x::l,d,c,n,hn=>by
   rw[DataW.weightsAll];rcases aC.1 c with rfl|c
   .grind
   .exact oJ.2<|.inr<|Eh c n hn
theorem Ca{P:Program}:∀{c:List TypeId} {l:List<|DataW H} {i:Nat} {t:TypeId} {d:DataW H},c[i]? = some t->l[i]? = some d->∀n∈d.weights P t,n∈DataW.weightsEach P c l
 | [],_,i,t,d,h,_,_,_=>by grind
 | _::_,[],i,t,d,_,h,_,_=>by grind
 | t0::c,d0::l,i,t,d,h1,h2,n,hn=>by
   rw[DataW.weightsEach];cases i with
   | zero=>grind
   | succ i=>exact oJ.2<|.inr<|Ca (i:=i) (by grind) (by grind) n hn
theorem F8{ty:TypeId->Option Ty}{cs:List Value}{rd:Field->Option (DataW H×List MemPlace)}{I:Nat->Prop} :
  ∀{fs:List Field} {off n:Nat} {c:List Ty},uM P ty off fs=some (c,n)->n<=cs.length->
  (∀(i:Nat) (f:Field) (t:Ty),fs[i]? = some f->ty f.type=some t->P.cellsOf f.type=t.size->∃x,bW w I t ((cs.drop f.offset).take<|P.cellsOf f.type) x/\t.fit x)->∃x,gk w I c ((cs.drop off).take<|n-off) x/\Ty.fits c x
 | [],off,n,c,h,_,_=>by
   cases h;exact⟨(),yD.2<|by simp_all,trivial⟩
 | f::fs,off,n,c,h,hn,hx=>by
   have u:=B9 h;rw[uM] at h;cases ht:ty f.type with
   | none=>simp_all
   | some t=>
     rw[ht] at h;simp only at h;cases hck:Nat.beq f.offset off&&Nat.beq (P.cellsOf f.type) t.size with
     | false=>simp_all
     | true=>
       rw[hck] at h;simp only at h;rw[eH] at hck;have D:=vL hck.1;have A:=vL hck.2;split at h;cases h;rename_i j O G;cases h;have⟨x,p,B⟩:=hx 0 f t rfl ht A;have⟨y,v,J⟩:=F8 (rd:=rd) G hn λi g K N=>hx (i+1) g K (by simp_all);rw[D,A] at p;rw[Ty.mI] at u;have e:(cs.drop off).take (n-off)=(cs.drop off).take t.size++(cs.drop<|off+t.size).take (n-(off+t.size)):=by
        rw[show n-off=t.size+(n-(off+t.size)) from by omega,List.take_add,fe]
       rw[e];cases j with
       | nil=>
         have C:=yD.1 v;rw[C,aJ];exact⟨x,Cm.2 p,B⟩
       | cons t2 j=>exact⟨(x,y),zW.2 ⟨_,_,rfl,p,v⟩,⟨B,J⟩⟩
def UO{k:IntKind}{n:Int}(h:(Lit.int k n).wf=true):k.has n:=by
 simp[Lit.wf,eH,tP] at h;exact⟨h.1,h.2⟩
theorem IC:∀(d:Nat) {t:TypeId} {ty:Ty} {fuel:Nat} {cs:List Value} {r:DataW H×List MemPlace},EU P d t=some ty->DataW.trod enc P w base spare held fuel t cs=some r->(∀n∈r.1.weights P t,n<=reachBytes)->
  ∃x,bW w (λb=>b<w.heap.size) ty cs x/\ty.fit x
 | 0,_,_,_,_,_,h,_,_=>by cases h
 | d+1,t,ty,fuel,cs,r,h,htr,hwt=>by
   rw[EU] at h;cases hu:P.underlying t with
   | none=>simp_all
   | some q=>
     cases q<;>simp_all<;>try (cases h;done)
     case bool=>
      cases h;obtain⟨b,rfl,_⟩:=DataW.trod_bool hu htr;exact⟨b,Ck.2 rfl,trivial⟩
     case int k=>
      cases h;obtain⟨n,rfl,_,hw⟩:=DataW.trod_int hu htr;exact⟨n,vm.2 ⟨rfl,UO hw⟩,trivial⟩
     case string=>
      cases h;obtain⟨s,rfl,hr,_⟩:=DataW.trod_string hu htr;refine⟨s.data.toList,AZ.2 ⟨by simp,?_⟩,trivial⟩;have:=hwt s.data.toList.length (by rw[hr];simp[DataW.weights]);exact aV this (by decide)
     case slice e=>
      cases hte:EU P d e with
      | none=>simp_all
      | some ty'=>
        rw[hte] at h;simp only at h;split at h
        rotate_left
        cases h;rename_i hck;cases h;rw[eH,eH,eH] at hck;have hce:=vL hck.1;have hpos:0<ty'.size:=KE hck.2.1;have hbytes:0<P.bytesOf e:=KE hck.2.2.1;have hlow:ty'.low<=P.bytesOf e:=KE hck.2.2.2;rcases DataW.trod_slice hu htr with ⟨rfl,_⟩|⟨a,len,cap,elems,rest,n,rfl,rfl,hr,_,hlc,_,hel,hget,_,_⟩
        .exact⟨[],eP.2 ⟨none,0,rfl,ah _,aQ _,λ_=>rfl,λi y h=>by cases h⟩,⟨by simp,λy h=>by cases h⟩⟩
        .have hw0:(elems.length+rest.length)*P.bytesOf e<=reachBytes:=hwt _ (by rw[hr];simp[DataW.weights,hu]);have hlen:len<=gg:=by
          have h1:len*1<=(elems.length+rest.length)*P.bytesOf e:=Nat.mul_le_mul (by omega) hbytes;have h2:reachBytes<=gg:=by decide
          omega
         have hfit:len*ty'.low<=gg:=by
          have h1:len*ty'.low<=(elems.length+rest.length)*P.bytesOf e:=Nat.mul_le_mul (by omega) hlow;have h2:reachBytes<=gg:=by decide
          omega
         have each:∀i,i<len->∃x,∃us,a.spot=none/\a.block<w.heap.size/\us.length=ty'.size/\lV w a.block (a.off+i*ty'.size) us/\bW w (λb=>b<w.heap.size) ty' us x/\ty'.fit x:=by
          intro i hi;have hg:=hget i hi;rw[Jv (by omega)] at hg;obtain⟨us,hcs,hrd⟩:=Option.bind_eq_some_iff.1 hg;obtain⟨c1,c2,c3⟩:=J6 hcs;rw[hce] at c1 c2 c3;obtain⟨hsp,hblk⟩:=c2 hpos;have hspa:a.spot=none:=by
           have hg0:=hget 0 (by omega);rw[Jv (by omega)] at hg0;obtain⟨us0,hcs0,_⟩:=Option.bind_eq_some_iff.1 hg0;rw[Nat.zero_mul] at hcs0;have e0:a.add 0=a:=by rfl
           exact((J6 hcs0).2.1 (by omega)).1
          have hadd:a.add (i*ty'.size)=⟨a.block,a.off+i*ty'.size,none⟩:=by
           obtain⟨b,o,sp⟩:=a;have hs:sp=none:=hspa;subst hs;exact kl b o _
          obtain⟨x,hx,hf⟩:=IC d hte hrd λn hn=>hwt n (by
           rw[hr];simp only[DataW.weights,hu];refine aB _ (oJ.2 (.inl (Eh (dE.2 ⟨elems[i],dQ _,rfl⟩) n hn))))
          grind
         obtain⟨xs,hxl,hxs⟩:=Dx len each;refine⟨xs,eP.2 ⟨some a,cap,by grind,by omega,by omega,λh=>(by cases h),λi y hy=>?_⟩,by
          refine⟨by show xs.length*_<=_;rw[hxl];exact hfit,λy hy=>?_⟩;obtain⟨i,hi⟩:=List.mem_iff_getElem?.1 hy;exact(hxs i y hi).choose_spec.2.2.2.2.2⟩
         obtain⟨us,g1,g2,g3,g4,g5,_⟩:=hxs i y hy;refine⟨a.block,a.off,us,?_,g2,g3,g4,g5⟩;obtain⟨b,o,sp⟩:=a
         simp_all
     case struct fs=>
      cases hf:uM P (EU P d) 0 fs.toList with
      | none=>simp_all
      | some q=>
        obtain⟨ts,n⟩:=q;rw[hf] at h;simp only at h;split at h
        .rename_i hck;cases h;have hn:=vL hck;obtain⟨xs,m,rfl,hr,hlen,hxl,hx⟩:=DataW.trod_struct hu htr;obtain⟨y,hy,hf'⟩:=F8 (w:=w) (cs:=cs) (I:=λb=>b<w.heap.size) (rd:=λ_=>(none:Option (DataW H×List MemPlace))) hf (by omega) λi f t' hi hty hc=>by
          have hi':fs[i]? = some f:=by simp_all
          have hlt:i<xs.length:=by grind
          have:=hx i f hi';rw[Jv hlt] at this;refine IC d hty this λn hn=>hwt n ?_;rw[hr];simp[DataW.weights,hu];exact Ca (i:=i) (by simp_all) (by grind) n hn
         rw[ik,Nat.sub_zero,dH (by omega)] at hy;exact⟨y,xr.2 hy,hf'⟩
        simp_all
def Qy{r:Reach}{f d:Nat}{t:TypeId}{ty:Ty}{v:Value}{x:ty.T}(ht:EU P d t=some ty)(c:Value.okWide P w r f t v)(h:bW w (λb=>b<w.heap.size) ty v.cells.toList x):mO w (λb=>b<w.heap.size) ty v x:=by
 cases d with
 | zero=>cases ht
 | succ d=>
   rw[EU] at ht;unfold Value.okWide at c;cases hu:P.underlying t with
   | none=>simp_all
   | some q=>
     rw[hu] at ht c;have cH:ty.isAgg=false->Cell.okWide P w r f t v->mO w (λb=>b<w.heap.size) ty v x:=by
      intro j p;rw[mO,if_neg (by simp_all)];have:v.cells.toList=[v]:=by
       cases v<;>(try rfl)
       simp_all [Cell.okWide,Cell.ok]
      simp_all
     cases q<;>simp only at ht c<;>try (cases ht;done)
     case bool=>cases ht;exact cH rfl c
     case int k=>cases ht;exact cH rfl c
     case string=>cases ht;exact cH rfl c
     case slice e=>
      have:ty.isAgg=false:=by
       cases hte:EU P d e with
       | none=>simp_all
       | some i=>
         rw[hte] at ht;simp only at ht;split at ht
         .cases ht;rfl
         simp_all
      simp_all
     case struct fs=>
      obtain⟨cs,rfl,_,_⟩:=c;have:ty.isAgg=true:=by
       cases hf:uM P (EU P d) 0 fs.toList with
       | none=>simp_all
       | some q=>
         rw[hf] at ht;simp only at ht;split at ht
         .cases ht;rfl
         simp_all
      rw[mO,if_pos this];exact⟨cs,rfl,h⟩
theorem B8{r:Reach}{b0:Nat}:∀{ts:List TypeId} {iA:List Ty} {vs:List Value} {ds:List<|DataW H} {ps:List MemPlace},Pm P ts=some iA->DataW.TrodAll enc P w base spare held ts vs ds ps->
  (∀(j:Nat) t v,ts[j]? = some t->vs[j]? = some v->Value.okWide P w r b0 t v)->(∀n∈DataW.weightsEach P ts ds,n<=reachBytes)->∃x,kY w (λb=>b<w.heap.size) iA vs x/\Ty.fits iA x
 | [],iA,[],[],ps,h,_,_,_=>by cases h;exact⟨(),rfl,trivial⟩
 | t::ts,iA,v::vs,d::ds,ps,h,htr,hok,hwt=>by
   rw[Pm] at h;cases hty:EU P 60 t with
   | none=>simp_all
   | some ty=>
     rw[hty] at h;simp only at h;split at h;cases h;rename_i tys' hts;cases h;have⟨p,q,⟨fuel,h1⟩,h2,_⟩:=htr;have⟨x,hx,kx⟩:=IC 60 hty h1 λn hn=>hwt n<|oJ.2<|.inl hn;have hx':=Qy hty (hok 0 t v rfl rfl) hx;have⟨y,hy,ky⟩:=B8 hts h2 (λj t v ht hv=>hok (j+1) t v (by simp_all)<|by simp_all) λn hn=>hwt n<|oJ.2<|.inr hn;cases tys' with
     | nil=>
       subst hy;exact⟨x,⟨v,rfl,hx'⟩,kx⟩
     | cons t2 tys'=>exact⟨(x,y),⟨v,vs,rfl,hx',hy⟩,⟨kx,ky⟩⟩
 | [],_,_::_,_,_,_,h,_,_=>by exact h.elim
 | [],_,[],_::_,_,_,h,_,_=>by exact h.elim
 | _::_,_,[],_,_,_,h,_,_=>by exact h.elim
 | _::_,_,_::_,[],_,_,h,_,_=>by exact h.elim
open Go.RowKit
theorem zQ(B:laidOutB P=true){W y:World}(A:Below W.heap.size W y){C:Nat->Bool}:∀{i:List TypeId} {u:List Value} {j:List<|DataW H} {f:List MemPlace},(∀t∈i,P.readableRec t=true/\t<P.types.size)->
  DataW.TrodAll enc P W 0 (λ_=>true) true i u j f->(∀p∈f,p.block<W.heap.size)->(∀p∈f,C p.block=true)->DataW.TrodAll enc P y 0 C true i u j f
 | [],[],[],f,_,h,_,_=>h
 | t::i,v::u,d::j,f,hts,h,hlt,hsp=>by
   obtain⟨p,q,D,G,rfl⟩:=h;refine⟨p,q,WideElems.Trod_stays B (hts t aM).1 (hts t aM).2 D (λx c=>A.same<|hlt x<|oJ.2<|.inl c)<|λx c=>hsp x<|oJ.2<|.inl c,?_,rfl⟩;exact zQ B A (λt ht=>hts t<|aB _ ht) G (λx c=>hlt x<|oJ.2<|.inr c)<|λx c=>hsp x<|oJ.2<|.inr c
 | [],_::_,_,_,_,h,_,_=>by exact h.elim
 | [],[],_::_,_,_,h,_,_=>by exact h.elim
 | _::_,[],_,_,_,h,_,_=>by exact h.elim
 | _::_,_::_,[],_,_,h,_,_=>by exact h.elim
theorem trodAll_length:∀{f:List TypeId} {j:List Value} {c:List<|DataW H} {i:List MemPlace},DataW.TrodAll enc P w base spare held f j c i->c.length=f.length
 | [],[],[],_,_=>rfl
 | t::f,v::j,d::c,i,h=>by
   have⟨p,q,_,u,_⟩:=h;rw[bd,bd,trodAll_length u]
 | [],_::_,_,_,h=>by exact h.elim
 | [],[],_::_,_,h=>by exact h.elim
 | _::_,[],_,_,h=>by exact h.elim
 | _::_,_::_,[],_,h=>by exact h.elim
def ZC{f:Func}{s:ChangeSpec}{h fresh u B:Bool}{W J:World}{args:Array Value}{i X:List<|DataW H}{A:List MemPlace}{tb:TypeId}(c:s.vars=[])
  (a4:∀(H:Type) (i:List<|DataW H),i.length=f.params.size->s.fn H i={results:=[.lit<|.bool true],args:=i}) (v:f.resultTypes=#[tb]) (O:P.underlying tb=some .bool)
  (hl:laidOutB P=true) (a7:∀t∈f.params.toList,P.readableRec t=true/\t<P.types.size)
  (hW:DataW.Whole enc P f.params.toList s.vars h W args.toList i X A) (hb:Below W.heap.size W J):s.post enc P f h fresh u B W args (.bool true) J:=by
 have C:=hW.lt;have K:=hW;obtain⟨p,q,hA,Z,rfl,hz,N⟩:=hW;rw[c] at Z;have a5:X=[]/\q=[]:=by
  cases X with
  | nil=>exact⟨rfl,Z⟩
  | cons _ _=>exact Z.elim
 obtain⟨rfl,rfl⟩:=a5;rw[aJ] at C hz N K;have ab:=trodAll_length hA;have hf:=a4 H (i ++ []) (by simp_all);have D:∀G:Nat->Bool,(∀x∈p,G x.block=true)->DataW.TrodAll enc P J 0 G true f.params.toList args.toList i p:=λG a6=>zQ hl hb a7 hA C a6;have y:((Value.bool true).resultList f.resultTypes.size)=[.bool true]:=by rw[v];rfl
 have hr:∀(b:Nat) (G:Nat->Bool) (hd:Bool),DataW.TrodAll enc P J b G hd f.resultTypes.toList ((Value.bool true).resultList f.resultTypes.size) (s.fn H<|i ++ []).results []:=λb G hd=>by
  rw[y,v,hf];exact⟨[],[],shut_bool O true,rfl,rfl⟩
 refine⟨i,[],p,[],p,[],K,hr _ _ _,?_,?_,World.keptBut_mono (λx V=>⟨V,.inr<|.inl V⟩) (hb.frame (· ∈p)),λ_=>⟨λj t r hj hv=>?_,?_⟩⟩
 .simp_all
 .rw[c,hf];rfl
 .grind [okWide_bool_mk]
 .have h1:DataW.TrodAll enc P J 0 (λ_=>true) true (f.resultTypes.toList++f.params.toList) ((Value.bool true).resultList f.resultTypes.size++args.toList) (.lit (.bool true)::i) p:=by
   rw[y,v];exact⟨[],p,shut_bool O true,D _<|λ_ _=>rfl,rfl⟩
  refine⟨.lit (.bool true)::i,[],p,⟨p,[],h1,by rw[c];rfl,by simp_all,λb off hp=>?_,N⟩,λx V _=>V⟩;rw[hb.frozen<|C _ hp];exact hz b off hp
def UT{f:FuncId}{iA:List Ty}{pre:Ty.Ts iA->Bool}{fn:Ty.Ts iA->Bool}{JS:Bool}(hs:aL.bp P f ⟨iA,[.bool],pre,fn,JS⟩)(htrue:∀x,Ty.kS iA x->Ty.fits iA x->pre x=true/\fn x=true){F:Func}(htys:Pm P F.params.toList=some iA)
  {r:Reach} {b0:Nat} {W:World} {args:Array Value} {ds:List<|DataW H} {ps:List MemPlace} (hA:DataW.TrodAll enc P W base spare held F.params.toList args.toList ds ps)
  (hval:∀(j:Nat) t v,F.params[j]? = some t->args[j]? = some v->Value.okWide P W r b0 t v) (hwt:∀n∈DataW.weightsEach P F.params.toList ds,n<=reachBytes) :
  Calls P f args W λe W'=>e=.returned (.bool true)/\Below W.heap.size W W':=by
 have⟨x,hx,kx⟩:=B8 htys hA (λj t v ht hv=>hval j t v (by simp_all)<|by simp_all) hwt;have⟨h1,h2⟩:=htrue x hx.has kx;refine(hs.calls W _ x args (λb hb=>hb) hx h1).mono ?_
 rintro e W' ⟨v,rfl,g1,g2,g3,g4,g5,I',_,g7⟩
 have g7:[v]=[Value.bool<|fn x]:=g7;cases g7;refine⟨by rw[h2],⟨g1,g2,g3,g4,g5⟩⟩
def Qo{C:Checked}{os:Os}{f:FuncId}{F:Func}{s:ChangeSpec}{conds:List PathCond}{apart fresh handsOn again:Bool}{a:Assume}{tb:TypeId}{iA:List Ty}{pre:Ty.Ts iA->Bool}{fn:Ty.Ts iA->Bool}{JS:Bool}
  (own:ownKnob C.prog.godebug=none) (started:os.Started) (noInit:C.prog.inits.idxOf? f=none) (hF:C.prog.funcs[f]? = some F)
  (witness:∃(w:World) (tape:Tape) (i:Input),w.os=os/\(w.forCall tape i).Shaped C.prog/\i.vars=[]/\Input.okWide C.prog (w.forCall tape i) .any w.heap.size f i/\
    s.pre6 enc C.prog F conds apart (w.forCall tape i).memory i.args/\a.holds C.prog (lone (Frame.enter C.prog f i.args .normal) []<|w.forCall tape i))
  (hs:aL.bp C.prog f ⟨iA,[.bool],pre,fn,JS⟩) (htrue:∀x,Ty.kS iA x->Ty.fits iA x->pre x=true/\fn x=true) (htys:Pm C.prog F.params.toList=some iA) (hvars:s.vars=[])
  (hfn:∀(H:Type) (ds:List<|DataW H),ds.length=F.params.size->s.fn H ds={results:=[.lit<|.bool true],args:=ds}) (hres:F.resultTypes=#[tb]) (htb:C.prog.underlying tb=some .bool)
  (hl:laidOutB C.prog=true) (hts:F.params.toList.all (λt=>C.prog.readableRec t&&decide (t<C.prog.types.size))=true) :
  ReturnsInHanded a C os f .any (s.pre6 enc C.prog F conds apart) (s.post enc C.prog F apart fresh handsOn again):=by
 refine returnsInHanded_of_change_sized own started noInit hF witness ?_;intro W b0 args ds gs before hval hW _ hsz _;have hW':=hW;have⟨p,q,hA,hV,_,_,_⟩:=hW;rw[hvars] at hV;have hgs:gs=[]:=by
  cases gs with
  | nil=>rfl
  | cons _ _=>exact hV.elim
 have hwt:∀n∈DataW.weightsEach C.prog F.params.toList ds,n<=reachBytes:=by
  have e:s.plain.varTypes C.prog=[]:=by simp[DataSpec.varTypes,ChangeSpec.plain,hvars]
  simp_all
 refine(UT hs htrue htys hA hval hwt).mono ?_
 rintro e W' ⟨rfl,hb⟩
 refine⟨_,rfl,ZC hvars hfn hres htb hl (λt ht=>?_) hW' hb⟩
 grind
end
end Go.Ev
namespace Go.Ev
def LT.val{R Y:Type}(d:R):LT R Y->R
 | .ret r=>r
 | .ak _=>d
 | .br b t e=>bif b then t.val d else e.val d
 | .ao _ t=>t.val d
 | .eqs _ t=>t.val d
 | .and a _=>a.val d
 | .bU _ _=>d
def LT.pre{R Y:Type}:LT R Y->Bool
 | .ret _=>true
 | .ak _=>false
 | .br b t e=>bif b then t.pre else e.pre
 | .ao b t=>b&&t.pre
 | .eqs _ t=>t.pre
 | .and _ _=>false
 | .bU _ _=>false
def LT.Eqs{R Y:Type}:LT R Y->Prop
 | .ret _=>True
 | .ak _=>True
 | .br _ t e=>t.Eqs/\e.Eqs
 | .ao _ t=>t.Eqs
 | .eqs p t=>p/\t.Eqs
 | .and _ _=>True
 | .bU _ _=>True
theorem LT.runs{R Y:Type}{d:R}{step:Y->LT R Y}:∀{t:LT R Y},t.Eqs->t.pre=true->bi step t (t.val d)
 | .ret r,_,_=>.ret r
 | .ak _,_,h=>by cases h
 | .br b t e,h1,h2=>by
   cases b with
   | true=>exact .br<|LT.runs h1.1 h2
   | false=>exact .br<|LT.runs h1.2 h2
 | .ao b t,h1,h2=>by
   rw[LT.pre,eH] at h2;exact .ao h2.1<|LT.runs h1 h2.2
 | .eqs p t,h1,h2=>.eqs h1.1<|LT.runs h1.2 h2
 | .and _ _,_,h=>by cases h
 | .bU _ _,_,h=>by cases h
def LT.all{R Y:Type}(p:R->Prop):LT R Y->Prop
 | .ret r=>p r
 | .ak _=>True
 | .br _ t e=>t.all p/\e.all p
 | .ao _ t=>t.all p
 | .eqs _ t=>t.all p
 | .and a b=>a.all p/\b.all p
 | .bU _ _=>True
theorem LT.sD{R Y:Type}{d:R}{p:R->Prop}(c:p d):∀{t:LT R Y},t.all p->p (t.val d)
 | .ret r,h=>h
 | .ak _,_=>c
 | .br b t e,h=>by
   cases b with
   | true=>exact LT.sD (t:=t) c h.1
   | false=>exact LT.sD (t:=e) c h.2
 | .ao b t,h=>LT.sD (t:=t) c h
 | .eqs _ t,h=>LT.sD (t:=t) c h
 | .and a _,h=>LT.sD c (t:=a) h.1
 | .bU _ _,_=>c
variable{α:Type}{v:α}{x:List α}
section
variable {a b:Int} {k:IntKind}
def bf:af.bG a b=(a==b):=rfl
def b_:af.cm a b=(a != b):=rfl
def bl:af.bq a b=decide (a<b):=rfl
def ax:af.bQ a b=decide (a<=b):=rfl
def gD:af.jr a b=decide (b<a):=rfl
def kQ:af.qE a b=decide (b<=a):=rfl
def bF{x y:Bool}:af.and x y=(x&&y):=rfl
def ji{x:Bool}:af.not x=!x:=rfl
def Ub{x y:Bool}:af.q x y=(x==y):=rfl
def bZ{β:Type}{f:α->β}{x:α}:af.k f x=f x:=rfl
def gB:af.b .add k a b=k.wrap (a+b):=rfl
def ia:af.b .sub k a b=k.wrap (a-b):=rfl
def jh:af.b .mul k a b=k.wrap (a*b):=rfl
def MW:af.b .quo k a b=k.wrap (a.tdiv b):=rfl
def MX:af.b .rem k a b=a.tmod b:=rfl
def abK:af.v k a=k.wrap a:=rfl
def n_:af.mn a b=if b<a then b else a:=rfl
def wN:af.mx a b=if b > a then b else a:=rfl
def Ud{t:Ty}{x:List t.T}:af.n t x a=x.getD a.toNat t.gH:=rfl
def jU:af.s x a b=(x.take b.toNat).drop a.toNat:=rfl
def MY:af.set x a v=x.set a.toNat v:=rfl
def uL:af.r a v=List.replicate a.toNat v:=rfl
def oQ{y:List α}:af.spl x a y=x.take a.toNat++y++x.drop (a.toNat+y.length):=rfl
theorem my(c:-9223372036854775808<=a)(f:a<=9223372036854775807):IntKind.i64.wrap a=a:=IntWalk.i64_in a ⟨c,f⟩
def an7(c:0<=a)(f:a<=18446744073709551615):IntKind.u64.wrap a=a:=IntWalk.u64_in a ⟨c,f⟩
end
def Kw{n:Int}:IntKind.i64.has n↔ -9223372036854775808<=n/\n<=9223372036854775807:=fM
def aoO{n:Int}:IntKind.u8.has n↔0<=n/\n<=255:=fM
def FQ{b x y:Bool}:(bif b then x else y)=true↔(b=true->x=true)/\(b=false->y=true):=by grind
def z8{b:Bool}{x y r:α}:(bif b then x else y)=r↔(b=true/\x=r)\/(b=false/\y=r):=by grind
def acN{x:α}:tt x=true:=rfl
def LT.OC{R Y:Type}:LT R Y->Bool
 | .br _ t e=>t.OC&&e.OC
 | .ao _ t=>t.OC
 | .eqs _ _=>false
 | _=>true
theorem LT.kG{R Y:Type}:∀{t:LT R Y},t.OC=true->t.Eqs
 | .ret _,_=>trivial
 | .ak _,_=>trivial
 | .br _ t e,h=>by
   rw[LT.OC,eH] at h;exact⟨LT.kG h.1,LT.kG h.2⟩
 | .ao _ t,h=>LT.kG (t:=t) h
 | .and _ _,_=>trivial
 | .bU _ _,_=>trivial
def LT.free{R Y:Type}:LT R Y->Bool
 | .ret _=>true
 | .br _ t e=>t.free&&e.free
 | .eqs _ t=>t.free
 | _=>false
theorem LT.nG{R Y:Type}:∀{t:LT R Y},t.free=true->t.pre=true
 | .ret _,_=>rfl
 | .br b t e,h=>by
   rw[LT.free,eH] at h;rw[LT.pre,LT.nG h.1,LT.nG h.2,Bool.cond_self]
 | .eqs _ t,h=>LT.nG (t:=t) h
def aN{P:Program}{ti:PT TI}(ht:og P ti)(hm:P.follows .mixedOrders=true){g:FuncId}{F:Func}{args res:List Ty}{ll:List<|FuncId×Func}{jK:List<|FuncId×aL}{pre:Ty.Ts args->Bool}{fn:Ty.Ts args->Ty.Ts res}
  (q:Md) (n:Nat) (oW:List Stop) (c:aS->Ty.Ts args->LT (Ty.Ts res) Empty) (k:Kit P ((g,F)::ll) jK [] [] [] [])
  (v:∀x,pre x=true->Ty.kS args x->(c af x).pre=true:=by exact λ_ _ _=>LT.nG<|by kernel_rfl)
  (f:∀x,(c af x).Eqs:=by intro x;exact LT.kG<|by kernel_rfl)
  (p:fits F args.length=true:=by kernel_rfl)
  (j:sP q n (λA=>LU (Aa A res) 0 [] [] [] [] ti ((g,F)::ll) jK [] oW) (λA x=>rT g F<|gL A args x) c Empty.elim:=by intro A x;kernel_rfl)
  (i:∀x,fn x=(c af x).val (Ty.aO res):=by intro x;kernel_rfl):aL.bp P g ⟨args,res,pre,fn,false⟩:=
 cK ht hm q n oW c k (λx u h=>i x▸LT.runs (f x) (v x u h)) p j
def bi.one{R Y:Type}{s:Y->LT R Y}{t:LT R Y}{a:R}(h:bi s t a):∀{b:R},bi s t b->a=b:=by
 induction h with
 | ret r=>exact λk=>BS.1 k
 | ak _ ih=>exact λk=>ih<|aI.1 k
 | br _ ih=>exact λk=>ih<|yZ.1 k
 | ao _ _ ih=>exact λk=>ih (aA.1 k).2
 | eqs _ _ ih=>exact λk=>ih (aaH.1 k).2
 | and _ _ ih _=>exact λk=>by cases k with|and k _=>grind
def LT.ev{R Y:Type}(s:Y->LT R Y):Nat->LT R Y->Option R
 | 0,_=>none
 | n+1,t=>match t with
   | .ret r=>some r
   | .ak y=>LT.ev s n<|s y
   | .br b t e=>bif b then LT.ev s n t else LT.ev s n e
   | .ao b t=>bif b then LT.ev s n t else none
   | _=>none
theorem LT.NR{R Y:Type}{s:Y->LT R Y}:∀{n:Nat} {t:LT R Y} {r:R},LT.ev s n t=some r->bi s t r
 | 0,_,_,h=>by cases h
 | n+1,t,r,h=>by
   cases t with
   | ret q=>cases h;exact .ret _
   | ak y=>exact .ak<|LT.NR (n:=n) h
   | br b t e=>
     cases b
     .exact(al rfl).2 (LT.NR (n:=n) h)
     .exact(ap rfl).2 (LT.NR (n:=n) h)
   | ao b t=>
     cases b
     .cases h
     .exact aA.2 ⟨rfl,LT.NR (n:=n) h⟩
   | eqs _ _=>cases h
   | and _ _=>cases h
   | bU _ _=>cases h
section
variable {R Y:Type} {s:Y->LT R Y} {t e:LT R Y} {d r:R} {P Q:R->Prop} {a b:Int}
noncomputable def gu(s:Y->LT R Y)(t:LT R Y):Bool:=bif (LT.ev s 5000 t).isSome then true else @decide (∃r,bi s t r) (Classical.propDecidable _)
noncomputable def gi(s:Y->LT R Y)(t:LT R Y)(d:R):R:=match LT.ev s 5000 t with
 | some r=>r
 | none=>@dite R (∃r,bi s t r) (Classical.propDecidable _) (λh=>h.choose) λ_=>d
def eO(h:gu s t=true):bi s t<|gi s t d:=by
 unfold gu at h;unfold gi;cases k:LT.ev s 5000 t with
 | some r=>exact LT.NR k
 | none=>
   grind
def TN(h:bi s t r):gu s t=true:=by
 unfold gu
 grind
def Mw(h:bi s t r):gi s t d=r:=(eO<|TN h).one h
def Go(s:Y->LT R Y)(t:LT R Y)(P:R->Prop):Prop:=∃r,bi s t r/\P r
def gm(h:Go s t P):gu s t=true/\P (gi s t d):=h.elim λ_ k=>⟨TN k.1,by rw[Mw k.1];grind⟩
theorem Go.mono(h:Go s t P)(k:∀r,P r->Q r):Go s t Q:=h.elim λr a=>⟨r,a.1,k r a.2⟩
def ay(h:P r):Go s (.ret r) P:=⟨r,.ret _,h⟩
def aP{y:Y}(h:Go s (s y) P):Go s (.ak y) P:=h.elim λr k=>⟨r,.ak k.1,k.2⟩
def aj{b:Bool}(c:b=true)(h:Go s t P):Go s (.ao b t) P:=h.elim λr k=>⟨r,.ao c k.1,k.2⟩
def dO{b:Bool}(c:b=true->Go s t P)(f:b=false->Go s e P):Go s (.br b t e) P:=by
 cases b
 .exact(f rfl).elim λr k=>⟨r,.br k.1,k.2⟩
 .exact(c rfl).elim λr k=>⟨r,.br k.1,k.2⟩
def bH(c:a<b->Go s t P)(f:b<=a->Go s e P):Go s (.br (af.bq a b) t e) P:=
 dO (λh=>c<|of_decide_eq_true (p:=a<b) h) λh=>f<|jG.1<|of_decide_eq_false (p:=a<b) h
def lM(c:b<a->Go s t P)(f:a<=b->Go s e P):Go s (.br (af.jr a b) t e) P:=
 dO (λh=>c<|of_decide_eq_true (p:=a > b) h) λh=>f<|jG.1<|of_decide_eq_false (p:=a > b) h
def Ag(c:a<=b->Go s t P)(f:b<a->Go s e P):Go s (.br (af.bQ a b) t e) P:=
 dO (λh=>c<|of_decide_eq_true (p:=a<=b) h) λh=>f<|Int.not_le.1<|of_decide_eq_false (p:=a<=b) h
def xS(c:b<=a->Go s t P)(f:a<b->Go s e P):Go s (.br (af.qE a b) t e) P:=
 dO (λh=>c<|of_decide_eq_true (p:=a >= b) h) λh=>f<|Int.not_le.1<|of_decide_eq_false (p:=a >= b) h
def dJ(c:a=b->Go s t P)(f:¬a=b->Go s e P):Go s (.br (af.bG a b) t e) P:=
 dO (λh=>c<|eq_of_beq (a:=a) (b:=b) h) λh=>f (λk=>by rw[k] at h;exact absurd h<|by simp[bf])
def dD(c:¬a=b->Go s t P)(f:a=b->Go s e P):Go s (.br (af.cm a b) t e) P:=
 dO (λh=>c<|by simpa [b_] using h) λh=>f (by simpa [b_] using h)
def dG{c:Bool}(f:c=false->Go s t P)(h:c=true->Go s e P):Go s (.br (af.not c) t e) P:=by
 cases c
 .exact dO (λ_=>f rfl) nofun
 .exact dO nofun λ_=>h rfl
end
def vi(x:Int):AV:=.int .i64 false x
def vb(x:Bool):AV:=.bool false x
def dc(t:Ty)(x:t.T):List AV:=lH af t x
def en(l:List<|Nat×AV):Env:=l.foldl (λe p=>e.put p.1 p.2) .leaf
def blZ:Nat->Nat->List Nat->List Nat
 | 0,_,a=>a
 | f+1,n,a=>bif n.ble 1 then a else blZ f (n/2) (n%2::a)
def cw(F:Func)(w:Nat):Code:=Code.way (PN F)<|blZ 99 w []
def sk(F:Func)(w:Nat):List dT:=stk (PN F) (blZ 99 w []) []
def ow(F:Func)(w:Nat):Array Oper:=opsOf<|Code.way (PN F)<|blZ 99 w []
abbrev yI:Ty:=.int .i64
abbrev yU:Ty:=.int .u8
abbrev yB:Ty:=.slice yU
abbrev Ce:Ty:=.slice yI
def fRZ (f n:Nat) (e:List<|Nat×AV) (t:List dT):dI:=⟨f,n,en e,t,[],none⟩
def iN (f n:Nat) (e:List<|Nat×AV) (F:Func) (w:Nat):dI:=fRZ f n e<|sk F w
def vh (f n:Nat) (e:List<|Nat×AV) (F:Func) (w:Nat):dI:=fRZ f n e<|.code (cw F w)::sk F w
def oDZ (F:Func) (w k:Nat):dT:=.ops (ow F w)<|(ow F w).toList.drop k
def Jr (f n:Nat) (e:List<|Nat×AV) (F:Func) (w k:Nat):dI:=fRZ f n e<|oDZ F w k::sk F w
def fDZ (f n:Nat) (e:List<|Nat×AV) (F:Func) (w k:Nat):dI:=fRZ f n e [oDZ F w k]
def pZ (k:Nat):AV:=.ptr k 0
def iZ (n:Int):AV:=.int .i64 true n
def uZ (n:Int):AV:=.int .u32 false n
def gZ (l:List AV):iM:=.cH false l
def vZ (n:Int):iM:=gZ [vi n]
def dZ (t:Ty) (x:t.T):iM:=gZ<|dc t x
def aZ (t:Ty) (x:List t.T):iM:=.arr false t x
abbrev LT.g_ {R Y:Type} (A:aS) {τ:Type} (i:Int) (l:List τ) (t:LT R Y):LT R Y:=.ao (A.and (A.bQ 0 i)<|A.bq i<|A.l l) t
abbrev LT.qj {R Y:Type} (A:aS) {τ:Type} (l:List τ) (t:LT R Y):LT R Y:=.ao (A.cm (A.l l) 0) t
def Fh{R Y:Type}{s:Y->LT R Y}{t:LT R Y}{d:R}{b:Bool}(h:(gu s t&&b)=true):bi s t<|gi s t d:=eO ((Bool.and_eq_true _ _).mp h).1
def Cf{a:Bool}{p:Prop}[Decidable p](h:(a&&decide p)=true):p:=of_decide_eq_true ((Bool.and_eq_true _ _).mp h).2
end Go.Ev
