/-
  PROVED: the evaluator: operations that make and write memory, control, calls by contract. Conditions: the type table, the functions and the contracts fit the program.
-/
import Derived.Test.YtjceiokllpmnkaaGreatEvA
import Derived.Laws.CopyRow
import Derived.Laws.MakeOwn
import Derived.Laws.Append
import Derived.Laws.NewBlocks
import Derived.Laws.BytesString
import Derived.RangeFuncRecord
set_option linter.unusedVariables false
set_option linter.unusedSimpArgs false
set_option linter.unusedSectionVars false
namespace Go.Ev
theorem Mem.iC{m:Mem}{b:iJ}{i:Nat}(h:i<m.length):Mem.at (m ++ [b]) i=m.at i:=by
 simp[Mem.at,List.getD_eq_getElem?_getD,List.getElem?_append_left h]
theorem Mem.dp{m:Mem}{b:iJ}:Mem.at (m ++ [b]) m.length=b:=by
 simp[Mem.at,List.getD_eq_getElem?_getD]
theorem Mem.D4{m:Mem}{i:Nat}(h:m.length≤i):m.at i=.bad:=by
 simp[Mem.at,List.getD_eq_getElem?_getD,List.getElem?_eq_none h]
theorem Mem.nq{m:Mem}{i:Nat}(h:m.at i≠.bad):i<m.length:=by
 rcases Nat.lt_or_ge i m.length with h'|h'
 ·exact h'
 ·exact absurd (Mem.D4 h') h
theorem Mem.kI{m:Mem}{i:Nat}(h:(m.at i).bJ=true):i<m.length:=
 Mem.nq fun e=>by rw[e] at h;cases h
theorem Mem.il{m:Mem}{b:iJ}{i:Nat}:Mem.at (m ++ [b]) i=if i=m.length then b else m.at i:=by
 by_cases h:i=m.length
 ·subst h;rw[if_pos rfl,Mem.dp]
 ·rw[if_neg h]
  rcases Nat.lt_or_ge i m.length with h'|h'
  ·exact Mem.iC h'
  ·rw[Mem.D4 h',Mem.D4 (by simp;omega)]
theorem Mem.at_set{m:Mem}{b:iJ}{i j:Nat}(hi:i<m.length):Mem.at (m.set i b) j=if j=i then b else m.at j:=by
 simp only[Mem.at,List.getD_eq_getElem?_getD,List.getElem?_set]
 by_cases h:i=j
 ·subst h;simp[hi]
 ·rw[if_neg h,if_neg (Ne.symm h)]
theorem cJ{b:iJ}(h:b≠.bad):dL b b:=by
 cases b<;>first|exact absurd rfl h|trivial|rfl|exact⟨rfl,rfl,rfl⟩
theorem sR{a b c:iJ}(h1:dL a b)(h2:dL b c):dL a c:=by
 cases a<;>cases b<;>cases c<;>first|exact h1.elim|exact h2.elim|trivial|skip
 ·exact Eq.trans h2 h1
 ·obtain⟨rfl,e1,_⟩:=h1
  obtain⟨rfl,e2,_⟩:=h2
  exact⟨rfl,e2.trans e1,rfl⟩
theorem wC{a:iJ}(h:dL a .bad):False:=by cases a<;>exact h.elim
theorem bw.refl{w:World}{S:St}{m:Mem}:bw w S m w S m:=
 ⟨fun _ h=>⟨h,rfl⟩,fun _ hb=>⟨cJ hb,fun _=>⟨rfl,rfl,fun us T fr h=>⟨us,T,fr,h,rfl⟩⟩⟩,fun _ h=>h⟩
theorem bw.trans{w w1 w2:World}{S S1 S2:St}{m m1 m2:Mem}(h1:bw w S m w1 S1 m1)(h2:bw w1 S1 m1 w2 S2 m2):bw w S m w2 S2 m2:=by
 refine⟨fun b hb=>?_,fun id hb=>?_,fun id h=>h2.ctl id (h1.ctl id h)⟩
 ·obtain⟨a1,a2⟩:=h1.lG b hb
  obtain⟨b1,b2⟩:=h2.lG b a1
  exact⟨b1,b2.trans a2⟩
 ·obtain⟨k1,c1⟩:=h1.box id hb
  obtain⟨k2,c2⟩:=h2.box id (fun e=>wC (e▸k1))
  refine⟨sR k1 k2,fun hd=>?_⟩
  have hd1:m1.at id≠.dead:=fun e=>by
   rw[e] at k2
   cases hm:m2.at id<;>rw[hm] at k2 hd<;>first|exact k2.elim|exact hd rfl
  obtain⟨s1,d1,f1⟩:=c1 hd1
  obtain⟨s2,d2,f2⟩:=c2 hd
  refine⟨s2.trans s1,d2.trans d1,fun us T fr h=>?_⟩
  obtain⟨us1,T1,fr1,g1,z1⟩:=f1 us T fr h
  obtain⟨us2,T2,fr2,g2,z2⟩:=f2 us1 T1 fr1 (by rw[s1];exact g1)
  exact⟨us2,T2,fr2,by rw[s1] at g2;exact g2,z2.trans z1⟩
theorem yq.mono{w:World}{S:St}{m:Mem}{w':World}{S':St}{m':Mem}(h:bw w S m w' S' m'){r:yl}{l:Loop}(hl:yq w S m r l):yq w' S' m' r l:=by
 obtain⟨h1,h2,h3,h4,h5,h6,h7,h8⟩:=hl
 exact⟨h1,h2,h3,h4,h5,h6,h7,fun i=>(h8 i).mono h⟩
theorem nN.mono{w:World}{S:St}{m:Mem}{w':World}{S':St}{m':Mem}(h:bw w S m w' S' m'){id:Nat}(hs:S'.σ id=S.σ id)(hd:S'.δ id=S.δ id)(hh:w'.heap[S.σ id]? = w.heap[S.σ id]?) :
  ∀{b:iJ},nN w S m id b→nN w' S' m' id b
 | .bad,_=>trivial
 | .dead,_=>trivial
 | .yS,_=>trivial
 | .flat fz cs,hb=>by
   obtain⟨us,T,fr,h1,h2,h3⟩:=hb
   exact⟨us,T,fr,by rw[hs,hh];exact h1,h2,h3.mono h⟩
 | .arr fz t x,hb=>by
   obtain⟨h0,us,T,fr,h1,h2,h3,h4⟩:=hb
   exact⟨h0,us,T,fr,by rw[hs,hh];exact h1,h2,by rw[hd];exact h3,fun i y hy=>by rw[hd];exact(h4 i y hy).mono h.lG⟩
 | .loop r,hb=>by
   obtain⟨l,h1,h2⟩:=hb
   exact⟨l,by rw[hs,hh];exact h1,h2.mono h⟩
 | .wS,hb=>by
   have hb:w.heap[S.σ id]? = some (.deferred (some [])):=hb
   show w'.heap[S'.σ id]? = _
   rw[hs,hh];exact hb
theorem rZ.mono{w:World}{S:St}{m:Mem}{w':World}{S':St}{m':Mem}(h:bw w S m w' S' m'){n:Nat}{a:aR}{it:Item}(hl:match a with | .gI id=>(m.at id).ed=true | .fS id=>(m.at id).ed=true|_=>True)
  (hi:rZ n S a it):rZ n S' a it:=by
 have key:∀id,(m.at id).ed=true→S'.σ id=S.σ id:=fun id hc=>by
  have h1:=h.ctl id hc
  refine((h.box id fun e=>by rw[e] at hc;cases hc).2 fun e=>by rw[e] at h1;cases h1).1
 cases a<;>first|exact hi|(rw[rZ] at hi ⊢;rw[key _ hl];exact hi)
theorem bQ.mono{w:World}{S:St}{m:Mem}{w':World}{S':St}{m':Mem}(h:bw w S m w' S' m'):∀{n:Nat} {l:List aR} {k:List Item},bo m l→bQ n S l k→bQ n S' l k
 | _, [],k,_,ht=>ht
 | _,a::l,k,hl,ht=>by
   obtain⟨it,k',e,h1,h2⟩:=ht
   exact⟨it,k',e,h1.mono h (hl a List.mem_cons_self),bQ.mono h (fun b hb=>hl b (List.mem_cons_of_mem _ hb)) h2⟩
theorem bo.mono{w:World}{S:St}{m:Mem}{w':World}{S':St}{m':Mem}(h:bw w S m w' S' m'){l:List aR}(hl:bo m l):bo m' l:=by
 intro a ha
 have:=hl a ha
 cases a<;>first|exact h.ctl _ this|trivial
theorem oU{w:World}{S:St}{m:Mem}{w':World}{S':St}{m':Mem}(h:bw w S m w' S' m'){id:Nat}(hc:(m.at id).ed=true):S'.σ id=S.σ id:=by
 have h1:=h.ctl id hc
 exact((h.box id fun e=>by rw[e] at hc;cases hc).2 fun e=>by rw[e] at h1;cases h1).1
theorem FR.mono{w:World}{S:St}{m:Mem}{w':World}{S':St}{m':Mem}(h:bw w S m w' S' m'){f:aH}{fr:Frame}(hf:FR w S m f fr):FR w' S' m' f fr:=by
 refine⟨hf.fn,hf.n,hf.small,fun i hi=>(hf.env i hi).mono h,hf.todo.mono h hf.live,hf.live.mono h,hf.flat,?_,fun d hd=>h.ctl d (hf.marks d hd),hf.mode,hf.kind,?_,fun l hl=>h.ctl l (hf.jR l hl)⟩
 ·rw[hf.defers]
  exact List.map_congr_left fun d hd=>by rw[oU h (hf.marks d hd)]
 ·rw[hf.aU]
  cases hr:f.aU with
  | none=>rfl
  | some l=>simp[oU h (hf.jR l hr)]
theorem r9.mono{w:World}{S:St}{m:Mem}{w':World}{S':St}{m':Mem}(h:bw w S m w' S' m'):∀{fs:List aH} {l:List Frame},r9 w S m fs l→r9 w' S' m' fs l
 | [],l,hf=>hf
 | f::fs,l,hf=>by
   obtain⟨fr,r,e,h1,h2⟩:=hf
   exact⟨fr,r,e,h1.mono h,r9.mono h h2⟩
def St.push(S:St)(id b d:Nat)(fz:Bool):St:=
 {σ:=fun i=>if i=id then b else S.σ i,δ:=fun i=>if i=id then d else S.δ i,I:=fun x=>S.I x∨(fz=true∧x=b)}
theorem fo{w0 w:World}{S:St}{m:Mem}(hW:WR w0 w S m)(o:Obj)(bx:iJ)(d:Nat)(fz:Bool):bw w S m (w.alloc o) (S.push m.length w.heap.size d fz) (m ++ [bx]):=by
 have hheap:∀b,b<w.heap.size→(w.alloc o).heap[b]? = w.heap[b]? :=fun b hb=>heap_alloc_old w o b hb
 refine⟨fun b hb=>⟨.inl hb,hheap b (hW.lG b hb)⟩,fun id hb=>?_,fun id hc=>?_⟩
 ·have hlt:=Mem.nq hb
  rw[Mem.iC hlt]
  refine⟨cJ hb,fun hd=>?_⟩
  refine⟨if_neg (by omega),if_neg (by omega),fun us T fr h=>⟨us,T,fr,?_,rfl⟩⟩
  rw[hheap _ (Array.getElem?_eq_some_iff.1 h).1];exact h
 ·have hlt:id<m.length:=Mem.nq fun e=>by rw[e] at hc;cases hc
  rw[Mem.iC hlt];exact hc
theorem WR.push{w0 w:World}{S:St}{m:Mem}(hW:WR w0 w S m){o:Obj}{bx:iJ}{d:Nat}(hlive:bx.bJ=true)
  (hb:nN (w.alloc o) (S.push m.length w.heap.size d bx.jA) (m ++ [bx]) m.length bx):WR w0 (w.alloc o) (S.push m.length w.heap.size d bx.jA) (m ++ [bx]):=by
 have hO:=fo hW o bx d bx.jA
 have hheap:∀b,b<w.heap.size→(w.alloc o).heap[b]? = w.heap[b]? :=fun b hb=>heap_alloc_old w o b hb
 refine⟨hW.os,hW.tape,hW.output,by rw[World.size_alloc];have:=hW.size;omega,fun b hb=>?_,fun b hb=>?_,fun id=>?_,fun id id' h1 h2 he=>?_,fun id h=>?_,fun id h h'=>?_,fun id h=>?_⟩
 ·rw[hheap b (by have:=hW.size;omega)];exact hW.base b hb
 ·rw[World.size_alloc]
  rcases hb with hb|⟨_,rfl⟩
  ·have:=hW.lG b hb;omega
  ·omega
 ·by_cases hi:id=m.length
  ·subst hi;rw[Mem.dp];exact hb
  ·have h0:=hW.box id
   rw[Mem.il,if_neg hi]
   cases hm:m.at id
   case bad=>trivial
   case dead=>trivial
   case yS=>trivial
   all_goals
    have hl:(m.at id).bJ=true:=by rw[hm];rfl
    rw[←hm]
    exact h0.mono hO (if_neg hi) (if_neg hi) (hheap _ (hW.lo id hl).2)
 ·rw[Mem.il] at h1 h2
  simp only[St.push] at he
  by_cases hi:id=m.length<;>by_cases hi':id'=m.length
  ·rw[hi,hi']
  ·rw[if_pos hi,if_neg hi'] at he;rw[if_neg hi'] at h2
   have:=(hW.lo id' h2).2;omega
  ·rw[if_neg hi,if_pos hi'] at he;rw[if_neg hi] at h1
   have:=(hW.lo id h1).2;omega
  ·rw[if_neg hi,if_neg hi'] at he;rw[if_neg hi] at h1;rw[if_neg hi'] at h2
   exact hW.inj id id' h1 h2 he
 ·rw[Mem.il] at h
  simp only[St.push,World.size_alloc]
  by_cases hi:id=m.length
  ·rw[if_pos hi];exact⟨hW.size,by omega⟩
  ·rw[if_neg hi] at h ⊢
   have:=hW.lo id h;exact⟨this.1,by omega⟩
 ·rw[Mem.il] at h h'
  simp only[St.push]
  by_cases hi:id=m.length
  ·rw[if_pos hi] at h' ⊢
   rintro (hI|⟨hf,_⟩)
   ·have:=hW.lG _ hI;omega
   ·rw[hf] at h';cases h'
  ·rw[if_neg hi] at h h' ⊢
   rintro (hI|⟨_,he⟩)
   ·exact hW.qs id h h' hI
   ·have:=(hW.lo id h).2;omega
 ·rw[Mem.il] at h
  simp only[St.push]
  by_cases hi:id=m.length
  ·rw[if_pos hi] at h ⊢;exact .inr ⟨h,rfl⟩
  ·rw[if_neg hi] at h ⊢;exact .inl (hW.xg id h)
structure nk(w w':World)(b:Nat):Prop where
 os:w'.os=w.os
 tape:w'.tape=w.tape
 output:w'.output=w.output
 size:w'.heap.size=w.heap.size
 other:∀b',b'≠b→w'.heap[b']? = w.heap[b']?
 cells:∀us T fr,w.heap[b]? = some (.cells us T fr)→∃us' T' fr',w'.heap[b]? = some (.cells us' T' fr')∧us'.size=us.size
theorem eX{w0 w w':World}{S:St}{m:Mem}(hW:WR w0 w S m){id:Nat}{bx:iJ}(hl:(m.at id).bJ=true)(hm:(m.at id).jA=false)(hk:dL (m.at id) bx)
  (hc:(m.at id).ed=true→bx.ed=true) (ht:nk w w' (S.σ id)):bw w S m w' S (m.set id bx):=by
 have hlt:=Mem.kI hl
 refine⟨fun b hb=>⟨hb,ht.other b fun e=>hW.qs id hl hm (e▸hb)⟩,fun j hj=>?_,fun j hj=>?_⟩
 ·rw[Mem.at_set hlt]
  by_cases he:j=id
  ·subst he
   rw[if_pos rfl]
   exact⟨hk,fun _=>⟨rfl,rfl,ht.cells⟩⟩
  ·rw[if_neg he]
   refine⟨cJ hj,fun hd=>⟨rfl,rfl,fun us T fr h=>?_⟩⟩
   by_cases heq:S.σ j=S.σ id
   ·rw[heq] at h ⊢;exact ht.cells us T fr h
   ·exact⟨us,T,fr,by rw[ht.other _ heq];exact h,rfl⟩
 ·rw[Mem.at_set hlt]
  by_cases he:j=id
  ·subst he;rw[if_pos rfl];exact hc hj
  ·rw[if_neg he];exact hj
theorem WR.set{w0 w w':World}{S:St}{m:Mem}(hW:WR w0 w S m){id:Nat}{bx:iJ}(hl:(m.at id).bJ=true)(hm:(m.at id).jA=false)(hk:dL (m.at id) bx)
  (hc:(m.at id).ed=true→bx.ed=true) (hf:bx.jA=false) (ht:nk w w' (S.σ id)) (hb:nN w' S (m.set id bx) id bx):WR w0 w' S (m.set id bx):=by
 have hO:=eX hW hl hm hk hc ht
 have hlt:=Mem.kI hl
 have hlo:=hW.lo id hl
 have live:∀j,(Mem.at (m.set id bx) j).bJ=true→(m.at j).bJ=true:=fun j h=>by
  rw[Mem.at_set hlt] at h
  by_cases he:j=id
  ·subst he;exact hl
  ·rw[if_neg he] at h;exact h
 refine⟨ht.os.trans hW.os,ht.tape.trans hW.tape,ht.output.trans hW.output,by rw[ht.size];exact hW.size,fun b hb=>?_,fun b hb=>by rw[ht.size];exact hW.lG b hb,fun j=>?_,fun i j h1 h2 he=>hW.inj i j (live i h1) (live j h2) he,
  fun j h=>by rw[ht.size];exact hW.lo j (live j h),fun j h h'=>?_,fun j h=>?_⟩
 ·rw[ht.other b (by omega)];exact hW.base b hb
 ·by_cases he:j=id
  ·subst he;rw[Mem.at_set hlt,if_pos rfl];exact hb
  ·have h0:=hW.box j
   rw[Mem.at_set hlt,if_neg he]
   cases hmj:m.at j
   case bad=>trivial
   case dead=>trivial
   case yS=>trivial
   all_goals
    have hlj:(m.at j).bJ=true:=by rw[hmj];rfl
    rw[←hmj]
    exact h0.mono hO rfl rfl (ht.other _ fun e=>he (hW.inj j id hlj hl e))
 ·rw[Mem.at_set hlt] at h h'
  by_cases he:j=id
  ·subst he;exact hW.qs j hl hm
  ·rw[if_neg he] at h h';exact hW.qs j h h'
 ·rw[Mem.at_set hlt] at h
  by_cases he:j=id
  ·subst he;rw[if_pos rfl] at h;rw[hf] at h;cases h
  ·rw[if_neg he] at h;exact hW.xg j h
theorem nk.none(w:World)(b:Nat):nk w w b:=⟨rfl,rfl,rfl,rfl,fun _ _=>rfl,fun us T fr h=>⟨us,T,fr,h,rfl⟩⟩
def St.xg(S:St)(b:Nat):St:={S with I:=fun x=>S.I x∨x=b}
theorem ll{w0 w:World}{S:St}{m:Mem}(hW:WR w0 w S m){id:Nat}{fz:Bool}{t:Ty}{x:List t.T}(hm:m.at id=.arr fz t x):bw w S m w (S.xg (S.σ id)) (m.set id (.arr true t x)):=by
 have hlt:id<m.length:=Mem.nq fun e=>by rw[e] at hm;cases hm
 refine⟨fun b hb=>⟨.inl hb,rfl⟩,fun j hj=>?_,fun j hj=>?_⟩
 ·rw[Mem.at_set hlt]
  by_cases he:j=id
  ·subst he;rw[if_pos rfl,hm];exact⟨⟨rfl,rfl,rfl⟩,fun _=>⟨rfl,rfl,fun us T fr h=>⟨us,T,fr,h,rfl⟩⟩⟩
  ·rw[if_neg he];exact⟨cJ hj,fun _=>⟨rfl,rfl,fun us T fr h=>⟨us,T,fr,h,rfl⟩⟩⟩
 ·rw[Mem.at_set hlt]
  by_cases he:j=id
  ·subst he;rw[hm] at hj;cases hj
  ·rw[if_neg he];exact hj
theorem WR.freeze{w0 w:World}{S:St}{m:Mem}(hW:WR w0 w S m){id:Nat}{fz:Bool}{t:Ty}{x:List t.T}(hm:m.at id=.arr fz t x):WR w0 w (S.xg (S.σ id)) (m.set id (.arr true t x)):=by
 have hO:=ll hW hm
 have hlt:id<m.length:=Mem.nq fun e=>by rw[e] at hm;cases hm
 have hl:(m.at id).bJ=true:=by rw[hm];rfl
 have live:∀j,(Mem.at (m.set id (.arr true t x)) j).bJ=true→(m.at j).bJ=true:=fun j h=>by
  rw[Mem.at_set hlt] at h
  by_cases he:j=id
  ·subst he;exact hl
  ·rw[if_neg he] at h;exact h
 refine⟨hW.os,hW.tape,hW.output,hW.size,hW.base,fun b hb=>?_,fun j=>?_,fun i j h1 h2 he=>hW.inj i j (live i h1) (live j h2) he,fun j h=>hW.lo j (live j h),fun j h h'=>?_,fun j h=>?_⟩
 ·rcases hb with hb|rfl
  ·exact hW.lG b hb
  ·exact(hW.lo id hl).2
 ·have h0:=hW.box j
  rw[Mem.at_set hlt]
  by_cases he:j=id
  ·subst he
   rw[if_pos rfl]
   rw[hm] at h0
   exact(nN.mono hO (id:=j) (b:=.arr fz t x) rfl rfl rfl h0:nN w (S.xg (S.σ j)) (m.set j (.arr true t x)) j (.arr fz t x))
  ·rw[if_neg he];exact h0.mono hO rfl rfl rfl
 ·rw[Mem.at_set hlt] at h h'
  by_cases he:j=id
  ·subst he;rw[if_pos rfl] at h';cases h'
  ·rw[if_neg he] at h h'
   rintro (hI|he')
   ·exact hW.qs j h h' hI
   ·exact he (hW.inj j id h hl he')
 ·rw[Mem.at_set hlt] at h
  by_cases he:j=id
  ·subst he;exact .inr rfl
  ·rw[if_neg he] at h;exact .inl (hW.xg j h)
theorem fM{w0 w:World}{S:St}{m:Mem}(hW:WR w0 w S m){id:Nat}{fz:Bool}{cs cs1:List AV}(hm:m.at id=.flat fz cs)(hl:cs1.length=cs.length):bw w S m w (S.xg (S.σ id)) (m.set id (.flat true cs1)):=by
 have hlt:id<m.length:=Mem.nq fun e=>by rw[e] at hm;cases hm
 refine⟨fun b hb=>⟨.inl hb,rfl⟩,fun j hj=>?_,fun j hj=>?_⟩
 ·rw[Mem.at_set hlt]
  by_cases he:j=id
  ·subst he;rw[if_pos rfl,hm];exact⟨hl,fun _=>⟨rfl,rfl,fun us T fr h=>⟨us,T,fr,h,rfl⟩⟩⟩
  ·rw[if_neg he];exact⟨cJ hj,fun _=>⟨rfl,rfl,fun us T fr h=>⟨us,T,fr,h,rfl⟩⟩⟩
 ·rw[Mem.at_set hlt]
  by_cases he:j=id
  ·subst he;rw[hm] at hj;cases hj
  ·rw[if_neg he];exact hj
theorem WR.tG{w0 w:World}{S:St}{m:Mem}(hW:WR w0 w S m){id:Nat}{fz:Bool}{cs cs1:List AV}(hm:m.at id=.flat fz cs)(hln:cs1.length=cs.length){us:Array Value}{T:TypeId}{fr:Nat×Nat}(hh:w.heap[S.σ id]? = some (.cells us T fr))(hu:rU fr us.size)(hc:bF w S m cs1 us.toList) :
  WR w0 w (S.xg (S.σ id)) (m.set id (.flat true cs1)):=by
 have hO:=fM hW hm hln
 have hlt:id<m.length:=Mem.nq fun e=>by rw[e] at hm;cases hm
 have hl:(m.at id).bJ=true:=by rw[hm];rfl
 have live:∀j,(Mem.at (m.set id (.flat true cs1)) j).bJ=true→(m.at j).bJ=true:=fun j h=>by
  rw[Mem.at_set hlt] at h
  by_cases he:j=id
  ·subst he;exact hl
  ·rw[if_neg he] at h;exact h
 refine⟨hW.os,hW.tape,hW.output,hW.size,hW.base,fun b hb=>?_,fun j=>?_,fun i j h1 h2 he=>hW.inj i j (live i h1) (live j h2) he,fun j h=>hW.lo j (live j h),fun j h h'=>?_,fun j h=>?_⟩
 ·rcases hb with hb|rfl
  ·exact hW.lG b hb
  ·exact(hW.lo id hl).2
 ·have h0:=hW.box j
  rw[Mem.at_set hlt]
  by_cases he:j=id
  ·subst he
   rw[if_pos rfl]
   exact⟨us,T,fr,hh,hu,hc.mono hO⟩
  ·rw[if_neg he];exact h0.mono hO rfl rfl rfl
 ·rw[Mem.at_set hlt] at h h'
  by_cases he:j=id
  ·subst he;rw[if_pos rfl] at h';cases h'
  ·rw[if_neg he] at h h'
   rintro (hI|he')
   ·exact hW.qs j h h' hI
   ·exact he (hW.inj j id h hl he')
 ·rw[Mem.at_set hlt] at h
  by_cases he:j=id
  ·subst he;exact .inr rfl
  ·rw[if_neg he] at h;exact .inl (hW.xg j h)
end Go.Ev
namespace Go.Ev
def nP(w0:World)(S S':St):Prop:=∀b,S'.I b→S.I b∨w0.heap.size≤b
theorem nP.refl{w0:World}{S:St}:nP w0 S S:=fun _ h=>.inl h
theorem nP.trans{w0:World}{S S1 S2:St}(h1:nP w0 S S1)(h2:nP w0 S1 S2):nP w0 S S2:=fun b h=>(h2 b h).elim (h1 b) .inr
structure Step(w0 w:World)(S:St)(m:Mem)(w':World)(S':St)(m':Mem):Prop where
 wr:WR w0 w' S' m'
 out:bw w S m w' S' m'
 grows:nP w0 S S'
theorem Step.trans{w0 w w1 w2:World}{S S1 S2:St}{m m1 m2:Mem}(h1:Step w0 w S m w1 S1 m1)(h2:Step w0 w1 S1 m1 w2 S2 m2):Step w0 w S m w2 S2 m2:=
 ⟨h2.wr,h1.out.trans h2.out,h1.grows.trans h2.grows⟩
theorem Step.refl{w0 w:World}{S:St}{m:Mem}(h:WR w0 w S m):Step w0 w S m w S m:=⟨h,.refl,.refl⟩
theorem Step.push{w0 w:World}{S:St}{m:Mem}(hW:WR w0 w S m){o:Obj}{bx:iJ}{d:Nat}(hlive:bx.bJ=true)
  (hb:nN (w.alloc o) (S.push m.length w.heap.size d bx.jA) (m ++ [bx]) m.length bx):Step w0 w S m (w.alloc o) (S.push m.length w.heap.size d bx.jA) (m ++ [bx]):=
 ⟨hW.push hlive hb,fo hW o bx d _,fun _ h=>by
  rename_i b
  rcases h with h|⟨_,rfl⟩
  ·exact .inl h
  ·exact .inr hW.size⟩
theorem WR.drew{w0 w:World}{S:St}{m:Mem}(h:WR w0 w S m):WR w0 w.drew S m:=
 ⟨h.os,h.tape,h.output,h.size,h.base,h.lG,fun id=>by
  have:=h.box id
  exact nN.mono (w:=w) (w':=w.drew) (S:=S) (S':=S) (m:=m) (m':=m) ⟨fun b hb=>⟨hb,rfl⟩,fun _ hb=>⟨cJ hb,fun _=>⟨rfl,rfl,fun us T fr h=>⟨us,T,fr,h,rfl⟩⟩⟩,fun _ h=>h⟩ rfl rfl rfl this,
  h.inj,h.lo,h.qs,h.xg⟩
theorem Step.drew{w0 w:World}{S:St}{m:Mem}(h:WR w0 w S m):Step w0 w S m w.drew S m:=
 ⟨h.drew,⟨fun _ hb=>⟨hb,rfl⟩,fun _ hb=>⟨cJ hb,fun _=>⟨rfl,rfl,fun us T fr h=>⟨us,T,fr,h,rfl⟩⟩⟩,fun _ h=>h⟩,.refl⟩
section
variable {P:Program} {w0 w:World} {S:St} {m:Mem}
theorem ia(hW:WR w0 w S m){id:Nat}{fz:Bool}{t:Ty}{x:List t.T}(hm:m.at id=.arr fz t x){I:Nat→Prop}(hI:I (S.σ id))(hII:∀b,S.I b→I b)
  {l n cap:Nat} {a:Option Addr} (hl:l+n≤x.length) (hn:n≤cap) (ha:a=none→cap=0) (hne:n≠0→a=some ⟨S.σ id,S.δ id+l*t.size,none⟩) :
  aP w I (.slice t) [.slice a n cap] ((x.take (l+n)).drop l):=by
 have hb:=hW.box id
 rw[hm] at hb
 obtain⟨hlm,us,T,fr,h1,h2,h3,h4⟩:=hb
 have hlen:((x.take (l+n)).drop l).length=n:=by simp;omega
 refine bA.2 ⟨a,cap,by rw[hlen],by rw[hlen];exact hn,by rw[hlen];omega,ha,fun i y hy=>?_⟩
 rw[List.getElem?_drop,List.getElem?_take] at hy
 split at hy
 ·rename_i hlt
  have h5:=h4 _ _ hy
  refine⟨_,_,_,hne (by omega),hI,h5.length,?_,aP.mono (fun b hb=>⟨hII b hb,rfl⟩) t h5⟩
  have e:S.δ id+l*t.size+i*t.size=S.δ id+(l+i)*t.size:=by rw[Nat.add_mul];omega
  rw[e]
  exact dN h1 _ _
 ·cases hy
theorem nO{α:Type}{x:List α}{l n:Nat}:ai.s x (l:Int) ((l+n:Nat):Int)=(x.take (l+n)).drop l:=by
 show(x.take ((l+n:Nat):Int).toNat).drop (l:Int).toNat=_
 rw[Int.toNat_natCast,Int.toNat_natCast]
theorem dn:∀{cs:List AV} {m m1:Mem} {cs1:List AV} {S:St} {us:List Value},WR w0 w S m→bG ai m cs=some (m1,cs1)→bF w S m cs us→
  ∃S1,Step w0 w S m w S1 m1∧bF w S1 m1 cs1 us
 | [],m,m1,cs1,S,us,hW,h,hc=>by
   cases h
   exact⟨S,.refl hW,hc⟩
 | v::vs,m,m1,cs1,S,us,hW,h,hc=>by
   obtain⟨u,r,rfl,hv,hr⟩:=hc.cons_inv
   have key:∀{m2:Mem} {v2:AV} {S2:St},Step w0 w S m w S2 m2→CR w S2 m2 v2 u→(match bG ai m2 vs with|none=>none|some (m,vs)=>some (m,v2::vs))=some (m1,cs1)→
     ∃S1,Step w0 w S m w S1 m1∧bF w S1 m1 cs1 (u::r):=by
    intro m2 v2 S2 hs hv2 h
    cases hf:bG ai m2 vs with
    | none=>rw[hf] at h;cases h
    | some p=>
      obtain⟨m3,vs3⟩:=p
      rw[hf] at h
      cases h
      obtain⟨S3,h1,h2⟩:=dn hs.wr hf (hr.mono hs.out)
      exact⟨S3,hs.trans h1,bY.2 ⟨u,r,rfl,hv2.mono h1.out,h2⟩⟩
   have same:(match bG ai m vs with|none=>none|some (m,vs)=>some (m,v::vs))=some (m1,cs1)→∃S1,Step w0 w S m w S1 m1∧bF w S1 m1 cs1 (u::r):=key (.refl hW) hv
   have lq:∀{id:Nat} {fz:Bool} {t:Ty} {x:List t.T},m.at id=.arr fz t x→Step w0 w S m w (S.xg (S.σ id)) (m.set id (.arr true t x)):=by
    intro id fz t x hm
    refine⟨hW.freeze hm,ll hW hm,fun b hb=>?_⟩
    rcases hb with hb|rfl
    ·exact .inl hb
    ·exact .inr (hW.lo id (by rw[hm];rfl)).1
   unfold bG at h
   cases v<;>(try exact same h)
   case own id=>
    simp only at h
    have hc:=hv
    rw[CR] at hc
    cases hm:m.at id<;>rw[hm] at h hc<;>(try simp only at hc h)<;>try (cases h;done)
    rename_i fz t x
    obtain⟨cap,rfl,h1,_⟩:=hc
    refine key (lq hm) (iz.2 ?_) h
    have hb:=ia hW hm (I:=(S.xg (S.σ id)).I) (.inr rfl) (fun b hb=>.inl hb) (l:=0) (n:=x.length) (cap:=cap) (a:=some ⟨S.σ id,S.δ id,none⟩) (by omega) h1 (fun h=>by cases h) (fun _=>by simp)
    simpa using hb
   case jD id sz c lo len=>
    simp only at h
    have hc:=hv
    rw[CR] at hc
    cases hm:m.at id<;>rw[hm] at h hc<;>(try simp only at hc h)<;>try (cases h;done)
    rename_i fz t x
    obtain⟨l,n,cap,a,rfl,rfl,rfl,h4,h5,h6,rfl,h8⟩:=hc
    have hlm:x.length≤cY:=by have:=hW.box id;rw[hm] at this;exact this.1
    rw[bX] at hlm
    refine key (lq hm) (iz.2 ?_) h
    have hb:=ia hW hm (I:=(S.xg (S.σ id)).I) (.inr rfl) (fun b hb=>.inl hb) h4 h5 h6 h8
    have e:ai.b .add .i64 (l:Int) (n:Int)=((l+n:Nat):Int):=by
     show IntKind.i64.wrap _=_
     rw[wrap_small (by omega) (by omega)];omega
    rw[e,nO]
    exact hb
theorem iM(hW:WR w0 w S m){t:Ty}{v:AV}{u:Value}{y:List t.T}{m1:Mem}(hv:CR w S m v u)(h:sliceData ai t m v=some y)(hf:eU ai t m v=some m1) :
  ∃S1,Step w0 w S m w S1 m1∧xx w S1.I t u y:=by
 unfold sliceData at h
 unfold eU at hf
 cases v<;>simp only at h hf<;>try (cases h;done)
 case sl t' x=>
  cases hf
  by_cases hb:t'.beq t=true
  ·rw[dif_pos hb] at h
   have:=Ty.eq_of_beq hb;subst this
   cases h
   exact⟨S,.refl hW,xx.Aa (iz.1 hv)⟩
  ·rw[dif_neg hb] at h;cases h
 case bd b=>
  cases hf;cases h
  obtain⟨a,rfl,_⟩:=dX.1 hv
  exact⟨S,.refl hW,a,0, [],rfl,Nat.zero_le _,by simp,fun h=>absurd rfl h,fun _=>rfl,Nat.le_refl _,fun i z hz=>by simp at hz⟩
 case own id=>
  cases hf
  rw[CR] at hv
  cases hm:m.at id<;>rw[hm] at h hv<;>(try simp only at hv h)<;>try (cases h;done)
  rename_i fz t' x
  by_cases hb:t'.beq t=true
  ·rw[dif_pos hb] at h
   have:=Ty.eq_of_beq hb;subst this
   cases h
   obtain⟨cap,rfl,h1,_⟩:=hv
   have hb:=ia hW hm (I:=fun b=>S.I b∨b=S.σ id) (.inr rfl) (fun b hb=>.inl hb) (l:=0) (n:=x.length) (cap:=cap) (a:=some ⟨S.σ id,S.δ id,none⟩) (by omega) h1 (fun h=>by cases h) (fun _=>by simp)
   have hb':xx w (fun b=>S.I b∨b=S.σ id) t' (.slice (some ⟨S.σ id,S.δ id,none⟩) x.length cap) x:=xx.Aa (by simpa using hb)
   suffices hg:∃S1,Step w0 w S m w S1 m∧xx w S1.I t' (.slice (some ⟨S.σ id,S.δ id,none⟩) x.length cap) x from hg
   refine⟨S,.refl hW,?_⟩
   obtain⟨a,cap',us,e,g1,g2,g3,g4,g5,g6⟩:=hb'
   have hbx:=hW.box id
   rw[hm] at hbx
   obtain⟨_,us2,T,fr,k1,_,k3,k4⟩:=hbx
   refine⟨_,_,(us2.toList.drop (S.δ id)).take (x.length*t'.size),rfl,g1,by have:=Array.length_toList (xs:=us2);rw[List.length_take,List.length_drop];omega,fun _=>⟨_,_,rfl,dN k1 _ _⟩,(fun h=>by cases h),h1,fun i z hz=>?_⟩
   have:=k4 i z hz
   have hlt:i<x.length:=(List.getElem?_eq_some_iff.1 hz).1
   have hle:i*t'.size+t'.size≤x.length*t'.size:=by
    have:=Nat.mul_le_mul_right t'.size (show i+1≤x.length by omega)
    rwa [Nat.succ_mul] at this
   rw[List.drop_take,List.drop_drop,List.take_take,Nat.min_eq_left (by omega)]
   exact this
  ·rw[dif_neg hb] at h;cases h
 case jD id sz c lo len=>
  have hv0:=hv
  rw[CR] at hv
  cases hm:m.at id<;>rw[hm] at h hf hv<;>(try simp only at hv h hf)<;>try (cases h;done)
  case arr fz t' x=>
   cases hf
   by_cases hb:t'.beq t=true
   ·rw[dif_pos hb] at h
    have:=Ty.eq_of_beq hb;subst this
    cases h
    obtain⟨l,n,cap,a,rfl,rfl,rfl,h4,h5,h6,rfl,h8⟩:=hv
    have hbx:=hW.box id
    rw[hm] at hbx
    obtain⟨hlm,us2,T,fr,k1,_,k3,k4⟩:=hbx
    rw[bX] at hlm
    have e:ai.b .add .i64 (l:Int) (n:Int)=((l+n:Nat):Int):=by
     show IntKind.i64.wrap _=_
     rw[wrap_small (by omega) (by omega)];omega
    show ∃S1:St,Step w0 w S m w S1 m∧xx w S1.I t' (.slice a n cap) (ai.s x (l:Int) (ai.b .add .i64 (l:Int) (n:Int)))
    rw[e,nO]
    have hlen:((x.take (l+n)).drop l).length=n:=by simp;omega
    have hle:(l+n)*t'.size≤x.length*t'.size:=Nat.mul_le_mul_right _ h4
    rw[Nat.add_mul] at hle
    refine⟨S,.refl hW,a,cap,(us2.toList.drop (S.δ id+l*t'.size)).take (n*t'.size),by rw[hlen],by rw[hlen,bX];omega,by have:=Array.length_toList (xs:=us2);rw[hlen,List.length_take,List.length_drop];omega,
     fun hne=>⟨_,_,h8 (by omega),dN k1 _ _⟩,h6,by omega,fun i z hz=>?_⟩
    rw[List.getElem?_drop,List.getElem?_take] at hz
    split at hz
    ·rename_i hlt
     have h9:=k4 _ z hz
     have hle2:i*t'.size+t'.size≤n*t'.size:=by
      have:=Nat.mul_le_mul_right t'.size (show i+1≤n by omega)
      rwa [Nat.succ_mul] at this
     rw[List.drop_take,List.drop_drop,List.take_take,Nat.min_eq_left (by omega)]
     rw[show S.δ id+l*t'.size+i*t'.size=S.δ id+(l+i)*t'.size from by rw[Nat.add_mul];omega]
     exact h9
    ·cases hz
   ·rw[dif_neg hb] at h;cases h
  case flat fz cs=>
   cases hcc:c&&Nat.beq sz t.size with
   | false=>rw[hcc] at h;cases h
   | true=>
     rw[hcc] at h
     simp only[Bool.and_eq_true] at hcc
     have hsz:=Nat.eq_of_beq_eq_true hcc.2
     subst hsz
     simp only at h hf
     cases ht:aY (lo.toNat*t.size) (len.toNat*t.size) cs with
     | none=>rw[ht] at h;cases h
     | some l=>
       rw[ht] at h hf
       simp only at h hf
       cases hfz:bG ai m l with
       | none=>rw[hfz] at h;cases h
       | some p=>
         obtain⟨m',l'⟩:=p
         rw[hfz] at h hf
         simp only[Option.some.injEq] at h hf
         subst hf
         cases hd:kr (kG t) len.toNat l' with
         | none=>rw[hd] at h;cases h
         | some q=>
           obtain⟨x,rr⟩:=q
           rw[hd] at h
           cases h
           obtain⟨l0,n0,cap,a,rfl,rfl,h4,h5,h6,h7,rfl,h8⟩:=hv
           have hbx:=hW.box id
           rw[hm] at hbx
           obtain⟨us2,T,fr,k1,_,k3⟩:=hbx
           obtain⟨k4,k5⟩:=bF.aY ht k3
           obtain⟨S1,s1,s2⟩:=dn hW hfz k5
           simp only[Int.toNat_natCast] at hd ht k4 k5 s2
           obtain⟨u1,u2,e,l1,l2,pr,_⟩:=gG (kG t) t.size (fun u y=>aP w S1.I t u y) (fun cs x r us h hc=>by
            obtain⟨u1,u2,e,h1,h2⟩:=fK t h hc
            exact⟨u1,u2,e,h1.length,h1,h2⟩) n0 l' y rr _ hd s2
           have hu2:u2=[]:=by
            have:=congrArg List.length e
            rw[k4,List.length_append,l1] at this
            exact List.eq_nil_of_length_eq_zero (by omega)
           rw[hu2,List.append_nil] at e
           refine⟨S1,s1,a,cap,u1,by rw[l2],by rw[l2];omega,by rw[l2];exact l1,fun hne=>⟨_,_,h8 (by omega),?_⟩,h7,by omega,pr⟩
           rw[←e]
           exact dN k1 _ _
end
end Go.Ev
namespace Go.Ev
theorem ic{α:Type}{L new:List α}{p:Nat}(h:p+new.length≤L.length)(j:Nat) :
  (L.take p++new++L.drop (p+new.length))[j]? = if j<p then L[j]? else if j<p+new.length then new[j-p]? else L[j]? :=by
 have e1:(L.take p).length=p:=by rw[List.length_take];omega
 rw[List.append_assoc]
 by_cases h1:j<p
 ·rw[List.getElem?_append_left (by omega),List.getElem?_take,if_pos h1,if_pos h1]
 ·rw[List.getElem?_append_right (by omega),e1,if_neg h1]
  by_cases h2:j<p+new.length
  ·rw[List.getElem?_append_left (by omega),if_pos h2]
  ·rw[List.getElem?_append_right (by omega),if_neg h2,List.getElem?_drop]
   congr 1;omega
theorem iZ{α:Type}{L new:List α}{p:Nat}(h:p+new.length≤L.length){a s:Nat}(ho:a+s≤p∨p+new.length≤a) :
  ((L.take p++new++L.drop (p+new.length)).drop a).take s=(L.drop a).take s:=by
 apply List.ext_getElem?
 intro j
 rw[List.getElem?_take,List.getElem?_take]
 by_cases hj:j<s
 ·rw[if_pos hj,if_pos hj,List.getElem?_drop,List.getElem?_drop,ic h]
  rcases ho with ho|ho
  ·rw[if_pos (by omega)]
  ·rw[if_neg (by omega),if_neg (by omega)]
 ·rw[if_neg hj,if_neg hj]
theorem vR{α:Type}{L new:List α}{p:Nat}(h:p+new.length≤L.length){a s:Nat}(h1:a≤p)(h2:p+new.length≤a+s)(h3:a+s≤L.length) :
  ((L.take p++new++L.drop (p+new.length)).drop a).take s=((L.drop a).take s).take (p-a)++new++((L.drop a).take s).drop (p-a+new.length):=by
 have hl:((L.drop a).take s).length=s:=by rw[List.length_take,List.length_drop];omega
 apply List.ext_getElem?
 intro j
 rw[ic (by omega),List.getElem?_take]
 by_cases hj:j<s
 ·rw[if_pos hj,List.getElem?_drop,ic h]
  by_cases c1:j<p-a
  ·rw[if_pos (by omega),if_pos c1,List.getElem?_take,if_pos hj,List.getElem?_drop]
  ·rw[if_neg (by omega),if_neg c1]
   by_cases c2:j<p-a+new.length
   ·rw[if_pos (by omega),if_pos c2];congr 1;omega
   ·rw[if_neg (by omega),if_neg c2,List.getElem?_take,if_pos hj,List.getElem?_drop]
 ·rw[if_neg hj,if_neg (by omega),if_neg (by omega),List.getElem?_take,if_neg hj]
theorem gH{w:World}{g:Nat}{us us':Array Value}{T:TypeId}(hg:w.heap[g]? = some (.cells us T (0,0)))(hs:us'.size=us.size):nk w (w.setRow g us') g:=
 ⟨rfl,rfl,rfl,size_setRow _ _ _,fun b hb=>setRow_other w g b us' hb,fun us0 T0 fr0 h=>⟨us',T,(0,0),setRow_heap w g us us' T _ hg,by rw[hg] at h;cases h;exact hs⟩⟩
section
variable {P:Program} {w0 w:World} {S:St} {m:Mem}
theorem zr{v:AV}{u:Value}(hk:v.known m=true)(hc:v.Eo=true)(h:CR w S m v u):u.oneCell'=true:=by
 cases v
 case undef=>cases hk
 case agg=>cases hc
 case mC=>cases hc
 case int=>rw[(bC.1 h).1];rfl
 case bool=>rw[cu.1 h];rfl
 case str=>rw[(ez.1 h).1];rfl
 case sl=>obtain⟨a,cap,e,_⟩:=bA.1 (iz.1 h);obtain rfl:=List.head_eq_of_cons_eq e;rfl
 case bd=>obtain⟨a,rfl,_⟩:=dX.1 h;rfl
 case lk=>obtain⟨b,o,us,rfl,_⟩:=kM.1 h;rfl
 case bP=>rw[fI.1 h];rfl
 case fn=>obtain⟨us,vs,rfl,_⟩:=mr.1 h;rfl
 case fE=>rw[gM.1 h];rfl
 case own id=>
  rw[CR] at h
  cases hm:m.at id<;>rw[hm] at h<;>simp only at h
  case dead=>simp[AV.known,hm,iJ.eu] at hk
  case arr=>obtain⟨cap,rfl,_⟩:=h;rfl
 case jD id _ _ _ _=>
  rw[CR] at h
  cases hm:m.at id<;>rw[hm] at h<;>simp only at h
  case dead=>simp[AV.known,hm,iJ.eu] at hk
  case arr=>obtain⟨_,_,cap,a,_,_,_,_,_,_,rfl,_⟩:=h;rfl
  case flat=>obtain⟨_,_,cap,a,_,_,_,_,_,_,rfl,_⟩:=h;rfl
 case ptr id _=>
  rw[CR] at h
  cases hm:m.at id<;>rw[hm] at h<;>simp only at h
  case dead=>simp[AV.known,hm,iJ.eu] at hk
  case flat=>rw[h];rfl
 case gY id _ _=>
  rw[CR] at h
  cases hm:m.at id<;>rw[hm] at h<;>simp only at h
  case dead=>simp[AV.known,hm,iJ.eu] at hk
  case arr=>obtain⟨_,_,_,rfl⟩:=h;rfl
 case mW id _ _ _ _=>
  rw[CR] at h
  cases hm:m.at id<;>rw[hm] at h<;>simp only at h
  case dead=>simp[AV.known,hm,iJ.eu] at hk
  case flat=>obtain⟨_,_,_,rfl⟩:=h;rfl
 case yield l=>
  rw[CR] at h
  cases hm:m.at l<;>rw[hm] at h<;>simp only at h
  case dead=>simp[AV.known,hm,iJ.eu] at hk
  case loop=>rw[h];rfl
theorem qK:∀{cs:List AV} {us:List Value},mM m cs=true→bF w S m cs us→∀u∈us,u.oneCell'=true
 | [],us,_,h=>by rw[bu.1 h];intro u hu;cases hu
 | v::cs,us,hk,h=>by
   simp only[mM,Bool.and_eq_true] at hk
   obtain⟨u,r,rfl,h1,h2⟩:=h.cons_inv
   intro u' hu'
   rcases List.mem_cons.1 hu' with rfl|hu'
   ·exact zr hk.1 hk.2.1 h1
   ·exact qK hk.2.2 h2 u' hu'
theorem GJ{α:Type}{us nus:List α}{off a s n:Nat}(h1:off+n≤us.length)(h2:a+s≤n)(h3:nus.length=s) :
  us.take off++(((us.drop off).take n).take a++nus++((us.drop off).take n).drop (a+s))++us.drop (off+n)=us.take (off+a)++nus++us.drop (off+a+s):=by
 apply List.ext_getElem?
 intro i
 simp only[List.getElem?_append,List.getElem?_take,List.getElem?_drop,List.length_append,List.length_take,List.length_drop,h3]
 repeat' split
 all_goals first
  | (exfalso;omega)
  | rfl
  | (congr 1;omega)
  | (rw[List.getElem?_eq_none (by omega)])
  | (symm;rw[List.getElem?_eq_none (by omega)])
theorem um(hW:WR w0 w S m){p:AV}{v:Value}{new:List AV}{nus:List Value}{m':Mem}(hp:CR w S m p v)(hn:bF w S m new nus)(hok:mM m new=true)(h:xm ai m p new=some m') :
  ∃b off w' S',v=.pointer (some ⟨b,off,none⟩)∧(storeCells ⟨b,off,none⟩ nus).run P w=.ok () w'∧Step w0 w S m w' S' m':=by
 have h1c:=qK hok hn
 unfold xm at h
 cases p<;>simp only at h<;>try (cases h;done)
 case ptr id off=>
  have hb:=hW.box id
  rw[CR] at hp
  cases hm:m.at id<;>rw[hm] at h hp hb<;>(try simp only at hp h)<;>try (cases h;done)
  rename_i fz cs
  cases fz<;>(try simp only at h)<;>try (cases h;done)
  cases hput:putCells off new cs with
  | none=>rw[hput] at h;cases h
  | some cs'=>
    rw[hput] at h
    cases h
    obtain⟨us,T,fr,h1,h2,h3⟩:=hb
    have h2:fr=(0,0):=h2
    subst h2
    obtain⟨h4,h5⟩:=gK hput hn h3
    have hl1:us.toList.length=us.size:=Array.length_toList
    have hst:=run_storeCells_at P (S.σ id) off T nus 0 us w h1 (by omega) h1c
    simp only[Nat.add_zero] at hst
    have hsz:((us.toList.take off++nus++us.toList.drop (off+nus.length)).toArray).size=us.size:=by
     rw[List.size_toArray,List.length_append,List.length_append,List.length_take,List.length_drop];omega
    have ht:=gH h1 hsz
    have hlive:(m.at id).bJ=true:=by rw[hm];rfl
    have hfz:(m.at id).jA=false:=by rw[hm];rfl
    have hkeep:dL (m.at id) (.flat false cs'):=by
     rw[hm]
     show cs'.length=cs.length
     rw[←h5.length,←h3.length,List.length_append,List.length_append,List.length_take,List.length_drop];omega
    have hO:=eX hW hlive hfz hkeep (fun h=>by rw[hm] at h;cases h) ht
    refine⟨_,_,_,S,hp,hst,⟨hW.set hlive hfz hkeep (fun h=>by rw[hm] at h;cases h) rfl ht ?_,hO,.refl⟩⟩
    exact⟨_,T,(0,0),setRow_heap w _ us _ T _ h1,rfl,h5.mono hO⟩
 case gY id i off=>
  cases hfz:bG ai m new with
  | none=>rw[hfz] at h;cases h
  | some q=>
    obtain⟨m1,Fo⟩:=q
    rw[hfz] at h
    simp only at h
    obtain⟨S1,s1,c1⟩:=dn hW hfz hn
    have hp1:=hp.mono s1.out
    have hb:=s1.wr.box id
    rw[CR] at hp1
    cases hm:m1.at id<;>rw[hm] at h hp1 hb<;>(try simp only at hp1 h)<;>try (cases h;done)
    rename_i fz t x
    cases fz<;>(try simp only at h)<;>try (cases h;done)
    obtain⟨k,rfl,hk,rfl⟩:=hp1
    obtain⟨hlm,us,T,fr,h1,h2,h3,h4⟩:=hb
    have h2:fr=(0,0):=h2
    subst h2
    have he:=h4 k _ (ij hk)
    have hec:=fu (m:=m1) t he
    cases hput:putCells off Fo (dT ai t (ai.n t x (k:Int))) with
    | none=>rw[hput] at h;cases h
    | some cs'=>
      rw[hput] at h
      simp only at h
      cases htd:kG t cs' with
      | none=>rw[htd] at h;cases h
      | some q=>
        obtain⟨y,r⟩:=q
        rw[htd] at h
        cases r with
        | cons _ _=>cases h
        | nil=>
          cases h
          obtain⟨h5,h6⟩:=gK hput c1 hec
          have hle:k*t.size+t.size≤x.length*t.size:=by
           have:=Nat.mul_le_mul_right t.size (show k+1≤x.length by omega)
           rwa [Nat.succ_mul] at this
          have hl1:us.toList.length=us.size:=Array.length_toList
          have hel:((us.toList.drop (S1.δ id+k*t.size)).take t.size).length=t.size:=by rw[List.length_take,List.length_drop];omega
          rw[hel] at h5
          have hst:=run_storeCells_at P (S1.σ id) (S1.δ id+k*t.size+off) T nus 0 us w h1 (by omega) h1c
          simp only[Nat.add_zero] at hst
          have hsz:((us.toList.take (S1.δ id+k*t.size+off)++nus++us.toList.drop (S1.δ id+k*t.size+off+nus.length)).toArray).size=us.size:=by
           rw[List.size_toArray,List.length_append,List.length_append,List.length_take,List.length_drop];omega
          have ht:=gH h1 hsz
          have hlive:(m1.at id).bJ=true:=by rw[hm];rfl
          have hfz1:(m1.at id).jA=false:=by rw[hm];rfl
          have hkeep:dL (m1.at id) (.arr false t (ai.set x (k:Int) y)):=by
           rw[hm]
           exact⟨rfl,by show(x.set (k:Int).toNat y).length=_;simp,rfl⟩
          have hO:=eX s1.wr hlive hfz1 hkeep (fun h=>by rw[hm] at h;cases h) ht
          obtain⟨u1,u2,e,hrep,hu2⟩:=fK t htd h6
          rw[bu.1 hu2,List.append_nil] at e
          refine⟨_,_,_,S1,rfl,hst,s1.trans ⟨s1.wr.set hlive hfz1 hkeep (fun h=>by rw[hm] at h;cases h) rfl ht ?_,hO,.refl⟩⟩
          have hset:ai.set x (k:Int) y=x.set k y:=by show x.set (k:Int).toNat y=_;rw[Int.toNat_natCast]
          rw[hset]
          refine⟨by rw[List.length_set];exact hlm,_,T,(0,0),setRow_heap w _ us _ T _ h1,rfl,by rw[List.length_set,hsz];exact h3,fun i z hz=>?_⟩
          rw[List.getElem?_set] at hz
          simp only[List.toList_toArray]
          by_cases hik:k=i
          ·subst hik
           rw[if_pos rfl,if_pos hk] at hz
           cases hz
           rw[vR (by omega) (by omega) (by omega) (by omega),show S1.δ id+k*t.size+off-(S1.δ id+k*t.size)=off from by omega,e]
           exact hrep.mono hO.lG
          ·rw[if_neg hik] at hz
           have h7:=h4 i z hz
           have hi:i<x.length:=(List.getElem?_eq_some_iff.1 hz).1
           rw[iZ (by omega) (by
            rcases Nat.lt_or_gt_of_ne hik with hlt|hlt
            ·have:=Nat.mul_le_mul_right t.size (show k+1≤i by omega)
             rw[Nat.succ_mul] at this;omega
            ·have:=Nat.mul_le_mul_right t.size (show i+1≤k by omega)
             rw[Nat.succ_mul] at this;omega)]
           exact h7.mono hO.lG
 case mW id off k t i=>
  cases hfz:bG ai m new with
  | none=>rw[hfz] at h;cases h
  | some q=>
    obtain⟨m1,Fo⟩:=q
    rw[hfz] at h
    simp only at h
    obtain⟨S1,s1,c1⟩:=dn hW hfz hn
    have hp1:=hp.mono s1.out
    have hb:=s1.wr.box id
    rw[CR] at hp1
    cases hm:m1.at id<;>rw[hm] at h hp1 hb<;>(try simp only at hp1 h)<;>try (cases h;done)
    rename_i fz cs
    cases fz<;>(try simp only at h)<;>try (cases h;done)
    obtain⟨j,rfl,hj,rfl⟩:=hp1
    obtain⟨us,T,fr,h1,h2,h3⟩:=hb
    have h2:fr=(0,0):=h2
    subst h2
    cases ht:aY off (k*t.size) cs with
    | none=>rw[ht] at h;cases h
    | some l=>
      rw[ht] at h
      simp only at h
      obtain⟨h4,h5⟩:=bF.aY ht h3
      cases hd:kr (kG t) k l with
      | none=>rw[hd] at h;cases h
      | some q=>
        obtain⟨x,r⟩:=q
        rw[hd] at h
        cases htd:kG t Fo with
        | none=>rw[htd] at h;cases h
        | some q=>
          obtain⟨y,r2⟩:=q
          rw[htd] at h
          cases r2 with
          | cons _ _=>cases h
          | nil=>
            simp only at h
            cases hput:putCells off (dT ai (.arr k t) (ai.set x (j:Int) y)) cs with
            | none=>rw[hput] at h;cases h
            | some cs'=>
              rw[hput] at h
              cases h
              obtain⟨u1,u2,e,l1,l2,pr,_⟩:=gG (kG t) t.size (fun u y=>aP w S1.I t u y) (fun cs x r us h hc=>by
               obtain⟨u1,u2,e,h1,h2⟩:=fK t h hc
               exact⟨u1,u2,e,h1.length,h1,h2⟩) k l x r _ hd h5
              have hu2:u2=[]:=by
               have:=congrArg List.length e
               rw[h4,List.length_append,l1] at this
               exact List.eq_nil_of_length_eq_zero (by omega)
              rw[hu2,List.append_nil] at e
              obtain⟨n1,n2,en,hrep,hn2⟩:=fK t htd c1
              rw[bu.1 hn2,List.append_nil] at en
              have hnl:nus.length=t.size:=by rw[en];exact hrep.length
              have hle:j*t.size+t.size≤k*t.size:=by
               have:=Nat.mul_le_mul_right t.size (show j+1≤k by omega)
               rwa [Nat.succ_mul] at this
              have hl1:us.toList.length=us.size:=Array.length_toList
              have hin:off+k*t.size≤us.toList.length:=by
               have:=h4
               rw[List.length_take,List.length_drop] at this
               by_cases hz:k*t.size=0
               ·have:=h3.length
                unfold aY at ht
                cases hbb:Nat.ble (off+k*t.size) cs.length with
                | false=>rw[hbb] at ht;cases ht
                | true=>have:=Nat.le_of_ble_eq_true hbb;omega
               ·omega
              have hset:ai.set x (j:Int) y=x.set j y:=by show x.set (j:Int).toNat y=_;rw[Int.toNat_natCast]
              rw[hset] at hput
              have hrow:aP w S1.I (.arr k t) (u1.take (j*t.size)++nus++u1.drop (j*t.size+t.size)) (x.set j y):=by
               refine nX.2 ⟨by rw[List.length_set];exact l2,by simp only[List.length_append,List.length_take,List.length_drop];omega,fun i z hz=>?_⟩
               rw[List.getElem?_set] at hz
               by_cases hij:j=i
               ·subst hij
                rw[if_pos rfl,if_pos (by omega)] at hz
                cases hz
                have hsp:=vR (L:=u1) (new:=nus) (p:=j*t.size) (a:=j*t.size) (s:=t.size) (by omega) (by omega) (by omega) (by omega)
                rw[hnl] at hsp
                rw[hsp,Nat.sub_self,en]
                have hf:((u1.drop (j*t.size)).take t.size).length=t.size:=by rw[List.length_take,List.length_drop];omega
                have hnn:n1.length=t.size:=hrep.length
                rw[List.take_zero,List.nil_append,Nat.zero_add,List.drop_eq_nil_of_le (by omega),List.append_nil]
                exact hrep
               ·rw[if_neg hij] at hz
                have hi:i<x.length:=(List.getElem?_eq_some_iff.1 hz).1
                have hsp:=iZ (L:=u1) (new:=nus) (p:=j*t.size) (a:=i*t.size) (s:=t.size) (by omega) (by
                 rcases Nat.lt_or_gt_of_ne hij with hlt|hlt
                 ·have:=Nat.mul_le_mul_right t.size (show j+1≤i by omega)
                  rw[Nat.succ_mul] at this;omega
                 ·have:=Nat.mul_le_mul_right t.size (show i+1≤j by omega)
                  rw[Nat.succ_mul] at this;omega)
                rw[hnl] at hsp
                rw[hsp]
                exact pr i z hz
              have hrl:(u1.take (j*t.size)++nus++u1.drop (j*t.size+t.size)).length=k*t.size:=by simp only[List.length_append,List.length_take,List.length_drop];omega
              obtain⟨h6,h7⟩:=gK hput (fu (m:=m1) (.arr k t) hrow) h3
              rw[hrl,←e,GJ hin hle hnl] at h7
              have hst:=run_storeCells_at P (S1.σ id) (off+j*t.size) T nus 0 us w h1 (by omega) h1c
              simp only[Nat.add_zero] at hst
              have hsz:((us.toList.take (off+j*t.size)++nus++us.toList.drop (off+j*t.size+nus.length)).toArray).size=us.size:=by
               rw[List.size_toArray,List.length_append,List.length_append,List.length_take,List.length_drop];omega
              have htn:=gH h1 hsz
              have hlive:(m1.at id).bJ=true:=by rw[hm];rfl
              have hfz1:(m1.at id).jA=false:=by rw[hm];rfl
              have hcl:cs'.length=cs.length:=by
               have a1:=h7.length
               have a2:=h3.length
               rw[List.length_append,List.length_append,List.length_take,List.length_drop] at a1
               omega
              have hkeep:dL (m1.at id) (.flat false cs'):=by
               rw[hm]
               exact hcl
              have hO:=eX s1.wr hlive hfz1 hkeep (fun h=>by rw[hm] at h;cases h) htn
              refine⟨_,_,_,S1,rfl,hst,s1.trans ⟨s1.wr.set hlive hfz1 hkeep (fun h=>by rw[hm] at h;cases h) rfl htn ?_,hO,.refl⟩⟩
              rw[show off+j*t.size+t.size=off+j*t.size+nus.length from by rw[hnl]] at h7
              exact⟨_,T,(0,0),setRow_heap w _ us _ T _ h1,rfl,h7.mono hO⟩
end
end Go.Ev
namespace Go.Ev
section
variable {P:Program} {w0 w:World} {S:St} {m:Mem}
theorem j_{id:Nat}(hlt:id<m.length)(hc:(m.at id).ed=false):bw w S m w S (m.set id .dead):=by
 refine⟨fun b hb=>⟨hb,rfl⟩,fun j hj=>?_,fun j hj=>?_⟩
 ·rw[Mem.at_set hlt]
  by_cases he:j=id
  ·subst he
   rw[if_pos rfl]
   refine⟨?_,fun h=>absurd rfl h⟩
   cases hm:m.at j<;>first|exact absurd hm hj|trivial
  ·rw[if_neg he];exact⟨cJ hj,fun _=>⟨rfl,rfl,fun us T fr h=>⟨us,T,fr,h,rfl⟩⟩⟩
 ·rw[Mem.at_set hlt]
  by_cases he:j=id
  ·subst he;rw[hc] at hj;cases hj
  ·rw[if_neg he];exact hj
theorem ja{id j:Nat}(hlt:id<m.length)(h:(Mem.at (m.set id .dead) j).bJ=true):j≠id∧(m.at j).bJ=true:=by
 rw[Mem.at_set hlt] at h
 by_cases he:j=id
 ·rw[if_pos he] at h;cases h
 ·rw[if_neg he] at h;exact⟨he,h⟩
theorem WR.kill(hW:WR w0 w S m){id:Nat}(hlt:id<m.length)(hc:(m.at id).ed=false):WR w0 w S (m.set id .dead):=by
 have hO:bw w S m w S (m.set id .dead):=j_ hlt hc
 refine⟨hW.os,hW.tape,hW.output,hW.size,hW.base,hW.lG,fun j=>?_,fun i j h1 h2 he=>hW.inj i j (ja hlt h1).2 (ja hlt h2).2 he,fun j h=>hW.lo j (ja hlt h).2,fun j h h'=>?_,fun j h=>?_⟩
 ·have h0:=hW.box j
  rw[Mem.at_set hlt]
  by_cases he:j=id
  ·rw[if_pos he];trivial
  ·rw[if_neg he];exact h0.mono hO rfl rfl rfl
 ·obtain⟨h1,h2⟩:=ja hlt h
  rw[Mem.at_set hlt,if_neg h1] at h'
  exact hW.qs j h2 h'
 ·rw[Mem.at_set hlt] at h
  by_cases he:j=id
  ·rw[if_pos he] at h;cases h
  ·rw[if_neg he] at h;exact hW.xg j h
theorem lQ{w':World}{b d:Nat}(hI:¬S.I b)(ht:nk w w' b)(bx:iJ):bw w S m w' (S.push m.length b d false) (m ++ [bx]):=by
 refine⟨fun b' hb=>⟨.inl hb,ht.other _ fun e=>hI (e▸hb)⟩,fun j hj=>?_,fun j hc=>?_⟩
 ·have hlt:=Mem.nq hj
  rw[Mem.iC hlt]
  refine⟨cJ hj,fun hd=>⟨if_neg (by omega),if_neg (by omega),fun us T fr h=>?_⟩⟩
  by_cases heq:S.σ j=b
  ·rw[heq] at h ⊢;exact ht.cells us T fr h
  ·exact⟨us,T,fr,by rw[ht.other _ heq];exact h,rfl⟩
 ·have hlt:j<m.length:=Mem.nq fun e=>by rw[e] at hc;cases hc
  rw[Mem.iC hlt];exact hc
theorem WR.OY{w':World}(hW:WR w0 w S m){b d:Nat}(hlo:w0.heap.size≤b∧b<w.heap.size)(hfree:∀j,(m.at j).bJ=true→S.σ j≠b)(hI:¬S.I b)(ht:nk w w' b){bx:iJ}(hfz:bx.jA=false)
  (hb:nN w' (S.push m.length b d false) (m ++ [bx]) m.length bx):WR w0 w' (S.push m.length b d false) (m ++ [bx]):=by
 have hO:=lQ (m:=m) (d:=d) hI ht bx
 have notI:∀x,(S.push m.length b d false).I x→S.I x:=fun x hx=>hx.elim id fun h=>absurd h.1 (by decide)
 refine⟨ht.os.trans hW.os,ht.tape.trans hW.tape,ht.output.trans hW.output,by rw[ht.size];exact hW.size,fun b' hb'=>?_,fun b' hb'=>by rw[ht.size];exact hW.lG _ (notI _ hb'),fun j=>?_,fun i j h1 h2 he=>?_,fun j h=>?_,fun j h h'=>?_,fun j h=>?_⟩
 ·rw[ht.other b' (by omega)];exact hW.base b' hb'
 ·by_cases hj:j=m.length
  ·subst hj;rw[Mem.dp];exact hb
  ·have h0:=hW.box j
   rw[Mem.il,if_neg hj]
   cases hmj:m.at j
   case bad=>trivial
   case dead=>trivial
   case yS=>trivial
   all_goals
    have hl:(m.at j).bJ=true:=by rw[hmj];rfl
    rw[←hmj]
    exact h0.mono hO (if_neg hj) (if_neg hj) (ht.other _ (hfree j hl))
 ·rw[Mem.il] at h1 h2
  simp only[St.push] at he
  by_cases hi:i=m.length<;>by_cases hj:j=m.length
  ·rw[hi,hj]
  ·rw[if_pos hi,if_neg hj] at he;rw[if_neg hj] at h2
   exact absurd he.symm (hfree j h2)
  ·rw[if_neg hi,if_pos hj] at he;rw[if_neg hi] at h1
   exact absurd he (hfree i h1)
  ·rw[if_neg hi,if_neg hj] at he;rw[if_neg hi] at h1;rw[if_neg hj] at h2
   exact hW.inj i j h1 h2 he
 ·rw[Mem.il] at h
  rw[ht.size]
  simp only[St.push]
  by_cases hj:j=m.length
  ·rw[if_pos hj];exact hlo
  ·rw[if_neg hj] at h ⊢;exact hW.lo j h
 ·intro hx
  have hx:=notI _ hx
  rw[Mem.il] at h h'
  simp only[St.push] at hx
  by_cases hj:j=m.length
  ·rw[if_pos hj] at hx;exact hI hx
  ·rw[if_neg hj] at h h' hx;exact hW.qs j h h' hx
 ·rw[Mem.il] at h
  by_cases hj:j=m.length
  ·rw[if_pos hj,hfz] at h;cases h
  ·rw[if_neg hj] at h
   show(S.push m.length b d false).I (if j=m.length then b else S.σ j)
   rw[if_neg hj];exact .inl (hW.xg j h)
theorem Step.I5{w':World}(hW:WR w0 w S m){id d:Nat}(hl:(m.at id).bJ=true)(hc:(m.at id).ed=false)(hm:(m.at id).jA=false)(ht:nk w w' (S.σ id)){bx:iJ}(hfz:bx.jA=false)
  (hb:bw w S m w' (S.push m.length (S.σ id) d false) (m.set id .dead ++ [bx])→nN w' (S.push m.length (S.σ id) d false) (m.set id .dead ++ [bx]) m.length bx) :
  Step w0 w S m w' (S.push m.length (S.σ id) d false) (m.set id .dead ++ [bx]):=by
 have hlt:=Mem.kI hl
 have h1:=hW.kill hlt hc
 have hlen:(m.set id .dead).length=m.length:=List.length_set ..
 have hfree:∀j,(Mem.at (m.set id .dead) j).bJ=true→S.σ j≠S.σ id:=fun j hj e=>(ja hlt hj).1 (hW.inj j id (ja hlt hj).2 hl e)
 have hI:=hW.qs id hl hm
 have hO:=(j_ (w:=w) (S:=S) hlt hc).trans (lQ (d:=d) hI ht bx)
 have hb':=hb (by rw[hlen] at hO;exact hO)
 have:=h1.OY (d:=d) (hW.lo id hl) hfree hI ht hfz (by rw[hlen];exact hb')
 rw[hlen] at this hO
 exact⟨this,hO,fun b hb=>hb.elim .inl fun h=>absurd h.1 (by decide)⟩
theorem iq{A:bK}:∀{cs cs1:List AV} {m m1:Mem} {id:Nat} {fz:Bool} {c:List AV},bG A m cs=some (m1,cs1)→m.at id=.flat fz c→m1.at id=.flat fz c
 | [],cs1,m,m1,id,fz,c,h,hm=>by cases h;exact hm
 | v::vs,cs1,m,m1,id,fz,c,h,hm=>by
   have key:∀{m2:Mem} {v2:AV},m2.at id=.flat fz c→(match bG A m2 vs with|none=>none|some (m,vs)=>some (m,v2::vs))=some (m1,cs1)→m1.at id=.flat fz c:=by
    intro m2 v2 h2 h
    cases hf:bG A m2 vs with
    | none=>rw[hf] at h;cases h
    | some q=>
      rw[hf] at h
      cases h
      exact iq hf h2
   have set:∀{j:Nat} {fz':Bool} {t:Ty} {x:List t.T},m.at j=.arr fz' t x→Mem.at (m.set j (.arr true t x)) id=.flat fz c:=by
    intro j fz' t x hj
    have hlt:j<m.length:=Mem.nq fun e=>by rw[e] at hj;cases hj
    rw[Mem.at_set hlt,if_neg fun e=>by rw[e,hj] at hm;cases hm];exact hm
   have same:(match bG A m vs with|none=>none|some (m,vs)=>some (m,v::vs))=some (m1,cs1)→m1.at id=.flat fz c:=key hm
   unfold bG at h
   cases v<;>(try exact same h)
   case own j=>
    simp only at h
    cases hj:m.at j<;>rw[hj] at h<;>(try simp only at h)<;>try (cases h;done)
    exact key (set hj) h
   case jD j _ _ lo len=>
    simp only at h
    cases hj:m.at j<;>rw[hj] at h<;>(try simp only at h)<;>try (cases h;done)
    exact key (set hj) h
theorem xx.mono{w':World}{I I':Nat→Prop}(hI:∀b,I b→I' b∧w'.heap[b]? = w.heap[b]?){t:Ty}{v:Value}{y:List t.T}(hrow:∀b off us,eT w b off us→eT w' b off us)(h:xx w I t v y):xx w' I' t v y:=by
 obtain⟨a,cap,us,h1,h2,h3,h4,h5,h6,h7⟩:=h
 exact⟨a,cap,us,h1,h2,h3,fun hne=>by obtain⟨b,off,e,hr⟩:=h4 hne;exact⟨b,off,e,hrow _ _ _ hr⟩,h5,h6,fun i z hz=>(h7 i z hz).mono hI⟩
theorem sS(hW:WR w0 w S m){t:Ty}{v v1:AV}{u:Value}{m1:Mem}(hv:CR w S m v u)(h:oR ai t m v=some (v1,m1)):∃S1,Step w0 w S m w S1 m1∧CR w S1 m1 v1 u:=by
 unfold oR at h
 split at h
 ·rename_i id sz lo n
  split at h
  ·rename_i cs hm
   split at h
   ·rename_i hcond
    simp only[Bool.and_eq_true,decide_eq_true_eq,Bool.not_eq_true'] at hcond
    obtain⟨rfl,h1,h2,h3⟩:=hcond
    have h1:=Nat.eq_of_beq_eq_true h1
    have h2:=Nat.eq_of_beq_eq_true h2
    subst h2
    have h3:t.size≠0:=fun e=>by rw[e] at h3;cases h3
    have hc:=hv
    rw[CR,hm] at hc
    obtain⟨l,k,cap,a,e1,e2,h4,h5,h6,h7,rfl,h8⟩:=hc
    have hl:l=0:=by omega
    subst hl
    subst e2
    simp only[Int.toNat_natCast,Nat.zero_add] at h1 h4 h5
    have hcap:cap≤k:=Nat.le_of_mul_le_mul_right (by rw[←h1];exact h5) (by omega)
    have hcapk:cap=k:=by omega
    subst hcapk
    split at h
    ·rename_i hk
     have hk:=Nat.eq_of_beq_eq_true hk
     rw[Int.toNat_natCast] at hk
     cases h
     subst hk
     exact⟨S,.refl hW,dX.2 ⟨a,rfl,fun h=>by cases h⟩⟩
    ·rename_i hk
     have hk:cap≠0:=fun e=>by rw[Int.toNat_natCast,e] at hk;cases hk
     cases hf:bG ai m cs with
     | none=>rw[hf] at h;cases h
     | some q=>
       obtain⟨m2,cs2⟩:=q
       rw[hf] at h
       simp only[Int.toNat_natCast] at h
       cases htd:kr (kG t) cap cs2 with
       | none=>rw[htd] at h;cases h
       | some q=>
         obtain⟨x,r⟩:=q
         rw[htd] at h
         cases r with
         | cons _ _=>cases h
         | nil=>
           cases h
           have hbx:=hW.box id
           rw[hm] at hbx
           obtain⟨us,T,fr,k1,k2,k3⟩:=hbx
           obtain⟨S2,s1,s2⟩:=dn hW hf k3
           have hm2:m2.at id=.flat false cs:=iq hf hm
           obtain⟨u1,u2,e,l1,l2,pr,hr⟩:=gG (kG t) t.size (fun u y=>aP w S2.I t u y) (fun cs x r us h hc=>by
            obtain⟨u1,u2,e,h1,h2⟩:=fK t h hc
            exact⟨u1,u2,e,h1.length,h1,h2⟩) cap cs2 x [] _ htd s2
           rw[bu.1 hr,List.append_nil] at e
           have hσ:S2.σ id=S.σ id:=((s1.out.box id (by rw[hm];intro e;cases e)).2 (by rw[hm2];intro e;cases e)).1
           have hlive:(m2.at id).bJ=true:=by rw[hm2];rfl
           have hlen:us.size=cap*t.size:=by rw[←Array.length_toList,e,l1]
           have hst:=Step.I5 (d:=0) (bx:=.arr false t x) s1.wr hlive (by rw[hm2];rfl) (by rw[hm2];rfl) (nk.none w _) rfl (fun hO=>by
            refine⟨by rw[l2];omega,us,T,fr,?_,k2,?_,fun i y hy=>?_⟩
            ·simp only[St.push,if_pos];rw[hσ];exact k1
            ·simp only[St.push,if_pos];rw[l2];omega
            ·simp only[St.push,if_pos]
             rw[Nat.zero_add,e]
             exact(pr i y hy).mono hO.lG)
           refine⟨_,s1.trans hst,?_⟩
           rw[CR,show Mem.at (m2.set id .dead ++ [.arr false t x]) m2.length=.arr false t x from by
            have:=Mem.dp (m:=m2.set id .dead) (b:=.arr false t x);rwa [List.length_set] at this]
           refine⟨cap,?_,by omega,us,T,fr,?_,?_⟩
           ·simp only[St.push,if_pos]
            rw[h8 hk,hσ,l2,Nat.zero_mul]
           ·simp only[St.push,if_pos];rw[hσ];exact k1
           ·simp only[St.push,if_pos];omega
   ·cases h
  ·cases h
 ·cases h;exact⟨S,.refl hW,hv⟩
theorem qY{I:Nat→Prop}{us:Array Value}{T:TypeId}{fr:Nat×Nat}{b:Nat}{t:Ty}{x:List t.T}(hh:w.heap[b]? = some (.cells us T fr))(hb:I b)(h4:∀(i:Nat) (y:t.T),x[i]? = some y→aP w I t ((us.toList.drop (i*t.size)).take t.size) y)
  {l n cap:Nat} {a:Option Addr} (hx:n≤cY) (hl:l+n≤x.length) (hn:n≤cap) (ha:a=none→cap=0) (hne:n≠0→a=some ⟨b,l*t.size,none⟩) :
  aP w I (.slice t) [.slice a n cap] ((x.take (l+n)).drop l):=by
 have hlen:((x.take (l+n)).drop l).length=n:=by simp;omega
 refine bA.2 ⟨a,cap,by rw[hlen],by rw[hlen];exact hn,by rw[hlen];exact hx,ha,fun i y hy=>?_⟩
 rw[List.getElem?_drop,List.getElem?_take] at hy
 split at hy
 ·rename_i hlt
  have h5:=h4 _ _ hy
  refine⟨_,_,_,hne (by omega),hb,h5.length,?_,h5⟩
  have e:l*t.size+i*t.size=(l+i)*t.size:=by rw[Nat.add_mul]
  rw[e]
  exact dN hh _ _
 ·cases hy
theorem rp(hW:WR w0 w S m){t:Ty}{v v1:AV}{u:Value}{m1:Mem}(hv:CR w S m v u)(h:mR ai t m v=some (v1,m1)):∃S1,Step w0 w S m w S1 m1∧CR w S1 m1 v1 u:=by
 unfold mR at h
 split at h
 ·rename_i id sz c lo n
  split at h
  ·rename_i fz cs hm
   split at h
   ·rename_i hcond
    simp only[Bool.and_eq_true,Bool.not_eq_true'] at hcond
    obtain⟨h1,h2,h3⟩:=hcond
    have h1:=Nat.eq_of_beq_eq_true h1
    have h3:=Nat.eq_of_beq_eq_true h3
    subst h1
    have h2:t.size≠0:=fun e=>by rw[e] at h2;cases h2
    have hc:=hv
    rw[CR,hm] at hc
    obtain⟨l,k,cap,a,rfl,rfl,h4,h5,h6,h7,rfl,h8⟩:=hc
    cases hf:bG ai m cs with
    | none=>rw[hf] at h;cases h
    | some q=>
      obtain⟨m2,cs2⟩:=q
      rw[hf] at h
      simp only at h
      cases htd:kr (kG t) (cs.length/t.size) cs2 with
      | none=>rw[htd] at h;cases h
      | some q=>
        obtain⟨x,r⟩:=q
        rw[htd] at h
        cases r with
        | cons _ _=>cases h
        | nil=>
          cases h
          have hbx:=hW.box id
          rw[hm] at hbx
          obtain⟨us,T,fr,k1,k2,k3⟩:=hbx
          obtain⟨S2,s1,s2⟩:=dn hW hf k3
          have hm2:m2.at id=.flat fz cs:=iq hf hm
          obtain⟨u1,u2,e,l1,l2,pr,hr⟩:=gG (kG t) t.size (fun u y=>aP w S2.I t u y) (fun cs x r us h hc=>by
           obtain⟨u1,u2,e,h1,h2⟩:=fK t h hc
           exact⟨u1,u2,e,h1.length,h1,h2⟩) (cs.length/t.size) cs2 x [] _ htd s2
          rw[bu.1 hr,List.append_nil] at e
          have hσ:S2.σ id=S.σ id:=((s1.out.box id (by rw[hm];intro e;cases e)).2 (by rw[hm2];intro e;cases e)).1
          have hln:cs2.length=cs.length:=by rw[←s2.length,k3.length]
          have hW2:=s1.wr.tG hm2 hln (by rw[hσ];exact k1) k2 s2
          have hlo:=s1.wr.lo id (by rw[hm2];rfl)
          refine⟨_,s1.trans ⟨hW2,fM s1.wr hm2 hln,fun b hb=>?_⟩,iz.2 ?_⟩
          ·rcases hb with hb|rfl
           ·exact .inl hb
           ·exact .inr hlo.1
          have hxl:l+k≤x.length:=by
           rw[l2]
           have h9:(l+k)*t.size≤cs.length/t.size*t.size:=by
            rw[←h3]
            exact Nat.le_trans (Nat.mul_le_mul_right _ (by omega)) h5
           exact Nat.le_of_mul_le_mul_right h9 (by omega)
          have hrep:=qY (w:=w) (I:=(S2.xg (S2.σ id)).I) (t:=t) (x:=x) (us:=us) (l:=l) (n:=k) (cap:=cap) (a:=a) (by rw[hσ];exact k1) (.inr rfl) (fun i y hy=>by
           rw[e]
           exact aP.mono (fun b hb=>⟨.inl hb,rfl⟩) t (pr i y hy)) (by omega) hxl h6 h7 (by rw[hσ];exact h8)
          have hlm:=bX
          have e2:ai.b .add .i64 (l:Int) (k:Int)=((l+k:Nat):Int):=by
           show IntKind.i64.wrap _=_
           rw[wrap_small (by omega) (by omega)];omega
          split
          ·rename_i hcc
           simp only[Bool.and_eq_true,decide_eq_true_eq] at hcc
           have hl0:l=0:=by omega
           subst hl0
           have hk0:(x.take (0+k)).drop 0=x:=by rw[List.drop_zero,List.take_of_length_le (by omega)]
           rw[hk0] at hrep
           exact hrep
          ·rw[e2,nO];exact hrep
   ·cases h
  ·cases h
 ·cases h
theorem wY{off n:Nat}{cs l:List AV}(h:aY off n cs=some l):off+n≤cs.length∧l=(cs.drop off).take n:=by
 unfold aY at h
 cases hn:Nat.ble (off+n) cs.length with
 | false=>rw[hn] at h;cases h
 | true=>rw[hn] at h;cases h;exact⟨Nat.le_of_ble_eq_true hn,rfl⟩
theorem sn(hW:WR w0 w S m){t:Ty}{v v1:AV}{u:Value}{m1:Mem}(hv:CR w S m v u)(h:dataPart ai t m v=some (v1,m1)):∃S1,Step w0 w S m w S1 m1∧CR w S1 m1 v1 u:=by
 unfold dataPart at h
 split at h
 ·rename_i id sz lo n
  split at h
  ·rename_i fz cs hm
   split at h
   ·rename_i hcond
    simp only[Bool.and_eq_true,Bool.not_eq_true'] at hcond
    obtain⟨h1,h2⟩:=hcond
    have h1:=Nat.eq_of_beq_eq_true h1
    subst h1
    have hc:=hv
    rw[CR,hm] at hc
    obtain⟨l,k,cap,a,rfl,rfl,h4,h5,h6,h7,rfl,h8⟩:=hc
    simp only[Int.toNat_natCast] at h
    cases htk:aY (l*t.size) (k*t.size) cs with
    | none=>rw[htk] at h;cases h
    | some part=>
      rw[htk] at h
      simp only at h
      obtain⟨hfit,rfl⟩:=wY htk
      cases hf:bG ai m ((cs.drop (l*t.size)).take (k*t.size)) with
      | none=>rw[hf] at h;cases h
      | some q=>
        obtain⟨m2,part'⟩:=q
        rw[hf] at h
        simp only at h
        have hbx:=hW.box id
        rw[hm] at hbx
        obtain⟨us,T,fr,k1,k2,k3⟩:=hbx
        obtain⟨S2,s1,s2⟩:=dn hW hf ((k3.drop (l*t.size)).take (k*t.size))
        have hm2:m2.at id=.flat fz cs:=iq hf hm
        have hul:us.toList.length=cs.length:=k3.length
        have hpl:part'.length=k*t.size:=by
         have:=s2.length
         rw[List.length_take,List.length_drop,hul] at this
         omega
        cases htd:kr (kG t) k part' with
        | none=>rw[htd] at h;cases h
        | some q=>
          obtain⟨x,r⟩:=q
          rw[htd] at h
          cases r with
          | cons _ _=>cases h
          | nil=>
            cases hp:putCells (l*t.size) part' cs with
            | none=>rw[hp] at h;cases h
            | some cs'=>
              rw[hp] at h
              cases h
              have hcs':cs'=cs.take (l*t.size)++part'++cs.drop (l*t.size+part'.length):=by
               unfold putCells at hp
               cases hb:Nat.ble (l*t.size+part'.length) cs.length with
               | false=>rw[hb] at hp;cases hp
               | true=>rw[hb] at hp;cases hp;rfl
              have k3':=k3.mono s1.out
              have hCR:bF w S2 m2 cs' us.toList:=by
               rw[hcs',hpl]
               have e:us.toList=us.toList.take (l*t.size)++((us.toList.drop (l*t.size)).take (k*t.size))++us.toList.drop (l*t.size+k*t.size):=by
                rw[List.append_assoc,←List.drop_drop,List.take_append_drop,List.take_append_drop]
               rw[e]
               exact((k3'.take _).append s2).append (k3'.drop _)
              obtain⟨u1,u2,e,l1,l2,pr,hr⟩:=gG (kG t) t.size (fun u y=>aP w S2.I t u y) (fun cs x r us h hc=>by
               obtain⟨u1,u2,e,h1,h2⟩:=fK t h hc
               exact⟨u1,u2,e,h1.length,h1,h2⟩) k part' x [] _ htd s2
              rw[bu.1 hr,List.append_nil] at e
              have hσ:S2.σ id=S.σ id:=((s1.out.box id (by rw[hm];intro e;cases e)).2 (by rw[hm2];intro e;cases e)).1
              have hln:cs'.length=cs.length:=by rw[←hCR.length,hul]
              have hW2:=s1.wr.tG hm2 hln (by rw[hσ];exact k1) k2 hCR
              have hlo:=s1.wr.lo id (by rw[hm2];rfl)
              refine⟨_,s1.trans ⟨hW2,fM s1.wr hm2 hln,fun b hb=>?_⟩,iz.2 ?_⟩
              ·rcases hb with hb|rfl
               ·exact .inl hb
               ·exact .inr hlo.1
              refine bA.2 ⟨a,cap,by rw[l2],by rw[l2];exact h6,by rw[l2];omega,h7,fun i y hy=>?_⟩
              have hi:i<k:=by
               have:=(List.getElem?_eq_some_iff.1 hy).1
               omega
              have h9:=pr i y hy
              refine⟨S.σ id,l*t.size,_,h8 (by omega),.inr hσ.symm,h9.length,?_,aP.mono (fun b hb=>⟨.inl hb,rfl⟩) t h9⟩
              have h10:(i+1)*t.size≤k*t.size:=Nat.mul_le_mul_right _ hi
              rw[Nat.add_mul,Nat.one_mul] at h10
              rw[←e,List.drop_take,List.take_take,List.drop_drop,Nat.min_eq_left (by omega)]
              exact dN k1 _ _
   ·cases h
  ·cases h
 ·cases h
theorem qW(hW:WR w0 w S m){t:Ty}{v v1:AV}{u:Value}{m1:Mem}(hv:CR w S m v u)(h:qb ai t m v=some (v1,m1)):∃S1,Step w0 w S m w S1 m1∧CR w S1 m1 v1 u:=by
 unfold qb at h
 cases hw:mR ai t m v with
 | some r=>rw[hw] at h;cases h;exact rp hW hv hw
 | none=>rw[hw] at h;exact sn hW hv h
structure Src(P:Program)(w:World)(sz:Nat)(x:Value)(k:Nat)(news:List Value):Prop where
 len:∀w',(Builtin.lenOf x).run P w'=.ok k w'
 cells:∀w',w'.heap=w.heap→(Builtin.firstCells sz k x).run P w'=.ok news.toArray w'
 size:news.length=k*sz
theorem xx.src{I:Nat→Prop}{t:Ty}{v:Value}{y:List t.T}(h:xx w I t v y):∃us,Src P w t.size v y.length us∧∀(i:Nat) (z:t.T),y[i]? = some z→aP w I t ((us.drop (i*t.size)).take t.size) z:=by
 obtain⟨a,cap,us,rfl,h2,h3,h4,h5,h6,h7⟩:=h
 exact⟨us,⟨fun w'=>rfl,fun w' hh=>gL h3 h4 w' hh,h3⟩,h7⟩
theorem kF{T T' ty e:TypeId}{i:TypeInfo}{u':TypeDesc}(ht:P.underlying T=some (.slice e))(ht':P.underlying T'=some u')(hu':∀k,u'≠.int k)(hi:P.info? e=some i){a:Option Addr}{n cap k:Nat}{x:Value}{news:List Value}(hs:Src P w i.size x k news)
  (hroom:n+k≤cap):(Builtin.append_ #[T,T'] ty #[.slice a n cap,x]).run P w =
    ((match a with|some a=>storeCells (a.add (n*i.size)) news|none=>pure ()).run P w).andThen fun _ w=>.ok (.slice a (n+k) cap) w:=by
 have hl:=hs.len w
 have hc:=hs.cells w rfl
 cases a with
 | none=>simp[Builtin.append_,run_underlying ht,run_underlying ht',sizeOf,typeInfo,hi,hl,hroom,hc]
 | some a=>simp[Builtin.append_,run_underlying ht,run_underlying ht',sizeOf,typeInfo,hi,hl,hroom,hc]
theorem qq{T T' ty e:TypeId}{i:TypeInfo}{z:Value}{u':TypeDesc}(ht:P.underlying T=some (.slice e))(ht':P.underlying T'=some u')(hu':∀k,u'≠.int k)(hi:P.info? e=some i)(hz:i.zero=some z){a:Option Addr}{n cap k:Nat}{x:Value}{olds news:List Value}(hs:Src P w i.size x k news)
  (ho:∀w',w'.heap=w.heap→(Builtin.firstCells i.size n (.slice a n cap)).run P w'=.ok olds.toArray w')
  (hg:cap<n+k) (h63:n+k≤cY) (hfit:Builtin.nextslicecap (n+k) cap*i.bytes≤281474976710656) :
  (Builtin.append_ #[T,T'] ty #[.slice a n cap,x]).run P w=.ok (.slice (some ⟨w.heap.size,0,none⟩) (n+k) (grownCap w (n+k) cap e))
    (w.drew.alloc (.cells ((olds++news).toArray++Builtin.zeroCells z.cells (grownCap w (n+k) cap e-(n+k))) e)):=by
 have hl:=hs.len w
 have hc:=hs.cells w.drew rfl
 have ho:=ho w.drew rfl
 rw[bX] at h63
 have hn:¬(n+k≤cap):=by omega
 have h63':¬(9223372036854775807<((n:Int)+(k:Int))):=by omega
 have h48':¬(281474976710656<Builtin.nextslicecap (n+k) cap*i.bytes):=by omega
 simp[Builtin.append_,run_underlying ht,run_underlying ht',sizeOf,typeInfo,zeroValue,hi,hz,hl,hn,h63',h48',Question.forced,hc,ho,newRow,grownCap]
 congr 2
 apply Array.ext'
 simp[List.append_assoc]
theorem pg{a b:Int}:ai.c .leq a b=true↔a≤b:=by
 show decide (a≤b)=true↔_
 exact decide_eq_true_iff
theorem xH{a b:Int}:ai.c .eql a b=true↔a=b:=by
 show(a==b)=true↔_
 exact beq_iff_eq
theorem cf{α:Type}(x:List α):ai.l x=(x.length:Int):=rfl
theorem ox{α:Type}(x y:List α):ai.p x y=x++y:=rfl
theorem wJ{n bytes:Nat}(h:(n:Int)≤140737488355328/((bytes.max 1:Nat):Int)):n≤cY∧n*bytes≤140737488355328:=by
 have h0:1≤bytes.max 1∧bytes≤bytes.max 1:=⟨Nat.le_max_right ..,Nat.le_max_left ..⟩
 have h1:n≤140737488355328/(bytes.max 1):=by
  have e:(140737488355328:Int)/((bytes.max 1:Nat):Int)=((140737488355328/(bytes.max 1):Nat):Int):=by rw[Int.natCast_ediv];rfl
  rw[e] at h
  omega
 have h2:n*(bytes.max 1)≤140737488355328:=(Nat.le_div_iff_mul_le (by omega)).1 h1
 have h3:n*bytes≤n*bytes.max 1:=Nat.mul_le_mul_left _ h0.2
 have h4:n*1≤n*bytes.max 1:=Nat.mul_le_mul_left _ h0.1
 rw[bX]
 omega
theorem pJ{α:Type}{us:List α}{n s:Nat}(hl:us.length=n*s){u:α}(hu:u∈us):∃i,i<n∧u∈(us.drop (i*s)).take s:=by
 obtain⟨j,hj,rfl⟩:=List.getElem_of_mem hu
 have hs:0<s:=Nat.pos_of_ne_zero fun e=>by subst e;omega
 refine⟨j/s,(Nat.div_lt_iff_lt_mul hs).2 (by omega),?_⟩
 have h1:=Nat.div_add_mod j s
 have h2:=Nat.mod_lt j hs
 rw[Nat.mul_comm] at h1
 refine List.mem_of_getElem? (i:=j%s) ?_
 rw[List.getElem?_take,if_pos h2,List.getElem?_drop,h1]
 exact List.getElem?_eq_getElem hj
mutual
theorem aP.oneCell{I:Nat→Prop}:∀(t:Ty) {cs:List Value} {x:t.T},t.kt=true→aP w I t cs x→∀u∈cs,u.oneCell'=true
 | .any n,cs,x,ht,h=>by cases ht
 | .int k,cs,x,_,h=>by rw[aP] at h;intro u hu;rw[h.1] at hu;rcases List.mem_singleton.1 hu with rfl;rfl
 | .bool,cs,x,_,h=>by rw[aP] at h;intro u hu;rw[h] at hu;rcases List.mem_singleton.1 hu with rfl;rfl
 | .str,cs,x,_,h=>by rw[aP] at h;intro u hu;rw[h.1] at hu;rcases List.mem_singleton.1 hu with rfl;rfl
 | .slice t,cs,x,_,h=>by rw[aP] at h;obtain⟨a,cap,h,_⟩:=h;intro u hu;rw[h] at hu;rcases List.mem_singleton.1 hu with rfl;rfl
 | .arr n t,cs,x,ht,h=>by
   rw[aP] at h
   intro u hu
   obtain⟨i,hi,hu⟩:=pJ h.2.1 hu
   exact aP.oneCell t (by rw[Ty.kt] at ht;exact ht) (h.2.2 i _ (List.getElem?_eq_getElem (by omega))) u hu
 | .struct ts,cs,x,ht,h=>by rw[aP] at h;exact cm.oneCell ts (by rw[Ty.kt] at ht;exact ht) h
theorem cm.oneCell{I:Nat→Prop}:∀(ts:List Ty) {cs:List Value} {x:Ty.Ts ts},Ty.sH ts=true→cm w I ts cs x→∀u∈cs,u.oneCell'=true
 | [],cs,x,_,h=>by rw[cm] at h;intro u hu;rw[h] at hu;cases hu
 | [t],cs,x,ht,h=>by rw[cm] at h;exact aP.oneCell t (by simpa [Ty.sH] using ht) h
 | t::t2::ts,cs,x,ht,h=>by
   rw[cm] at h
   rw[Ty.sH,Bool.and_eq_true] at ht
   obtain⟨us,vs,rfl,h1,h2⟩:=h
   intro u hu
   rcases List.mem_append.1 hu with hu|hu
   ·exact aP.oneCell t ht.1 h1 u hu
   ·exact cm.oneCell (t2::ts) ht.2 h2 u hu
end
theorem yh(hW:WR w0 w S m){t:Ty}{e:TypeId}{xs:List t.T}{us:List Value}{zs:Array Value}{cap:Nat}(hl:us.length=xs.length*t.size)(hc:us.length+zs.size=cap*t.size)(hn:xs.length≤cap)(hm:xs.length≤cY)
  (hr:∀(i:Nat) (y:t.T),xs[i]? = some y→aP w S.I t ((us.drop (i*t.size)).take t.size) y) :
  ∃S',Step w0 w S m (w.alloc (.cells (us.toArray++zs) e)) S' (m ++ [.arr false t xs])∧CR (w.alloc (.cells (us.toArray++zs) e)) S' (m ++ [.arr false t xs]) (.own m.length) (.slice (some ⟨w.heap.size,0,none⟩) xs.length cap):=by
 have hO:=fo hW (.cells (us.toArray++zs) e) (.arr false t xs) 0 false
 have hsz:(us.toArray++zs).size=cap*t.size:=by rw[Array.size_append,List.size_toArray,hc]
 have hle:xs.length*t.size≤cap*t.size:=Nat.mul_le_mul_right _ hn
 have hnew:(w.alloc (.cells (us.toArray++zs) e)).heap[w.heap.size]? = some (.cells (us.toArray++zs) e (0,0)):=heap_alloc_new w _
 refine⟨S.push m.length w.heap.size 0 false,Step.push hW (bx:=.arr false t xs) rfl ⟨hm,us.toArray++zs,e,(0,0),?_,rfl,?_,fun i y hy=>?_⟩,?_⟩
 ·simp only[St.push,if_pos];exact hnew
 ·simp only[St.push,if_pos];omega
 ·simp only[St.push,if_pos,Nat.zero_add,Array.toList_append]
  have hi:i<xs.length:=(List.getElem?_eq_some_iff.1 hy).1
  have hle2:i*t.size+t.size≤xs.length*t.size:=by
   have:=Nat.mul_le_mul_right t.size (show i+1≤xs.length by omega)
   rwa [Nat.succ_mul] at this
  have e1:((us++zs.toList).drop (i*t.size)).take t.size=(us.drop (i*t.size)).take t.size:=by
   rw[List.drop_append_of_le_length (by omega),List.take_append_of_le_length (by rw[List.length_drop];omega)]
  rw[e1]
  exact(hr i y hy).mono hO.lG
 ·rw[CR,Mem.dp]
  refine⟨cap,?_,hn,us.toArray++zs,e,(0,0),?_,?_⟩
  ·simp only[St.push,if_pos]
  ·simp only[St.push,if_pos];exact hnew
  ·simp only[St.push,if_pos];omega
theorem xR{I:Nat→Prop}{t:Ty}{xs ys:List t.T}{us vs:List Value}(hl:us.length=xs.length*t.size)
  (h1:∀(i:Nat) (y:t.T),xs[i]? = some y→aP w I t ((us.drop (i*t.size)).take t.size) y) (h2:∀(i:Nat) (y:t.T),ys[i]? = some y→aP w I t ((vs.drop (i*t.size)).take t.size) y) :
  ∀(i:Nat) (y:t.T),(xs++ys)[i]? = some y→aP w I t (((us++vs).drop (i*t.size)).take t.size) y:=by
 intro i y hy
 by_cases hi:i<xs.length
 ·rw[List.getElem?_append_left hi] at hy
  have hle2:i*t.size+t.size≤xs.length*t.size:=by
   have:=Nat.mul_le_mul_right t.size (show i+1≤xs.length by omega)
   rwa [Nat.succ_mul] at this
  rw[List.drop_append_of_le_length (by omega),List.take_append_of_le_length (by rw[List.length_drop];omega)]
  exact h1 i y hy
 ·rw[List.getElem?_append_right (by omega)] at hy
  have e:i*t.size=us.length+(i-xs.length)*t.size:=by
   rw[hl,←Nat.add_mul];congr 1;omega
  rw[e,←List.drop_drop,List.drop_left]
  exact h2 _ y hy
theorem rm(hW:WR w0 w S m){T T' ty e:TypeId}{u':TypeDesc}(ht:P.underlying T=some (.slice e))(ht':P.underlying T'=some u')(hu':∀k,u'≠.int k){te:TI}(hte:rc P e te){t:Ty}(hty:te.ty=some t)
  {dst:AV} {u x:Value} {y:List t.T} {news:List Value} {lit:Option Bool} {v:AV} {m':Mem} (hd:CR w S m dst u) (hs:Src P w t.size x y.length news) (hr:∀(i:Nat) (z:t.T),y[i]? = some z→aP w S.I t ((news.drop (i*t.size)).take t.size) z)
  (hlit:∀b,lit=some b→decide (y.length=0)=b) (h:(qf ai t te.bytes m dst y lit).Is (v,m')) :
  ∃z w' S',(Builtin.append_ #[T,T'] ty #[u,x]).run P w=.ok z w'∧Step w0 w S m w' S' m'∧CR w' S' m' v z:=by
 obtain⟨i,z0,hi,his,hib,hiz,hzc,hzr⟩:=hte.info
 have hts:t.size=te.size:=(hte.ty t hty).1
 have hz0:z0.cells.size=t.size:=by
  have:=(hzr t hty w S.I).length
  rwa [Array.length_toList] at this
 rw[hts,←his] at hs
 have hts':t.size=i.size:=by rw[hts,his]
 unfold qf at h
 cases ho:oR ai t m dst with
 | none=>rw[ho] at h;exact h.elim
 | some q=>
   obtain⟨d1,m1⟩:=q
   rw[ho] at h
   simp only at h
   obtain⟨S1,s1,hd1⟩:=sS hW hd ho
   have hr1:∀(i:Nat) (z:t.T),y[i]? = some z→aP w S1.I t ((news.drop (i*t.size)).take t.size) z:=fun i z hz=>(hr i z hz).mono s1.out.lG
   -- growing
   have grow:∀{a:Option Addr} {n cap:Nat} {xs:List t.T} {olds:List Value} {S2:St} {m2:Mem},Step w0 w S m w S2 m2→u=.slice a n cap→n=xs.length→olds.length=n*t.size→(n≠0→∃b off,a=some ⟨b,off,none⟩∧eT w b off olds)→
     (∀(i:Nat) (y:t.T),xs[i]? = some y→aP w S2.I t ((olds.drop (i*t.size)).take t.size) y)→cap<n+y.length→((n+y.length:Nat):Int)≤140737488355328/((te.bytes.max 1:Nat):Int)→
     ∃z w' S',(Builtin.append_ #[T,T'] ty #[u,x]).run P w=.ok z w'∧Step w0 w S m w' S' (m2 ++ [.arr false t (xs++y)])∧CR w' S' (m2 ++ [.arr false t (xs++y)]) (.own m2.length) z:=by
    intro a n cap xs olds S2 m2 s2 hu hn hl hrow hre hg hfit
    obtain⟨f1,f2⟩:=wJ hfit
    subst hu
    have hrun:=qq (ty:=ty) ht ht' hu' hi hiz hs (a:=a) (n:=n) (cap:=cap) (olds:=olds) (fun w' hh=>by rw[←hts'];exact gL hl hrow w' hh) hg f1 (growslice_fits hg (by rw[hib];exact f2))
    have hcap:n+y.length≤grownCap w (n+y.length) cap e:=grownCap_ge ..
    have hlen:(olds++news).length=(xs++y).length*t.size:=by rw[List.length_append,List.length_append,hl,hs.size,Nat.add_mul,hn,hts']
    obtain⟨S3,s3,c3⟩:=yh (w:=w.drew) s2.wr.drew (e:=e) (xs:=xs++y) (us:=olds++news) (zs:=Builtin.zeroCells z0.cells (grownCap w (n+y.length) cap e-(n+y.length))) (cap:=grownCap w (n+y.length) cap e) hlen
     (by rw[hlen,size_zeroCells,hz0,List.length_append,←Nat.add_mul];congr 1;omega) (by rw[List.length_append];omega) (by rw[List.length_append];omega)
     (xR (by rw[hl,hn]) (fun i z hz=>aP.mono (w:=w) (w':=w.drew) (fun _ hb=>⟨hb,rfl⟩) t (hre i z hz)) fun i z hz=>aP.mono (w:=w) (w':=w.drew) (fun b hb=>⟨(s2.out.lG b hb).1,rfl⟩) t (hr i z hz))
    refine⟨_,_,S3,hrun,(s2.trans (.drew s2.wr)).trans s3,?_⟩
    rw[show n+y.length=(xs++y).length from by rw[List.length_append,hn]] at *
    exact c3
   cases d1<;>simp only at h<;>try exact h.elim
   case bd b=>
    obtain⟨a,rfl,hb⟩:=dX.1 hd1
    have none_:y.length=0→∃z w' S',(Builtin.append_ #[T,T'] ty #[.slice a 0 0,x]).run P w=.ok z w'∧Step w0 w S m w' S' m1∧CR w' S' m1 (.bd b) z:=by
     intro hy
     have hnil:news=[]:=List.eq_nil_of_length_eq_zero (by rw[hs.size,hy];omega)
     have hrun:=kF (ty:=ty) ht ht' hu' hi (a:=a) (n:=0) (cap:=0) hs (by omega)
     refine⟨.slice a 0 0,w,S1,?_,s1,dX.2 ⟨a,rfl,hb⟩⟩
     rw[hrun,hnil,hy]
     cases a<;>rfl
    have some_:y.length≠0→(y.length:Int)≤140737488355328/((te.bytes.max 1:Nat):Int)→∃z w' S',(Builtin.append_ #[T,T'] ty #[.slice a 0 0,x]).run P w=.ok z w'∧Step w0 w S m w' S' (m1 ++ [.arr false t y])∧CR w' S' (m1 ++ [.arr false t y]) (.own m1.length) z:=by
     intro hy hfit
     have:=grow (a:=a) (n:=0) (cap:=0) (xs:=[]) (olds:=[]) s1 rfl rfl (by simp) (fun h=>absurd rfl h) (fun i y hy=>by simp at hy) (by omega) (by rw[Nat.zero_add];exact hfit)
     simpa using this
    cases lit with
    | none=>
      simp only at h
      rcases h with ⟨hb,h⟩|⟨hb,hn,h⟩
      ·cases h
       rw[xH,cf] at hb
       exact none_ (by omega)
      ·cases h
       rw[pg,cf] at hn
       refine some_ (fun h0=>?_) hn
       rw[show ai.c .eql (ai.l y) 0=true from xH.2 (by rw[cf];omega)] at hb
       cases hb
    | some b'=>
      have:=hlit b' rfl
      cases b' with
      | true=>cases h;exact none_ (of_decide_eq_true this)
      | false=>
        obtain⟨hn,h⟩:=h
        cases h
        rw[pg,cf] at hn
        exact some_ (of_decide_eq_false this) hn
   case own id=>
    have hb:=s1.wr.box id
    rw[CR] at hd1
    cases hm:m1.at id<;>rw[hm] at h hd1 hb<;>(try simp only at hd1 h)<;>try (exact h.elim)
    rename_i fz t' xs
    cases fz<;>(try simp only at h)<;>try (exact h.elim)
    by_cases hbq:t'.beq t=true
    ·rw[dif_pos hbq] at h
     have:=Ty.eq_of_beq hbq;subst this
     obtain⟨hn,h⟩:=h
     cases h
     rw[pg,cf] at hn
     replace hn:((xs++y).length:Int)≤140737488355328/((te.bytes.max 1:Nat):Int):=hn
     rw[List.length_append] at hn
     obtain⟨cap,rfl,hcap,us0,T0,fr0,g1,g2⟩:=hd1
     obtain⟨hlm,us,T1,fr,k1,k2,k3,k4⟩:=hb
     rw[k1] at g1
     obtain⟨rfl,_⟩:=Obj.cells.inj (Option.some.inj g1)
     have k2:fr=(0,0):=k2
     subst k2
     have hlive:(m1.at id).bJ=true:=by rw[hm];rfl
     have hctl:(m1.at id).ed=false:=by rw[hm];rfl
     have hfz1:(m1.at id).jA=false:=by rw[hm];rfl
     have hltm:=Mem.kI hlive
     have hlenm:(m1.set id .dead).length=m1.length:=List.length_set ..
     have hlu:us.toList.length=us.size:=Array.length_toList
     by_cases hroom:xs.length+y.length≤cap
     ·-- in place
      obtain⟨f1,_⟩:=wJ hn
      have hle:(xs.length+y.length)*t'.size≤cap*t'.size:=Nat.mul_le_mul_right _ hroom
      rw[Nat.add_mul] at hle
      have hnl:news.length=y.length*t'.size:=by rw[hs.size,hts']
      have h1c:∀v∈news,v.oneCell'=true:=fun u hu=>by
       obtain⟨i,hi,hu⟩:=pJ hnl hu
       exact aP.oneCell t' (hte.kt _ hty) (hr i _ (List.getElem?_eq_getElem hi)) u hu
      have hst:=run_storeCells_at P (S1.σ id) (S1.δ id+xs.length*t'.size) T1 news 0 us w k1 (by omega) h1c
      simp only[Nat.add_zero] at hst
      have hrun:=kF (ty:=ty) ht ht' hu' hi (a:=some ⟨S1.σ id,S1.δ id,none⟩) (n:=xs.length) (cap:=cap) hs hroom
      simp only[Addr.add_lit,←hts',hst,Result.andThen_ok] at hrun
      have hsz:((us.toList.take (S1.δ id+xs.length*t'.size)++news++us.toList.drop (S1.δ id+xs.length*t'.size+news.length)).toArray).size=us.size:=by
       rw[List.size_toArray,List.length_append,List.length_append,List.length_take,List.length_drop];omega
      have hturn:=gH k1 hsz
      have hstep:=Step.I5 (d:=S1.δ id) (bx:=.arr false t' (ai.p xs y)) s1.wr hlive hctl hfz1 hturn rfl (fun hO=>by
       refine⟨by rw[ox,List.length_append];exact f1,(us.toList.take (S1.δ id+xs.length*t'.size)++news++us.toList.drop (S1.δ id+xs.length*t'.size+news.length)).toArray,T1,(0,0),?_,rfl,?_,fun i z hz=>?_⟩
       ·simp only[St.push,if_pos];exact setRow_heap w _ us _ T1 _ k1
       ·simp only[St.push,if_pos];rw[hsz,ox,List.length_append,Nat.add_mul];omega
       ·simp only[St.push,if_pos]
        rw[ox] at hz
        by_cases hi:i<xs.length
        ·rw[List.getElem?_append_left hi] at hz
         have hle2:i*t'.size+t'.size≤xs.length*t'.size:=by
          have:=Nat.mul_le_mul_right t'.size (show i+1≤xs.length by omega)
          rwa [Nat.succ_mul] at this
         rw[iZ (by omega) (by omega)]
         exact(k4 i z hz).mono hO.lG
        ·rw[List.getElem?_append_right (by omega)] at hz
         have hi2:i-xs.length<y.length:=(List.getElem?_eq_some_iff.1 hz).1
         have hle2:(i-xs.length)*t'.size+t'.size≤y.length*t'.size:=by
          have:=Nat.mul_le_mul_right t'.size (show i-xs.length+1≤y.length by omega)
          rwa [Nat.succ_mul] at this
         have e1:i*t'.size=xs.length*t'.size+(i-xs.length)*t'.size:=by rw[←Nat.add_mul];congr 1;omega
         have e2:((us.toList.take (S1.δ id+xs.length*t'.size)++news++us.toList.drop (S1.δ id+xs.length*t'.size+news.length)).drop (S1.δ id+i*t'.size)).take t'.size=(news.drop ((i-xs.length)*t'.size)).take t'.size:=by
          apply List.ext_getElem?
          intro j
          rw[List.getElem?_take,List.getElem?_take]
          by_cases hj:j<t'.size
          ·rw[if_pos hj,if_pos hj,List.getElem?_drop,List.getElem?_drop,ic (by omega),if_neg (by omega),if_pos (by omega)]
           congr 1;omega
          ·rw[if_neg hj,if_neg hj]
         rw[e2]
         exact((hr1 _ z hz).mono hO.lG))
      refine⟨_,_,_,hrun,s1.trans hstep,?_⟩
      rw[CR,show Mem.at (m1.set id .dead ++ [.arr false t' (ai.p xs y)]) m1.length=.arr false t' (ai.p xs y) from by
       have:=Mem.dp (m:=m1.set id .dead) (b:=.arr false t' (ai.p xs y));rwa [hlenm] at this]
      refine⟨cap,?_,by rw[ox,List.length_append];exact hroom,(us.toList.take (S1.δ id+xs.length*t'.size)++news++us.toList.drop (S1.δ id+xs.length*t'.size+news.length)).toArray,T1,(0,0),?_,?_⟩
      ·simp only[St.push,if_pos];rw[ox,List.length_append]
      ·simp only[St.push,if_pos];exact setRow_heap w _ us _ T1 _ k1
      ·simp only[St.push,if_pos];rw[hsz];exact g2
     ·-- grows
      have s2:Step w0 w S m w S1 (m1.set id .dead):=s1.trans ⟨s1.wr.kill hltm hctl,j_ hltm hctl,.refl⟩
      have:=grow (a:=some ⟨S1.σ id,S1.δ id,none⟩) (n:=xs.length) (cap:=cap) (xs:=xs) (olds:=(us.toList.drop (S1.δ id)).take (xs.length*t'.size)) s2 rfl rfl
       (by rw[List.length_take,List.length_drop];omega) (fun _=>⟨_,_,rfl,dN k1 _ _⟩) (fun i z hz=>by
         have hi:i<xs.length:=(List.getElem?_eq_some_iff.1 hz).1
         have hle2:i*t'.size+t'.size≤xs.length*t'.size:=by
          have:=Nat.mul_le_mul_right t'.size (show i+1≤xs.length by omega)
          rwa [Nat.succ_mul] at this
         rw[List.drop_take,List.drop_drop,List.take_take,Nat.min_eq_left (by omega)]
         exact k4 i z hz) (by omega) hn
      rw[hlenm] at this
      exact this
    ·rw[dif_neg hbq] at h;exact h.elim
theorem uy{w0 w:World}{S:St}{m m1:Mem}(hW:WR w0 w S m){k:Option Ty}{v v1:AV}{u:Value}(hv:CR w S m v u)(h:n_ ai k m v=some (v1,m1)):∃S1,Step w0 w S m w S1 m1∧CR w S1 m1 v1 u:=by
 unfold n_ at h
 split at h
 ·split at h
  ·exact qW hW hv h
  ·cases h;exact⟨S,.refl hW,hv⟩
 ·cases h;exact⟨S,.refl hW,hv⟩
theorem lI{w0 w:World}:∀{ks:List (Option Ty)} {cs:List AV} {m m1:Mem} {cs1:List AV} {S:St} {us:List Value},WR w0 w S m→oV ai ks m cs=some (m1,cs1)→bF w S m cs us→∃S1,Step w0 w S m w S1 m1∧bF w S1 m1 cs1 us
 | [],cs,m,m1,cs1,S,us,hW,h,hc=>by cases h;exact⟨S,.refl hW,hc⟩
 | _::_, [],m,m1,cs1,S,us,hW,h,hc=>by cases h;exact⟨S,.refl hW,hc⟩
 | k::ks,v::vs,m,m1,cs1,S,us,hW,h,hc=>by
   rw[oV] at h
   obtain⟨u,r,rfl,h1,h2⟩:=bY.1 hc
   cases ho:n_ ai k m v with
   | none=>rw[ho] at h;cases h
   | some q=>
     obtain⟨v2,m2⟩:=q
     rw[ho] at h
     simp only at h
     obtain⟨S2,s2,hv2⟩:=uy hW h1 ho
     cases hr:oV ai ks m2 vs with
     | none=>rw[hr] at h;cases h
     | some q=>
       obtain⟨m3,vs3⟩:=q
       rw[hr] at h
       cases h
       obtain⟨S3,s3,h3⟩:=lI s2.wr hr (h2.mono s2.out)
       exact⟨S3,s2.trans s3,bY.2 ⟨u,r,rfl,hv2.mono s3.out,h3⟩⟩
theorem wj(hW:WR w0 w S m){t:Option Ty}{n:Nat}{cs cs1:List AV}{m1:Mem}{us:List Value}(h:zK ai t n m cs=some (m1,cs1))(hc:bF w S m cs us):∃S1,Step w0 w S m w S1 m1∧bF w S1 m1 cs1 us:=by
 cases t with
 | none=>cases h;exact⟨S,.refl hW,hc⟩
 | some t=>exact lI hW h hc
end
end Go.Ev
namespace Go.Ev
section
variable {P:Program} {w0 w:World} {S:St} {m:Mem}
theorem jT{α:Type}[Inhabited α](l:List α):∀n:Nat,(List.range (n*l.length)).map (fun i=>l[i%l.length]!)=(List.replicate n l).flatten
 | 0=>by simp
 | n+1=>by
   have h2:(List.range l.length).map (fun i=>l[(n*l.length+i)%l.length]!)=l:=by
    apply List.ext_getElem?
    intro j
    rw[List.getElem?_map]
    by_cases hj:j<l.length
    ·rw[List.getElem?_range hj,Option.map_some,Nat.mul_comm,Nat.mul_add_mod,Nat.mod_eq_of_lt hj,List.getElem?_eq_getElem hj]
     simp[hj]
    ·rw[List.getElem?_eq_none (by simpa using hj),List.getElem?_eq_none (by omega)];rfl
   rw[Nat.succ_mul,List.range_add,List.map_append,jT l n,List.map_map,List.replicate_succ',List.flatten_append]
   congr 1
   rw[List.flatten_cons,List.flatten_nil,List.append_nil]
   exact h2
theorem kq(z:Array Value)(n:Nat):(madeCells z (n*z.size)).toList=(List.replicate n z.toList).flatten:=by
 have:=jT z.toList n
 rw[Array.length_toList] at this
 rw[←this,madeCells,Array.toList_map,Array.toList_range]
 exact List.map_congr_left fun a _=>Array.getElem!_toList.symm
theorem gV{cs:List AV}{us:List Value}(h:bF w S m cs us):∀n:Nat,bF w S m (List.replicate n cs).flatten (List.replicate n us).flatten
 | 0=>bu.2 rfl
 | n+1=>by
   rw[List.replicate_succ,List.replicate_succ,List.flatten_cons,List.flatten_cons]
   exact h.append (gV h n)
theorem iL{α:Type}{l:List α}{s:Nat}(hl:l.length=s):∀{n i:Nat},i<n→(((List.replicate n l).flatten).drop (i*s)).take s=l
 | n+1,0,_=>by rw[List.replicate_succ,List.flatten_cons,Nat.zero_mul,List.drop_zero,List.take_append_of_le_length (by omega),List.take_of_length_le (by omega)]
 | n+1,i+1,h=>by
   rw[List.replicate_succ,List.flatten_cons,Nat.succ_mul,Nat.add_comm,←List.drop_drop,List.drop_left' hl]
   exact iL hl (by omega)
def PS(P:Program)(w0 w:World)(S:St)(m:Mem)(s:Sem Next)(v:AV)(m':Mem):Prop:=
 ∃nx z w' S',s.run P w=.ok nx w'∧(nx=.value z∨(nx=.skip∧v=.undef))∧Step w0 w S m w' S' m'∧CR w' S' m' v z
theorem qm(hW:WR w0 w S m){us:Array Value}{e:TypeId}{cs:List AV}(fz:Bool)(hc:bF w S m cs us.toList) :
  Step w0 w S m (w.alloc (.cells us e)) (S.push m.length w.heap.size 0 fz) (m ++ [.flat fz cs]):=by
 have hO:=fo hW (.cells us e) (.flat fz cs) 0 fz
 refine Step.push hW (bx:=.flat fz cs) rfl ⟨us,e,(0,0),?_,rfl,hc.mono hO⟩
 simp only[St.push,if_pos]
 exact heap_alloc_new w _
theorem A8(fz:Bool){w':World}{cs:List AV}{b d:Nat}:CR w' (S.push m.length b d fz) (m ++ [.flat fz cs]) (.ptr m.length 0) (.pointer (some ⟨b,0,none⟩)):=by
 rw[CR,Mem.dp]
 simp only[St.push,if_pos]
theorem uY{E:PT TI}(hE:fv P E)(hW:WR w0 w S m){T:TypeId}{p v:AV}{u x:Value}{m':Mem}(hp:CR w S m p u)(hv:CR w S m v x)(h:(wA ai (E.get T) m p v).Is m') :
  ∃w' S',(Instr.storeAt T u x).run P w=.ok () w'∧Step w0 w S m w' S' m':=by
 unfold wA at h
 cases ht:E.get T with
 | none=>rw[ht] at h;exact h.elim
 | some ti=>
   rw[ht] at h
   simp only at h
   cases hc:(v.known m&&(Nat.beq v.cells.length ti.size&&mM m v.cells)) with
   | false=>rw[hc] at h;exact h.elim
   | true=>
     rw[hc] at h
     simp only[Bool.and_eq_true] at hc
     have h:=jC h
     have hcells:=p8 hc.1 hv
     obtain⟨b,off,w',S',rfl,hst,hs⟩:=um (P:=P) hW hp hcells hc.2.2 h
     have hlen:=hcells.length
     rw[Nat.eq_of_beq_eq_true hc.2.1,Array.length_toList] at hlen
     refine⟨w',S',?_,hs⟩
     simp[Instr.storeAt,Instr.sureAddr,storeVar,(hE T ti ht).iE w,hlen,hst]
theorem tT{t:Ty}{v:AV}{u:Value}{y:List t.T}{I:Nat→Prop}(hv:CR w S m v u)(hy:xx w I t u y)(hs:sliceData ai t m v=some y):∀b,su v=some b→decide (y.length=0)=b:=by
 obtain⟨a,cap,us,e,_⟩:=hy
 intro b hb
 cases v<;>simp only[su] at hb<;>try (cases hb;done)
 case bd b'=>
  cases hb
  obtain⟨a',rfl,_⟩:=dX.1 hv
  cases hs
  rfl
 case jD id sz c lo n=>
  cases c<;>simp only at hb<;>try (cases hb;done)
  cases hb
  rw[CR] at hv
  simp only[sliceData] at hs
  cases hm:m.at id<;>rw[hm] at hv hs<;>(try simp only at hv hs)<;>try (cases hs;done)
  ·obtain⟨l,k,cap',a',h1,h2,h3,h4,h5,h6,h7,h8⟩:=hv
   rw[h7] at e
   cases e
   subst h2
   simp
  ·obtain⟨l,k,cap',a',h1,h2,h3,h4,h5,h6,h7,h8⟩:=hv
   rw[h7] at e
   cases e
   subst h2
   simp
theorem rc.Er{T:TypeId}{te:TI}{t:Ty}(h:rc P T te)(ht:te.ty=some t):t.size=te.size:=(h.ty t ht).1
theorem CP{q:Bool}{tv:TV (AV×Mem)}{x:AV×Mem}(h:(Js ai q tv).Is x):tv.Is x:=by
 cases q with
 | false=>exact h
 | true=>
   cases tv with
   | leaf p=>
     obtain⟨v,m⟩:=p
     cases v<;>first|exact h|exact h.elim
   | br b t e=>
     obtain⟨h1,h2⟩:=(show ai.not b=true∧e.Is x from h)
     cases b with
     | true=>exact absurd h1 (by simp[ai])
     | false=>exact .inr ⟨rfl,h2⟩
   | _=>exact h
theorem tc(hW:WR w0 w S m){T T' ty e e':TypeId}(ht:P.underlying T=some (.slice e))(ht':P.underlying T'=some (.slice e')){te:TI}(hte:rc P e te){t:Ty}(hty:te.ty=some t)
  {dst src:AV} {u x:Value} {v:AV} {m':Mem} (hd:CR w S m dst u) (hx:CR w S m src x) (h:(rQ ai t te.bytes m dst src).Is (v,m')) :
  ∃z w' S',(Builtin.append_ #[T,T'] ty #[u,x]).run P w=.ok z w'∧Step w0 w S m w' S' m'∧CR w' S' m' v z:=by
 unfold rQ at h
 cases hsd:sliceData ai t m src with
 | none=>rw[hsd] at h;exact h.elim
 | some y=>
   cases hsf:eU ai t m src with
   | none=>rw[hsd,hsf] at h;exact h.elim
   | some m1=>
     rw[hsd,hsf] at h
     simp only at h
     obtain⟨S1,s1,hy⟩:=iM hW hx hsd hsf
     obtain⟨us,hsrc,hrep⟩:=hy.src
     obtain⟨z,w',S',h1,h2,h3⟩:=rm (ty:=ty) s1.wr ht ht' (fun k hk=>by cases hk) hte hty (hd.mono s1.out) hsrc hrep (tT hx hy hsd) h
     exact⟨z,w',S',h1,s1.trans h2,h3⟩
theorem xx.take{I:Nat→Prop}{t:Ty}{v:Value}{y:List t.T}(h:xx w I t v y){n:Nat}(hn:n≤y.length):(Builtin.lenOf v).run P w=.ok y.length w∧
  ∃us:List Value,us.length=n*t.size∧(Builtin.firstCells t.size n v).run P w=.ok us.toArray w∧∀(i:Nat) (z:t.T),i<n→y[i]? = some z→aP w I t ((us.drop (i*t.size)).take t.size) z:=by
 obtain⟨a,cap,us,rfl,h2,h3,h4,h5,h6,h7⟩:=h
 have hle:n*t.size≤y.length*t.size:=Nat.mul_le_mul_right _ hn
 have hl:(us.take (n*t.size)).length=n*t.size:=by rw[List.length_take];omega
 refine⟨rfl,us.take (n*t.size),hl,gL hl (fun hne=>?_) w rfl,fun i z hi hz=>?_⟩
 ·obtain⟨b,off,e,hr⟩:=h4 (by omega)
  refine⟨b,off,e,fun j u hj=>hr j u ?_⟩
  rw[List.getElem?_take] at hj
  split at hj
  ·exact hj
  ·cases hj
 ·have hle2:i*t.size+t.size≤n*t.size:=by
   have:=Nat.mul_le_mul_right t.size (show i+1≤n by omega)
   rwa [Nat.succ_mul] at this
  rw[List.drop_take,List.take_take,Nat.min_eq_left (by omega)]
  exact h7 i z hz
theorem Ag(hW:WR w0 w S m){id:Nat}{t:Ty}{x y:List t.T}(hm:m.at id=.arr false t x)(hso:t.kt=true){l:Nat}{us:List Value}(hl:us.length=y.length*t.size)(hfit:l+y.length≤x.length)
  (hr:∀(i:Nat) (z:t.T),y[i]? = some z→aP w S.I t ((us.drop (i*t.size)).take t.size) z) :
  ∃w',(storeCells ⟨S.σ id,S.δ id+l*t.size,none⟩ us).run P w=.ok () w'∧Step w0 w S m w' S (m.set id (.arr false t (x.take l++y++x.drop (l+y.length)))):=by
 have hb:=hW.box id
 rw[hm] at hb
 obtain⟨hlm,cur,T,fr,k1,k2,k3,k4⟩:=hb
 have k2:fr=(0,0):=k2
 subst k2
 have hlu:cur.toList.length=cur.size:=Array.length_toList
 have hle:(l+y.length)*t.size≤x.length*t.size:=Nat.mul_le_mul_right _ hfit
 rw[Nat.add_mul] at hle
 have h1c:∀v∈us,v.oneCell'=true:=fun u hu=>by
  obtain⟨i,hi,hu⟩:=pJ hl hu
  exact aP.oneCell t hso (hr i _ (List.getElem?_eq_getElem hi)) u hu
 have hst:=run_storeCells_at P (S.σ id) (S.δ id+l*t.size) T us 0 cur w k1 (by omega) h1c
 simp only[Nat.add_zero] at hst
 have hsz:((cur.toList.take (S.δ id+l*t.size)++us++cur.toList.drop (S.δ id+l*t.size+us.length)).toArray).size=cur.size:=by
  rw[List.size_toArray,List.length_append,List.length_append,List.length_take,List.length_drop];omega
 have ht:=gH k1 hsz
 have hlive:(m.at id).bJ=true:=by rw[hm];rfl
 have hfz:(m.at id).jA=false:=by rw[hm];rfl
 have hxl:(x.take l++y++x.drop (l+y.length)).length=x.length:=by
  rw[List.length_append,List.length_append,List.length_take,List.length_drop];omega
 have hkeep:dL (m.at id) (.arr false t (x.take l++y++x.drop (l+y.length))):=by
  rw[hm];exact⟨rfl,hxl,rfl⟩
 have hc:(m.at id).ed=true→(iJ.arr false t (x.take l++y++x.drop (l+y.length))).ed=true:=fun h=>by rw[hm] at h;cases h
 have hO:=eX hW hlive hfz hkeep hc ht
 refine⟨_,hst,hW.set hlive hfz hkeep hc rfl ht ⟨by rw[hxl];exact hlm,(cur.toList.take (S.δ id+l*t.size)++us++cur.toList.drop (S.δ id+l*t.size+us.length)).toArray,T,(0,0),setRow_heap w _ cur _ T _ k1,rfl,by rw[hxl,hsz];exact k3,fun i z hz=>?_⟩,hO,.refl⟩
 rw[ic (by omega)] at hz
 have elem:∀{i:Nat},x[i]? = some z→(i<l∨l+y.length≤i)→aP (w.setRow (S.σ id) (cur.toList.take (S.δ id+l*t.size)++us++cur.toList.drop (S.δ id+l*t.size+us.length)).toArray) S.I t
   (((cur.toList.take (S.δ id+l*t.size)++us++cur.toList.drop (S.δ id+l*t.size+us.length)).drop (S.δ id+i*t.size)).take t.size) z:=by
  intro i hz ho
  have hi:i<x.length:=(List.getElem?_eq_some_iff.1 hz).1
  rw[iZ (by omega) (by
   rcases ho with ho|ho
   ·have:=Nat.mul_le_mul_right t.size (show i+1≤l by omega)
    rw[Nat.succ_mul] at this;omega
   ·have:=Nat.mul_le_mul_right t.size ho
    rw[Nat.add_mul] at this;omega)]
  exact(k4 i z hz).mono hO.lG
 by_cases h1:i<l
 ·rw[if_pos h1] at hz;exact elem hz (.inl h1)
 ·rw[if_neg h1] at hz
  by_cases h2:i<l+y.length
  ·rw[if_pos h2] at hz
   have hi2:i-l<y.length:=by omega
   have hle2:(i-l)*t.size+t.size≤y.length*t.size:=by
    have:=Nat.mul_le_mul_right t.size (show i-l+1≤y.length by omega)
    rwa [Nat.succ_mul] at this
   have e1:i*t.size=l*t.size+(i-l)*t.size:=by rw[←Nat.add_mul];congr 1;omega
   have e2:((cur.toList.take (S.δ id+l*t.size)++us++cur.toList.drop (S.δ id+l*t.size+us.length)).drop (S.δ id+i*t.size)).take t.size=(us.drop ((i-l)*t.size)).take t.size:=by
    apply List.ext_getElem?
    intro j
    rw[List.getElem?_take,List.getElem?_take]
    by_cases hj:j<t.size
    ·rw[if_pos hj,if_pos hj,List.getElem?_drop,List.getElem?_drop,ic (by omega),if_neg (by omega),if_pos (by omega)]
     congr 1;omega
    ·rw[if_neg hj,if_neg hj]
   show aP _ S.I t (((cur.toList.take (S.δ id+l*t.size)++us++cur.toList.drop (S.δ id+l*t.size+us.length)).drop (S.δ id+i*t.size)).take t.size) z
   rw[e2]
   exact(hr _ z hz).mono hO.lG
  ·rw[if_neg h2] at hz;exact elem hz (.inr (by omega))
theorem xf(hW:WR w0 w S m){T T' ty e:TypeId}(ht:P.underlying T=some (.slice e)){te:TI}(hte:rc P e te){t:Ty}(hty:te.ty=some t)
  {dst src:AV} {u x:Value} {v:AV} {m':Mem} (hd:CR w S m dst u) (hx:CR w S m src x) (h:(zz ai t m dst src).Is (v,m')) :
  ∃z w' S',(Builtin.copy_ #[T,T'] ty #[u,x]).run P w=.ok z w'∧Step w0 w S m w' S' m'∧CR w' S' m' v z:=by
 obtain⟨i,z0,hi,his,_⟩:=hte.info
 have hts:i.size=t.size:=by rw[his,hte.Er hty]
 unfold zz at h
 cases hsd:sliceData ai t m src with
 | none=>rw[hsd] at h;exact h.elim
 | some y=>
   cases hsf:eU ai t m src with
   | none=>rw[hsd,hsf] at h;exact h.elim
   | some m1=>
     rw[hsd,hsf] at h
     simp only at h
     obtain⟨S1,s1,hy⟩:=iM hW hx hsd hsf
     have hd1:=hd.mono s1.out
     have hylm:y.length≤cY:=by obtain⟨_,_,_,_,h2,_⟩:=hy;exact h2
     -- the core: n elements go to place l of the box
     have core:∀{id l dl cap:Nat} {a:Option Addr} {xs:List t.T},m1.at id=.arr false t xs→u=.slice a dl cap→l+dl≤xs.length→(dl≠0→a=some ⟨S1.σ id,S1.δ id+l*t.size,none⟩)→
       ∃w' S',(Builtin.copy_ #[T,T'] ty #[u,x]).run P w=.ok (.int .i64 (Nat.min y.length dl:Nat)) w'∧Step w0 w S m w' S' (m1.set id (.arr false t (xs.take l++y.take (Nat.min y.length dl)++xs.drop (l+(y.take (Nat.min y.length dl)).length)))):=by
      intro id l dl cap a xs hm hu hfit ha
      subst hu
      have hmin:Nat.min y.length dl≤y.length:=Nat.min_le_left ..
      have hmin2:Nat.min y.length dl≤dl:=Nat.min_le_right ..
      obtain⟨hlen,us,g1,g2,g3⟩:=hy.take (P:=P) hmin
      have htk:(y.take (Nat.min y.length dl)).length=Nat.min y.length dl:=by rw[List.length_take];exact Nat.min_eq_left hmin
      obtain⟨w',hst,hs⟩:=Ag (P:=P) s1.wr hm (hte.kt _ hty) (l:=l) (y:=y.take (Nat.min y.length dl)) (us:=us) (by rw[htk];exact g1) (by rw[htk];omega) (fun i z hz=>by
       rw[List.getElem?_take] at hz
       split at hz
       ·rename_i hi;exact g3 i z hi hz
       ·cases hz)
      by_cases h0:dl=0
      ·have hus:us=[]:=List.eq_nil_of_length_eq_zero (by rw[g1,show Nat.min y.length dl=0 from by omega];omega)
       subst hus
       have hw':w'=w:=by
        have:(storeCells ⟨S1.σ id,S1.δ id+l*t.size,none⟩ []).run P w=.ok () w:=rfl
        rw[this] at hst
        cases hst;rfl
       subst hw'
       refine⟨_,S1,?_,s1.trans hs⟩
       cases a with
       | none=>simp[Builtin.copy_,run_underlying ht,hlen,sizeOf,typeInfo,hi,hts,g2,goInt]
       | some a=>simp[Builtin.copy_,run_underlying ht,hlen,sizeOf,typeInfo,hi,hts,g2,goInt,storeCells]
      ·have ha:=ha h0
       subst ha
       refine⟨_,S1,?_,s1.trans hs⟩
       simp[Builtin.copy_,run_underlying ht,hlen,sizeOf,typeInfo,hi,hts,g2,goInt,hst]
     have mn:∀dl:Nat,ai.mn (ai.l y) (dl:Int)=((Nat.min y.length dl:Nat):Int):=by
      intro dl
      show(if (dl:Int)<(y.length:Int) then(dl:Int) else(y.length:Int))=_
      split
      ·rw[show Nat.min y.length dl=dl from Nat.min_eq_right (by omega)]
      ·rw[show Nat.min y.length dl=y.length from Nat.min_eq_left (by omega)]
     have hasI:∀dl:Nat,IntKind.i64.has ((Nat.min y.length dl:Nat):Int):=fun dl=>dP (Nat.le_trans (Nat.min_le_left ..) hylm)
     have sub0:∀n:Nat,ai.s y 0 (n:Int)=y.take n:=fun n=>by
      show(y.take (n:Int).toNat).drop (0:Int).toNat=_
      rw[Int.toNat_natCast];rfl
     cases dst<;>(try simp only at h)<;>try exact h.elim
     case own id=>
      rw[CR] at hd1
      cases hm:m1.at id<;>rw[hm] at h hd1<;>(try simp only at hd1 h)<;>try (exact h.elim)
      rename_i fz t' xs
      cases fz<;>(try simp only at h)<;>try (exact h.elim)
      by_cases hbq:t'.beq t=true
      ·rw[dif_pos hbq] at h
       have:=Ty.eq_of_beq hbq;subst this
       cases h
       obtain⟨cap,rfl,hcap,_⟩:=hd1
       obtain⟨w',S',h1,h2⟩:=core (l:=0) hm rfl (by omega) (fun _=>by rw[Nat.zero_mul,Nat.add_zero])
       refine⟨_,w',S',h1,?_,bC.2 ⟨?_,?_⟩⟩
       ·have e:ai.spl xs 0 (ai.s y 0 (ai.mn (ai.l y) (ai.l xs)))=xs.take 0++y.take (Nat.min y.length xs.length)++xs.drop (0+(y.take (Nat.min y.length xs.length)).length):=by
         rw[cf xs,mn,sub0];rfl
        show Step w0 w S m w' S' (m1.set id (.arr false t' (ai.spl xs 0 (ai.s y 0 (ai.mn (ai.l y) (ai.l xs))))))
        rw[e];exact h2
       ·show _=Value.int .i64 (ai.mn (ai.l y) (ai.l xs))
        rw[cf xs,mn]
       ·show IntKind.i64.has (ai.mn (ai.l y) (ai.l xs))
        rw[cf xs,mn];exact hasI _
      ·rw[dif_neg hbq] at h;exact h.elim
     case jD id sz c lo len=>
      cases c<;>(try simp only at h)<;>try exact h.elim
      rw[CR] at hd1
      cases hm:m1.at id<;>rw[hm] at h hd1<;>(try simp only at hd1 h)<;>try (exact h.elim)
      rename_i fz t' xs
      cases fz<;>(try simp only at h)<;>try (exact h.elim)
      by_cases hbq:t'.beq t=true
      ·rw[dif_pos hbq] at h
       have:=Ty.eq_of_beq hbq;subst this
       cases h
       obtain⟨l,n,cap,a,rfl,rfl,rfl,h4,h5,h6,rfl,h8⟩:=hd1
       obtain⟨w',S',h1,h2⟩:=core (l:=l) hm rfl h4 h8
       refine⟨_,w',S',h1,?_,bC.2 ⟨?_,?_⟩⟩
       ·have e:ai.spl xs (l:Int) (ai.s y 0 (ai.mn (ai.l y) (n:Int)))=xs.take l++y.take (Nat.min y.length n)++xs.drop (l+(y.take (Nat.min y.length n)).length):=by
         rw[mn,sub0];show xs.take (l:Int).toNat++_++xs.drop ((l:Int).toNat+_)=_
         rw[Int.toNat_natCast]
        show Step w0 w S m w' S' (m1.set id (.arr false t' (ai.spl xs (l:Int) (ai.s y 0 (ai.mn (ai.l y) (n:Int))))))
        rw[e];exact h2
       ·show _=Value.int .i64 (ai.mn (ai.l y) (n:Int))
        rw[mn]
       ·show IntKind.i64.has (ai.mn (ai.l y) (n:Int))
        rw[mn];exact hasI _
      ·rw[dif_neg hbq] at h;exact h.elim
end
end Go.Ev
namespace Go.Ev
section
variable {P:Program} {w0 w:World} {S:St} {m:Mem}
theorem xS{R:Type}{E:dE R}(hE:fv P E.ti)(hW:WR w0 w S m){ρa:Operand→AV}{ρc:Operand→Value}(hρ:∀x,CR w S m (ρa x) (ρc x)){fn:FuncId}{o:Oper}{v:AV}{m':Mem}
  (h:(kz ai E fn ρa m o).Is (v,m')):PS P w0 w S m (execOp ρc o) v m':=by
 obtain⟨dst,op,ty,pos,after,guard⟩:=o
 unfold kz at h
 cases op<;>simp only at h<;>try exact h.elim
 case alloc t=>
  cases ht:E.ti.get t with
  | none=>rw[ht] at h;exact h.elim
  | some ti=>
    rw[ht] at h
    cases h
    obtain⟨i,z,h1,h2,h3,h4,h5,_⟩:=(hE t ti ht).info
    exact⟨.value (.pointer (some ⟨w.heap.size,0,none⟩)),_,_,_,by simp[execOp,Instr.alloc,zeroValue,typeInfo,h1,h4,newVar,newRow];rfl,.inl rfl,qm hW false (h5 w S m),A8 false⟩
 case box t x=>
  cases hk:(ρa x).known m with
  | false=>rw[hk] at h;exact h.elim
  | true=>
    rw[hk] at h
    cases h
    exact⟨.value (.pointer (some ⟨w.heap.size,0,none⟩)),_,_,_,by simp[execOp,Instr.box,newVar,newRow];rfl,.inl rfl,qm hW _ (p8 hk (hρ x)),A8 _⟩
 case buildSlice t n ps=>
  cases ht:E.ti.get t with
  | none=>rw[ht] at h;exact h.elim
  | some ti=>
    obtain⟨kind,size,bytes,agg,zero,tyy,eq⟩:=ti
    have hT:=hE t _ ht
    rw[ht] at h
    cases kind<;>simp only at h<;>try exact h.elim
    rename_i e
    have hTu:P.underlying t=some (.slice e):=hT.bU (k:=.slice e) rfl
    cases he:E.ti.get e with
    | none=>rw[he] at h;exact h.elim
    | some te=>
      rw[he] at h
      simp only at h
      have hte:=hE e te he
      obtain⟨i,z,h1,h2,h3,h4,h5,_⟩:=hte.info
      cases hf:tY m te.size (ps.toList.map fun p=>(p.1,ρa p.2)) ((List.replicate n te.zero).flatten) with
      | none=>rw[hf] at h;exact h.elim
      | some cs=>
        rw[hf] at h
        simp only at h
        cases hc:(Nat.ble (n*te.size) 16777216&&Nat.ble n 140737488355328) with
        | false=>rw[hc] at h;exact h.elim
        | true=>
          rw[hc] at h
          simp only at h
          simp only[Bool.and_eq_true] at hc
          have hc1:=Nat.le_of_ble_eq_true hc.1
          have hc2:=Nat.le_of_ble_eq_true hc.2
          have hzs:z.cells.size=te.size:=by
           have:=(h5 w S m).length
           rw[Array.length_toList,hte.Vu] at this
           exact this
          have hz:bF w S m (List.replicate n te.zero).flatten (madeCells z.cells (n*te.size)).toList:=by
           rw[←hzs,kq]
           exact gV (h5 w S m) n
          obtain⟨us',g1,g2,g3⟩:=my hρ ps.toList _ cs (madeCells z.cells (n*te.size)) hf hz
          cases hlit:zK ai te.ty n m cs with
          | none=>rw[hlit] at h;exact h.elim
          | some q=>
          obtain⟨m1,cs1⟩:=q
          rw[hlit] at h
          cases h
          obtain⟨S1,s1,g2⟩:=wj hW hlit g2
          have hW1:=s1.wr
          have e0:(ps.map fun(i,x)=>(i,ρc x)).toList=ps.toList.map fun p=>(p.1,ρc p.2):=by simp
          have hO:=fo hW1 (.cells us' e) (.flat false cs1) 0 false
          have hul:us'.size=n*te.size:=by rw[g3,size_madeCells]
          refine⟨.value (.slice (some ⟨w.heap.size,0,none⟩) n n),.slice (some ⟨w.heap.size,0,none⟩) n n,w.alloc (.cells us' e),_,?_,.inl rfl,s1.trans (qm hW1 false g2),?_⟩
          ·by_cases hn:n*te.size=0
           ·have hm0:madeCells z.cells (n*te.size)=#[]:=by
             rw[hn];exact Array.eq_empty_of_size_eq_zero (size_madeCells _ _)
            rw[hm0] at g1
            simp only[execOp,Instr.buildSlice,Sem.run_bind,run_underlying hTu,Result.andThen_ok,sizeOf,typeInfo,run_program,h1,Sem.run_pure]
            rw[h2,hn]
            simp[g1,newRow,Array.range_zero']
           ·have hc1':¬(16777216<n*te.size):=by omega
            simp only[execOp,Instr.buildSlice,Sem.run_bind,run_underlying hTu,Result.andThen_ok,sizeOf,typeInfo,run_program,h1,Sem.run_pure]
            rw[h2]
            rw[madeCells] at g1
            simp[hn,hc1',zeroValue,typeInfo,h1,h4,g1,newRow]
          ·rw[CR,Mem.dp]
           refine⟨0,n,n,some ⟨w.heap.size,0,none⟩,rfl,rfl,by rw[bX];omega,?_,Nat.le_refl _,(fun h=>by cases h),rfl,fun _=>?_⟩
           ·rw[Nat.zero_add,←hul,←Array.length_toList,g2.length];exact Nat.le_refl _
           ·simp only[St.push,if_pos,Nat.zero_mul]
 case makeSlice t l c=>
  cases ht:E.ti.get t with
  | none=>rw[ht] at h;exact h.elim
  | some ti=>
    obtain⟨kind,size,bytes,agg,zero,tyy,eq⟩:=ti
    have hT:=hE t _ ht
    rw[ht] at h
    cases kind<;>simp only at h<;>try exact h.elim
    rename_i e
    have hTu:P.underlying t=some (.slice e):=hT.bU (k:=.slice e) rfl
    cases he:E.ti.get e with
    | none=>rw[he] at h;exact h.elim
    | some te=>
      obtain⟨tkind,tsize,tbytes,tagg,tzero,tty,teq⟩:=te
      rw[he] at h
      cases tty with
      | none=>exact h.elim
      | some d=>
        simp only at h
        have hte:=hE e _ he
        have hl:=hρ l
        have hcc:=hρ c
        cases hla:ρa l<;>rw[hla] at h hl<;>(try simp only at h)<;>try exact h.elim
        cases hca:ρa c<;>rw[hca] at h hcc<;>(try simp only at h)<;>try exact h.elim
        rename_i k1 c1 n k2 c2 n'
        obtain⟨hb,h⟩:=h
        cases h
        obtain⟨hv1,_⟩:=bC.1 hl
        obtain⟨hv2,_⟩:=bC.1 hcc
        have hb:(ai.c .eql n n'&&(ai.c .leq 0 n&&ai.c .leq n (140737488355328/(tbytes.max 1:Nat))))=true:=hb
        rw[Bool.and_eq_true,Bool.and_eq_true,xH,pg,pg] at hb
        obtain⟨rfl,h0,hfit⟩:=hb
        obtain⟨k,rfl⟩:∃k:Nat,n=(k:Int):=⟨n.toNat,by omega⟩
        obtain⟨f1,f2⟩:=wJ hfit
        rw[bX] at f1
        obtain⟨i,z,h1,h2,h3,h4,_,h6⟩:=hte.info
        have hrun:=run_make (P:=P) w t e i z hTu h1 h4 k1 k2 k k h0 (Int.le_refl _) (by
         rw[h3]
         have:((k*tbytes:Nat):Int)≤140737488355328:=by generalize k*tbytes=q at f2 ⊢;omega
         rw[Int.natCast_mul,Int.mul_comm] at this
         show(tbytes:Int)*_≤_
         omega) (by omega)
        rw[Int.toNat_natCast,h2] at hrun
        have hzr:=h6 d rfl w S.I
        have hds:d.size=tsize:=hte.Er rfl
        have hzl:z.cells.size=d.size:=by rw[←Array.length_toList];exact hzr.length
        have hmade:madeCells z.cells (k*tsize)=(List.replicate k z.cells.toList).flatten.toArray++(#[]:Array Value):=by
         apply Array.ext'
         rw[←hds,←hzl,kq,Array.toList_append];exact(List.append_nil _).symm
        have hxl:(List.replicate k d.gB).length=k:=List.length_replicate
        have hfl:((List.replicate k z.cells.toList).flatten).length=k*d.size:=by
         rw[List.length_flatten,List.map_replicate,List.sum_replicate_nat,Array.length_toList,hzl]
        rw[hmade] at hrun
        obtain⟨S',s',c'⟩:=yh hW (t:=d) (e:=e) (xs:=List.replicate k d.gB) (us:=(List.replicate k z.cells.toList).flatten) (zs:=#[]) (cap:=k) (by rw[hxl,hfl]) (by rw[hfl];simp) (by rw[hxl];exact Nat.le_refl _) (by rw[hxl,bX];exact f1) (fun j y hy=>by
         have hj:j<k:=by have:=(List.getElem?_eq_some_iff.1 hy).1;rwa [hxl] at this
         rw[List.getElem?_replicate,if_pos hj] at hy
         cases hy
         rw[iL (by rw[Array.length_toList,hzl]) hj]
         exact hzr)
        have erep:ai.r (k:Int) d.gB=List.replicate k d.gB:=by show List.replicate (k:Int).toNat _=_;rw[Int.toNat_natCast]
        rw[erep]
        refine⟨.value (.slice (some ⟨w.heap.size,0,none⟩) k k),_,_,S',by simp only[execOp,hv1,hv2,Sem.run_bind,hrun,Result.andThen_ok,Sem.run_pure],.inl rfl,s',?_⟩
        rw[hxl] at c'
        exact c'
 case store t p x=>
  obtain⟨m1,hm,e⟩:=TV.sP h
  cases e
  obtain⟨w',S',h1,h2⟩:=uY hE hW (hρ p) (hρ x) hm
  exact⟨.skip,.bool true,w',S',by simp[execOp,h1],.inr ⟨rfl,rfl⟩,h2,du⟩
 case call c=>
  obtain⟨callee,args,argTypes⟩:=c
  cases callee<;>(try simp only at h)<;>try exact h.elim
  rename_i b
  cases b<;>(try simp only at h)<;>try exact h.elim
  case append=>
   obtain⟨l⟩:=args
   obtain⟨tl⟩:=argTypes
   simp only at h
   match l,tl,h with
   | [d,s],t::t'::ts,h=>
     simp only at h
     cases ht:E.ti.get t with
     | none=>rw[ht] at h;exact h.elim
     | some ti=>
       obtain⟨kind,size,bytes,agg,zero,tyy,eq⟩:=ti
       have hT:=hE t _ ht
       rw[ht] at h
       cases kind<;>(try simp only at h)<;>try exact h.elim
       rename_i e
       cases ht':E.ti.get t' with
       | none=>rw[ht'] at h;exact h.elim
       | some ti'=>
         obtain⟨kind',size',bytes',agg',zero',tyy',eq'⟩:=ti'
         have hT':=hE t' _ ht'
         rw[ht'] at h
         cases kind'<;>(try simp only at h)<;>try exact h.elim
         rename_i e'
         cases he:E.ti.get e with
         | none=>rw[he] at h;exact h.elim
         | some te=>
           obtain⟨tkind,tsize,tbytes,tagg,tzero,tty,teq⟩:=te
           rw[he] at h
           cases tty with
           | none=>exact h.elim
           | some dt=>
             simp only at h
             obtain⟨z,w',S',h1,h2,h3⟩:=tc (P:=P) (ty:=ty) hW (hT.bU (k:=.slice e) rfl) (hT'.bU (k:=.slice e') rfl) (hE e _ he) rfl (hρ d) (hρ s) (CP h)
             refine⟨.value z,z,w',S',?_,.inl rfl,h2,h3⟩
             have:(Builtin.append_ (t::t'::ts).toArray ty #[ρc d,ρc s]).run P w=.ok z w':=by
              rw[←h1];rfl
             simp[execOp,resolve,invoke,builtin,this]
  case copy=>
   obtain⟨l⟩:=args
   obtain⟨tl⟩:=argTypes
   simp only at h
   match l,tl,h with
   | [d,s],t::t'::ts,h=>
     simp only at h
     cases ht:E.ti.get t with
     | none=>rw[ht] at h;exact h.elim
     | some ti=>
       obtain⟨kind,size,bytes,agg,zero,tyy,eq⟩:=ti
       have hT:=hE t _ ht
       rw[ht] at h
       cases kind<;>(try simp only at h)<;>try exact h.elim
       rename_i e
       cases ht':E.ti.get t' with
       | none=>rw[ht'] at h;exact h.elim
       | some ti'=>
         obtain⟨kind',size',bytes',agg',zero',tyy',eq'⟩:=ti'
         rw[ht'] at h
         cases kind'<;>(try simp only at h)<;>try exact h.elim
         cases he:E.ti.get e with
         | none=>rw[he] at h;exact h.elim
         | some te=>
           obtain⟨tkind,tsize,tbytes,tagg,tzero,tty,teq⟩:=te
           rw[he] at h
           cases tty with
           | none=>exact h.elim
           | some dt=>
             simp only at h
             obtain⟨z,w',S',h1,h2,h3⟩:=xf (P:=P) (ty:=ty) (T':=t') hW (hT.bU (k:=.slice e) rfl) (hE e _ he) rfl (hρ d) (hρ s) h
             refine⟨.value z,z,w',S',?_,.inl rfl,h2,h3⟩
             have:(Builtin.copy_ (t::t'::ts).toArray ty #[ρc d,ρc s]).run P w=.ok z w':=by
              rw[←h1];rfl
             simp[execOp,resolve,invoke,builtin,this]
 case convert s d x=>
  cases ht:E.ti.get s with
  | none=>rw[ht] at h;exact h.elim
  | some ti=>
    obtain⟨kind,size,bytes,agg,zero,tyy,eq⟩:=ti
    have hT:=hE s _ ht
    rw[ht] at h
    cases kind<;>(try simp only at h)<;>try exact h.elim
    rename_i e
    cases hd:E.ti.get d with
    | none=>rw[hd] at h;exact h.elim
    | some di=>
      obtain⟨dkind,dsize,dbytes,dagg,dzero,dty,deq⟩:=di
      have hD:=hE d _ hd
      rw[hd] at h
      cases dkind<;>(try simp only at h)<;>try exact h.elim
      cases he:E.ti.get e with
      | none=>rw[he] at h;exact h.elim
      | some te=>
        obtain⟨tkind,tsize,tbytes,tagg,tzero,tty,teq⟩:=te
        have hte:=hE e _ he
        rw[he] at h
        cases tkind<;>(try simp only at h)<;>try exact h.elim
        rename_i k
        cases k<;>(try simp only at h)<;>try exact h.elim
        cases hsd:sliceData ai (.int .u8) m (ρa x) with
        | none=>rw[hsd] at h;exact h.elim
        | some y=>
          cases hsf:eU ai (.int .u8) m (ρa x) with
          | none=>rw[hsd,hsf] at h;exact h.elim
          | some m1=>
            rw[hsd,hsf] at h
            cases h
            obtain⟨S1,s1,hr⟩:=iM hW (hρ x) hsd hsf
            have hrun:(convert s d (ρc x)).run P w=.ok (.string ⟨(y.map fun n=>UInt8.ofNat n.toNat).toArray⟩) w:=yu (hT.bU (k:=.slice e) rfl) (hte.bU (k:=.int .u8) rfl) (hD.bU (k:=.str) rfl) hr
            exact⟨.value (.string ⟨(ai.bytes y).toArray⟩),_,w,S1,by simp only[execOp,Sem.run_bind,hrun,Result.andThen_ok,Sem.run_pure];rfl,.inl rfl,s1,yD hr⟩
end
end Go.Ev
namespace Go.Ev
theorem bH{a b:Nat}:Nat.beq a b=true↔a=b:=⟨Nat.eq_of_beq_eq_true,fun h=>by subst h;exact Nat.beq_refl a⟩
theorem bL{a b:Nat}:Nat.beq a b=false↔a≠b:=by
 constructor
 ·intro h e;rw[bH.2 e] at h;cases h
 ·intro h
  cases hb:Nat.beq a b with
  | false=>rfl
  | true=>exact absurd (bH.1 hb) h
section
variable {α:Type}
theorem PT.fT(l:PT α)(v:Option α)(r:PT α)(n:Nat):(PT.node l v r).get n=if n=0 then v else if n%2=1 then l.get (n/2) else r.get (n/2-1):=by
 rw[PT.get]
 by_cases h0:n=0
 ·rw[bH.2 h0,if_pos h0]
 ·rw[bL.2 h0,if_neg h0]
  by_cases h1:n%2=1
  ·simp only[bH.2 h1,if_pos h1]
  ·simp only[bL.2 h1,if_neg h1]
theorem PT.jB(n:Nat):(PT.leaf:PT α).get n=none:=by rw[PT.get]
theorem PT.C5(f n:Nat)(a:α):PT.put (f+1) .leaf n a=if n=0 then .node .leaf (some a) .leaf else if n%2=1 then .node (PT.put f .leaf (n/2) a) none .leaf else .node .leaf none (PT.put f .leaf (n/2-1) a):=by
 rw[PT.put]
 by_cases h0:n=0
 ·rw[bH.2 h0,if_pos h0]
 ·rw[bL.2 h0,if_neg h0]
  by_cases h1:n%2=1
  ·simp only[bH.2 h1,if_pos h1]
  ·simp only[bL.2 h1,if_neg h1]
theorem PT.DG(f n:Nat)(l:PT α)(v:Option α)(r:PT α)(a:α):PT.put (f+1) (.node l v r) n a=if n=0 then .node l (some a) r else if n%2=1 then .node (PT.put f l (n/2) a) v r else .node l v (PT.put f r (n/2-1) a):=by
 rw[PT.put]
 by_cases h0:n=0
 ·rw[bH.2 h0,if_pos h0]
 ·rw[bL.2 h0,if_neg h0]
  by_cases h1:n%2=1
  ·simp only[bH.2 h1,if_pos h1]
  ·simp only[bL.2 h1,if_neg h1]
theorem PT.get_put:∀(f:Nat) (t:PT α) (n m:Nat) (a:α),n+1<2^f→(PT.put f t n a).get m=if m=n then some a else t.get m
 | 0,t,n,m,a,h=>by simp at h
 | f+1,t,n,m,a,h=>by
   rw[Nat.pow_succ] at h
   have split:∀(l:PT α) (v:Option α) (r:PT α),t.get m=(PT.node l v r).get m→
     (if n=0 then PT.node l (some a) r else if n%2=1 then .node (PT.put f l (n/2) a) v r else .node l v (PT.put f r (n/2-1) a)).get m=if m=n then some a else t.get m:=by
    intro l v r e
    rw[e]
    by_cases h0:n=0
    ·subst h0
     rw[if_pos rfl,PT.fT,PT.fT]
     by_cases hm:m=0
     ·rw[if_pos hm,if_pos hm]
     ·rw[if_neg hm,if_neg hm,if_neg hm]
    ·rw[if_neg h0]
     by_cases h1:n%2=1
     ·rw[if_pos h1,PT.fT,PT.fT]
      by_cases hm:m=0
      ·rw[if_pos hm,if_neg (by omega),if_pos hm]
      ·rw[if_neg hm,if_neg hm]
       by_cases hm1:m%2=1
       ·rw[if_pos hm1,if_pos hm1,PT.get_put f l (n/2) (m/2) a (by omega)]
        by_cases he:m=n
        ·rw[if_pos he,if_pos (by rw[he])]
        ·rw[if_neg he,if_neg (by omega)]
       ·rw[if_neg hm1,if_neg hm1,if_neg (by intro e;subst e;exact hm1 h1)]
     ·rw[if_neg h1,PT.fT,PT.fT]
      by_cases hm:m=0
      ·rw[if_pos hm,if_neg (by omega),if_pos hm]
      ·rw[if_neg hm,if_neg hm]
       by_cases hm1:m%2=1
       ·rw[if_pos hm1,if_pos hm1,if_neg (by intro e;subst e;exact h1 hm1)]
       ·rw[if_neg hm1,if_neg hm1,PT.get_put f r (n/2-1) (m/2-1) a (by omega)]
        by_cases he:m=n
        ·rw[if_pos he,if_pos (by rw[he])]
        ·rw[if_neg he,if_neg (by omega)]
   cases t with
   | leaf=>
     rw[PT.C5]
     have:=split .leaf none .leaf (by rw[PT.jB,PT.fT,PT.jB,PT.jB];split<;>(try split)<;>rfl)
     exact this
   | node l v r=>
     rw[PT.DG]
     exact split l v r rfl
end
theorem Env.nJ{e:Env}{n m:Nat}{v:AV}(h:n≤65535):(e.put n v).at m=if m=n then v else e.at m:=by
 rw[Env.put,Env.at,Env.at,PT.get_put 20 e n m v (by omega)]
 by_cases hm:m=n
 ·rw[if_pos hm,if_pos hm]
 ·rw[if_neg hm,if_neg hm]
theorem Env.wB{e:Env}{d:Option Nat}{m:Nat}{v:AV}{n:Nat}(hd:gp n d=true)(hn:n≤65535):(e.dG d v).at m=if d=some m then v else e.at m:=by
 cases d with
 | none=>rw[Env.dG,if_neg (by intro h;cases h)]
 | some d=>
   have:d<n:=by have:=hd;simp only[gp] at this;exact Nat.le_of_ble_eq_true this
   rw[Env.dG,Env.nJ (by omega)]
   by_cases h:m=d
   ·rw[if_pos h,if_pos (by rw[h])]
   ·rw[if_neg h,if_neg (by intro e;exact h (by cases e;rfl))]
theorem Env.Ay(m:Nat):Env.at .leaf m=.undef:=by rw[Env.at,PT.jB]
theorem Env.Jl:∀{vs:List AV} {k m:Nat} {e:Env},k+vs.length≤65535→(Env.of k vs e).at m=if k≤m∧m<k+vs.length then vs.getD (m-k) .undef else e.at m
 | [],k,m,e,_=>by rw[Env.of,if_neg (by rw[List.length_nil];omega)]
 | v::vs,k,m,e,h=>by
   rw[List.length_cons] at h
   rw[Env.of,Env.Jl (by omega),Env.nJ (by omega),List.length_cons]
   by_cases h1:k+1≤m∧m<k+1+vs.length
   ·rw[if_pos h1,if_pos (by omega),show m-k=(m-(k+1))+1 from by omega];rfl
   ·rw[if_neg h1]
    by_cases h2:m=k
    ·subst h2;rw[if_pos rfl,if_pos (by omega),Nat.sub_self];rfl
    ·rw[if_neg h2,if_neg (by omega)]
theorem kv{α:Type}{ρ ρ':Operand→α}{l:List Operand}(h:∀x∈l,ρ x=ρ' x):l.map ρ=l.map ρ':=List.map_congr_left h
section
variable {A:bK} {R:Type} {E:dE R} {ρ ρ':Operand→AV} {m:Mem} {fn:FuncId} {o:Oper}
theorem qM(h:∀x∈o.op.operands.toList,ρ x=ρ' x):fG A E ρ m o=fG A E ρ' m o:=by
 obtain⟨dst,op,ty,pos,after,guard⟩:=o
 simp only at h
 unfold fG
 cases op<;>simp only[Op.operands,List.mem_cons,List.not_mem_nil,or_false,forall_eq_or_imp,forall_eq] at h ⊢
 case move x=>rw[h]
 case assign x=>rw[h]
 case pick c a b=>rw[h.1,h.2.1,h.2.2]
 case load t p=>rw[h]
 case nilCheck x=>rw[h]
 case binOp op t x y t2=>rw[h.1,h.2]
 case unOp op t x=>rw[h]
 case convert s d x=>rw[h]
 case fieldAddr t x i=>rw[h]
 case field t x i=>rw[h]
 case indexAddr t x i=>rw[h.1,h.2]
 case index t x i=>rw[h.1,h.2]
 case extract t i=>rw[h]
 case makeFunc f a c=>
  have h1:a.toList.map ρ=a.toList.map ρ':=kv fun x hx=>h x (by simp at hx ⊢;exact .inl hx)
  have h2:c.toList.map ρ=c.toList.map ρ':=kv fun x hx=>h x (by simp at hx ⊢;exact .inr hx)
  cases f<;>simp only[h1,h2]
 case slice t x lo hi mx=>
  have h0:ρ x=ρ' x:=h x (by simp)
  have hm:∀(y:Option Operand),(∀z,y=some z→ρ z=ρ' z)→y.map ρ=y.map ρ':=fun y hy=>by
   cases y with
   | none=>rfl
   | some z=>simp[hy z rfl]
  rw[h0,hm lo fun z hz=>h z (by simp[hz]),hm hi fun z hz=>h z (by simp[hz]),hm mx fun z hz=>h z (by simp[hz])]
 case build t ps=>
  have:(ps.toList.map fun p=>(p.1,ρ p.2))=ps.toList.map fun p=>(p.1,ρ' p.2):=List.map_congr_left fun p hp=>by
   rw[h p.2 (by simp;exact⟨p.1,by simpa using hp⟩)]
  rw[this]
 case call c=>
  obtain⟨callee,args,argTypes⟩:=c
  have ha:∀x∈args.toList,ρ x=ρ' x:=fun x hx=>h x (by
   simp only[Call.operands]
   simp at hx ⊢
   cases callee<;>simp[hx])
  have hm:args.toList.map ρ=args.toList.map ρ':=kv ha
  cases callee<;>(try rfl)
  rename_i b
  cases b<;>(try rfl)<;>(try simp only[hm])
  case len=>
   obtain⟨l⟩:=args
   match l,ha with
   | [],_=>rfl
   | [x],ha=>
     obtain⟨tl⟩:=argTypes
     cases tl with
     | nil=>rfl
     | cons t ts=>simp only;rw[ha x (by simp)]
   | _::_::_,_=>rfl
theorem yx(h:∀x∈o.op.operands.toList,ρ x=ρ' x):kz A E fn ρ m o=kz A E fn ρ' m o:=by
 obtain⟨dst,op,ty,pos,after,guard⟩:=o
 simp only at h
 unfold kz
 cases op<;>simp only[Op.operands,List.mem_cons,List.not_mem_nil,or_false,forall_eq_or_imp,forall_eq] at h ⊢
 case box t x=>rw[h]
 case store t p x=>rw[h.1,h.2]
 case makeSlice t l c=>rw[h.1,h.2]
 case convert s d x=>rw[h]
 case buildSlice t n ps=>
  have:(ps.toList.map fun p=>(p.1,ρ p.2))=ps.toList.map fun p=>(p.1,ρ' p.2):=List.map_congr_left fun p hp=>by
   rw[h p.2 (by simp;exact⟨p.1,by simpa using hp⟩)]
  rw[this]
 case call c=>
  obtain⟨callee,args,argTypes⟩:=c
  have ha:∀x∈args.toList,ρ x=ρ' x:=fun x hx=>h x (by
   simp only[Call.operands]
   simp at hx ⊢
   cases callee<;>simp[hx])
  cases callee<;>(try rfl)
  rename_i b
  cases b<;>(try rfl)
  case append=>
   obtain⟨l⟩:=args
   match l,ha with
   | [],_=>rfl
   | [x],_=>rfl
   | [d,s],ha=>
     obtain⟨tl⟩:=argTypes
     match tl with
     | []=>rfl
     | [_]=>rfl
     | t::t'::ts=>simp only;rw[ha d (by simp),ha s (by simp)]
   | _::_::_::_,_=>rfl
  case copy=>
   obtain⟨l⟩:=args
   match l,ha with
   | [],_=>rfl
   | [x],_=>rfl
   | [d,s],ha=>
     obtain⟨tl⟩:=argTypes
     match tl with
     | []=>rfl
     | [_]=>rfl
     | t::t'::ts=>simp only;rw[ha d (by simp),ha s (by simp)]
   | _::_::_::_,_=>rfl
theorem uj(h:∀x∈o.op.operands.toList,ρ x=ρ' x):mG A E m ρ o=mG A E m ρ' o:=by
 obtain⟨dst,op,ty,pos,after,guard⟩:=o
 simp only at h
 unfold mG
 cases op<;>(try rfl)
 rename_i c
 obtain⟨callee,args,argTypes⟩:=c
 simp only[Op.operands,Call.operands] at h
 cases callee<;>(try rfl)
 rename_i x
 have hx:ρ x=ρ' x:=h x (by simp)
 have hm:args.toList.map ρ=args.toList.map ρ':=kv fun y hy=>h y (by simp at hy ⊢;exact .inr hy)
 simp only[hx,hm]
theorem qe(h:∀x∈o.op.operands.toList,ρ x=ρ' x):FZ A E m ρ o=FZ A E m ρ' o:=by
 unfold FZ
 rw[qM h,uj h]
end
end Go.Ev
namespace Go.Ev
section
variable {P:Program} {fr:Frame} {k:List Item} {cs:List Frame} {w:World}
theorem Gk(hm:fr.mode=.run)(ht:fr.todo=.code .skip::k):step P (lone fr cs w)=.next (lone {fr with todo:=k} cs w):=
 step_lone_go (by simp[stepG,stepG.exec,hm,ht])
theorem Fa{l:Nat}(hm:fr.mode=.run)(ht:fr.todo=.code (.label l)::k):step P (lone fr cs w)=.next (lone {fr with todo:=k} cs w):=
 step_lone_go (by simp[stepG,stepG.exec,hm,ht])
theorem zg{id:Nat}(hm:fr.mode=.run)(ht:fr.todo=.inBlock id::k):step P (lone fr cs w)=.next (lone {fr with todo:=k} cs w):=
 step_lone_go (by simp[stepG,stepG.exec,hm,ht])
theorem Ac{b:Code}(hm:fr.mode=.run)(ht:fr.todo=.inScope b::k):step P (lone fr cs w)=.next (lone {fr with todo:=k} cs w):=
 step_lone_go (by simp[stepG,stepG.exec,hm,ht])
theorem LV{a b:Code}(hm:fr.mode=.run)(ht:fr.todo=.code (.seq a b)::k):step P (lone fr cs w)=.next (lone {fr with todo:=.code a :: .code b::k} cs w):=
 step_lone_go (by simp[stepG,stepG.exec,hm,ht])
theorem Ic{c:Operand}{a b:Code}{v:Bool}(hm:fr.mode=.run)(ht:fr.todo=.code (.cond c a b)::k)(hc:fr.eval c=.bool v) :
  step P (lone fr cs w)=.next (lone {fr with todo:=.code (if v then a else b)::k} cs w):=
 step_lone_go (by simp[stepG,stepG.exec,hm,ht,hc])
theorem Fb{id:Nat}{b:Code}(hm:fr.mode=.run)(ht:fr.todo=.code (.block id b)::k):step P (lone fr cs w)=.next (lone {fr with todo:=.code b :: .inBlock id::k} cs w):=
 step_lone_go (by simp[stepG,stepG.exec,hm,ht])
theorem Bl{b:Code}(hm:fr.mode=.run)(ht:fr.todo=.code (.loop b)::k):step P (lone fr cs w)=.next (lone {fr with todo:=.code b :: .inLoop b::k} cs w):=
 step_lone_go (by simp[stepG,stepG.exec,hm,ht])
theorem vY{b:Code}(hm:fr.mode=.run)(ht:fr.todo=.inLoop b::k):step P (lone fr cs w)=.next (lone {fr with todo:=.code b :: .inLoop b::k} cs w):=
 step_lone_go (by simp[stepG,stepG.exec,hm,ht])
theorem E0{b:Code}(hm:fr.mode=.run)(ht:fr.todo=.code (.scope b)::k):step P (lone fr cs w)=.next (lone {fr with todo:=.code b :: .inScope b::k} cs w):=
 step_lone_go (by simp[stepG,stepG.exec,hm,ht])
theorem GY{id:Nat}{k':List Item}(hm:fr.mode=.run)(ht:fr.todo=.code (.exit id)::k)(he:exitTo id k=some k'):step P (lone fr cs w)=.next (lone {fr with todo:=k'} cs w):=
 step_lone_go (by simp[stepG,stepG.exec,hm,ht,he])
theorem Hr{l:Nat}{k':List Item}(hm:fr.mode=.run)(ht:fr.todo=.code (.goto l)::k)(he:gotoIn l k=some k'):step P (lone fr cs w)=.next (lone {fr with todo:=k'} cs w):=
 step_lone_go (by simp[stepG,stepG.exec,hm,ht,he])
theorem v7{id:Nat}{os:Array Oper}(hm:fr.mode=.run)(ht:fr.todo=.code (.region id os false)::k) :
  step P (lone fr cs w)=.next (lone {fr with todo:=.inRegion os (List.range os.size)::k} cs w):=
 step_lone_go (by simp[stepG,stepG.exec,hm,ht])
theorem zA{id:Nat}{os:Array Oper}(hm:fr.mode=.run)(ht:fr.todo=.code (.region id os true)::k) :
  step P (lone fr cs w)=.next (lone {fr with todo:=.inRegion os (Region.schedule (P.follows .mixedOrders) os (w.tape w.drawn (.order fr.fn id)))::k} cs w.drew):=
 step_lone_go (by simp[stepG,stepG.exec,hm,ht,choose,Sem.run,Question.forced,Question.cut])
theorem sG{os:Array Oper}(hm:fr.mode=.run)(ht:fr.todo=.inRegion os []::k):step P (lone fr cs w)=.next (lone {fr with todo:=k} cs w):=
 step_lone_go (by simp[stepG,stepG.exec,hm,ht])
theorem Ht(hm:fr.mode=.run)(hr:fr.roundOf=none)(ht:fr.todo=.code .ret::k):step P (lone fr cs w)=.next (lone {fr with mode:=.returning} cs w):=
 step_lone_go (by simp[stepG,stepG.exec,hm,ht,hr])
theorem Hf(hm:fr.mode=.run)(hr:fr.roundOf=none)(ht:fr.todo=[]):step P (lone fr cs w)=.next (lone {fr with mode:=.returning} cs w):=
 step_lone_go (by simp[stepG,stepG.exec,hm,ht,hr])
theorem Bv{l:Nat}{g:Frame}{jump:Option Code}{v:Value}{w':World}(hm:fr.mode=.run)(hk:fr.kind=.normal)(hr:fr.roundOf=some l)
  (ht:(fr.todo=[]∧jump=none)∨(∃k,fr.todo=.code .ret::k∧jump=some .ret)∨(∃id k,fr.todo=.code (.exit id)::k∧exitTo id k=none∧jump=some (.exit id))∨(∃id k,fr.todo=.code (.goto id)::k∧gotoIn id k=none∧jump=some (.goto id)))
  (he:(Instr.endRound l jump).run P w=.ok v w'):step P (lone fr (g::cs) w)=.next (lone (g.finish v) cs w'):=by
 rcases ht with ⟨ht,rfl⟩|⟨k,ht,rfl⟩|⟨id,k,ht,hx,rfl⟩|⟨id,k,ht,hx,rfl⟩
 ·exact step_lone_go (by simp[stepG,stepG.exec,hm,ht,hr,he,doReturn,hk])
 ·exact step_lone_go (by simp[stepG,stepG.exec,hm,ht,hr,he,doReturn,hk])
 ·exact step_lone_go (by simp[stepG,stepG.exec,hm,ht,hr,he,doReturn,hk,hx])
 ·exact step_lone_go (by simp[stepG,stepG.exec,hm,ht,hr,he,doReturn,hk,hx])
theorem vt{os:Array Oper}{i:Nat}{l:List Nat}{o:Oper}(hm:fr.mode=.run)(ht:fr.todo=.inRegion os (i::l)::k)(ho:os[i]? = some o)(hw:Region.wanted o (yielded os fr.tmps)=false) :
  step P (lone fr cs w)=.next (lone (fr.finish undef) cs w):=
 step_lone_go (by simp[stepG,stepG.exec,hm,ht,ho,hw])
theorem Bs{os:Array Oper}{i:Nat}{l:List Nat}{o:Oper}(hm:fr.mode=.run)(ht:fr.todo=.inRegion os (i::l)::k)(ho:os[i]? = some o)(hw:Region.wanted o (yielded os fr.tmps)=true)
  (hd:∀c,o.op≠.defer c) :
  stepG P true {frame:=fr,callers:=cs,status:=.running,dying:=none} w=stepG.apply P true fr cs none (execOp fr.eval o) w:=by
 have h1:stepG P true {frame:=fr,callers:=cs,status:=.running,dying:=none} w=stepG.oper P true fr cs none w:=by
  simp[stepG,stepG.exec,hm,ht,ho,hw]
 rw[h1]
 simp only[stepG.oper,Frame.oper?,ht,ho]
 cases fr.roundOf with
 | none=>rfl
 | some l=>
   cases xL:o.op<;>first|rfl|exact absurd xL (hd _)
theorem Ah{os:Array Oper}{i:Nat}{l:List Nat}{o:Oper}{z:Value}{w':World}(hm:fr.mode=.run)(ht:fr.todo=.inRegion os (i::l)::k)(ho:os[i]? = some o)(hw:Region.wanted o (yielded os fr.tmps)=true)
  (hd:∀c,o.op≠.defer c) (hx:(execOp fr.eval o).run P w=.ok (.value z) w'):step P (lone fr cs w)=.next (lone (fr.finish z) cs w'):=
 step_lone_go (by rw[Bs hm ht ho hw hd];simp[stepG.apply,hx])
theorem Kz{os:Array Oper}{i:Nat}{l:List Nat}{o:Oper}{w':World}(hm:fr.mode=.run)(ht:fr.todo=.inRegion os (i::l)::k)(ho:os[i]? = some o)(hw:Region.wanted o (yielded os fr.tmps)=true)
  (hd:∀c,o.op≠.defer c) (hx:(execOp fr.eval o).run P w=.ok .skip w'):step P (lone fr cs w)=.next (lone (fr.finish undef) cs w'):=
 step_lone_go (by rw[Bs hm ht ho hw hd];simp[stepG.apply,hx])
theorem wR{os:Array Oper}{i:Nat}{l:List Nat}{o:Oper}{f:FuncId}{aa:Array Value}{w':World}(hm:fr.mode=.run)(ht:fr.todo=.inRegion os (i::l)::k)(ho:os[i]? = some o)(hw:Region.wanted o (yielded os fr.tmps)=true)
  (hd:∀c,o.op≠.defer c) (hx:(execOp fr.eval o).run P w=.ok (.enter f aa) w'):step P (lone fr cs w)=.next (lone (Frame.enter P f aa .normal) (fr::cs) w'):=
 step_lone_go (by rw[Bs hm ht ho hw hd];simp[stepG.apply,hx,ht])
theorem Ku{os:Array Oper}{i:Nat}{l:List Nat}{o:Oper}{n:Nat}{f:FuncId}{tmps:Array Value}{a b:Code}{w':World}(hm:fr.mode=.run)(ht:fr.todo=.inRegion os (i::l)::k)(ho:os[i]? = some o)(hw:Region.wanted o (yielded os fr.tmps)=true)
  (hd:∀c,o.op≠.defer c) (hx:(execOp fr.eval o).run P w=.ok (.round n f tmps a b) w'):step P (lone fr cs w)=.next (lone (Frame.round n f tmps a b .normal) (fr::cs) w'):=
 step_lone_go (by rw[Bs hm ht ho hw hd];simp[stepG.apply,hx])
theorem CU{l:Nat}{jump:Option Code}{w':World}(hm:fr.mode=.run)(ht:fr.todo=.endRangeFunc l::k)(he:(Instr.endLoop l).run P w=.ok jump w') :
  step P (lone fr cs w)=.next (lone {fr with todo:=(jump.map Item.code).toList++k} cs w'):=
 step_lone_go (by simp[stepG,stepG.exec,hm,ht,he])
theorem Dk{l:Nat}{w':World}(hm:fr.mode=.run)(hr:fr.roundOf=some l)(ht:fr.todo=.beginRound::k)(he:(Instr.beginRound l).run P w=.ok () w') :
  step P (lone fr cs w)=.next (lone {fr with todo:=k} cs w'):=
 step_lone_go (by simp[stepG,stepG.exec,hm,ht,hr,stepG.apply,he,Frame.finish])
theorem S_{x:Operand}{ps:Array Tmp}{a b:Code}{l:Nat}{mark:List Deferred}{w' w2:World}{f:FuncId}{aa:Array Value}(hm:fr.mode=.run)(ht:fr.todo=.code (.rangeFunc x ps a b)::k)
  (he:(Instr.enterLoop fr.fn fr.tmps ps a b fr.roundOf).run P w=.ok (l,mark) w')
  (hx:(do let d ←resolve fr.eval {callee:=.value x,args:=#[.const (.func (.yield l) #[] #[])],argTypes:=#[]} 0;invoke d.target d.args:Sem Next).run P w'=.ok (.enter f aa) w2) :
  step P (lone fr cs w)=.next (lone (Frame.enter P f aa .normal) ({fr with todo:=.inRangeFunc l::k,defers:=mark++fr.defers}::cs) w2):=by
 refine step_lone_go ?_
 have he':Frame.eval {fn:=fr.fn,tmps:=fr.tmps,todo:=.inRangeFunc l::k,defers:=mark++fr.defers,mode:=.run,kind:=fr.kind,roundOf:=fr.roundOf}=fr.eval:=by funext y;cases y<;>rfl
 have hx':=hx
 simp only[Sem.run_bind] at hx'
 simp[stepG,stepG.exec,hm,ht,he,stepG.apply,he',hx']
end
end Go.Ev
namespace Go.Ev
def dD(all:Array Oper)(env:Env)(o:Oper)(t:Bool):Prop:=
 match o.guard with
 | none=>t=true
 | some (j,want)=>∃p d,all[j]? = some p∧p.dst=some d∧((∃c v,env.at d=.bool c v∧t=(v==want))∨(env.at d=.mC []∧t=false))
def uJ{R:Type}(E:dE R)(env:Env)(m:Mem)(all:Array Oper)(b:Nat):Prop:=
 ∃o,all[b]? = some o∧((dD all env o false∧kH env o.dst (.mC []))∨(dD all env o true∧∃tv v,FZ ai E m (dd env) o=some tv∧tv.Is v∧kH env o.dst v))
def jJ{R:Type}(E:dE R)(c:ei):Prop:=
 match c.frames with
 | f::_=>match f.todo with
   | .cK all _ _ bs::_=>∀b∈bs,uJ E f.env c.mem all b
   | _=>True
 | []=>True
def qA(f0:FuncId):List aH→Prop
 | []=>False
 | [f]=>f.fn=f0
 | _::g::r=>qA f0 (g::r)
theorem qA.swap{f0:FuncId}{f g:aH}{fs:List aH}(h:qA f0 (f::fs))(e:g.fn=f.fn):qA f0 (g::fs):=by
 cases fs with
 | nil=>exact Eq.trans e h
 | cons x r=>exact h
def Ends{R:Type}(P:Program)(f0:FuncId)(Fin:R→Value→World→Prop)(Q:R→Prop)(fr:Frame)(frs cs:List Frame)(w:World):Prop:=
 ∃y v w' fr',Q y∧Fin y v w'∧Steps P (lone fr (frs++cs) w) (lone fr' cs w')∧fr'.fn=f0∧fr'.leaving P w' (.returned v)
theorem Ends.step{R:Type}{P:Program}{f0:FuncId}{Fin:R→Value→World→Prop}{Q:R→Prop}{fr fr2:Frame}{frs frs2 cs:List Frame}{w w2:World}
  (h:step P (lone fr (frs++cs) w)=.next (lone fr2 (frs2++cs) w2)) (h2:Ends P f0 Fin Q fr2 frs2 cs w2):Ends P f0 Fin Q fr frs cs w:=by
 obtain⟨y,v,w',fr',h1,h3,h4,h5⟩:=h2
 exact⟨y,v,w',fr',h1,h3,.head h h4,h5⟩
theorem Ends.steps{R:Type}{P:Program}{f0:FuncId}{Fin:R→Value→World→Prop}{Q:R→Prop}{fr fr2:Frame}{frs frs2 cs:List Frame}{w w2:World}
  (h:Steps P (lone fr (frs++cs) w) (lone fr2 (frs2++cs) w2)) (h2:Ends P f0 Fin Q fr2 frs2 cs w2):Ends P f0 Fin Q fr frs cs w:=by
 obtain⟨y,v,w',fr',h1,h3,h4,h5⟩:=h2
 exact⟨y,v,w',fr',h1,h3,h.trans h4,h5⟩
def Good{R:Type}(P:Program)(E:dE R)(w0:World)(I0:Nat→Prop)(f0:FuncId)(Fin:R→Value→World→Prop)(Q:R→Prop)(c:ei):Prop:=
 jJ E c→∀(S:St) (fr:Frame) (frs cs:List Frame) (w:World),WR w0 w S c.mem→(∀b,S.I b→I0 b∨w0.heap.size≤b)→r9 w S c.mem c.frames (fr::frs)→qA f0 c.frames→
  Ends P f0 Fin Q fr frs cs w
def uK(w:World)(I:Nat→Prop):(res:List Ty)→Value→Ty.Ts res→Prop
 | [],v,_=>v=.tuple #[]
 | [t],v,x=>iB w I t v x
 | t::t2::ts,v,x=>∃us:Array Value,v=.tuple us∧gu w I (t::t2::ts) us.toList x
structure aG.Sound(P:Program)(g:FuncId)(s:aG):Prop where
 calls:∀(w:World) (I:Nat→Prop) (x:Ty.Ts s.args) (aa:Array Value),(∀b,I b→b<w.heap.size)→gu w I s.args aa.toList x→s.pre x=true→
  Calls P g aa w fun e w'=>∃v,e=.returned v∧w'.os=w.os∧w'.tape=w.tape∧w'.output=w.output∧w.heap.size≤w'.heap.size∧(∀b,b<w.heap.size→w'.heap[b]? = w.heap[b]?)∧
   ∃I',(∀b,I' b→I b∨(w.heap.size≤b∧b<w'.heap.size))∧uK w' I' s.res v (s.fn x)
 body:∃F,P.funcs[g]? = some F∧F.body.isSome=true∧(F.name == "runtime.NumGoroutine")=false
structure yy.Sound(P:Program)(g:FuncId)(s:yy):Prop where
 calls:∀(w:World) (I:Nat→Prop) (x:s.view.T) (y:Ty.Ts s.args) (b:Nat) (us:Array Value) (T:TypeId) (fr:Nat×Nat) (aa:List Value),(∀b,I b→b<w.heap.size)→w.heap[b]? = some (.cells us T fr)→aP w I s.view us.toList x→
  gu w I s.args aa y→s.pre (x,y)=true→
  Calls P g (Value.pointer (some ⟨b,0,none⟩)::aa).toArray w fun e w'=>∃v,e=.returned v∧w'.os=w.os∧w'.tape=w.tape∧w'.output=w.output∧w.heap.size≤w'.heap.size∧(∀b,b<w.heap.size→w'.heap[b]? = w.heap[b]?)∧
   uK w' (fun _=>False) s.res v (s.fn (x,y))
 body:∃F,P.funcs[g]? = some F∧F.body.isSome=true∧(F.name == "runtime.NumGoroutine")=false
structure Fits{R:Type}(P:Program)(E:dE R)(Fin:R→Value→World→Prop)(w0:World)(I0:Nat→Prop):Prop where
 ti:fv P E.ti
 jo:∀g F,look E.jo g=some F→P.funcs[g]? = some F∧(F.name == "runtime.NumGoroutine")=false
 eH:∀g s,look E.eH g=some s→s.Sound P g
 mixed:P.follows .mixedOrders=true
 fin:∀(S:St) (w:World) (m:Mem) (av:AV) (y:R) (v:Value),WR w0 w S m→(∀b,S.I b→I0 b∨w0.heap.size≤b)→E.fin av m=some y→CR w S m av v→Fin y v w
 Av:∀g s,look E.Av g=some s→s.Sound P g
section
variable {P:Program} {R:Type} {E:dE R} {w0:World} {I0:Nat→Prop} {f0:FuncId} {Fin:R→Value→World→Prop} {Q:R→Prop}
variable {w:World} {S:St} {m:Mem} {f:aH} {fr:Frame} {fs:List aH} {frs cs:List Frame}
theorem fZ{x:Nat}(h:∀a∈f.todo.head?,a.s8=false):¬Hid f fr x:=by
 rintro ⟨all,bs,l,k',b,p,h1,_⟩
 cases hh:f.todo.head? with
 | none=>rw[hh] at h1;cases h1
 | some a=>
   rw[hh] at h1
   have:=h a hh
   rw[aR.s8,show a.drawn=some (all,bs) from h1] at this
   cases this
theorem FR.next(hf:FR w S m f fr)(hnh:∀x,¬Hid f fr x){k:List aR}{kc:List Item}(ht:bQ f.n S k kc)(hl:bo m k)(hd:∀a∈k.tail,a.s8=false):FR w S m {f with todo:=k} {fr with todo:=kc}:=
 ⟨hf.fn,hf.n,hf.small,fun i _=>hf.env i (hnh i),ht,hl,hd,hf.defers,hf.marks,hf.mode,hf.kind,hf.aU,hf.jR⟩
theorem bQ.cons_inv{n:Nat}{a:aR}{k:List aR}{l:List Item}(h:bQ n S (a::k) l):∃it kc,l=it::kc∧rZ n S a it∧bQ n S k kc:=h
theorem bQ.mk{n:Nat}{a:aR}{k:List aR}{it:Item}{kc:List Item}(h1:rZ n S a it)(h2:bQ n S k kc):bQ n S (a::k) (it::kc):=⟨it,kc,rfl,h1,h2⟩
theorem bo.tail{a:aR}{k:List aR}(h:bo m (a::k)):bo m k:=fun b hb=>h b (List.mem_cons_of_mem _ hb)
theorem bo.mk{a:aR}{k:List aR}(ha:match a with | .gI id=>(m.at id).ed=true | .fS id=>(m.at id).ed=true|_=>True)(h:bo m k):bo m (a::k):=fun b hb=>by
 rcases List.mem_cons.1 hb with rfl|hb
 ·exact ha
 ·exact h b hb
theorem dZ(h:∀a∈f.todo.head?,a.s8=false):jJ E {frames:=f::fs,mem:=m}:=by
 unfold jJ
 simp only
 split
 ·rename_i all ms rest bs k he
  have:=h (.cK all ms rest bs) (by rw[he];rfl)
  cases this
 ·trivial
theorem dR{k:List aR}{kc:List Item}(hW:WR w0 w S m)(hI:∀b,S.I b→I0 b∨w0.heap.size≤b)(hf:FR w S m f fr)(hfs:r9 w S m fs frs)(hB:qA f0 (f::fs))(hnh:∀x,¬Hid f fr x)
  (hst:step P (lone fr (frs++cs) w)=.next (lone {fr with todo:=kc} (frs++cs) w)) (ht:bQ f.n S k kc) (hl:bo m k) (hd:∀a∈k,a.s8=false)
  (hg:Good P E w0 I0 f0 Fin Q {frames:={f with todo:=k}::fs,mem:=m}):Ends P f0 Fin Q fr frs cs w:=
 .step hst (hg (dZ fun a ha=>hd a (by simp only at ha;exact List.mem_of_mem_head? ha)) S _ _ cs w hW hI ⟨_,_,rfl,hf.next hnh ht hl fun a ha=>hd a (List.mem_of_mem_tail ha),hfs⟩ (hB.swap rfl))
end
end Go.Ev
namespace Go.Ev
theorem ob{n:Nat}{S:St}{m:Mem}{id:Nat}:∀{k k':List aR} {kc:List Item},bQ n S k kc→eF id k=some k'→∃kc',exitTo id kc=some kc'∧bQ n S k' kc'∧(bo m k→bo m k')∧(∀a∈k',a∈k)
 | [],k',kc,ht,h=>by cases h
 | a::k,k',kc,ht,h=>by
   obtain⟨it,kc1,rfl,h1,h2⟩:=ht.cons_inv
   have go' (hx:exitTo id (it::kc1)=exitTo id kc1) (h:eF id k=some k'):∃kc',exitTo id (it::kc1)=some kc'∧bQ n S k' kc'∧(bo m (a::k)→bo m k')∧(∀b∈k',b∈a::k):=by
    obtain⟨kc',e1,e2,e3,e4⟩:=ob (m:=m) h2 h
    exact⟨kc',by rw[hx,e1],e2,fun hl=>e3 hl.tail,fun b hb=>List.mem_cons_of_mem _ (e4 b hb)⟩
   cases a<;>simp only[eF] at h
   case inBlock id'=>
    have h1:it=.inBlock id':=h1
    subst h1
    by_cases hi:id'=id
    ·subst hi
     rw[bH.2 rfl] at h
     cases h
     exact⟨kc1,by simp[exitTo],h2,fun hl=>hl.tail,fun b hb=>List.mem_cons_of_mem _ hb⟩
    ·rw[bL.2 hi] at h
     exact go' (by simp[exitTo,hi]) h
   case code c=>have h1:it=.code c:=h1;subst h1;exact go' rfl h
   case inLoop b=>
    have h1:it=.inLoop b∨it=.code (.loop b):=h1
    rcases h1 with rfl|rfl<;>exact go' rfl h
   case inScope b=>have h1:it=.inScope b:=h1;subst h1;exact go' rfl h
   case ops all rest=>obtain⟨l,rfl,_⟩:∃l:List Nat,it=.inRegion all l∧l.map (fun i=>all[i]?)=rest.map some:=h1;exact go' rfl h
   case cK all ms rest bs=>obtain⟨l,rfl,_⟩:∃l:List Nat,it=.inRegion all l∧dq n all ms rest bs l:=h1;exact go' rfl h
   case iW all ms i rest bs=>obtain⟨l,rfl,_⟩:∃l:List Nat,it=.inRegion all (i::l)∧dq n all ms (i::rest) bs (i::l):=h1;exact go' rfl h
   case gI l=>have h1:it=.inRangeFunc (S.σ l):=h1;subst h1;exact go' rfl h
   case fS l=>have h1:it=.endRangeFunc (S.σ l):=h1;subst h1;exact go' rfl h
   case beginRound=>have h1:it=.beginRound:=h1;subst h1;exact go' rfl h
theorem mh{n:Nat}{S:St}{id:Nat}:∀{k:List aR} {kc:List Item},bQ n S k kc→eF id k=none→exitTo id kc=none
 | [],kc,ht,h=>by have:kc=[]:=ht;subst this;rfl
 | a::k,kc,ht,h=>by
   obtain⟨it,kc1,rfl,h1,h2⟩:=ht.cons_inv
   have go' (hx:exitTo id (it::kc1)=exitTo id kc1) (h:eF id k=none):exitTo id (it::kc1)=none:=by
    rw[hx];exact mh h2 h
   cases a<;>simp only[eF] at h
   case inBlock id'=>
    have h1:it=.inBlock id':=h1
    subst h1
    by_cases hi:id'=id
    ·subst hi
     rw[bH.2 rfl] at h
     cases h
    ·rw[bL.2 hi] at h
     exact go' (by simp[exitTo,hi]) h
   case code c=>have h1:it=.code c:=h1;subst h1;exact go' rfl h
   case inLoop b=>
    have h1:it=.inLoop b∨it=.code (.loop b):=h1
    rcases h1 with rfl|rfl<;>exact go' rfl h
   case inScope b=>have h1:it=.inScope b:=h1;subst h1;exact go' rfl h
   case ops all rest=>obtain⟨l,rfl,_⟩:∃l:List Nat,it=.inRegion all l∧l.map (fun i=>all[i]?)=rest.map some:=h1;exact go' rfl h
   case cK all ms rest bs=>obtain⟨l,rfl,_⟩:∃l:List Nat,it=.inRegion all l∧dq n all ms rest bs l:=h1;exact go' rfl h
   case iW all ms i rest bs=>obtain⟨l,rfl,_⟩:∃l:List Nat,it=.inRegion all (i::l)∧dq n all ms (i::rest) bs (i::l):=h1;exact go' rfl h
   case gI l=>have h1:it=.inRangeFunc (S.σ l):=h1;subst h1;exact go' rfl h
   case fS l=>have h1:it=.endRangeFunc (S.σ l):=h1;subst h1;exact go' rfl h
   case beginRound=>have h1:it=.beginRound:=h1;subst h1;exact go' rfl h
theorem og{n:Nat}{S:St}{m:Mem}{l:Nat}:∀{k k':List aR} {kc:List Item},bQ n S k kc→eB l k=some k'→∃kc',gotoIn l kc=some kc'∧bQ n S k' kc'∧(bo m k→bo m k')∧(∀a∈k',a∈k∨a.s8=false)
 | [],k',kc,ht,h=>by cases h
 | a::k,k',kc,ht,h=>by
   obtain⟨it,kc1,rfl,h1,h2⟩:=ht.cons_inv
   have go' (hx:gotoIn l (it::kc1)=gotoIn l kc1) (h:eB l k=some k'):∃kc',gotoIn l (it::kc1)=some kc'∧bQ n S k' kc'∧(bo m (a::k)→bo m k')∧(∀b∈k',b∈a::k∨b.s8=false):=by
    obtain⟨kc',e1,e2,e3,e4⟩:=og (m:=m) h2 h
    exact⟨kc',by rw[hx,e1],e2,fun hl=>e3 hl.tail,fun b hb=>(e4 b hb).imp (List.mem_cons_of_mem _) id⟩
   cases a<;>simp only[eB] at h
   case inScope body=>
    have h1:it=.inScope body:=h1
    subst h1
    cases hf:findLabel body l with
    | none=>rw[hf] at h;exact go' (by simp[gotoIn,hf]) h
    | some rest=>
      rw[hf] at h
      cases h
      refine⟨.code rest :: .inScope body::kc1,by simp[gotoIn,hf],.mk rfl (.mk rfl h2),fun hl=>.mk trivial hl,fun b hb=>?_⟩
      rcases List.mem_cons.1 hb with rfl|hb
      ·exact .inr rfl
      ·exact .inl hb
   case code c=>have h1:it=.code c:=h1;subst h1;exact go' rfl h
   case inLoop b=>
    have h1:it=.inLoop b∨it=.code (.loop b):=h1
    rcases h1 with rfl|rfl<;>exact go' rfl h
   case inBlock b=>have h1:it=.inBlock b:=h1;subst h1;exact go' rfl h
   case ops all rest=>obtain⟨l,rfl,_⟩:∃l:List Nat,it=.inRegion all l∧l.map (fun i=>all[i]?)=rest.map some:=h1;exact go' rfl h
   case cK all ms rest bs=>obtain⟨l,rfl,_⟩:∃l:List Nat,it=.inRegion all l∧dq n all ms rest bs l:=h1;exact go' rfl h
   case iW all ms i rest bs=>obtain⟨l,rfl,_⟩:∃l:List Nat,it=.inRegion all (i::l)∧dq n all ms (i::rest) bs (i::l):=h1;exact go' rfl h
   case gI l=>have h1:it=.inRangeFunc (S.σ l):=h1;subst h1;exact go' rfl h
   case fS l=>have h1:it=.endRangeFunc (S.σ l):=h1;subst h1;exact go' rfl h
   case beginRound=>have h1:it=.beginRound:=h1;subst h1;exact go' rfl h
theorem lL{n:Nat}{S:St}{l:Nat}:∀{k:List aR} {kc:List Item},bQ n S k kc→eB l k=none→gotoIn l kc=none
 | [],kc,ht,h=>by have:kc=[]:=ht;subst this;rfl
 | a::k,kc,ht,h=>by
   obtain⟨it,kc1,rfl,h1,h2⟩:=ht.cons_inv
   have go' (hx:gotoIn l (it::kc1)=gotoIn l kc1) (h:eB l k=none):gotoIn l (it::kc1)=none:=by
    rw[hx];exact lL h2 h
   cases a<;>simp only[eB] at h
   case inScope body=>
    have h1:it=.inScope body:=h1
    subst h1
    cases hf:findLabel body l with
    | none=>rw[hf] at h;exact go' (by simp[gotoIn,hf]) h
    | some rest=>rw[hf] at h;cases h
   case code c=>have h1:it=.code c:=h1;subst h1;exact go' rfl h
   case inLoop b=>
    have h1:it=.inLoop b∨it=.code (.loop b):=h1
    rcases h1 with rfl|rfl<;>exact go' rfl h
   case inBlock b=>have h1:it=.inBlock b:=h1;subst h1;exact go' rfl h
   case ops all rest=>obtain⟨l,rfl,_⟩:∃l:List Nat,it=.inRegion all l∧l.map (fun i=>all[i]?)=rest.map some:=h1;exact go' rfl h
   case cK all ms rest bs=>obtain⟨l,rfl,_⟩:∃l:List Nat,it=.inRegion all l∧dq n all ms rest bs l:=h1;exact go' rfl h
   case iW all ms i rest bs=>obtain⟨l,rfl,_⟩:∃l:List Nat,it=.inRegion all (i::l)∧dq n all ms (i::rest) bs (i::l):=h1;exact go' rfl h
   case gI l=>have h1:it=.inRangeFunc (S.σ l):=h1;subst h1;exact go' rfl h
   case fS l=>have h1:it=.endRangeFunc (S.σ l):=h1;subst h1;exact go' rfl h
   case beginRound=>have h1:it=.beginRound:=h1;subst h1;exact go' rfl h
theorem bQ.code{n:Nat}{S:St}{c:Code}{k:List aR}{kc:List Item}(h:bQ n S k kc):bQ n S (.code c::k) (.code c::kc):=.mk (a:=.code c) rfl h
theorem bQ.inLoop{n:Nat}{S:St}{c:Code}{k:List aR}{kc:List Item}(h:bQ n S k kc):bQ n S (.inLoop c::k) (.inLoop c::kc):=.mk (a:=.inLoop c) (.inl rfl) h
theorem bQ.loop{n:Nat}{S:St}{c:Code}{k:List aR}{kc:List Item}(h:bQ n S k kc):bQ n S (.inLoop c::k) (.code (.loop c)::kc):=.mk (a:=.inLoop c) (.inr rfl) h
theorem bQ.inBlock{n:Nat}{S:St}{c:Nat}{k:List aR}{kc:List Item}(h:bQ n S k kc):bQ n S (.inBlock c::k) (.inBlock c::kc):=.mk (a:=.inBlock c) rfl h
theorem bQ.inScope{n:Nat}{S:St}{c:Code}{k:List aR}{kc:List Item}(h:bQ n S k kc):bQ n S (.inScope c::k) (.inScope c::kc):=.mk (a:=.inScope c) rfl h
theorem nY{w:World}{S:St}{m:Mem}{f:aH}{fr:Frame}(hf:FR w S m f fr)(x:Operand)(hx:∀t,x=.tmp t→¬Hid f fr t):CR w S m (dd f.env x) (fr.eval x):=by
 cases x with
 | tmp t=>exact hf.env t (hx t rfl)
 | const v=>exact Ap v
 | global g=>exact du
 | func g=>exact mr.2 ⟨#[],#[],rfl,bu.2 rfl,bu.2 rfl⟩
section
variable {P:Program} {R:Type} {E:dE R} {w0:World} {I0:Nat→Prop} {f0:FuncId} {Fin:R→Value→World→Prop} {Q:R→Prop}
variable {w:World} {S:St} {m:Mem} {fr:Frame} {fs:List aH} {frs cs:List Frame}
variable {fn:FuncId} {nn:Nat} {env:Env} {marks:List Nat} {aU:Option Nat} {k:List aR} {n:Nat}
theorem Ce(hcan:∀ks f fs m,(∀a∈f.todo.head?,a.s8=false)→Good P E w0 I0 f0 Fin Q (canon ks {frames:=f::fs,mem:=m})→Good P E w0 I0 f0 Fin Q {frames:=f::fs,mem:=m})(ih:∀c,Tr.Ok Q (Good P E w0 I0 f0 Fin Q) (run ai E n c)→Good P E w0 I0 f0 Fin Q c)
  {i:aR} (hi:match i with | .inBlock _=>True | .inScope _=>True | .inLoop _=>True | .code x=>(match x with | .skip=>True | .label _=>True | .seq _ _=>True | .cond _ _ _=>True | .block _ _=>True | .loop _=>True | .scope _=>True | .region _ _ false=>True|_=>False) | .ops _ []=>True|_=>False)
  (h:Tr.Ok Q (Good P E w0 I0 f0 Fin Q) (run ai E (n+1) {frames:=⟨fn,nn,env,i::k,marks,aU⟩::fs,mem:=m}))
  (hst:jJ E {frames:=⟨fn,nn,env,i::k,marks,aU⟩::fs,mem:=m})
  (hW:WR w0 w S m) (hI:∀b,S.I b→I0 b∨w0.heap.size≤b) (hf:FR w S m ⟨fn,nn,env,i::k,marks,aU⟩ fr) (hfs:r9 w S m fs frs) (hB:qA f0 (⟨fn,nn,env,i::k,marks,aU⟩::fs)) :
  Ends P f0 Fin Q fr frs cs w:=by
 obtain⟨it,kc,ht,h1,h2⟩:=hf.todo.cons_inv
 have hl:bo m k:=hf.live.tail
 have hd:∀a∈k,a.s8=false:=hf.flat
 have hd1:∀{a:aR},a.s8=false→∀b∈a::k,b.s8=false:=fun ha b hb=>by
  rcases List.mem_cons.1 hb with rfl|hb
  ·exact ha
  ·exact hd b hb
 have hd2:∀{a a':aR},a.s8=false→a'.s8=false→∀b∈a::a'::k,b.s8=false:=fun ha ha' b hb=>by
  rcases List.mem_cons.1 hb with rfl|hb
  ·exact ha
  ·exact hd1 ha' b hb
 have hnh:i.s8=false→∀x,¬Hid ⟨fn,nn,env,i::k,marks,aU⟩ fr x:=fun hne x=>fZ fun a ha=>by cases ha;exact hne
 cases i<;>simp only at hi
 case inBlock id=>
  simp only[run] at h
  have h1:it=.inBlock id:=h1
  subst h1
  exact dR hW hI hf hfs hB (hnh rfl) (zg hf.mode ht) h2 hl hd (ih _ h)
 case inScope b=>
  simp only[run] at h
  have h1:it=.inScope b:=h1
  subst h1
  exact dR hW hI hf hfs hB (hnh rfl) (Ac hf.mode ht) h2 hl hd (ih _ h)
 case inLoop b=>
  simp only[run] at h
  cases hs:mm E.stops fn (dI b) with
  | some ks=>rw[hs] at h;exact hcan ks _ _ _ (fun a ha=>by cases ha;rfl) h hst S fr frs cs w hW hI ⟨fr,frs,rfl,hf,hfs⟩ hB
  | none=>
    rw[hs] at h
    have h1:it=.inLoop b∨it=.code (.loop b):=h1
    have hst':step P (lone fr (frs++cs) w)=.next (lone {fr with todo:=.code b :: .inLoop b::kc} (frs++cs) w):=by
     rcases h1 with rfl|rfl
     ·exact vY hf.mode ht
     ·exact Bl hf.mode ht
    exact dR hW hI hf hfs hB (hnh rfl) hst' h2.inLoop.code (.mk trivial (.mk trivial hl)) (hd2 rfl rfl) (ih _ h)
 case ops all rest=>
  cases rest with
  | cons o rest=>exact hi.elim
  | nil=>
    simp only[run] at h
    obtain⟨l,rfl,hl0⟩:∃l:List Nat,it=.inRegion all l∧l.map (fun i=>all[i]?)=([]:List Oper).map some:=h1
    have:l=[]:=by simpa using hl0
    subst this
    exact dR hW hI hf hfs hB (hnh rfl) (sG hf.mode ht) h2 hl hd (ih _ h)
 case code x=>
  have h1:it=.code x:=h1
  subst h1
  replace hnh:=hnh rfl
  cases x<;>(try simp only at hi)
  case skip=>simp only[run] at h;exact dR hW hI hf hfs hB hnh (Gk hf.mode ht) h2 hl hd (ih _ h)
  case label l=>simp only[run] at h;exact dR hW hI hf hfs hB hnh (Fa hf.mode ht) h2 hl hd (ih _ h)
  case seq a b=>simp only[run] at h;exact dR hW hI hf hfs hB hnh (LV hf.mode ht) h2.code.code (.mk trivial (.mk trivial hl)) (hd2 rfl rfl) (ih _ h)
  case block id b=>simp only[run] at h;exact dR hW hI hf hfs hB hnh (Fb hf.mode ht) h2.inBlock.code (.mk trivial (.mk trivial hl)) (hd2 rfl rfl) (ih _ h)
  case scope b=>simp only[run] at h;exact dR hW hI hf hfs hB hnh (E0 hf.mode ht) h2.inScope.code (.mk trivial (.mk trivial hl)) (hd2 rfl rfl) (ih _ h)
  case loop b=>
   simp only[run] at h
   have hg:=ih _ h
   refine hg (dZ fun a ha=>by cases ha;rfl) S fr frs cs w hW hI ⟨fr,frs,rfl,?_,hfs⟩ (hB.swap rfl)
   exact⟨hf.fn,hf.n,hf.small,fun i _=>hf.env i (hnh i),by
    show bQ nn S (.inLoop b::k) fr.todo
    rw[ht];exact h2.loop,.mk trivial hl,hd,hf.defers,hf.marks,hf.mode,hf.kind,hf.aU,hf.jR⟩
  case region id os draw=>
   cases draw with
   | true=>exact hi.elim
   | false=>
     simp only[run] at h
     cases hcut:mm E.jf fn (some id) with
     | some ks=>rw[hcut] at h;exact hcan ks _ _ _ (fun a ha=>by cases ha;rfl) h hst S fr frs cs w hW hI ⟨fr,frs,rfl,hf,hfs⟩ hB
     | none=>
     rw[hcut] at h
     refine dR hW hI hf hfs hB hnh (v7 hf.mode ht) (.mk (a:=.ops os os.toList) ⟨_,rfl,?_⟩ h2) (.mk trivial hl) (hd1 rfl) (ih _ h)
     apply List.ext_getElem?
     intro j
     have e:os.toList[j]? = os[j]? :=Array.getElem?_toList
     rw[List.getElem?_map,List.getElem?_map,e]
     by_cases hj:j<os.size
     ·rw[List.getElem?_range hj,Option.map_some,Array.getElem?_eq_getElem hj];rfl
     ·rw[List.getElem?_eq_none (by simpa using hj),Array.getElem?_eq_none (by omega)];rfl
  case cond x a b=>
   have hx:=nY hf x fun t _=>hnh t
   simp only[run] at h
   cases hv:dd env x<;>rw[hv] at h hx<;>(try simp only at h)<;>try exact h.elim
   rename_i c1 v
   have e:=cu.1 hx
   have hstep:=Ic (P:=P) (cs:=frs++cs) (w:=w) hf.mode ht e
   cases c1 with
   | true=>
     simp only at h
     cases v with
     | true=>exact dR hW hI hf hfs hB hnh hstep h2.code (.mk trivial hl) (hd1 rfl) (ih _ h)
     | false=>exact dR hW hI hf hfs hB hnh hstep h2.code (.mk trivial hl) (hd1 rfl) (ih _ h)
   | false=>
     simp only[Tr.Ok] at h
     cases v with
     | true=>exact dR hW hI hf hfs hB hnh hstep h2.code (.mk trivial hl) (hd1 rfl) (ih _ (h.1 rfl))
     | false=>exact dR hW hI hf hfs hB hnh hstep h2.code (.mk trivial hl) (hd1 rfl) (ih _ (h.2 rfl))
end
end Go.Ev
namespace Go.Ev
section
variable {P:Program} {w0 w:World} {S:St} {m:Mem}
theorem oB{b:Nat}{o o':Obj}(h:w.heap[b]? = some o)(hc:∀us T fr,o≠.cells us T fr):nk w (w.putObj b o') b:=by
 refine⟨rfl,rfl,rfl,by simp[World.putObj],fun b' hb=>?_,fun us T fr h'=>absurd (Option.some.inj (h.symm.trans h')) (hc us T fr)⟩
 simp[World.putObj,Ne.symm hb]
theorem BZ{b:Nat}{o o':Obj}(h:w.heap[b]? = some o):(w.putObj b o').heap[b]? = some o':=by
 have:=(Array.getElem?_eq_some_iff.1 h).1
 simp[World.putObj,this]
theorem CX(hW:WR w0 w S m){d:Nat}(hd:m.at d=.wS):Step w0 w S m (w.putObj (S.σ d) (.deferred none)) S (m.set d .yS):=by
 have hb:=hW.box d
 rw[hd] at hb
 have hb:w.heap[S.σ d]? = some (.deferred (some [])):=hb
 have hl:(m.at d).bJ=true:=by rw[hd];rfl
 have hf:(m.at d).jA=false:=by rw[hd];rfl
 have hk:dL (m.at d) .yS:=by rw[hd];trivial
 have ht:=oB (o':=.deferred none) hb (fun _ _ _ h=>by cases h)
 exact⟨hW.set hl hf hk (fun _=>rfl) rfl ht trivial,eX hW hl hf hk (fun _=>rfl) ht,.refl⟩
theorem sQ:∀{ds:List Nat} {m m':Mem} {w:World} {fr:Frame} {cs:List Frame},gx ds m=some m'→WR w0 w S m→fr.mode=.returning→
  fr.defers=ds.map (fun d=>{target:=.collected (S.σ d),args:=#[]})→∃w',Step w0 w S m w' S m'∧Steps P (lone fr cs w) (lone {fr with defers:=[]} cs w')
 | [],m,m',w,fr,cs,h,hW,hm,hd=>by
   cases h
   have e:{fr with defers:=[]}=fr:=by cases fr;simp only at hd;subst hd;rfl
   exact⟨w,.refl hW,by rw[e];exact .refl _ _⟩
 | d::ds,m,m',w,fr,cs,h,hW,hm,hd=>by
   simp only[gx] at h
   cases hmd:m.at d<;>rw[hmd] at h<;>(try simp only at h)<;>try (cases h;done)
   have hs:=CX hW hmd
   have hb:=hW.box d
   rw[hmd] at hb
   have hb:w.heap[S.σ d]? = some (.deferred (some [])):=hb
   obtain⟨w',h1,h2⟩:=sQ (fr:={fr with defers:=ds.map (fun d=>{target:=.collected (S.σ d),args:=#[]})}) (cs:=cs) h hs.wr hm rfl
   refine⟨w',hs.trans h1,.head (m₁:=lone {fr with defers:=ds.map (fun d=>{target:=.collected (S.σ d),args:=#[]})} cs (w.putObj (S.σ d) (.deferred none))) (step_lone_go ?_) h2⟩
   have ht:(Instr.takeDeferred (S.σ d)).run P w=.ok [] (w.putObj (S.σ d) (.deferred none)):=by
    simp[Instr.takeDeferred,getObj,setObj,Sem.run,hb,World.putObj]
   simp[stepG,hm,unwind,hd,ht]
theorem Ex{α:Type}{tv:TV α}{a:α}(h:DO tv=some a):tv=.leaf a:=by
 cases tv<;>simp[DO] at h
 rw[h]
def yF(tmps:Array Value):ResultVar→Sem Value
 | .tmp t=>pure (tmps.getD t undef)
 | .cell a t=>do loadVar t (←asAddr (tmps.getD a undef))
theorem rS{R:Type}{E:dE R}(hE:fv P E.ti)(hW:WR w0 w S m){env:Env}{tmps:Array Value}(henv:∀i,CR w S m (env.at i) (tmps.getD i undef)){r:ResultVar}{v:AV}(h:lV ai E env m r=some v) :
  ∃z,(yF tmps r).run P w=.ok z w∧CR w S m v z:=by
 cases r with
 | tmp t=>simp only[lV] at h;cases h;exact⟨_,rfl,henv t⟩
 | cell a t=>
   simp only[lV] at h
   have hv:(qo ai (E.ti.get t) m (env.at a)).Is v:=by rw[Ex h];rfl
   obtain⟨b,off,u,e,h1,h2⟩:=ov hE hW (henv a) hv
   exact⟨u,by simp[yF,e,asAddr,h1],h2⟩
theorem lD{R:Type}{E:dE R}(hE:fv P E.ti)(hW:WR w0 w S m){env:Env}{tmps:Array Value}(henv:∀i,CR w S m (env.at i) (tmps.getD i undef)):∀{rs:List ResultVar} {vs:List AV},fq ai E env m rs=some vs→
  ∃us:List Value,(rs.mapM (yF tmps)).run P w=.ok us w∧bF w S m vs us
 | [],vs,h=>by cases h;exact⟨[],by simp,bu.2 rfl⟩
 | r::rs,vs,h=>by
   simp only[fq] at h
   cases hr:lV ai E env m r with
   | none=>rw[hr] at h;cases h
   | some v=>
     rw[hr] at h
     simp only at h
     cases hrs:fq ai E env m rs with
     | none=>rw[hrs] at h;cases h
     | some vs'=>
       rw[hrs] at h
       cases h
       obtain⟨z,h1,h2⟩:=rS hE hW henv hr
       obtain⟨us,h3,h4⟩:=lD hE hW henv hrs
       exact⟨z::us,by rw[List.mapM_cons];simp only[Sem.run_bind,h1,Result.andThen_ok,h3,Sem.run_pure],bY.2 ⟨z,us,rfl,h2,h4⟩⟩
theorem uP{R:Type}{E:dE R}(hE:fv P E.ti)(hW:WR w0 w S m){env:Env}{tmps:Array Value}(henv:∀i,CR w S m (env.at i) (tmps.getD i undef)){F:Func}{vs:List AV}(h:fq ai E env m F.results.toList=some vs) :
  ∃z,(results F tmps).run P w=.ok z w∧CR w S m (dO vs) z:=by
 obtain⟨us,h1,h2⟩:=lD hE hW henv h
 have hmap:(F.results.mapM (yF tmps)).run P w=.ok us.toArray w:=by
  rw[Array.mapM_eq_mapM_toList,Sem.run_map]
  rw[h1]
  rfl
 have hres:results F tmps=(do let vs ←F.results.mapM (yF tmps);pure (if h:vs.size=1 then vs[0] else .tuple vs)):=by
  unfold results
  congr 1
 match vs,us,h2 with
 | [],us,h2=>
   have:=bu.1 h2
   subst this
   exact⟨.tuple #[],by rw[hres,Sem.run_bind,hmap];rfl,ib.2 ⟨_,rfl,bu.2 rfl⟩⟩
 | [v],us,h2=>
   obtain⟨u,r,rfl,h3,h4⟩:=bY.1 h2
   have:=bu.1 h4
   subst this
   exact⟨u,by rw[hres,Sem.run_bind,hmap];rfl,h3⟩
 | v::v2::vs,us,h2=>
   have hl:=h2.length
   refine⟨.tuple us.toArray,?_,ib.2 ⟨_,rfl,h2⟩⟩
   rw[hres,Sem.run_bind,hmap]
   have hne:us.toArray.size≠1:=by rw[List.size_toArray,hl];simp
   simp only[Result.andThen_ok,Sem.run_pure,dif_neg hne]
def uW(tmps:Array Value)(d:Option Nat)(z:Value):Array Value:=
 match d with
 | some d=>tmps.setIfInBounds d z
 | none=>tmps
theorem pI{tmps:Array Value}{d:Option Nat}{z:Value}:(uW tmps d z).size=tmps.size:=by
 cases d<;>simp[uW]
theorem xN{tmps:Array Value}{d:Option Nat}{z:Value}(h:gp tmps.size d=true)(x:Nat):(uW tmps d z).getD x undef=if d=some x then z else tmps.getD x undef:=by
 cases d with
 | none=>simp[uW]
 | some d=>
   have hd:d<tmps.size:=by have:=h;simp only[gp] at this;exact Nat.le_of_ble_eq_true this
   simp only[uW,Array.getD_eq_getD_getElem?,Array.getElem?_setIfInBounds,Option.some.injEq]
   by_cases hx:d=x
   ·subst hx;simp[hd]
   ·simp[hx]
theorem AI{f:aH}{tmps:Array Value}{d:Option Nat}{v:AV}{z:Value}(hn:tmps.size=f.n)(hs:f.n≤65535)(hd:gp f.n d=true)(hv:CR w S m v z){H:Nat→Prop}(henv:∀x,¬H x→d≠some x→CR w S m (f.env.at x) (tmps.getD x undef)) :
  ∀x,¬H x→CR w S m ((f.env.dG d v).at x) ((uW tmps d z).getD x undef):=by
 intro x hx
 rw[Env.wB hd hs,xN (by rw[hn];exact hd)]
 by_cases h:d=some x
 ·rw[if_pos h,if_pos h];exact hv
 ·rw[if_neg h,if_neg h];exact henv x hx h
theorem jY{fr:Frame}{os:Array Oper}{i:Nat}{l:List Nat}{kc:List Item}{z:Value}{o:Oper}(ht:fr.todo=.inRegion os (i::l)::kc)(ho:os[i]? = some o) :
  fr.finish z={fr with tmps:=uW fr.tmps o.dst z,todo:=.inRegion os l::kc}:=by
 simp only[Frame.finish,ht,ho,Option.bind_some]
 cases o.dst<;>rfl
theorem sT{fn:FuncId}{nn:Nat}{env:Env}{all:Array Oper}{o:Oper}{rest:List Oper}{k:List aR}{marks:List Nat}{aU:Option Nat}{fr:Frame}{v:AV}{z:Value}
  (hf:FR w S m ⟨fn,nn,env,.ops all (o::rest)::k,marks,aU⟩ fr) (hd:gp nn o.dst=true) (hv:CR w S m v z):FR w S m ⟨fn,nn,env.dG o.dst v,.ops all rest::k,marks,aU⟩ (fr.finish z):=by
 obtain⟨it,kc,ht,h1,h2⟩:=hf.todo.cons_inv
 obtain⟨l,rfl,hl⟩:∃l:List Nat,it=.inRegion all l∧l.map (fun i=>all[i]?)=(o::rest).map some:=h1
 cases l with
 | nil=>cases hl
 | cons i l=>
   simp only[List.map_cons,List.cons.injEq] at hl
   rw[jY ht hl.1]
   exact⟨hf.fn,pI.trans hf.n,hf.small,fun x _=>AI (f:=⟨fn,nn,env,.ops all (o::rest)::k,marks,aU⟩) (H:=fun _=>False) hf.n hf.small hd hv (fun x _ _=>hf.env x (fZ fun a ha=>by cases ha;rfl)) x (fun h=>h),
    .mk (a:=.ops all rest) ⟨l,rfl,hl.2⟩ h2,.mk trivial hf.live.tail,hf.flat,hf.defers,hf.marks,hf.mode,hf.kind,hf.aU,hf.jR⟩
theorem DZ.tail{all:Array Oper}{i:Nat}{l:List Nat}(h:DZ all (i::l)):DZ all l:=by
 have h1:=List.pairwise_cons.1 h.pw
 have h2:=List.nodup_cons.1 h.nodup
 refine⟨h2.2,fun j hj=>h.lt j (List.mem_cons_of_mem _ hj),h1.2,fun j hj=>h.self j (List.mem_cons_of_mem _ hj),fun k hk hkl j hj hjl=>?_⟩
 by_cases hki:k=i
 ·subst hki;exact h1.1 j hjl hj
 ·exact h.closed k hk (fun hm=>(List.mem_cons.1 hm).elim hki hkl) j hj (List.mem_cons_of_mem _ hjl)
theorem sO.tail{ms l:List Nat}{i:Nat}(h:sO ms (i::l)):sO ms l:=fun l1 j l2 e=>h (i::l1) j l2 (by rw[e];rfl)
theorem dq.take{n:Nat}{all:Array Oper}{ms rest bs l:List Nat}{i:Nat}(h:dq n all ms (i::rest) bs (i::l)):dq n all ms rest bs l:=by
 have hn:i ∉ rest++bs∧(rest++bs).Nodup:=List.nodup_cons.1 (by have:=h.nodup;rwa [List.cons_append] at this)
 have hl:=(List.nodup_cons.1 h.Lc).1
 refine⟨h.Mk.tail,(List.nodup_cons.1 h.Lc).2,hn.2,fun j hj=>?_,fun j hj=>?_,h.lt,h.read,h.dst,h.own,h.T8,h.L6⟩
 ·rcases List.mem_cons.1 (h.sub j (List.mem_cons_of_mem _ hj)) with rfl|hm
  ·exact absurd (List.mem_append.2 (.inl hj)) hn.1
  ·exact hm
 ·rcases h.Mp j (List.mem_cons_of_mem _ hj) with hm|hm
  ·rcases List.mem_cons.1 hm with rfl|hm
   ·exact absurd hj hl
   ·exact .inl hm
  ·exact .inr hm
theorem qt{fn:FuncId}{nn:Nat}{env:Env}{all:Array Oper}{ms:List Nat}{i:Nat}{rest bs:List Nat}{o:Oper}{k:List aR}{marks:List Nat}{aU:Option Nat}{fr:Frame}{v:AV}{z:Value}
  (hf:FR w S m ⟨fn,nn,env,.iW all ms i rest bs::k,marks,aU⟩ fr) (ho:all[i]? = some o) (hd:gp nn o.dst=true) (hv:CR w S m v z):FR w S m ⟨fn,nn,env.dG o.dst v,.cK all ms rest bs::k,marks,aU⟩ (fr.finish z):=by
 obtain⟨it,kc,ht,h1,h2⟩:=hf.todo.cons_inv
 obtain⟨l,rfl,hD⟩:∃l:List Nat,it=.inRegion all (i::l)∧dq nn all ms (i::rest) bs (i::l):=h1
 rw[jY ht ho]
 refine⟨hf.fn,pI.trans hf.n,hf.small,fun x hx=>AI (f:=⟨fn,nn,env,.iW all ms i rest bs::k,marks,aU⟩) (H:=fun x=>Hid ⟨fn,nn,env.dG o.dst v,.cK all ms rest bs::k,marks,aU⟩ {fr with tmps:=uW fr.tmps o.dst z,todo:=.inRegion all l::kc} x) hf.n hf.small hd hv (fun x hx _=>hf.env x fun hh=>hx ?_) x hx,
   .mk (a:=.cK all ms rest bs) ⟨l,rfl,hD.take⟩ h2,.mk trivial hf.live.tail,hf.flat,hf.defers,hf.marks,hf.mode,hf.kind,hf.aU,hf.jR⟩
 obtain⟨all',bs',l',k',b,p,e1,e2,e3,e4,e5,e6⟩:=hh
 cases e1
 rw[ht] at e2
 cases e2
 rcases List.mem_cons.1 e4 with rfl|e4
 ·have hn:b ∉ rest++bs:=(List.nodup_cons.1 (by have:=hD.nodup;rwa [List.cons_append] at this)).1
  exact absurd (List.mem_append.2 (.inr e3)) hn
 ·exact⟨all,bs,l,kc,b,p,rfl,rfl,e3,e4,e5,e6⟩
theorem o6{g g':aH}{fr:Frame}{v:AV}{z:Value}(hf:FR w S m g fr)(hv:CR w S m v z)(h:finish g v=some g'):FR w S m g' (fr.finish z)∧g'.fn=g.fn:=by
 obtain⟨fn,nn,env,todo,marks,aU⟩:=g
 cases todo with
 | nil=>simp[finish] at h
 | cons a k=>
   cases a<;>simp only[finish] at h<;>try (cases h;done)
   case ops all rest=>
    cases rest with
    | nil=>cases h
    | cons o rest=>
      simp only at h
      cases hd:gp nn o.dst with
      | false=>rw[hd] at h;cases h
      | true=>rw[hd] at h;cases h;exact⟨sT hf hd hv,rfl⟩
   case iW all ms i rest bs=>
    cases ho:all[i]? with
    | none=>rw[ho] at h;cases h
    | some o=>
      rw[ho] at h
      simp only at h
      cases hd:gp nn o.dst with
      | false=>rw[hd] at h;cases h
      | true=>rw[hd] at h;cases h;exact⟨qt hf ho hd hv,rfl⟩
   case gI l=>
    cases h
    obtain⟨it,kc,ht,h1,h2⟩:=hf.todo.cons_inv
    have h1:it=.inRangeFunc (S.σ l):=h1
    subst h1
    have e:fr.finish z={fr with todo:=.endRangeFunc (S.σ l)::kc}:=by simp[Frame.finish,ht]
    rw[e]
    refine⟨hf.next (fun _=>fZ fun a ha=>by cases ha;rfl) (.mk (a:=.fS l) rfl h2) (.mk ?_ hf.live.tail) hf.flat,rfl⟩
    exact hf.live (.gI l) List.mem_cons_self
end
end Go.Ev
namespace Go.Ev
section
variable {P:Program} {R:Type} {E:dE R} {w0:World} {I0:Nat→Prop} {f0:FuncId} {Fin:R→Value→World→Prop} {Q:R→Prop}
variable {w:World} {S:St} {m:Mem} {fr:Frame} {fs:List aH} {frs cs:List Frame}
variable {fn:FuncId} {nn:Nat} {env:Env} {marks:List Nat} {aU:Option Nat} {k:List aR} {n:Nat}
theorem im{all:Array Oper}{o:Oper}{t:Bool}(h:gg all env o=some t):dD all env o t:=by
 unfold gg at h
 unfold dD
 cases hg:o.guard with
 | none=>rw[hg] at h;cases h;rfl
 | some q=>
   obtain⟨j,want⟩:=q
   rw[hg] at h
   simp only at h ⊢
   cases hp:all[j]? with
   | none=>rw[hp] at h;cases h
   | some p=>
     rw[hp] at h
     simp only at h
     cases hd:p.dst with
     | none=>rw[hd] at h;cases h
     | some d=>
       rw[hd] at h
       simp only at h
       refine⟨p,d,rfl,hd,?_⟩
       cases he:env.at d<;>rw[he] at h<;>(try simp only at h)<;>try (cases h;done)
       case bool c v=>
        cases c<;>simp only at h<;>try (cases h;done)
        cases v<;>cases want<;>cases h<;>exact .inl ⟨_,_,rfl,rfl⟩
       case mC vs=>
        cases vs with
        | nil=>cases h;exact .inr ⟨rfl,rfl⟩
        | cons _ _=>cases h
theorem yP{G:ei→Prop}{v:AV}{t:Tr R}:∀{d:Option Nat},Tr.Ok Q G (yj env d v t)→kH env d v∧Tr.Ok Q G t
 | none,h=>⟨trivial,h⟩
 | some _,h=>h
theorem oM{G:ei→Prop}{all:Array Oper}:∀{bs:List Nat} {t:Tr R},Tr.Ok Q G (gT ai E env m all bs t)→(∀b∈bs,uJ E env m all b)∧Tr.Ok Q G t
 | [],t,h=>⟨fun b hb=>absurd hb List.not_mem_nil,h⟩
 | b::bs,t,h=>by
   simp only[gT] at h
   cases ho:all[b]? with
   | none=>rw[ho] at h;exact h.elim
   | some o=>
     rw[ho] at h
     simp only at h
     cases hk:gg all env o with
     | none=>rw[hk] at h;exact h.elim
     | some g=>
       rw[hk] at h
       cases g with
       | false=>
         obtain⟨h1,h2⟩:=yP h
         obtain⟨h3,h4⟩:=oM h2
         refine⟨fun x hx=>?_,h4⟩
         rcases List.mem_cons.1 hx with rfl|hx
         ·exact⟨o,ho,.inl ⟨im hk,h1⟩⟩
         ·exact h3 x hx
       | true=>
         simp only at h
         cases hv:FZ ai E m (dd env) o with
         | none=>rw[hv] at h;exact h.elim
         | some tv=>
           rw[hv] at h
           simp only at h
           obtain⟨v,hv1,h0⟩:=TV.bind_ok h
           obtain⟨h1,h2⟩:=yP h0
           obtain⟨h3,h4⟩:=oM h2
           refine⟨fun x hx=>?_,h4⟩
           rcases List.mem_cons.1 hx with rfl|hx
           ·exact⟨o,ho,.inr ⟨im hk,tv,v,hv,hv1,h1⟩⟩
           ·exact h3 x hx
theorem rP{G:ei→Prop}{f:aH}{t:Tr R}(h:Tr.Ok Q G (kY ai E f m t)):jJ E {frames:=f::fs,mem:=m}∧Tr.Ok Q G t:=by
 unfold kY at h
 unfold jJ
 simp only
 split at h
 ·rename_i all ms rest bs k he
  rw[he]
  exact oM h
 ·rename_i hne
  refine⟨?_,h⟩
  split
  ·rename_i all ms rest bs k he
   exact absurd he (hne _ _ _ _ _)
  ·trivial
theorem yN(hP:Fits P E Fin w0 I0)(ih:∀c,Tr.Ok Q (Good P E w0 I0 f0 Fin Q) (run ai E n c)→Good P E w0 I0 f0 Fin Q c){f:aH}
  (h:Tr.Ok Q (Good P E w0 I0 f0 Fin Q) (match gx f.marks m with
     | none=>.bad 139 ""
     | some m=>match look E.jo f.fn with
       | none=>.bad 141 ""
       | some F=>match fq ai E f.env m F.results.toList with
         | none=>.bad 142 ""
         | some vs=>match fs with
           | []=>match E.fin (dO vs) m with
             | some y=>.ret y
             | none=>.bad 143 ""
           | g::gs=>match finish g (dO vs) with
             | some g=>kY ai E g m (run ai E n {frames:=g::gs,mem:=m})
             | none=>.bad 144 ""))
  (hnh:∀x,¬Hid f fr x) (hret:step P (lone fr (frs++cs) w)=.next (lone {fr with mode:=.returning} (frs++cs) w))
  (hW:WR w0 w S m) (hI:∀b,S.I b→I0 b∨w0.heap.size≤b) (hf:FR w S m f fr) (hfs:r9 w S m fs frs) (hB:qA f0 (f::fs)) :
  Ends P f0 Fin Q fr frs cs w:=by
 cases hm:gx f.marks m with
 | none=>rw[hm] at h;exact h.elim
 | some m1=>
   rw[hm] at h
   simp only at h
   cases hF:look E.jo f.fn with
   | none=>rw[hF] at h;exact h.elim
   | some F=>
     rw[hF] at h
     simp only at h
     cases hr:fq ai E f.env m1 F.results.toList with
     | none=>rw[hr] at h;exact h.elim
     | some vs=>
       rw[hr] at h
       simp only at h
       obtain⟨w1,hs,hsteps⟩:=sQ (P:=P) (fr:={fr with mode:=.returning}) (cs:=frs++cs) hm hW rfl hf.defers
       have henv:∀i,CR w1 S m1 (f.env.at i) (fr.tmps.getD i undef):=fun i=>(hf.env i (hnh i)).mono hs.out
       obtain⟨z,hz,hzc⟩:=uP hP.ti hs.wr henv hr
       have hleave:({fr with mode:=.returning,defers:=[]}:Frame).leaving P w1 (.returned z):=⟨rfl,rfl,hf.kind,F,by rw[←(hP.jo _ _ hF).1,←hf.fn],hz⟩
       have hto:Steps P (lone fr (frs++cs) w) (lone {fr with mode:=.returning,defers:=[]} (frs++cs) w1):=.head hret hsteps
       cases fs with
       | nil=>
         have:frs=[]:=hfs
         subst this
         simp only at h
         cases hy:E.fin (dO vs) m1 with
         | none=>rw[hy] at h;exact h.elim
         | some y=>
           rw[hy] at h
           exact⟨y,z,w1,_,h,hP.fin S w1 m1 _ y z hs.wr hI hy hzc,hto,hf.fn.trans hB,hleave⟩
       | cons g gs=>
         obtain⟨frg,frs',rfl,hg,hgs⟩:=hfs
         simp only at h
         cases hfin:finish g (dO vs) with
         | none=>rw[hfin] at h;exact h.elim
         | some g'=>
           rw[hfin] at h
           obtain⟨hst,h⟩:=rP (fs:=gs) h
           obtain⟨hfg,hfn⟩:=o6 (hg.mono hs.out) hzc hfin
           have hstep2:=step_leave_returned (P:=P) (c:=frg) (cs:=frs'++cs) hleave
           exact .steps (hto.trans (.one hstep2)) (ih _ h hst S _ _ cs w1 hs.wr hI ⟨_,_,rfl,hfg,hgs.mono hs.out⟩ (qA.swap (f:=g) hB hfn))
end
end Go.Ev
namespace Go.Ev
section
variable {P:Program} {R:Type} {E:dE R} {w0:World} {I0:Nat→Prop} {f0:FuncId} {Fin:R→Value→World→Prop} {Q:R→Prop}
variable {w:World} {S:St} {m:Mem} {fr:Frame} {fs:List aH} {frs cs:List Frame}
variable {fn:FuncId} {nn:Nat} {env:Env} {marks:List Nat} {aU:Option Nat} {k:List aR} {n:Nat}
theorem pE(hW:WR w0 w S m){l:Nat}{r:yl}(hm:m.at l=.loop r)(st:Nat)(pd:Option Code) :
  ∃lp,w.heap[S.σ l]? = some (.loop lp)∧yq w S m r lp∧Step w0 w S m (w.putObj (S.σ l) (.loop {lp with state:=iU st,pending:=pd})) S (m.set l (.loop {r with state:=st,pending:=pd})):=by
 have hb:=hW.box l
 rw[hm] at hb
 obtain⟨lp,h1,h2⟩:=hb
 refine⟨lp,h1,h2,?_⟩
 have hl:(m.at l).bJ=true:=by rw[hm];rfl
 have hf:(m.at l).jA=false:=by rw[hm];rfl
 have hk:dL (m.at l) (.loop {r with state:=st,pending:=pd}):=by rw[hm];trivial
 have ht:=oB (o':=.loop {lp with state:=iU st,pending:=pd}) h1 (fun _ _ _ h=>by cases h)
 have hO:=eX hW hl hf hk (fun _=>rfl) ht
 obtain⟨_,_,g3,g4,g5,g6,g7,g8⟩:=h2
 exact⟨hW.set hl hf hk (fun _=>rfl) rfl ht ⟨_,BZ h1,rfl,rfl,g3,g4,g5,g6,g7,fun i=>(g8 i).mono hO⟩,hO,.refl⟩
theorem lN(ih:∀c,Tr.Ok Q (Good P E w0 I0 f0 Fin Q) (run ai E n c)→Good P E w0 I0 f0 Fin Q c){f:aH}{l:Nat}{jump:Option Code}
  (hrnd:f.aU=some l)
  (h:Tr.Ok Q (Good P E w0 I0 f0 Fin Q) (match m.at l with
     | .loop r=>match fs with
       | g::gs=>match finish g (.bool true (tf jump)) with
         | some g=>kY ai E g (m.set l (.loop {r with state:=(qV jump),pending:=jump})) (run ai E n {frames:=g::gs,mem:=m.set l (.loop {r with state:=(qV jump),pending:=jump})})
         | none=>.bad 145 ""
       | []=>.bad 146 ""
     | _=>.bad 147 ""))
  (ht:(fr.todo=[]∧jump=none)∨(∃k,fr.todo=.code .ret::k∧jump=some .ret)∨(∃id k,fr.todo=.code (.exit id)::k∧exitTo id k=none∧jump=some (.exit id))∨(∃id k,fr.todo=.code (.goto id)::k∧gotoIn id k=none∧jump=some (.goto id)))
  (hW:WR w0 w S m) (hI:∀b,S.I b→I0 b∨w0.heap.size≤b) (hf:FR w S m f fr) (hfs:r9 w S m fs frs) (hB:qA f0 (f::fs)) :
  Ends P f0 Fin Q fr frs cs w:=by
 cases hm:m.at l<;>rw[hm] at h<;>(try simp only at h)<;>try exact h.elim
 rename_i r
 cases fs with
 | nil=>exact h.elim
 | cons g gs=>
   simp only at h
   cases hfin:finish g (.bool true (tf jump)) with
   | none=>rw[hfin] at h;exact h.elim
   | some g'=>
     rw[hfin] at h
     obtain⟨hst,h⟩:=rP (fs:=gs) h
     obtain⟨frg,frs',rfl,hg,hgs⟩:=hfs
     obtain⟨lp,h1,h2,hs⟩:=pE hW hm (qV jump) jump
     have he:(Instr.endRound (S.σ l) jump).run P w=.ok (.bool (tf jump)) (w.putObj (S.σ l) (.loop {lp with state:=iU (qV jump),pending:=jump})):=by
      rw[run_endRound jump h1]
      cases jump<;>rfl
     have hstep:=Bv (P:=P) (g:=frg) (cs:=frs'++cs) hf.mode hf.kind (by rw[hf.aU,hrnd];rfl) ht he
     obtain⟨hfg,hfn⟩:=o6 (hg.mono hs.out) (z:=.bool (tf jump)) (cu.2 rfl) hfin
     exact .step hstep (ih _ h hst S _ _ cs _ hs.wr hI ⟨_,_,rfl,hfg,hgs.mono hs.out⟩ (qA.swap (f:=g) hB hfn))
theorem Cs(ih:∀c,Tr.Ok Q (Good P E w0 I0 f0 Fin Q) (run ai E n c)→Good P E w0 I0 f0 Fin Q c)
  (h:Tr.Ok Q (Good P E w0 I0 f0 Fin Q) (run ai E (n+1) {frames:=⟨fn,nn,env,.beginRound::k,marks,aU⟩::fs,mem:=m}))
  (hW:WR w0 w S m) (hI:∀b,S.I b→I0 b∨w0.heap.size≤b) (hf:FR w S m ⟨fn,nn,env,.beginRound::k,marks,aU⟩ fr) (hfs:r9 w S m fs frs) (hB:qA f0 (⟨fn,nn,env,.beginRound::k,marks,aU⟩::fs)) :
  Ends P f0 Fin Q fr frs cs w:=by
 obtain⟨it,kc,ht,h1,h2⟩:=hf.todo.cons_inv
 have h1:it=.beginRound:=h1
 subst h1
 simp only[run] at h
 cases aU with
 | none=>exact h.elim
 | some l=>
   simp only at h
   cases hm:m.at l<;>rw[hm] at h<;>(try simp only at h)<;>try exact h.elim
   rename_i r
   cases hs0:Nat.beq r.state 0 with
   | false=>rw[hs0] at h;exact h.elim
   | true=>
     rw[hs0] at h
     simp only at h
     have hs0:=bH.1 hs0
     obtain⟨lp,g1,g2,hs⟩:=pE hW hm 1 r.pending
     have hst:lp.state=.ready:=by rw[g2.1,hs0];rfl
     have hb:=run_beginRound (P:=P) g1 hst
     have hw:({lp with state:=.busy}:Loop)={lp with state:=iU 1,pending:=r.pending}:=by rw[←g2.2.1];rfl
     rw[hw] at hb
     have hstep:=Dk (P:=P) (cs:=frs++cs) hf.mode hf.aU ht hb
     have hf':=hf.mono hs.out
     exact .step hstep (ih _ h (dZ fun a ha=>hf.flat a (List.mem_of_mem_head? ha)) S _ _ cs _ hs.wr hI ⟨_,_,rfl,hf'.next (fun _=>fZ fun a ha=>by cases ha;rfl) h2 hf'.live.tail (fun a ha=>hf.flat a (List.mem_of_mem_tail ha)),hfs.mono hs.out⟩ (hB.swap rfl))
theorem Bu(ih:∀c,Tr.Ok Q (Good P E w0 I0 f0 Fin Q) (run ai E n c)→Good P E w0 I0 f0 Fin Q c){l:Nat}
  (h:Tr.Ok Q (Good P E w0 I0 f0 Fin Q) (run ai E (n+1) {frames:=⟨fn,nn,env,.fS l::k,marks,aU⟩::fs,mem:=m}))
  (hW:WR w0 w S m) (hI:∀b,S.I b→I0 b∨w0.heap.size≤b) (hf:FR w S m ⟨fn,nn,env,.fS l::k,marks,aU⟩ fr) (hfs:r9 w S m fs frs) (hB:qA f0 (⟨fn,nn,env,.fS l::k,marks,aU⟩::fs)) :
  Ends P f0 Fin Q fr frs cs w:=by
 obtain⟨it,kc,ht,h1,h2⟩:=hf.todo.cons_inv
 have h1:it=.endRangeFunc (S.σ l):=h1
 subst h1
 simp only[run] at h
 cases hm:m.at l<;>rw[hm] at h<;>(try simp only at h)<;>try exact h.elim
 rename_i r
 cases hs0:Nat.beq r.state 1 with
 | true=>rw[hs0] at h;exact h.elim
 | false=>
   rw[hs0] at h
   simp only at h
   have hs0:=bL.1 hs0
   obtain⟨lp,g1,g2,hs⟩:=pE hW hm 3 r.pending
   have hst:lp.state≠.busy:=by
    rw[g2.1]
    match hr:r.state,hs0 with
    | 0,_=>simp[iU]
    | 1,h=>exact absurd rfl h
    | 2,_=>simp[iU]
    | n+3,_=>simp[iU]
   have hb:=run_endLoop (P:=P) g1 hst
   have hw:({lp with state:=.exhausted}:Loop)={lp with state:=iU 3,pending:=r.pending}:=by rw[←g2.2.1];rfl
   rw[hw,g2.2.1] at hb
   have hstep:=CU (P:=P) (cs:=frs++cs) hf.mode ht hb
   have hf':=hf.mono hs.out
   refine .step hstep (ih _ h (dZ fun a ha=>?_) S _ _ cs _ hs.wr hI ⟨_,_,rfl,hf'.next (fun _=>fZ fun a ha=>by cases ha;rfl) ?_ ?_ (fun a ha=>?_),hfs.mono hs.out⟩ (hB.swap rfl))
   ·simp only at ha
    cases hp:r.pending with
    | none=>rw[hp] at ha;exact hf.flat a (List.mem_of_mem_head? ha)
    | some j=>rw[hp] at ha;cases ha;rfl
   ·cases hp:r.pending with
    | none=>exact h2
    | some j=>exact h2.code
   ·have key:∀(pd:Option Code) (M:Mem),bo M k→bo M (match pd with|some j=>.code j::k|none=>k):=fun pd M hM=>by
     cases pd with
     | none=>exact hM
     | some j=>exact .mk trivial hM
    exact key _ _ hf'.live.tail
   ·cases hp:r.pending with
    | none=>rw[hp] at ha;exact hf.flat a (List.mem_of_mem_tail ha)
    | some j=>rw[hp] at ha;exact hf.flat a ha
end
end Go.Ev
namespace Go.Ev
section
variable {P:Program} {R:Type} {E:dE R} {w0:World} {I0:Nat→Prop} {f0:FuncId} {Fin:R→Value→World→Prop} {Q:R→Prop}
variable {w:World} {S:St} {m:Mem} {fr:Frame} {fs:List aH} {frs cs:List Frame}
variable {fn:FuncId} {nn:Nat} {env:Env} {marks:List Nat} {aU:Option Nat} {k:List aR} {n:Nat}
theorem k_{g:FuncId}{F:Func}{aa:List AV}{h:aH}{args:Array Value}(hF:P.funcs[g]? = some F)(he:fO g F aa=some h)(ha:bF w S m aa args.toList) :
  FR w S m h (Frame.enter P g args .normal)∧F.body.isSome=true∧∀a∈h.todo.head?,a.s8=false:=by
 unfold fO at he
 cases hb:F.body with
 | none=>rw[hb] at he;cases he
 | some b=>
   rw[hb] at he
   simp only at he
   cases h1:Nat.ble aa.length F.ntmps with
   | false=>rw[h1] at he;cases he
   | true=>
     cases h2:Nat.ble F.ntmps 65535 with
     | false=>rw[h1,h2] at he;cases he
     | true=>
       rw[h1,h2] at he
       cases he
       have h1:=Nat.le_of_ble_eq_true h1
       have h2:=Nat.le_of_ble_eq_true h2
       have hlen:args.size=aa.length:=by rw[←Array.length_toList];exact ha.length
       refine⟨⟨rfl,?_,h2,fun i _=>?_,?_,.mk trivial fun a ha=>absurd ha List.not_mem_nil,fun a ha=>absurd ha List.not_mem_nil,rfl,fun d hd=>absurd hd List.not_mem_nil,rfl,rfl,rfl,fun l hl=>by cases hl⟩,rfl,fun a ha=>by cases ha;rfl⟩
       ·simp only[Frame.enter,hF,Option.map_some,Option.getD_some,Array.size_append,Array.size_replicate]
        omega
       ·rw[Env.Jl (by omega),Env.Ay]
        by_cases hi:0≤i∧i<0+aa.length
        ·rw[if_pos hi,Nat.sub_zero]
         have hx:aa[i]? = some (aa.getD i .undef):=by
          rw[List.getD_eq_getElem?_getD,List.getElem?_eq_getElem (by omega)];rfl
         obtain⟨v,hv,hc⟩:=ha.get hx
         have hv':args[i]? = some v:=by rw[←Array.getElem?_toList];exact hv
         have:(Frame.enter P g args .normal).tmps.getD i undef=v:=by
          simp only[Frame.enter,Array.getD_eq_getD_getElem?]
          rw[Array.getElem?_append_left (by omega),hv'];rfl
         rw[this];exact hc
        ·rw[if_neg hi];exact du
       ·have:(Frame.enter P g args .normal).todo=[.code b]:=by simp[Frame.enter,hF,hb]
        rw[this]
        exact bQ.code rfl
theorem xA{g:FuncId}{F:Func}{args:Array Value}(hF:P.funcs[g]? = some F)(hn:(F.name == "runtime.NumGoroutine")=false)(hb:F.body.isSome=true)(w:World):(callFunc g args).run P w=.ok (.enter g args) w:=by
 simp only[beq_eq_false_iff_ne,ne_eq] at hn
 have hne:F.body≠none:=fun e=>by rw[e] at hb;cases hb
 simp[callFunc,hF,hn,hne]
theorem fX{ρ:Operand→Value}{x:Operand}{args:Array Operand}{ats:Array TypeId}{t:TypeId}{g:FuncId}{F:Func}{us vs:Array Value}(hx:ρ x=.func (.func g) us vs)(hF:P.funcs[g]? = some F)(hn:(F.name == "runtime.NumGoroutine")=false)(hb:F.body.isSome=true)(w:World) :
  (do let d ←resolve ρ {callee:=.value x,args:=args,argTypes:=ats} t;invoke d.target d.args:Sem Next).run P w=.ok (.enter g (us++args.map ρ++vs)) w:=by
 simp only[resolve,hx,Deferred.ofValue,Sem.run_bind,Sem.run_pure,Result.andThen_ok,invoke]
 exact xA hF hn hb w
theorem xV(hW:WR w0 w S m){o:Obj}{bx:iJ}(hl:bx.bJ=true)(hf:bx.jA=false)
  (hb:bw w S m (w.alloc o) (S.push m.length w.heap.size 0 false) (m ++ [bx])→nN (w.alloc o) (S.push m.length w.heap.size 0 false) (m ++ [bx]) m.length bx) :
  Step w0 w S m (w.alloc o) (S.push m.length w.heap.size 0 false) (m ++ [bx]):=by
 have hO:=fo hW o bx 0 false
 have:=Step.push hW (o:=o) (bx:=bx) (d:=0) hl (by rw[hf];exact hb hO)
 rw[hf] at this
 exact this
theorem Cx(hW:WR w0 w S m){f:aH}(hf:FR w S m f fr)(hnh:∀x,¬Hid f fr x){ps:Array Tmp}{a b:Code}(dv:Nat) :
  Step w0 w S m (w.alloc (.loop {state:=.ready,pending:=none,fn:=fr.fn,tmps:=fr.tmps,params:=ps,assign:=a,body:=b,defers:=dv})) (S.push m.length w.heap.size 0 false)
   (m ++ [.loop {fn:=f.fn,n:=f.n,env:=f.env,params:=ps.toList,assign:=a,body:=b,state:=0,pending:=none}]):=by
 refine xV hW rfl rfl fun hO=>⟨{state:=.ready,pending:=none,fn:=fr.fn,tmps:=fr.tmps,params:=ps,assign:=a,body:=b,defers:=dv},?_,rfl,rfl,hf.fn,?_,rfl,rfl,⟨hf.n,hf.small⟩,fun i=>(hf.env i (hnh i)).mono hO⟩
 ·simp only[St.push,if_pos];exact heap_alloc_new w _
 ·simp
theorem CL{w':World}{b:Nat}{r:yl}:CR w' (S.push m.length b 0 false) (m ++ [.loop r]) (.yield m.length) (.func (.yield b) #[] #[]):=by
 rw[CR,Mem.dp]
 simp only[St.push,if_pos]
theorem u5(hP:Fits P E Fin w0 I0)(ih:∀c,Tr.Ok Q (Good P E w0 I0 f0 Fin Q) (run ai E n c)→Good P E w0 I0 f0 Fin Q c){x:Operand}{ps:Array Tmp}{a b:Code}
  (h:Tr.Ok Q (Good P E w0 I0 f0 Fin Q) (run ai E (n+1) {frames:=⟨fn,nn,env,.code (.rangeFunc x ps a b)::k,marks,aU⟩::fs,mem:=m}))
  (hW:WR w0 w S m) (hI:∀b,S.I b→I0 b∨w0.heap.size≤b) (hf:FR w S m ⟨fn,nn,env,.code (.rangeFunc x ps a b)::k,marks,aU⟩ fr) (hfs:r9 w S m fs frs) (hB:qA f0 (⟨fn,nn,env,.code (.rangeFunc x ps a b)::k,marks,aU⟩::fs)) :
  Ends P f0 Fin Q fr frs cs w:=by
 obtain⟨it,kc,ht,h1,h2⟩:=hf.todo.cons_inv
 have h1:it=.code (.rangeFunc x ps a b):=h1
 subst h1
 have hnh:∀y,¬Hid ⟨fn,nn,env,.code (.rangeFunc x ps a b)::k,marks,aU⟩ fr y:=fun _=>fZ fun a ha=>by cases ha;rfl
 have hx:=nY hf x fun t _=>hnh t
 simp only[run] at h
 cases hv:dd env x<;>rw[hv] at h hx<;>(try simp only at h)<;>try exact h.elim
 rename_i g first caps
 cases first with
 | cons _ _=>exact h.elim
 | nil=>
   obtain⟨us,vs,hxe,hus,hvs⟩:=mr.1 hx
   have hus:us=#[]:=Array.toList_eq_nil_iff.1 (bu.1 hus)
   subst hus
   simp only at h
   -- the world in which the record is laid
   have main:∀{S1:St} {m1:Mem} {w1:World} {marks1:List Nat} {mark:List Deferred} {dv:Nat},Step w0 w S m w1 S1 m1→
     (Instr.enterLoop fr.fn fr.tmps ps a b fr.roundOf).run P w=.ok (w1.heap.size,mark) (w1.alloc (.loop {state:=.ready,pending:=none,fn:=fr.fn,tmps:=fr.tmps,params:=ps,assign:=a,body:=b,defers:=dv}))→
     mark++fr.defers=marks1.map (fun d=>{target:=.collected (S1.σ d),args:=#[]})→(∀d∈marks1,(m1.at d).ed=true)→
     Tr.Ok Q (Good P E w0 I0 f0 Fin Q) (match look E.jo g with
         | none=>.bad 159 ""
         | some G=>match fO g G (.yield m1.length::caps) with
           | none=>.bad 160 ""
           | some h=>run ai E n {frames:=h::⟨fn,nn,env,.gI m1.length::k,marks1,aU⟩::fs,mem:=m1 ++ [.loop {fn:=fn,n:=nn,env:=env,params:=ps.toList,assign:=a,body:=b,state:=0,pending:=none}]})→
     Ends P f0 Fin Q fr frs cs w:=by
    intro S1 m1 w1 marks1 mark dv s1 he hmk hmc h
    cases hG:look E.jo g with
    | none=>rw[hG] at h;exact h.elim
    | some G=>
      rw[hG] at h
      simp only at h
      cases hen:fO g G (.yield m1.length::caps) with
      | none=>rw[hen] at h;exact h.elim
      | some h'=>
        rw[hen] at h
        simp only at h
        have s2:=Cx s1.wr (hf.mono s1.out) hnh (ps:=ps) (a:=a) (b:=b) dv
        have s12:=s1.trans s2
        obtain⟨hGf,hGn⟩:=hP.jo _ _ hG
        have hargs:bF (w1.alloc (.loop {state:=.ready,pending:=none,fn:=fr.fn,tmps:=fr.tmps,params:=ps,assign:=a,body:=b,defers:=dv})) (S1.push m1.length w1.heap.size 0 false) (m1 ++ [.loop {fn:=fn,n:=nn,env:=env,params:=ps.toList,assign:=a,body:=b,state:=0,pending:=none}])
          (.yield m1.length::caps) (#[Value.func (.yield w1.heap.size) #[] #[]]++vs).toList:=bY.2 ⟨.func (.yield w1.heap.size) #[] #[],vs.toList,by simp,CL,hvs.mono s12.out⟩
        obtain⟨hfr,hbody,hnh'⟩:=k_ hGf hen hargs
        have hcall:=fX (ρ:=fr.eval) (x:=x) (args:=#[.const (.func (.yield w1.heap.size) #[] #[])]) (ats:=#[]) (t:=0) hxe hGf hGn hbody (w1.alloc (.loop {state:=.ready,pending:=none,fn:=fr.fn,tmps:=fr.tmps,params:=ps,assign:=a,body:=b,defers:=dv}))
        have hcall':(#[]:Array Value) ++ #[Operand.const (.func (.yield w1.heap.size) #[] #[])].map fr.eval++vs=#[Value.func (.yield w1.heap.size) #[] #[]]++vs:=by simp[Frame.eval]
        rw[hcall'] at hcall
        have hstep:=S_ (P:=P) (cs:=frs++cs) hf.mode ht he hcall
        have hf2:=hf.mono s12.out
        have hlast:Mem.at (m1 ++ [.loop {fn:=fn,n:=nn,env:=env,params:=ps.toList,assign:=a,body:=b,state:=0,pending:=none}]) m1.length=.loop {fn:=fn,n:=nn,env:=env,params:=ps.toList,assign:=a,body:=b,state:=0,pending:=none}:=Mem.dp
        have hσ:(S1.push m1.length w1.heap.size 0 false).σ m1.length=w1.heap.size:=by simp only[St.push,if_pos]
        refine .step (frs2:={fr with todo:=.inRangeFunc w1.heap.size::kc,defers:=mark++fr.defers}::frs) hstep (ih _ h (dZ fun a ha=>?_) _ _ _ cs _ s12.wr (fun b hb=>(s12.grows b hb).elim (hI b) .inr) ⟨_,_,rfl,hfr,_,_,rfl,?_,hfs.mono s12.out⟩ (qA.swap (g:=⟨fn,nn,env,.gI m1.length::k,marks1,aU⟩) hB rfl))
        ·exact hnh' a ha
        ·have hf3:=hf2.next hnh (k:=.gI m1.length::k) (kc:=.inRangeFunc w1.heap.size::kc) (.mk (a:=.gI m1.length) (by show _=_;rw[hσ]) (bQ.mono s12.out hf.live.tail h2)) (.mk (by show(Mem.at _ _).ed=true;rw[hlast];rfl) hf2.live.tail) hf.flat
         refine⟨hf3.fn,hf3.n,hf3.small,hf3.env,hf3.todo,hf3.live,hf3.flat,?_,fun d hd=>s2.out.ctl d (hmc d hd),hf3.mode,hf3.kind,hf3.aU,hf3.jR⟩
         show mark++fr.defers=_
         rw[hmk]
         exact List.map_congr_left fun d hd=>by rw[oU s2.out (hmc d hd)]
   cases aU with
   | none=>
     simp only at h
     have s1:Step w0 w S m (w.alloc (.deferred (some []))) (S.push m.length w.heap.size 0 false) (m ++ [.wS]):=xV hW rfl rfl fun _=>by
      show(w.alloc (.deferred (some []))).heap[(S.push m.length w.heap.size 0 false).σ m.length]? = _
      simp only[St.push,if_pos];exact heap_alloc_new w _
     have hσ:(S.push m.length w.heap.size 0 false).σ m.length=w.heap.size:=by simp only[St.push,if_pos]
     refine main (marks1:=m.length::marks) (mark:=[{target:=.collected w.heap.size,args:=#[]}]) (dv:=w.heap.size) s1 ?_ ?_ ?_ h
     ·rw[hf.aU]
      show(Instr.enterLoop fr.fn fr.tmps ps a b none).run P w=_
      rw[run_enterLoop_outer,World.size_alloc]
     ·rw[List.map_cons,hσ,hf.defers,List.singleton_append]
      congr 1
      exact List.map_congr_left fun d hd=>by rw[oU s1.out (hf.marks d hd)]
     ·intro d hd
      rcases List.mem_cons.1 hd with rfl|hd
      ·rw[Mem.dp];rfl
      ·exact s1.out.ctl d (hf.marks d hd)
   | some l0=>
     simp only at h
     cases hm0:m.at l0<;>rw[hm0] at h<;>(try simp only at h)<;>try exact h.elim
     have hb:=hW.box l0
     rw[hm0] at hb
     obtain⟨lp,g1,_⟩:=hb
     refine main (marks1:=marks) (mark:=[]) (dv:=lp.defers) (.refl hW) ?_ (by rw[List.nil_append];exact hf.defers) hf.marks h
     rw[hf.aU]
     show(Instr.enterLoop fr.fn fr.tmps ps a b (some (S.σ l0))).run P w=_
     simp[Instr.enterLoop,Sem.run_bind,run_getLoop g1]
end
end Go.Ev
namespace Go.Ev
section
variable {P:Program} {R:Type} {E:dE R} {w0:World} {I0:Nat→Prop} {f0:FuncId} {Fin:R→Value→World→Prop} {Q:R→Prop}
variable {w:World} {S:St} {m:Mem} {fr:Frame} {fs:List aH} {frs cs:List Frame}
variable {fn:FuncId} {nn:Nat} {env:Env} {marks:List Nat} {aU:Option Nat} {k:List aR} {n:Nat}
theorem wH{all:Array Oper}{tmps:Array Value}{j d:Nat}{p:Oper}{v:Bool}(hp:all[j]? = some p)(hd:p.dst=some d)(h:tmps.getD d undef=.bool v):yielded all tmps j=some v:=by
 have hlt:d<tmps.size:=by
  rcases Nat.lt_or_ge d tmps.size with h'|h'
  ·exact h'
  ·rw[Array.getD_eq_getD_getElem?,Array.getElem?_eq_none h'] at h;cases h
 have:tmps[d]? = some (.bool v):=by
  rw[Array.getD_eq_getD_getElem?,Array.getElem?_eq_getElem hlt] at h
  rw[Array.getElem?_eq_getElem hlt,←h];rfl
 simp[yielded,hp,hd,this]
theorem yL{all:Array Oper}{tmps:Array Value}{j d:Nat}{p:Oper}(hp:all[j]? = some p)(hd:p.dst=some d)(h:tmps.getD d undef=.tuple #[]):yielded all tmps j=none:=by
 cases hx:tmps[d]? with
 | none=>simp[yielded,hp,hd,hx]
 | some u=>
   rw[Array.getD_eq_getD_getElem?,hx] at h
   have h:u=.tuple #[]:=h
   subst h
   simp[yielded,hp,hd,hx]
theorem jh{all:Array Oper}{o:Oper}{t:Bool}{tmps:Array Value}(h:dD all env o t)(hc:∀d∈da all o,CR w S m (env.at d) (tmps.getD d undef)):Region.wanted o (yielded all tmps)=t:=by
 unfold dD at h
 unfold da at hc
 cases hg:o.guard with
 | none=>rw[hg] at h;simp only at h;rw[h];simp[Region.wanted,hg]
 | some q=>
   obtain⟨j,want⟩:=q
   rw[hg] at h hc
   simp only at h hc
   obtain⟨p,d,hp,hd,h⟩:=h
   rw[hp] at hc
   simp only[hd] at hc
   have hcd:=hc d List.mem_cons_self
   rcases h with ⟨c,v,he,rfl⟩|⟨he,rfl⟩
   ·rw[he] at hcd
    simp only[Region.wanted,hg,wH hp hd (cu.1 hcd)]
    cases v<;>cases want<;>rfl
   ·rw[he] at hcd
    obtain⟨us,hu,hnil⟩:=ib.1 hcd
    have:us=#[]:=Array.toList_eq_nil_iff.1 (bu.1 hnil)
    subst this
    simp only[Region.wanted,hg,yL hp hd hu]
    rfl
theorem tH{G:ei→Prop}{all:Array Oper}{o:Oper}{yes no:Env→Tr R}(h:Tr.Ok Q G (oE all env o yes no))(hs:∀d∈da all o,∀c v,env.at d=.bool c v→d≤65535) :
  ∃env':Env,(∀x,env'.at x=env.at x∨(x∈da all o∧∃v,env.at x=.bool false v∧env'.at x=.bool true v))∧((dD all env' o true∧Tr.Ok Q G (yes env'))∨(dD all env' o false∧Tr.Ok Q G (no env'))):=by
 unfold oE at h
 unfold da at hs ⊢
 unfold dD
 cases hg:o.guard with
 | none=>rw[hg] at h;exact⟨env,fun _=>.inl rfl,.inl ⟨rfl,h⟩⟩
 | some q=>
   obtain⟨j,want⟩:=q
   rw[hg] at h hs
   simp only at h hs ⊢
   cases hp:all[j]? with
   | none=>rw[hp] at h;exact h.elim
   | some p=>
     rw[hp] at h hs
     simp only at h hs ⊢
     cases hd:p.dst with
     | none=>rw[hd] at h;exact h.elim
     | some d=>
       rw[hd] at h hs
       simp only at h hs ⊢
       cases he:env.at d<;>rw[he] at h<;>(try simp only at h)<;>try exact h.elim
       case bool c v=>
        have hd6:=hs d List.mem_cons_self c v he
        have hput:∀b:Bool,b=v→c=false→∀x,(env.put d (.bool true b)).at x=env.at x∨(x∈ [d]∧∃v,env.at x=.bool false v∧(env.put d (.bool true b)).at x=.bool true v):=by
         intro b hb hc x
         rw[Env.nJ hd6]
         by_cases hx:x=d
         ·subst hx
          rw[if_pos rfl]
          exact .inr ⟨List.mem_cons_self,v,by rw[he,hc],by rw[hb]⟩
         ·rw[if_neg hx];exact .inl rfl
        have hat:∀b:Bool,(env.put d (.bool true b)).at d=.bool true b:=fun b=>by rw[Env.nJ hd6,if_pos rfl]
        cases c with
        | true=>
          simp only at h
          cases v<;>cases want<;>simp only at h
          ·exact⟨env,fun _=>.inl rfl,.inl ⟨⟨p,d,rfl,hd,.inl ⟨true,false,he,rfl⟩⟩,h⟩⟩
          ·exact⟨env,fun _=>.inl rfl,.inr ⟨⟨p,d,rfl,hd,.inl ⟨true,false,he,rfl⟩⟩,h⟩⟩
          ·exact⟨env,fun _=>.inl rfl,.inr ⟨⟨p,d,rfl,hd,.inl ⟨true,true,he,rfl⟩⟩,h⟩⟩
          ·exact⟨env,fun _=>.inl rfl,.inl ⟨⟨p,d,rfl,hd,.inl ⟨true,true,he,rfl⟩⟩,h⟩⟩
        | false=>
          simp only at h
          cases want with
          | true=>
            cases v with
            | true=>exact⟨_,hput true rfl rfl,.inl ⟨⟨p,d,rfl,hd,.inl ⟨true,true,hat true,rfl⟩⟩,h.1 rfl⟩⟩
            | false=>exact⟨_,hput false rfl rfl,.inr ⟨⟨p,d,rfl,hd,.inl ⟨true,false,hat false,rfl⟩⟩,h.2 rfl⟩⟩
          | false=>
            cases v with
            | true=>exact⟨_,hput true rfl rfl,.inr ⟨⟨p,d,rfl,hd,.inl ⟨true,true,hat true,rfl⟩⟩,h.1 rfl⟩⟩
            | false=>exact⟨_,hput false rfl rfl,.inl ⟨⟨p,d,rfl,hd,.inl ⟨true,false,hat false,rfl⟩⟩,h.2 rfl⟩⟩
       case mC vs=>
        cases vs with
        | nil=>exact⟨env,fun _=>.inl rfl,.inr ⟨⟨p,d,rfl,hd,.inr ⟨he,trivial⟩⟩,h⟩⟩
        | cons _ _=>exact h.elim
end
end Go.Ev
namespace Go.Ev
section
variable {P:Program} {w0 w:World} {S:St} {m:Mem}
theorem mz{A:bK}:∀{cs:List AV} {m:Mem},i7 cs=true→bG A m cs=some (m,cs)
 | [],m,_=>rfl
 | v::vs,m,h=>by
   cases v<;>simp only[i7] at h<;>(try cases h;done)<;>simp only[bG,mz h]
theorem ji{w0 w:World}{ts:List Ty}{cs:List AV}{m m1:Mem}{cs1:List AV}{S:St}{us:List Value}(hW:WR w0 w S m)(h:fC ai ts m cs=some (m1,cs1))(hc:bF w S m cs us):∃S1,Step w0 w S m w S1 m1∧bF w S1 m1 cs1 us:=by
 unfold fC at h
 cases ho:oV ai (Ty.rE ts) m cs with
 | none=>rw[ho] at h;cases h
 | some q=>
   obtain⟨m2,cs2⟩:=q
   rw[ho] at h
   simp only at h
   obtain⟨S2,s2,h2⟩:=lI hW ho hc
   obtain⟨S3,s3,h3⟩:=dn s2.wr h h2
   exact⟨S3,s2.trans s3,h3⟩
theorem qz{A:bK}:∀{ks:List (Option Ty)} {cs:List AV} {m:Mem},i7 cs=true→oV A ks m cs=some (m,cs)
 | [],cs,m,_=>rfl
 | _::_, [],m,_=>rfl
 | k::ks,v::vs,m,h=>by
   cases v<;>simp only[i7] at h<;>(try cases h;done)<;>simp only[oV,n_,qz h]
theorem rL{A:bK}{ts:List Ty}{cs:List AV}{m:Mem}(h:i7 cs=true):fC A ts m cs=some (m,cs):=by
 rw[fC,qz h]
 exact mz h
theorem Step.extend{w':World}(hW:WR w0 w S m)(hos:w'.os=w.os)(htp:w'.tape=w.tape)(hout:w'.output=w.output)(hsz:w.heap.size≤w'.heap.size)(hb:∀b,b<w.heap.size→w'.heap[b]? = w.heap[b]?)
  {I':Nat→Prop} (hI':∀b,I' b→S.I b∨(w.heap.size≤b∧b<w'.heap.size)):Step w0 w S m w' {S with I:=fun b=>S.I b∨I' b} m:=by
 have hO:bw w S m w' {S with I:=fun b=>S.I b∨I' b} m:=by
  refine⟨fun b h=>⟨.inl h,hb b (hW.lG b h)⟩,fun id hbad=>⟨cJ hbad,fun _=>⟨rfl,rfl,fun us T fr h=>⟨us,T,fr,?_,rfl⟩⟩⟩,fun _ h=>h⟩
  rw[hb _ (Array.getElem?_eq_some_iff.1 h).1];exact h
 refine⟨⟨hos.trans hW.os,htp.trans hW.tape,hout.trans hW.output,Nat.le_trans hW.size hsz,fun b h=>?_,fun b h=>?_,fun id=>?_,hW.inj,fun id h=>?_,fun id h h'=>?_,fun id h=>.inl (hW.xg id h)⟩,hO,fun b h=>?_⟩
 ·rw[hb b (Nat.lt_of_lt_of_le h hW.size)];exact hW.base b h
 ·rcases h with h|h
  ·exact Nat.lt_of_lt_of_le (hW.lG b h) hsz
  ·rcases hI' b h with h|h
   ·exact Nat.lt_of_lt_of_le (hW.lG b h) hsz
   ·exact h.2
 ·have h0:=hW.box id
  cases hm:m.at id
  case bad=>trivial
  case dead=>trivial
  case yS=>trivial
  all_goals
   have hl:(m.at id).bJ=true:=by rw[hm];rfl
   rw[←hm]
   exact h0.mono hO rfl rfl (hb _ (hW.lo id hl).2)
 ·exact⟨(hW.lo id h).1,Nat.lt_of_lt_of_le (hW.lo id h).2 hsz⟩
 ·rintro (hI|hI)
  ·exact hW.qs id h h' hI
  ·rcases hI' _ hI with hI|hI
   ·exact hW.qs id h h' hI
   ·have:=(hW.lo id h).2
    have h1:w.heap.size≤S.σ id:=hI.1
    omega
 ·rcases h with h|h
  ·exact .inl h
  ·rcases hI' b h with h|h
   ·exact .inl h
   ·exact .inr (Nat.le_trans hW.size h.1)
theorem iB.weaken{I I':Nat→Prop}(hI:∀b,I b→I' b){t:Ty}{v:Value}{x:t.T}(h:iB w I t v x):iB w I' t v x:=by
 unfold iB at h ⊢
 split
 ·rename_i ht
  rw[if_pos ht] at h
  obtain⟨us,e,h⟩:=h
  exact⟨us,e,aP.mono (fun b hb=>⟨hI b hb,rfl⟩) t h⟩
 ·rename_i ht
  rw[if_neg ht] at h
  exact aP.mono (fun b hb=>⟨hI b hb,rfl⟩) t h
theorem Ty.Eu{t:Ty}(h:t.isAgg=false):t.size=1:=by cases t<;>first|rfl|cases h
theorem AR{t:Ty}{v:AV}{u:Value}(h:(match t.isAgg,v with|true,.agg cs=>Nat.beq cs.length t.size|true,_=>false|false,.agg _=>false|false,_=>true)=true)(hc:CR w S m v u) :
  ∃L:List Value,bF w S m v.cells L∧L.length=t.size∧∀(I:Nat→Prop) (x:t.T),aP w I t L x→iB w I t u x:=by
 cases ht:t.isAgg with
 | true=>
   rw[ht] at h
   cases v<;>simp only at h<;>try (cases h;done)
   rename_i cs
   obtain⟨us,rfl,hcs⟩:=jc.1 hc
   refine⟨us.toList,hcs,by rw[hcs.length];exact Nat.eq_of_beq_eq_true h,fun I x hx=>?_⟩
   rw[iB,if_pos ht]
   exact⟨us,rfl,hx⟩
 | false=>
   rw[ht] at h
   have hcells:v.cells=[v]:=by cases v<;>first|rfl|(simp only at h;cases h)
   refine⟨[u],by rw[hcells];exact bY.2 ⟨u, [],rfl,hc,bu.2 rfl⟩,(Ty.Eu ht).symm,fun I x hx=>?_⟩
   rw[iB,if_neg (by rw[ht];decide)]
   exact hx
theorem oy:∀{ts:List Ty} {vs:List AV} {us:List Value},gk ts vs=true→bF w S m vs us→
  ∃L:List Value,bF w S m (vs.flatMap AV.cells) L∧∀(I:Nat→Prop) (x:Ty.Ts ts),cm w I ts L x→gu w I ts us x
 | [], [],us,_,hc=>⟨[],bu.2 rfl,fun I x _=>by rw[gu];exact bu.1 hc⟩
 | [],_::_,us,h,_=>by cases h
 | [t], [v],us,h,hc=>by
   obtain⟨u,r,rfl,h1,h2⟩:=bY.1 hc
   have:=bu.1 h2
   subst this
   simp only[gk,Bool.and_true] at h
   obtain⟨L,g1,g2,g3⟩:=AR h h1
   exact⟨L,by simpa using g1,fun I x hx=>by rw[gu];exact⟨u,rfl,g3 I x hx⟩⟩
 | [t], [],us,h,_=>by cases h
 | [t],_::_::_,us,h,_=>by simp[gk] at h
 | t::t2::ts, [],us,h,_=>by cases h
 | t::t2::ts,v::vs,us,h,hc=>by
   obtain⟨u,r,rfl,h1,h2⟩:=bY.1 hc
   have h:=(Bool.and_eq_true _ _).mp (show((match (generalizing:=false) t.isAgg,v with|true,.agg cs=>Nat.beq cs.length t.size|true,_=>false|false,.agg _=>false|false,_=>true)&&gk (t2::ts) vs)=true from h)
   obtain⟨L,g1,g2,g3⟩:=AR h.1 h1
   obtain⟨L2,k1,k2⟩:=oy h.2 h2
   refine⟨L++L2,by rw[List.flatMap_cons];exact g1.append k1,fun I x hx=>?_⟩
   rw[cm] at hx
   obtain⟨a,b,e,hx1,hx2⟩:=hx
   have hal:a.length=L.length:=by rw[hx1.length,g2]
   obtain⟨rfl,rfl⟩:=List.append_inj e.symm hal
   rw[gu]
   exact⟨u,r,rfl,g3 I _ hx1,k2 I _ hx2⟩
theorem ta{I:Nat→Prop}(hI:∀b,I b→S.I b):∀{ts:List Ty} {us:List Value} {y:Ty.Ts ts},gu w I ts us y→bF w S m (jr ai ts y) us
 | [],us,y,h=>by rw[gu] at h;exact bu.2 h
 | [t],us,y,h=>by
   rw[gu] at h
   obtain⟨v,rfl,h1⟩:=h
   exact bY.2 ⟨v, [],rfl,oI (iB.weaken hI h1),bu.2 rfl⟩
 | t::t2::ts,us,y,h=>by
   rw[gu] at h
   obtain⟨v,r,rfl,h1,h2⟩:=h
   exact bY.2 ⟨v,r,rfl,oI (iB.weaken hI h1),ta hI h2⟩
theorem FE{I:Nat→Prop}(hI:∀b,I b→S.I b){res:List Ty}{v:Value}{y:Ty.Ts res}(h:uK w I res v y):CR w S m (dO (jr ai res y)) v:=by
 match res,y,h with
 | [],y,h=>rw[uK] at h;exact ib.2 ⟨#[],h,bu.2 rfl⟩
 | [t],y,h=>rw[uK] at h;exact oI (iB.weaken hI h)
 | t::t2::ts,y,hh=>
   rw[uK] at hh
   obtain⟨us,hv,h3⟩:=hh
   have:=ta (m:=m) hI h3
   have e:dO (jr ai (t::t2::ts) y)=.mC (jr ai (t::t2::ts) y):=by
    cases ts<;>rfl
   rw[e]
   exact ib.2 ⟨us,hv,this⟩
theorem oO{g:FuncId}{s:aG}(hs:s.Sound P g)(hW:WR w0 w S m){aa:List AV}{args:Array Value}{v:AV}{m':Mem}(ha:bF w S m aa args.toList)(h:(jd ai s m aa).Is (v,m'))(cs:List Frame) :
  ∃w' S' z fr',Step w0 w S m w' S' m'∧CR w' S' m' v z∧Steps P (lone (Frame.enter P g args .normal) cs w) (lone fr' cs w')∧fr'.leaving P w' (.returned z):=by
 unfold jd at h
 cases hok:gk s.args aa with
 | false=>rw[hok] at h;exact h.elim
 | true=>
   rw[hok] at h
   simp only at h
   obtain⟨L,hL,hrep⟩:=oy hok ha
   cases hf:fC ai s.args m (aa.flatMap AV.cells) with
   | none=>rw[hf] at h;exact h.elim
   | some q=>
     obtain⟨m1,cs1⟩:=q
     rw[hf] at h
     simp only at h
     obtain⟨S1,s1,hc1⟩:=ji hW hf hL
     cases htd:nF s.args cs1 with
     | none=>rw[htd] at h;exact h.elim
     | some q=>
       obtain⟨x,r⟩:=q
       rw[htd] at h
       cases r with
       | cons _ _=>exact h.elim
       | nil=>
         simp only at h
         obtain⟨hpre,h⟩:=h
         cases h
         obtain⟨u1,u2,e,hx,hr⟩:=l5 s.args htd hc1
         have hu2:=bu.1 hr
         rw[hu2,List.append_nil] at e
         rw[←e] at hx
         obtain⟨e',w',fr',⟨z,he,g1,g2,g3,g4,g5,I',g6,g7⟩,hcomes,_,hleave⟩:=hs.calls w S1.I x args s1.wr.lG (hrep _ x hx) hpre cs
         subst he
         have s2:=Step.extend s1.wr g1 g2 g3 g4 g5 g6
         exact⟨w',{S1 with I:=fun b=>S1.I b∨I' b},z,fr',s1.trans s2,FE (I:=I') (fun b hb=>Or.inr hb) g7,hcomes,hleave⟩
theorem uU{g:FuncId}{s:yy}(hs:s.Sound P g)(hW:WR w0 w S m){aa:List AV}{args:Array Value}{v:AV}{m':Mem}(ha:bF w S m aa args.toList)(h:(jI ai s m aa).Is (v,m'))(cs:List Frame) :
  ∃w' S' z fr',Step w0 w S m w' S' m'∧CR w' S' m' v z∧Steps P (lone (Frame.enter P g args .normal) cs w) (lone fr' cs w')∧fr'.leaving P w' (.returned z):=by
 unfold jI at h
 cases aa with
 | nil=>exact h.elim
 | cons a rest=>
   cases a<;>(try simp only at h)<;>try exact h.elim
   case ptr id off=>
    cases off with
    | succ _=>exact h.elim
    | zero=>
      simp only at h
      obtain⟨u,us0,e,hu,hrest⟩:=bY.1 ha
      rw[CR] at hu
      cases hm:m.at id<;>rw[hm] at h hu<;>(try simp only at h)<;>try exact h.elim
      case flat fz cells=>
       subst hu
       have hb:=hW.box id
       rw[hm] at hb
       obtain⟨us,T,fr,k1,k2,k3⟩:=hb
       cases htd:kG s.view cells with
       | none=>rw[htd] at h;exact h.elim
       | some q=>
         obtain⟨x,r⟩:=q
         rw[htd] at h
         cases r with
         | cons _ _=>exact h.elim
         | nil=>
           simp only at h
           obtain⟨u1,u2,e1,hx,hr⟩:=fK s.view htd k3
           rw[bu.1 hr,List.append_nil] at e1
           rw[←e1] at hx
           cases hok:gk s.args rest with
           | false=>rw[hok] at h;exact h.elim
           | true=>
             rw[hok] at h
             simp only at h
             obtain⟨L,hL,hrep⟩:=oy hok hrest
             cases hf:fC ai s.args m (rest.flatMap AV.cells) with
             | none=>rw[hf] at h;exact h.elim
             | some q=>
               obtain⟨m1,cs1⟩:=q
               rw[hf] at h
               simp only at h
               obtain⟨S1,s1,hc1⟩:=ji hW hf hL
               cases htd2:nF s.args cs1 with
               | none=>rw[htd2] at h;exact h.elim
               | some q=>
                 obtain⟨y,r⟩:=q
                 rw[htd2] at h
                 cases r with
                 | cons _ _=>exact h.elim
                 | nil=>
                   cases hsc:Ty.scalars s.res with
                   | false=>rw[hsc] at h;exact h.elim
                   | true=>
                     rw[hsc] at h
                     simp only at h
                     obtain⟨hpre,h⟩:=h
                     cases h
                     obtain⟨v1,v2,e2,hy,hr2⟩:=l5 s.args htd2 hc1
                     rw[bu.1 hr2,List.append_nil] at e2
                     rw[←e2] at hy
                     obtain⟨e',w',fr',⟨z,he,g1,g2,g3,g4,g5,g7⟩,hcomes,_,hleave⟩:=hs.calls w S1.I x y (S.σ id) us T fr us0 s1.wr.lG k1 (aP.mono s1.out.lG _ hx) (hrep _ y hy) hpre cs
                     subst he
                     have ea:args=(Value.pointer (some ⟨S.σ id,0,none⟩)::us0).toArray:=by rw[←e,Array.toArray_toList]
                     rw[←ea] at hcomes
                     have s2:=Step.extend s1.wr g1 g2 g3 g4 g5 (I':=fun _=>False) (fun _ h=>h.elim)
                     exact⟨w',_,z,fr',s1.trans s2,FE (I:=fun _=>False) (fun _ hb=>hb.elim) g7,hcomes,hleave⟩
end
end Go.Ev
