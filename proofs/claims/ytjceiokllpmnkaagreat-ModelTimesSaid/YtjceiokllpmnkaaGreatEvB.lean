/-
  PROVED: the evaluator: operations that make and write memory, control, calls by contract. Conditions: the type table, the functions and the contracts fit the program.
-/
import Derived.Test.YtjceiokllpmnkaaGreatEvA
import Derived.Laws.CopyRow
import Derived.Laws.MakeOwn
import Derived.Laws.Append
import Derived.Laws.NewBlocks
import Derived.Laws.BytesString
import Derived.RangeFuncRecord
set_option linter.unusedVariables false
set_option linter.unusedSimpArgs false
set_option linter.unusedSectionVars false
namespace Go.Ev
theorem Mem.gu{m:Mem}{b:il}{i:Nat}(h:i<m.length):Mem.at (m ++ [b]) i=m.at i:=by
 simp[Mem.at,nE,List.getElem?_append_left h]
theorem Mem.bY{m:Mem}{b:il}:Mem.at (m ++ [b]) m.length=b:=by
 simp[Mem.at,nE]
theorem Mem.Rf{m:Mem}{i:Nat}(h:m.length≤i):m.at i=.bad:=by
 simp[Mem.at,nE,List.getElem?_eq_none h]
theorem Mem.jI{m:Mem}{i:Nat}(h:m.at i≠.bad):i<m.length:=by
 rcases Nat.lt_or_ge i m.length with h'|h'
 ·exact h'
 ·exact absurd (Mem.Rf h') h
theorem Mem.iA{m:Mem}{i:Nat}(h:(m.at i).bd=true):i<m.length:=
 Mem.jI fun e=>by rw[e] at h;cases h
theorem Mem.ia{m:Mem}{b:il}{i:Nat}:Mem.at (m ++ [b]) i=if i=m.length then b else m.at i:=by
 by_cases h:i=m.length
 ·subst h;rw[if_pos rfl,Mem.bY]
 ·rw[if_neg h]
  rcases Nat.lt_or_ge i m.length with h'|h'
  ·exact Mem.gu h'
  ·rw[Mem.Rf h',Mem.Rf (by simp;omega)]
theorem Mem.at_set{m:Mem}{b:il}{i j:Nat}(hi:i<m.length):Mem.at (m.set i b) j=if j=i then b else m.at j:=by
 simp only[Mem.at,nE,List.getElem?_set]
 by_cases h:i=j
 ·subst h;simp[hi]
 ·rw[if_neg h,if_neg (Ne.symm h)]
theorem bV{b:il}(h:b≠.bad):dT b b:=by
 cases b<;>first|exact absurd rfl h|trivial|rfl|exact⟨rfl,rfl,rfl⟩
theorem Aa{a b c:il}(h1:dT a b)(h2:dT b c):dT a c:=by
 cases a<;>cases b<;>cases c<;>first|exact h1.elim|exact h2.elim|trivial|skip
 ·exact Eq.trans h2 h1
 ·obtain⟨rfl,e1,_⟩:=h1
  obtain⟨rfl,e2,_⟩:=h2
  exact⟨rfl,e2.trans e1,rfl⟩
theorem Eh{a:il}(h:dT a .bad):False:=by cases a<;>exact h.elim
theorem Jd{a b:il}(h:dT a b)(hd:b≠.dead)(hf:a.full=true):b.full=true:=by
 cases a with
 | flat fz cs=>cases b<;>first|rfl|exact h.elim|exact absurd rfl hd
 | arr fz t x=>
   cases b with
   | arr fz' t' y=>
     obtain⟨e,hl,_⟩:=h
     cases x with
     | nil=>cases hf
     | cons a x=>cases y with
       | nil=>cases hl
       | cons=>rfl
   | _=>first|exact absurd rfl hd|exact h.elim
 | _=>cases hf
theorem Lm{a:il}(hf:a.full=true):a.bd=true:=by cases a<;>first|(cases hf;done)|exact hf|rfl
theorem bw.refl{w:World}{S:St}{m:Mem}:bw w S m w S m:=
 ⟨fun _ h=>⟨h,rfl⟩,fun _ hb=>⟨bV hb,fun _=>⟨rfl,rfl,fun _ us T fr h=>⟨us,T,fr,h,rfl⟩⟩⟩,fun _ h=>h⟩
theorem bw.trans{w w1 w2:World}{S S1 S2:St}{m m1 m2:Mem}(h1:bw w S m w1 S1 m1)(h2:bw w1 S1 m1 w2 S2 m2):bw w S m w2 S2 m2:=by
 refine⟨fun b hb=>?_,fun id hb=>?_,fun id h=>h2.ctl id (h1.ctl id h)⟩
 ·obtain⟨a1,a2⟩:=h1.jl b hb
  obtain⟨b1,b2⟩:=h2.jl b a1
  exact⟨b1,b2.trans a2⟩
 ·obtain⟨k1,c1⟩:=h1.box id hb
  obtain⟨k2,c2⟩:=h2.box id (fun e=>Eh (e▸k1))
  refine⟨Aa k1 k2,fun hd=>?_⟩
  have hd1:m1.at id≠.dead:=fun e=>by
   rw[e] at k2
   cases hm:m2.at id<;>rw[hm] at k2 hd<;>first|exact k2.elim|exact hd rfl
  obtain⟨s1,d1,f1⟩:=c1 hd1
  obtain⟨s2,d2,f2⟩:=c2 hd
  refine⟨s2.trans s1,d2.trans d1,fun hq us T fr h=>?_⟩
  obtain⟨us1,T1,fr1,g1,z1⟩:=f1 hq us T fr h
  obtain⟨us2,T2,fr2,g2,z2⟩:=f2 (Jd k1 hd1 hq) us1 T1 fr1 (by rw[s1];exact g1)
  exact⟨us2,T2,fr2,by rw[s1] at g2;exact g2,z2.trans z1⟩
theorem FC.mono{w:World}{S:St}{m:Mem}{w':World}{S':St}{m':Mem}(h:bw w S m w' S' m'){r:Gx}{l:Loop}(hl:FC w S m r l):FC w' S' m' r l:=by
 obtain⟨h1,h2,h3,h4,h5,h6,h7,h8⟩:=hl
 exact⟨h1,h2,h3,h4,h5,h6,h7,fun i=>(h8 i).mono h⟩
theorem rW.mono{w:World}{S:St}{m:Mem}{w':World}{S':St}{m':Mem}(h:bw w S m w' S' m'){id:Nat}(hs:S'.σ id=S.σ id)(hd:S'.δ id=S.δ id){b:il}(hh:b.bd=true→w'.heap[S.σ id]? = w.heap[S.σ id]?)(hb:rW w S m id b):rW w' S' m' id b:=
 match b,hh,hb with
 | .bad,_,_=>trivial
 | .dead,_,_=>trivial
 | .Mg,_,_=>trivial
 | .flat fz cs,hh,hb=>by
   obtain⟨us,T,fr,h1,h2,h3⟩:=hb
   exact⟨us,T,fr,by rw[hs,hh rfl];exact h1,h2,h3.mono h⟩
 | .arr fz t x,hh,hb=>by
   obtain⟨h0,hb⟩:=hb
   refine⟨h0,fun hne=>?_⟩
   obtain⟨us,T,fr,h1,h2,h3,h4⟩:=hb hne
   exact⟨us,T,fr,by rw[hs,hh (kp hne)];exact h1,h2,by rw[hd];exact h3,fun i y hy=>by rw[hd];exact(h4 i y hy).mono h.jl⟩
 | .loop r,hh,hb=>by
   obtain⟨l,h1,h2⟩:=hb
   exact⟨l,by rw[hs,hh rfl];exact h1,h2.mono h⟩
 | .BZ,hh,hb=>by
   have hb:w.heap[S.σ id]? = some (.deferred (some [])):=hb
   show w'.heap[S'.σ id]? = _
   rw[hs,hh rfl];exact hb
theorem Am.mono{w:World}{S:St}{m:Mem}{w':World}{S':St}{m':Mem}(h:bw w S m w' S' m'){n:Nat}{a:bH}{it:Item}(hl:match a with | .kw id=>(m.at id).fI=true | .kI id=>(m.at id).fI=true|_=>True)
  (hi:Am n S a it):Am n S' a it:=by
 have key:∀id,(m.at id).fI=true→S'.σ id=S.σ id:=fun id hc=>by
  have h1:=h.ctl id hc
  refine((h.box id fun e=>by rw[e] at hc;cases hc).2 fun e=>by rw[e] at h1;cases h1).1
 cases a<;>first|exact hi|(rw[Am] at hi ⊢;rw[key _ hl];exact hi)
theorem cJ.mono{w:World}{S:St}{m:Mem}{w':World}{S':St}{m':Mem}(h:bw w S m w' S' m'):∀{n:Nat} {l:List bH} {k:List Item},bP m l→cJ n S l k→cJ n S' l k
 | _, [],k,_,ht=>ht
 | _,a::l,k,hl,ht=>by
   obtain⟨it,k',e,h1,h2⟩:=ht
   exact⟨it,k',e,h1.mono h (hl a List.mem_cons_self),cJ.mono h (fun b hb=>hl b (List.mem_cons_of_mem _ hb)) h2⟩
theorem bP.mono{w:World}{S:St}{m:Mem}{w':World}{S':St}{m':Mem}(h:bw w S m w' S' m'){l:List bH}(hl:bP m l):bP m' l:=by
 intro a ha
 have:=hl a ha
 cases a<;>first|exact h.ctl _ this|trivial
theorem vl{w:World}{S:St}{m:Mem}{w':World}{S':St}{m':Mem}(h:bw w S m w' S' m'){id:Nat}(hc:(m.at id).fI=true):S'.σ id=S.σ id:=by
 have h1:=h.ctl id hc
 exact((h.box id fun e=>by rw[e] at hc;cases hc).2 fun e=>by rw[e] at h1;cases h1).1
theorem FR.mono{w:World}{S:St}{m:Mem}{w':World}{S':St}{m':Mem}(h:bw w S m w' S' m'){f:bu}{fr:Frame}(hf:FR w S m f fr):FR w' S' m' f fr:=by
 refine⟨hf.fn,hf.n,hf.small,fun i hi=>(hf.env i hi).mono h,hf.todo.mono h hf.live,hf.live.mono h,hf.flat,?_,fun d hd=>h.ctl d (hf.marks d hd),hf.mode,hf.kind,?_,fun l hl=>h.ctl l (hf.nU l hl)⟩
 ·rw[hf.defers]
  exact List.map_congr_left fun d hd=>by rw[vl h (hf.marks d hd)]
 ·rw[hf.cK]
  cases hr:f.cK with
  | none=>rfl
  | some l=>simp[vl h (hf.nU l hr)]
theorem Ax.mono{w:World}{S:St}{m:Mem}{w':World}{S':St}{m':Mem}(h:bw w S m w' S' m'):∀{fs:List bu} {l:List Frame},Ax w S m fs l→Ax w' S' m' fs l
 | [],l,hf=>hf
 | f::fs,l,hf=>by
   obtain⟨fr,r,e,h1,h2⟩:=hf
   exact⟨fr,r,e,h1.mono h,Ax.mono h h2⟩
def St.push(S:St)(id b d:Nat)(fz:Bool):St:=
 {σ:=fun i=>if i=id then b else S.σ i,δ:=fun i=>if i=id then d else S.δ i,I:=fun x=>S.I x∨(fz=true∧x=b)}
theorem gM{w0:iP}{w:World}{S:St}{m:Mem}(hW:WR w0 w S m)(o:Obj)(bx:il)(d:Nat)(fz:Bool):bw w S m (w.alloc o) (S.push m.length w.heap.size d fz) (m ++ [bx]):=by
 have hheap:∀b,b<w.heap.size→(w.alloc o).heap[b]? = w.heap[b]? :=fun b hb=>heap_alloc_old w o b hb
 refine⟨fun b hb=>⟨.inl hb,hheap b (hW.jl b hb)⟩,fun id hb=>?_,fun id hc=>?_⟩
 ·have hlt:=Mem.jI hb
  rw[Mem.gu hlt]
  refine⟨bV hb,fun hd=>?_⟩
  refine⟨if_neg (by omega),if_neg (by omega),fun _ us T fr h=>⟨us,T,fr,?_,rfl⟩⟩
  rw[hheap _ (Array.getElem?_eq_some_iff.1 h).1];exact h
 ·have hlt:id<m.length:=Mem.jI fun e=>by rw[e] at hc;cases hc
  rw[Mem.gu hlt];exact hc
theorem WR.push{w0:iP}{w:World}{S:St}{m:Mem}(hW:WR w0 w S m){o:Obj}{bx:il}{d:Nat}
  (hb:rW (w.alloc o) (S.push m.length w.heap.size d bx.i_) (m ++ [bx]) m.length bx):WR w0 (w.alloc o) (S.push m.length w.heap.size d bx.i_) (m ++ [bx]):=by
 have hO:=gM hW o bx d bx.i_
 have hheap:∀b,b<w.heap.size→(w.alloc o).heap[b]? = w.heap[b]? :=fun b hb=>heap_alloc_old w o b hb
 refine⟨hW.os,hW.tape,hW.output,by rw[World.size_alloc];have:=hW.size;omega,fun b hb=>?_,fun b hb=>?_,fun id=>?_,fun id id' h1 h2 he=>?_,fun id h=>?_,fun id h h'=>?_,fun id h=>?_,fun i b h=>⟨Nat.lt_of_lt_of_le (hW.root i b h).1 (by rw[gm];exact Nat.le_add_right _ _),(if_neg (Nat.ne_of_lt (hW.root i b h).1)).trans (hW.root i b h).2.1,fun d hd=>(if_neg (Nat.ne_of_lt (hW.root i b h).1)).trans ((hW.root i b h).2.2 d hd)⟩,fun b us T fr h=>by
  obtain⟨dS,T',dL,h1,h2⟩:=hW.cells b us T fr h
  exact⟨dS,T',dL,by rw[hheap b (Array.getElem?_eq_some_iff.1 h1).1];exact h1,h2⟩⟩
 ·rw[hheap b (by have:=hW.size;have:=iP.old hb;omega)];exact hW.base b hb
 ·rw[World.size_alloc]
  rcases hb with hb|⟨_,rfl⟩
  ·have:=hW.jl b hb;omega
  ·omega
 ·by_cases hi:id=m.length
  ·subst hi;rw[Mem.bY];exact hb
  ·have h0:=hW.box id
   rw[Mem.ia,if_neg hi]
   exact h0.mono hO (if_neg hi) (if_neg hi) fun hl=>hheap _ (hW.lo id hl).2
 ·rw[Mem.ia] at h1 h2
  simp only[St.push] at he
  by_cases hi:id=m.length<;>by_cases hi':id'=m.length
  ·rw[hi,hi']
  ·rw[if_pos hi,if_neg hi'] at he;rw[if_neg hi'] at h2
   have:=(hW.lo id' h2).2;omega
  ·rw[if_neg hi,if_pos hi'] at he;rw[if_neg hi] at h1
   have:=(hW.lo id h1).2;omega
  ·rw[if_neg hi,if_neg hi'] at he;rw[if_neg hi] at h1;rw[if_neg hi'] at h2
   exact hW.inj id id' h1 h2 he
 ·rw[Mem.ia] at h
  simp only[St.push,World.size_alloc]
  by_cases hi:id=m.length
  ·rw[if_pos hi];exact⟨.inr (.inl hW.size),by omega⟩
  ·rw[if_neg hi] at h ⊢
   have:=hW.lo id h;exact⟨this.1.imp .inl (fun x=>x),by omega⟩
 ·rw[Mem.ia] at h h'
  simp only[St.push]
  by_cases hi:id=m.length
  ·rw[if_pos hi] at h' ⊢
   rintro (hI|⟨hf,_⟩)
   ·have:=hW.jl _ hI;omega
   ·rw[hf] at h';cases h'
  ·rw[if_neg hi] at h h' ⊢
   rintro (hI|⟨_,he⟩)
   ·exact hW.lT id h h' hI
   ·have:=(hW.lo id h).2;omega
 ·rw[Mem.ia] at h
  simp only[St.push]
  by_cases hi:id=m.length
  ·rw[if_pos hi] at h ⊢;exact .inr ⟨h,rfl⟩
  ·rw[if_neg hi] at h ⊢;exact .inl (hW.Cu id h)
structure nk(w w':World)(b:Nat):Prop where
 os:w'.os=w.os
 tape:w'.tape=w.tape
 drawn:w'.drawn=w.drawn
 output:w'.output=w.output
 size:w'.heap.size=w.heap.size
 other:∀b',b'≠b→w'.heap[b']? = w.heap[b']?
 cells:∀us T fr,w.heap[b]? = some (.cells us T fr)→∃dS T' dL,w'.heap[b]? = some (.cells dS T' dL)∧dS.size=us.size
theorem fL{w0:iP}{w w':World}{S:St}{m:Mem}(hW:WR w0 w S m){id:Nat}{bx:il}(hl:(m.at id).bd=true)(hm:(m.at id).i_=false)(hk:dT (m.at id) bx)
  (hc:(m.at id).fI=true→bx.fI=true) (ht:nk w w' (S.σ id)):bw w S m w' S (m.set id bx):=by
 have hlt:=Mem.iA hl
 refine⟨fun b hb=>⟨hb,ht.other b fun e=>hW.lT id hl hm (e▸hb)⟩,fun j hj=>?_,fun j hj=>?_⟩
 ·rw[Mem.at_set hlt]
  by_cases he:j=id
  ·subst he
   rw[if_pos rfl]
   exact⟨hk,fun _=>⟨rfl,rfl,fun _=>ht.cells⟩⟩
  ·rw[if_neg he]
   refine⟨bV hj,fun hd=>⟨rfl,rfl,fun _ us T fr h=>?_⟩⟩
   by_cases heq:S.σ j=S.σ id
   ·rw[heq] at h ⊢;exact ht.cells us T fr h
   ·exact⟨us,T,fr,by rw[ht.other _ heq];exact h,rfl⟩
 ·rw[Mem.at_set hlt]
  by_cases he:j=id
  ·subst he;rw[if_pos rfl];exact hc hj
  ·rw[if_neg he];exact hj
theorem WR.set{w0:iP}{w w':World}{S:St}{m:Mem}(hW:WR w0 w S m){id:Nat}{bx:il}(hl:(m.at id).bd=true)(hm:(m.at id).i_=false)(hk:dT (m.at id) bx)
  (hc:(m.at id).fI=true→bx.fI=true) (hf:bx.i_=false) (ht:nk w w' (S.σ id)) (hb:rW w' S (m.set id bx) id bx):WR w0 w' S (m.set id bx):=by
 have hO:=fL hW hl hm hk hc ht
 have hlt:=Mem.iA hl
 have hlo:=hW.lo id hl
 have live:∀j,(Mem.at (m.set id bx) j).bd=true→(m.at j).bd=true:=fun j h=>by
  rw[Mem.at_set hlt] at h
  by_cases he:j=id
  ·subst he;exact hl
  ·rw[if_neg he] at h;exact h
 refine⟨ht.os.trans hW.os,hW.tape.on ht.tape fun _=>Nat.le_of_eq ht.drawn.symm,ht.output.trans hW.output,by rw[ht.size];exact hW.size,fun b hb=>?_,fun b hb=>by rw[ht.size];exact hW.jl b hb,fun j=>?_,fun i j h1 h2 he=>hW.inj i j (live i h1) (live j h2) he,
  fun j h=>by rw[ht.size];exact hW.lo j (live j h),fun j h h'=>?_,fun j h=>?_,fun i b h=>⟨by rw[List.length_set];exact(hW.root i b h).1,(hW.root i b h).2⟩,fun c us T fr h=>by
  obtain⟨dS,T',dL,h1,h2⟩:=hW.cells c us T fr h
  by_cases e:c=S.σ id
  ·rw[e] at h1 ⊢;obtain⟨us2,T2,fr2,k1,k2⟩:=ht.cells dS T' dL h1;exact⟨us2,T2,fr2,k1,k2.trans h2⟩
  ·exact⟨dS,T',dL,by rw[ht.other c e];exact h1,h2⟩⟩
 ·rw[ht.other b fun e=>hb (by rw[e];exact hW.lof hl hm)];exact hW.base b hb
 ·by_cases he:j=id
  ·subst he;rw[Mem.at_set hlt,if_pos rfl];exact hb
  ·have h0:=hW.box j
   rw[Mem.at_set hlt,if_neg he]
   exact h0.mono hO rfl rfl fun hlj=>ht.other _ fun e=>he (hW.inj j id hlj hl e)
 ·rw[Mem.at_set hlt] at h h'
  by_cases he:j=id
  ·subst he;exact hW.lT j hl hm
  ·rw[if_neg he] at h h';exact hW.lT j h h'
 ·rw[Mem.at_set hlt] at h
  by_cases he:j=id
  ·subst he;rw[if_pos rfl] at h;rw[hf] at h;cases h
  ·rw[if_neg he] at h;exact hW.Cu j h
theorem nk.none(w:World)(b:Nat):nk w w b:=⟨rfl,rfl,rfl,rfl,rfl,fun _ _=>rfl,fun us T fr h=>⟨us,T,fr,h,rfl⟩⟩
def St.Cu(S:St)(b:Nat):St:={S with I:=fun x=>S.I x∨x=b}
def St.Ms(S:St)(p:Prop)(b:Nat):St:={S with I:=fun x=>S.I x∨(p∧x=b)}
theorem pZ{w0:iP}{w:World}{S:St}{m:Mem}(hW:WR w0 w S m){id:Nat}{fz:Bool}{t:Ty}{x:List t.T}(hm:m.at id=.arr fz t x):bw w S m w (S.Ms (x≠ []) (S.σ id)) (m.set id (.arr true t x)):=by
 have hlt:id<m.length:=Mem.jI fun e=>by rw[e] at hm;cases hm
 refine⟨fun b hb=>⟨.inl hb,rfl⟩,fun j hj=>?_,fun j hj=>?_⟩
 ·rw[Mem.at_set hlt]
  by_cases he:j=id
  ·subst he;rw[if_pos rfl,hm];exact⟨⟨rfl,rfl,rfl⟩,fun _=>⟨rfl,rfl,fun _ us T fr h=>⟨us,T,fr,h,rfl⟩⟩⟩
  ·rw[if_neg he];exact⟨bV hj,fun _=>⟨rfl,rfl,fun _ us T fr h=>⟨us,T,fr,h,rfl⟩⟩⟩
 ·rw[Mem.at_set hlt]
  by_cases he:j=id
  ·subst he;rw[hm] at hj;cases hj
  ·rw[if_neg he];exact hj
theorem WR.freeze{w0:iP}{w:World}{S:St}{m:Mem}(hW:WR w0 w S m){id:Nat}{fz:Bool}{t:Ty}{x:List t.T}(hm:m.at id=.arr fz t x):WR w0 w (S.Ms (x≠ []) (S.σ id)) (m.set id (.arr true t x)):=by
 have hO:=pZ hW hm
 have hlt:id<m.length:=Mem.jI fun e=>by rw[e] at hm;cases hm
 have hl:x≠ []→(m.at id).bd=true:=fun h=>by rw[hm];exact kp h
 have live:∀j,(Mem.at (m.set id (.arr true t x)) j).bd=true→(m.at j).bd=true:=fun j h=>by
  rw[Mem.at_set hlt] at h
  by_cases he:j=id
  ·subst he;rw[if_pos rfl] at h;exact hl (vB h)
  ·rw[if_neg he] at h;exact h
 refine⟨hW.os,hW.tape,hW.output,hW.size,hW.base,fun b hb=>?_,fun j=>?_,fun i j h1 h2 he=>hW.inj i j (live i h1) (live j h2) he,fun j h=>⟨(hW.lo j (live j h)).1.imp .inl (fun x=>x),(hW.lo j (live j h)).2⟩,fun j h h'=>?_,fun j h=>?_,fun i b h=>⟨by rw[List.length_set];exact(hW.root i b h).1,(hW.root i b h).2⟩,hW.cells⟩
 ·rcases hb with hb|⟨hn,rfl⟩
  ·exact hW.jl b hb
  ·exact(hW.lo id (hl hn)).2
 ·have h0:=hW.box j
  rw[Mem.at_set hlt]
  by_cases he:j=id
  ·subst he
   rw[if_pos rfl]
   rw[hm] at h0
   exact(rW.mono hO (id:=j) (b:=.arr fz t x) rfl rfl (fun _=>rfl) h0:rW w (S.Ms (x≠ []) (S.σ j)) (m.set j (.arr true t x)) j (.arr fz t x))
  ·rw[if_neg he];exact h0.mono hO rfl rfl fun _=>rfl
 ·rw[Mem.at_set hlt] at h h'
  by_cases he:j=id
  ·subst he;rw[if_pos rfl] at h h';rw[il.i_,Bool.true_and] at h';rw[il.bd,h'] at h;cases h
  ·rw[if_neg he] at h h'
   rintro (hI|⟨hn,he'⟩)
   ·exact hW.lT j h h' hI
   ·exact he (hW.inj j id h (hl hn) he')
 ·rw[Mem.at_set hlt] at h
  by_cases he:j=id
  ·subst he;rw[if_pos rfl] at h;exact .inr ⟨X5 h,rfl⟩
  ·rw[if_neg he] at h;exact .inl (hW.Cu j h)
theorem gf{w0:iP}{w:World}{S:St}{m:Mem}(hW:WR w0 w S m){id:Nat}{fz:Bool}{cs cs1:List AV}(hm:m.at id=.flat fz cs)(hl:cs1.length=cs.length):bw w S m w (S.Cu (S.σ id)) (m.set id (.flat true cs1)):=by
 have hlt:id<m.length:=Mem.jI fun e=>by rw[e] at hm;cases hm
 refine⟨fun b hb=>⟨.inl hb,rfl⟩,fun j hj=>?_,fun j hj=>?_⟩
 ·rw[Mem.at_set hlt]
  by_cases he:j=id
  ·subst he;rw[if_pos rfl,hm];exact⟨hl,fun _=>⟨rfl,rfl,fun _ us T fr h=>⟨us,T,fr,h,rfl⟩⟩⟩
  ·rw[if_neg he];exact⟨bV hj,fun _=>⟨rfl,rfl,fun _ us T fr h=>⟨us,T,fr,h,rfl⟩⟩⟩
 ·rw[Mem.at_set hlt]
  by_cases he:j=id
  ·subst he;rw[hm] at hj;cases hj
  ·rw[if_neg he];exact hj
theorem WR.tH{w0:iP}{w:World}{S:St}{m:Mem}(hW:WR w0 w S m){id:Nat}{fz:Bool}{cs cs1:List AV}(hm:m.at id=.flat fz cs)(hln:cs1.length=cs.length){us:Array Value}{T:TypeId}{fr:Nat×Nat}(hh:w.heap[S.σ id]? = some (.cells us T fr))(hu:fq fr us.size)(hc:bC w S m cs1 us.toList) :
  WR w0 w (S.Cu (S.σ id)) (m.set id (.flat true cs1)):=by
 have hO:=gf hW hm hln
 have hlt:id<m.length:=Mem.jI fun e=>by rw[e] at hm;cases hm
 have hl:(m.at id).bd=true:=by rw[hm];rfl
 have live:∀j,(Mem.at (m.set id (.flat true cs1)) j).bd=true→(m.at j).bd=true:=fun j h=>by
  rw[Mem.at_set hlt] at h
  by_cases he:j=id
  ·subst he;exact hl
  ·rw[if_neg he] at h;exact h
 refine⟨hW.os,hW.tape,hW.output,hW.size,hW.base,fun b hb=>?_,fun j=>?_,fun i j h1 h2 he=>hW.inj i j (live i h1) (live j h2) he,fun j h=>⟨(hW.lo j (live j h)).1.imp .inl (fun x=>x),(hW.lo j (live j h)).2⟩,fun j h h'=>?_,fun j h=>?_,fun i b h=>⟨by rw[List.length_set];exact(hW.root i b h).1,(hW.root i b h).2⟩,hW.cells⟩
 ·rcases hb with hb|rfl
  ·exact hW.jl b hb
  ·exact(hW.lo id hl).2
 ·have h0:=hW.box j
  rw[Mem.at_set hlt]
  by_cases he:j=id
  ·subst he
   rw[if_pos rfl]
   exact⟨us,T,fr,hh,hu,hc.mono hO⟩
  ·rw[if_neg he];exact h0.mono hO rfl rfl fun _=>rfl
 ·rw[Mem.at_set hlt] at h h'
  by_cases he:j=id
  ·subst he;rw[if_pos rfl] at h';cases h'
  ·rw[if_neg he] at h h'
   rintro (hI|he')
   ·exact hW.lT j h h' hI
   ·exact he (hW.inj j id h hl he')
 ·rw[Mem.at_set hlt] at h
  by_cases he:j=id
  ·subst he;exact .inr rfl
  ·rw[if_neg he] at h;exact .inl (hW.Cu j h)
end Go.Ev
namespace Go.Ev
def tL(w0:iP)(S S':St):Prop:=∀b,S'.I b→S.I b∨w0.free b
theorem tL.refl{w0:iP}{S:St}:tL w0 S S:=fun _ h=>.inl h
theorem tL.trans{w0:iP}{S S1 S2:St}(h1:tL w0 S S1)(h2:tL w0 S1 S2):tL w0 S S2:=fun b h=>(h2 b h).elim (h1 b) .inr
structure Step(w0:iP)(w:World)(S:St)(m:Mem)(w':World)(S':St)(m':Mem):Prop where
 wr:WR w0 w' S' m'
 out:bw w S m w' S' m'
 grows:tL w0 S S'
theorem Step.trans{w0:iP}{w w1 w2:World}{S S1 S2:St}{m m1 m2:Mem}(h1:Step w0 w S m w1 S1 m1)(h2:Step w0 w1 S1 m1 w2 S2 m2):Step w0 w S m w2 S2 m2:=
 ⟨h2.wr,h1.out.trans h2.out,h1.grows.trans h2.grows⟩
theorem Step.refl{w0:iP}{w:World}{S:St}{m:Mem}(h:WR w0 w S m):Step w0 w S m w S m:=⟨h,.refl,.refl⟩
theorem Step.push{w0:iP}{w:World}{S:St}{m:Mem}(hW:WR w0 w S m){o:Obj}{bx:il}{d:Nat}
  (hb:rW (w.alloc o) (S.push m.length w.heap.size d bx.i_) (m ++ [bx]) m.length bx):Step w0 w S m (w.alloc o) (S.push m.length w.heap.size d bx.i_) (m ++ [bx]):=
 ⟨hW.push hb,gM hW o bx d _,fun _ h=>by
  rename_i b
  rcases h with h|⟨_,rfl⟩
  ·exact .inl h
  ·exact .inr (.inl hW.size)⟩
theorem Step.afy{w0:iP}{w:World}{S:St}{m:Mem}(hW:WR w0 w S m)(t:Ty):Step w0 w S m w (S.push m.length 0 0 false) (m ++ [.arr false t []]):=by
 have hI:∀b,(S.push m.length 0 0 false).I b→S.I b:=fun b h=>h.elim id fun h=>absurd h.1 (by decide)
 have hO:bw w S m w (S.push m.length 0 0 false) (m ++ [.arr false t []]):=by
  refine⟨fun b hb=>⟨.inl hb,rfl⟩,fun j hj=>?_,fun j hc=>?_⟩
  ·have hlt:=Mem.jI hj
   rw[Mem.gu hlt]
   exact⟨bV hj,fun _=>⟨if_neg (by omega),if_neg (by omega),fun _ us T fr h=>⟨us,T,fr,h,rfl⟩⟩⟩
  ·have hlt:j<m.length:=Mem.jI fun e=>by rw[e] at hc;cases hc
   rw[Mem.gu hlt];exact hc
 have old:∀j,(Mem.at (m ++ [.arr false t []]) j).bd=true→(m.at j).bd=true∧(S.push m.length 0 0 false).σ j=S.σ j∧Mem.at (m ++ [.arr false t []]) j=m.at j:=fun j h=>by
  rw[Mem.ia] at h ⊢
  by_cases hj:j=m.length
  ·rw[if_pos hj] at h;cases h
  ·rw[if_neg hj] at h ⊢;exact⟨h,if_neg hj,rfl⟩
 refine⟨⟨hW.os,hW.tape,hW.output,hW.size,hW.base,fun b hb=>hW.jl b (hI b hb),fun j=>?_,fun i j h1 h2 he=>?_,fun j h=>?_,fun j h h' hb=>?_,fun j h=>?_,fun i b h=>⟨Nat.lt_of_lt_of_le (hW.root i b h).1 (by rw[gm];exact Nat.le_add_right _ _),(if_neg (Nat.ne_of_lt (hW.root i b h).1)).trans (hW.root i b h).2.1,fun d hd=>(if_neg (Nat.ne_of_lt (hW.root i b h).1)).trans ((hW.root i b h).2.2 d hd)⟩,hW.cells⟩,hO,fun b hb=>.inl (hI b hb)⟩
 ·by_cases hj:j=m.length
  ·subst hj;rw[Mem.bY];exact⟨Nat.zero_le _,fun h=>absurd rfl h⟩
  ·rw[Mem.ia,if_neg hj]
   exact(hW.box j).mono hO (if_neg hj) (if_neg hj) fun _=>rfl
 ·obtain⟨a1,b1,_⟩:=old i h1;obtain⟨a2,b2,_⟩:=old j h2
  rw[b1,b2] at he;exact hW.inj i j a1 a2 he
 ·obtain⟨a1,b1,_⟩:=old j h
  rw[b1];exact⟨(hW.lo j a1).1.imp .inl (fun x=>x),(hW.lo j a1).2⟩
 ·obtain⟨a1,b1,c1⟩:=old j h
  rw[c1] at h';rw[b1] at hb
  exact hW.lT j a1 h' (hI _ hb)
 ·rw[Mem.ia] at h
  by_cases hj:j=m.length
  ·rw[if_pos hj] at h;cases h
  ·rw[if_neg hj] at h
   show(S.push m.length 0 0 false).I (if j=m.length then 0 else S.σ j)
   rw[if_neg hj];exact .inl (hW.Cu j h)
theorem WR.drew{w0:iP}{w:World}{S:St}{m:Mem}(h:WR w0 w S m):WR w0 w.drew S m:=
 ⟨h.os,h.tape.on rfl fun _=>Nat.le_succ _,h.output,h.size,h.base,h.jl,fun id=>by
  have:=h.box id
  exact rW.mono (w:=w) (w':=w.drew) (S:=S) (S':=S) (m:=m) (m':=m) ⟨fun b hb=>⟨hb,rfl⟩,fun _ hb=>⟨bV hb,fun _=>⟨rfl,rfl,fun _ us T fr h=>⟨us,T,fr,h,rfl⟩⟩⟩,fun _ h=>h⟩ rfl rfl (fun _=>rfl) this,
  h.inj,h.lo,h.lT,h.Cu,h.root,h.cells⟩
theorem Step.drew{w0:iP}{w:World}{S:St}{m:Mem}(h:WR w0 w S m):Step w0 w S m w.drew S m:=
 ⟨h.drew,⟨fun _ hb=>⟨hb,rfl⟩,fun _ hb=>⟨bV hb,fun _=>⟨rfl,rfl,fun _ us T fr h=>⟨us,T,fr,h,rfl⟩⟩⟩,fun _ h=>h⟩,.refl⟩
section
variable {P:Program} {w0:iP} {w:World} {S:St} {m:Mem}
theorem k_(hW:WR w0 w S m){id:Nat}{fz:Bool}{t:Ty}{x:List t.T}(hm:m.at id=.arr fz t x){I:Nat→Prop}(hI:x≠ []→I (S.σ id))(hII:∀b,S.I b→I b)
  {l n cap:Nat} {a:Option Addr} (hl:l+n≤x.length) (hn:n≤cap) (ha:a=none→cap=0) (hne:n≠0→a=some ⟨S.σ id,S.δ id+l*t.size,none⟩) :
  aS w I (.slice t) [.slice a n cap] ((x.take (l+n)).drop l):=by
 have hb:=hW.box id
 rw[hm] at hb
 obtain⟨hlm,hb⟩:=hb
 have hlen:((x.take (l+n)).drop l).length=n:=by simp;omega
 refine bE.2 ⟨a,cap,by rw[hlen],by rw[hlen];exact hn,by rw[hlen];omega,ha,fun i y hy=>?_⟩
 rw[List.getElem?_drop,List.getElem?_take] at hy
 split at hy
 ·rename_i hlt
  have hx:x≠ []:=fun e=>by subst e;cases hy
  obtain⟨us,T,fr,h1,h2,h3,h4⟩:=hb hx
  have h5:=h4 _ _ hy
  refine⟨_,_,_,hne (by omega),hI hx,h5.length,?_,aS.mono (fun b hb=>⟨hII b hb,rfl⟩) t h5⟩
  have e:S.δ id+l*t.size+i*t.size=S.δ id+(l+i)*t.size:=by rw[Nat.add_mul];omega
  rw[e]
  exact dQ h1 _ _
 ·cases hy
theorem tJ{α:Type}{x:List α}{l n:Nat}:ah.s x (l:Int) ((l+n:Nat):Int)=(x.take (l+n)).drop l:=by
 show(x.take ((l+n:Nat):Int).toNat).drop (l:Int).toNat=_
 rw[gS,gS]
theorem fw:∀{cs:List AV} {m m1:Mem} {cs1:List AV} {S:St} {us:List Value},WR w0 w S m→bS ah m cs=some (m1,cs1)→bC w S m cs us→
  ∃S1,Step w0 w S m w S1 m1∧bC w S1 m1 cs1 us
 | [],m,m1,cs1,S,us,hW,h,hc=>by
   cases h
   exact⟨S,.refl hW,hc⟩
 | v::vs,m,m1,cs1,S,us,hW,h,hc=>by
   obtain⟨u,r,rfl,hv,hr⟩:=hc.cons_inv
   have key:∀{m2:Mem} {v2:AV} {S2:St},Step w0 w S m w S2 m2→CR w S2 m2 v2 u→(match bS ah m2 vs with|none=>none|some (m,vs)=>some (m,v2::vs))=some (m1,cs1)→
     ∃S1,Step w0 w S m w S1 m1∧bC w S1 m1 cs1 (u::r):=by
    intro m2 v2 S2 hs hv2 h
    cases hf:bS ah m2 vs with
    | none=>rw[hf] at h;cases h
    | some p=>
      obtain⟨m3,vs3⟩:=p
      rw[hf] at h
      cases h
      obtain⟨S3,h1,h2⟩:=fw hs.wr hf (hr.mono hs.out)
      exact⟨S3,hs.trans h1,aV.2 ⟨u,r,rfl,hv2.mono h1.out,h2⟩⟩
   have same:(match bS ah m vs with|none=>none|some (m,vs)=>some (m,v::vs))=some (m1,cs1)→∃S1,Step w0 w S m w S1 m1∧bC w S1 m1 cs1 (u::r):=key (.refl hW) hv
   have kF:∀{id:Nat} {fz:Bool} {t:Ty} {x:List t.T},m.at id=.arr fz t x→Step w0 w S m w (S.Ms (x≠ []) (S.σ id)) (m.set id (.arr true t x)):=by
    intro id fz t x hm
    refine⟨hW.freeze hm,pZ hW hm,fun b hb=>?_⟩
    rcases hb with hb|⟨hn,rfl⟩
    ·exact .inl hb
    ·exact(hW.lo id (by rw[hm];exact kp hn)).1
   unfold bS at h
   cases v<;>(try exact same h)
   case own id=>
    simp only at h
    have hc:=hv
    rw[CR] at hc
    cases hm:m.at id<;>rw[hm] at h hc<;>(try simp only at hc h)<;>try (cases h;done)
    rename_i fz t x
    obtain⟨a,cap,rfl,h1,h6,h8⟩:=vW hc
    refine key (kF hm) (lz.2 ?_) h
    have hb:=k_ hW hm (I:=(S.Ms (x≠ []) (S.σ id)).I) (fun hn=>.inr ⟨hn,rfl⟩) (fun b hb=>.inl hb) (l:=0) (n:=x.length) (cap:=cap) (a:=a) (by omega) h1 h6 (fun h=>by rw[h8 h];simp)
    simpa using hb
   case nD id sz c lo len=>
    simp only at h
    have hc:=hv
    rw[CR] at hc
    cases hm:m.at id<;>rw[hm] at h hc<;>(try simp only at hc h)<;>try (cases h;done)
    rename_i fz t x
    obtain⟨l,n,cap,a,rfl,rfl,rfl,h4,h5,h6,rfl,h8⟩:=hc
    have hlm:x.length≤dD:=by have:=hW.box id;rw[hm] at this;exact this.1
    rw[dI] at hlm
    refine key (kF hm) (lz.2 ?_) h
    have hb:=k_ hW hm (I:=(S.Ms (x≠ []) (S.σ id)).I) (fun hn=>.inr ⟨hn,rfl⟩) (fun b hb=>.inl hb) h4 h5 h6 h8
    have e:ah.b .add .i64 (l:Int) (n:Int)=((l+n:Nat):Int):=by
     show IntKind.i64.wrap _=_
     rw[wrap_small (by omega) (by omega)];omega
    rw[e,tJ]
    exact hb
theorem lZ(hW:WR w0 w S m){t:Ty}{v:AV}{u:Value}{y:List t.T}{m1:Mem}(hv:CR w S m v u)(h:sliceData ah t m v=some y)(hf:gw ah t m v=some m1) :
  ∃S1,Step w0 w S m w S1 m1∧yu w S1.I t u y:=by
 unfold sliceData at h
 unfold gw at hf
 cases v<;>simp only at h hf<;>try (cases h;done)
 case sl t' x=>
  cases hf
  by_cases hb:t'.beq t=true
  ·rw[dif_pos hb] at h
   have:=Ty.eq_of_beq hb;subst this
   cases h
   exact⟨S,.refl hW,yu.Ff (lz.1 hv)⟩
  ·rw[dif_neg hb] at h;cases h
 case dp b=>
  cases hf;cases h
  obtain⟨a,rfl,_⟩:=iB.1 hv
  exact⟨S,.refl hW,a,0, [],rfl,Nat.zero_le _,by simp,fun h=>absurd rfl h,fun _=>rfl,Nat.le_refl _,fun i z hz=>by simp at hz⟩
 case own id=>
  cases hf
  rw[CR] at hv
  cases hm:m.at id<;>rw[hm] at h hv<;>(try simp only at hv h)<;>try (cases h;done)
  rename_i fz t' x
  by_cases hb:t'.beq t=true
  ·rw[dif_pos hb] at h
   have:=Ty.eq_of_beq hb;subst this
   cases h
   by_cases hne:x=[]
   ·subst hne
    rcases hv with ⟨_,a,rfl⟩|⟨hn,_⟩
    ·exact⟨S,.refl hW,yu.none fun _=>rfl⟩
    ·exact absurd rfl hn
   obtain⟨cap,rfl,h1,_⟩:=own_ne hv hne
   have hb:=k_ hW hm (I:=fun b=>S.I b∨b=S.σ id) (fun _=>.inr rfl) (fun b hb=>.inl hb) (l:=0) (n:=x.length) (cap:=cap) (a:=some ⟨S.σ id,S.δ id,none⟩) (by omega) h1 (fun h=>by cases h) (fun _=>by simp)
   have hb':yu w (fun b=>S.I b∨b=S.σ id) t' (.slice (some ⟨S.σ id,S.δ id,none⟩) x.length cap) x:=yu.Ff (by simpa using hb)
   suffices hg:∃S1,Step w0 w S m w S1 m∧yu w S1.I t' (.slice (some ⟨S.σ id,S.δ id,none⟩) x.length cap) x from hg
   refine⟨S,.refl hW,?_⟩
   obtain⟨a,cap',us,e,g1,g2,g3,g4,g5,g6⟩:=hb'
   have hbx:=hW.box id
   rw[hm] at hbx
   obtain⟨us2,T,fr,k1,_,k3,k4⟩:=hbx.2 hne
   refine⟨_,_,(us2.toList.drop (S.δ id)).take (x.length*t'.size),rfl,g1,by have:=Array.length_toList (xs:=us2);rw[List.length_take,List.length_drop];omega,fun _=>⟨_,_,rfl,dQ k1 _ _⟩,(fun h=>by cases h),h1,fun i z hz=>?_⟩
   have:=k4 i z hz
   have hlt:i<x.length:=(List.getElem?_eq_some_iff.1 hz).1
   have hle:i*t'.size+t'.size≤x.length*t'.size:=by
    have:=Nat.mul_le_mul_right t'.size (show i+1≤x.length by omega)
    rwa [Nat.succ_mul] at this
   rw[List.drop_take,List.drop_drop,List.take_take,Nat.min_eq_left (by omega)]
   exact this
  ·rw[dif_neg hb] at h;cases h
 case nD id sz c lo len=>
  have hv0:=hv
  rw[CR] at hv
  cases hm:m.at id<;>rw[hm] at h hf hv<;>(try simp only at hv h hf)<;>try (cases h;done)
  case arr fz t' x=>
   cases hf
   by_cases hb:t'.beq t=true
   ·rw[dif_pos hb] at h
    have:=Ty.eq_of_beq hb;subst this
    cases h
    obtain⟨l,n,cap,a,rfl,rfl,rfl,h4,h5,h6,rfl,h8⟩:=hv
    have hbx:=hW.box id
    rw[hm] at hbx
    obtain⟨hlm,hbx⟩:=hbx
    rw[dI] at hlm
    have e:ah.b .add .i64 (l:Int) (n:Int)=((l+n:Nat):Int):=by
     show IntKind.i64.wrap _=_
     rw[wrap_small (by omega) (by omega)];omega
    show ∃S1:St,Step w0 w S m w S1 m∧yu w S1.I t' (.slice a n cap) (ah.s x (l:Int) (ah.b .add .i64 (l:Int) (n:Int)))
    rw[e,tJ]
    have hlen:((x.take (l+n)).drop l).length=n:=by simp;omega
    by_cases hn0:n=0
    ·subst hn0
     rw[List.eq_nil_of_length_eq_zero hlen]
     exact⟨S,.refl hW,yu.none h6⟩
    obtain⟨us2,T,fr,k1,_,k3,k4⟩:=hbx fun e=>by subst e;simp at h4;omega
    have hle:(l+n)*t'.size≤x.length*t'.size:=Nat.mul_le_mul_right _ h4
    rw[Nat.add_mul] at hle
    refine⟨S,.refl hW,a,cap,(us2.toList.drop (S.δ id+l*t'.size)).take (n*t'.size),by rw[hlen],by rw[hlen,dI];omega,by have:=Array.length_toList (xs:=us2);rw[hlen,List.length_take,List.length_drop];omega,
     fun hne=>⟨_,_,h8 (by omega),dQ k1 _ _⟩,h6,by omega,fun i z hz=>?_⟩
    rw[List.getElem?_drop,List.getElem?_take] at hz
    split at hz
    ·rename_i hlt
     have h9:=k4 _ z hz
     have hle2:i*t'.size+t'.size≤n*t'.size:=by
      have:=Nat.mul_le_mul_right t'.size (show i+1≤n by omega)
      rwa [Nat.succ_mul] at this
     rw[List.drop_take,List.drop_drop,List.take_take,Nat.min_eq_left (by omega)]
     rw[show S.δ id+l*t'.size+i*t'.size=S.δ id+(l+i)*t'.size from by rw[Nat.add_mul];omega]
     exact h9
    ·cases hz
   ·rw[dif_neg hb] at h;cases h
  case flat fz cs=>
   cases hcc:c&&Nat.beq sz t.size with
   | false=>rw[hcc] at h;cases h
   | true=>
     rw[hcc] at h
     simp only[cd] at hcc
     have hsz:=mI hcc.2
     subst hsz
     simp only at h hf
     cases ht:bD (lo.toNat*t.size) (len.toNat*t.size) cs with
     | none=>rw[ht] at h;cases h
     | some l=>
       rw[ht] at h hf
       simp only at h hf
       cases hfz:bS ah m l with
       | none=>rw[hfz] at h;cases h
       | some p=>
         obtain⟨m',l'⟩:=p
         rw[hfz] at h hf
         simp only[Option.some.injEq] at h hf
         subst hf
         cases hd:pO (oA t) len.toNat l' with
         | none=>rw[hd] at h;cases h
         | some q=>
           obtain⟨x,rr⟩:=q
           rw[hd] at h
           cases h
           obtain⟨l0,n0,cap,a,rfl,rfl,h4,h5,h6,h7,rfl,h8⟩:=hv
           have hbx:=hW.box id
           rw[hm] at hbx
           obtain⟨us2,T,fr,k1,_,k3⟩:=hbx
           obtain⟨k4,k5⟩:=bC.bD ht k3
           obtain⟨S1,s1,s2⟩:=fw hW hfz k5
           simp only[gS] at hd ht k4 k5 s2
           obtain⟨u1,u2,e,l1,l2,pr,_⟩:=ko (oA t) t.size (fun u y=>aS w S1.I t u y) (fun cs x r us h hc=>by
            obtain⟨u1,u2,e,h1,h2⟩:=ig t h hc
            exact⟨u1,u2,e,h1.length,h1,h2⟩) n0 l' y rr _ hd s2
           have hu2:u2=[]:=by
            have:=congrArg List.length e
            rw[k4,gm,l1] at this
            exact List.eq_nil_of_length_eq_zero (by omega)
           rw[hu2,List.append_nil] at e
           refine⟨S1,s1,a,cap,u1,by rw[l2],by rw[l2];omega,by rw[l2];exact l1,fun hne=>⟨_,_,h8 (by omega),?_⟩,h7,by omega,pr⟩
           rw[←e]
           exact dQ k1 _ _
end
end Go.Ev
namespace Go.Ev
theorem kP{α:Type}{L new:List α}{p:Nat}(h:p+new.length≤L.length)(j:Nat) :
  (L.take p++new++L.drop (p+new.length))[j]? = if j<p then L[j]? else if j<p+new.length then new[j-p]? else L[j]? :=by
 have e1:(L.take p).length=p:=by rw[List.length_take];omega
 rw[List.append_assoc]
 by_cases h1:j<p
 ·rw[List.getElem?_append_left (by omega),List.getElem?_take,if_pos h1,if_pos h1]
 ·rw[List.getElem?_append_right (by omega),e1,if_neg h1]
  by_cases h2:j<p+new.length
  ·rw[List.getElem?_append_left (by omega),if_pos h2]
  ·rw[List.getElem?_append_right (by omega),if_neg h2,List.getElem?_drop]
   congr 1;omega
theorem mA{α:Type}{L new:List α}{p:Nat}(h:p+new.length≤L.length){a s:Nat}(ho:a+s≤p∨p+new.length≤a) :
  ((L.take p++new++L.drop (p+new.length)).drop a).take s=(L.drop a).take s:=by
 apply List.ext_getElem?
 intro j
 rw[List.getElem?_take,List.getElem?_take]
 by_cases hj:j<s
 ·rw[if_pos hj,if_pos hj,List.getElem?_drop,List.getElem?_drop,kP h]
  rcases ho with ho|ho
  ·rw[if_pos (by omega)]
  ·rw[if_neg (by omega),if_neg (by omega)]
 ·rw[if_neg hj,if_neg hj]
theorem C8{α:Type}{L new:List α}{p:Nat}(h:p+new.length≤L.length){a s:Nat}(h1:a≤p)(h2:p+new.length≤a+s)(h3:a+s≤L.length) :
  ((L.take p++new++L.drop (p+new.length)).drop a).take s=((L.drop a).take s).take (p-a)++new++((L.drop a).take s).drop (p-a+new.length):=by
 have hl:((L.drop a).take s).length=s:=by rw[List.length_take,List.length_drop];omega
 apply List.ext_getElem?
 intro j
 rw[kP (by omega),List.getElem?_take]
 by_cases hj:j<s
 ·rw[if_pos hj,List.getElem?_drop,kP h]
  by_cases c1:j<p-a
  ·rw[if_pos (by omega),if_pos c1,List.getElem?_take,if_pos hj,List.getElem?_drop]
  ·rw[if_neg (by omega),if_neg c1]
   by_cases c2:j<p-a+new.length
   ·rw[if_pos (by omega),if_pos c2];congr 1;omega
   ·rw[if_neg (by omega),if_neg c2,List.getElem?_take,if_pos hj,List.getElem?_drop]
 ·rw[if_neg hj,if_neg (by omega),if_neg (by omega),List.getElem?_take,if_neg hj]
theorem kq{w:World}{g:Nat}{us dS:Array Value}{T:TypeId}(hg:w.heap[g]? = some (.cells us T (0,0)))(hs:dS.size=us.size):nk w (w.setRow g dS) g:=
 ⟨rfl,rfl,rfl,rfl,size_setRow _ _ _,fun b hb=>setRow_other w g b dS hb,fun us0 T0 fr0 h=>⟨dS,T,(0,0),setRow_heap w g us dS T _ hg,by rw[hg] at h;cases h;exact hs⟩⟩
section
variable {P:Program} {w0:iP} {w:World} {S:St} {m:Mem}
theorem Ip{v:AV}{u:Value}(hk:v.known m=true)(hc:v.Q6=true)(h:CR w S m v u):u.oneCell'=true:=by
 cases v
 case undef=>cases hk
 case agg=>cases hc
 case qS=>cases hc
 case int=>rw[(bK.1 h).1];rfl
 case bool=>rw[c_.1 h];rfl
 case str=>rw[(gi.1 h).1];rfl
 case sl=>obtain⟨a,cap,e,_⟩:=bE.1 (lz.1 h);obtain rfl:=List.head_eq_of_cons_eq e;rfl
 case dp=>obtain⟨a,rfl,_⟩:=iB.1 h;rfl
 case jA=>obtain⟨b,o,us,rfl,_⟩:=nK.1 h;rfl
 case fS=>rw[iE.1 h];rfl
 case fn=>obtain⟨us,vs,rfl,_⟩:=oT.1 h;rfl
 case kz=>rw[jW.1 h];rfl
 case own id=>
  rw[CR] at h
  cases hm:m.at id<;>rw[hm] at h<;>simp only at h
  case dead=>simp[AV.known,hm,il.gh] at hk
  case arr=>obtain⟨a,cap,rfl,_⟩:=vW h;rfl
 case nD id _ _ _ _=>
  rw[CR] at h
  cases hm:m.at id<;>rw[hm] at h<;>simp only at h
  case dead=>simp[AV.known,hm,il.gh] at hk
  case arr=>obtain⟨_,_,cap,a,_,_,_,_,_,_,rfl,_⟩:=h;rfl
  case flat=>obtain⟨_,_,cap,a,_,_,_,_,_,_,rfl,_⟩:=h;rfl
 case ptr id _=>
  rw[CR] at h
  cases hm:m.at id<;>rw[hm] at h<;>simp only at h
  case dead=>simp[AV.known,hm,il.gh] at hk
  case flat=>rw[h];rfl
 case nF id _ _=>
  rw[CR] at h
  cases hm:m.at id<;>rw[hm] at h<;>simp only at h
  case dead=>simp[AV.known,hm,il.gh] at hk
  case arr=>obtain⟨_,_,_,rfl⟩:=h;rfl
 case rV id _ _ _ _=>
  rw[CR] at h
  cases hm:m.at id<;>rw[hm] at h<;>simp only at h
  case dead=>simp[AV.known,hm,il.gh] at hk
  case flat=>obtain⟨_,_,_,rfl⟩:=h;rfl
 case yield l=>
  rw[CR] at h
  cases hm:m.at l<;>rw[hm] at h<;>simp only at h
  case dead=>simp[AV.known,hm,il.gh] at hk
  case loop=>rw[h];rfl
theorem xr:∀{cs:List AV} {us:List Value},rG m cs=true→bC w S m cs us→∀u∈us,u.oneCell'=true
 | [],us,_,h=>by rw[aL.1 h];intro u hu;cases hu
 | v::cs,us,hk,h=>by
   simp only[rG,cd] at hk
   obtain⟨u,r,rfl,h1,h2⟩:=h.cons_inv
   intro u' hu'
   rcases List.mem_cons.1 hu' with rfl|hu'
   ·exact Ip hk.1 hk.2.1 h1
   ·exact xr hk.2.2 h2 u' hu'
theorem Vv{α:Type}{us nus:List α}{off a s n:Nat}(h1:off+n≤us.length)(h2:a+s≤n)(h3:nus.length=s) :
  us.take off++(((us.drop off).take n).take a++nus++((us.drop off).take n).drop (a+s))++us.drop (off+n)=us.take (off+a)++nus++us.drop (off+a+s):=by
 apply List.ext_getElem?
 intro i
 simp only[List.getElem?_append,List.getElem?_take,List.getElem?_drop,gm,List.length_take,List.length_drop,h3]
 repeat' split
 all_goals first
  | (exfalso;omega)
  | rfl
  | (congr 1;omega)
  | (rw[List.getElem?_eq_none (by omega)])
  | (symm;rw[List.getElem?_eq_none (by omega)])
theorem BM(hW:WR w0 w S m){p:AV}{v:Value}{new:List AV}{nus:List Value}{m':Mem}(hp:CR w S m p v)(hn:bC w S m new nus)(hok:rG m new=true)(h:Ed ah m p new=some m') :
  ∃b off w' S',v=.pointer (some ⟨b,off,none⟩)∧(storeCells ⟨b,off,none⟩ nus).run P w=.ok () w'∧Step w0 w S m w' S' m':=by
 have h1c:=xr hok hn
 unfold Ed at h
 cases p<;>simp only at h<;>try (cases h;done)
 case ptr id off=>
  have hb:=hW.box id
  rw[CR] at hp
  cases hm:m.at id<;>rw[hm] at h hp hb<;>(try simp only at hp h)<;>try (cases h;done)
  rename_i fz cs
  cases fz<;>(try simp only at h)<;>try (cases h;done)
  cases hput:putCells off new cs with
  | none=>rw[hput] at h;cases h
  | some cs'=>
    rw[hput] at h
    cases h
    obtain⟨us,T,fr,h1,h2,h3⟩:=hb
    have h2:fr=(0,0):=h2
    subst h2
    obtain⟨h4,h5⟩:=kg hput hn h3
    have hl1:us.toList.length=us.size:=Array.length_toList
    have hst:=run_storeCells_at P (S.σ id) off T nus 0 us w h1 (by omega) h1c
    simp only[Nat.add_zero] at hst
    have hsz:((us.toList.take off++nus++us.toList.drop (off+nus.length)).toArray).size=us.size:=by
     rw[List.size_toArray,gm,gm,List.length_take,List.length_drop];omega
    have ht:=kq h1 hsz
    have hlive:(m.at id).bd=true:=by rw[hm];rfl
    have hfz:(m.at id).i_=false:=by rw[hm];rfl
    have hkeep:dT (m.at id) (.flat false cs'):=by
     rw[hm]
     show cs'.length=cs.length
     rw[←h5.length,←h3.length,gm,gm,List.length_take,List.length_drop];omega
    have hO:=fL hW hlive hfz hkeep (fun h=>by rw[hm] at h;cases h) ht
    refine⟨_,_,_,S,hp,hst,⟨hW.set hlive hfz hkeep (fun h=>by rw[hm] at h;cases h) rfl ht ?_,hO,.refl⟩⟩
    exact⟨_,T,(0,0),setRow_heap w _ us _ T _ h1,rfl,h5.mono hO⟩
 case nF id i off=>
  cases hfz:bS ah m new with
  | none=>rw[hfz] at h;cases h
  | some q=>
    obtain⟨m1,Qt⟩:=q
    rw[hfz] at h
    simp only at h
    obtain⟨S1,s1,c1⟩:=fw hW hfz hn
    have hp1:=hp.mono s1.out
    have hb:=s1.wr.box id
    rw[CR] at hp1
    cases hm:m1.at id<;>rw[hm] at h hp1 hb<;>(try simp only at hp1 h)<;>try (cases h;done)
    rename_i fz t x
    cases fz<;>(try simp only at h)<;>try (cases h;done)
    obtain⟨k,rfl,hk,rfl⟩:=hp1
    have hne:x≠ []:=ne_of_lt hk
    obtain⟨hlm,hb⟩:=hb
    obtain⟨us,T,fr,h1,h2,h3,h4⟩:=hb hne
    have h2:fr=(0,0):=h2
    subst h2
    have he:=h4 k _ (kN hk)
    have hec:=gj (m:=m1) t he
    cases hput:putCells off Qt (fx ah t (ah.n t x (k:Int))) with
    | none=>rw[hput] at h;cases h
    | some cs'=>
      rw[hput] at h
      simp only at h
      cases htd:oA t cs' with
      | none=>rw[htd] at h;cases h
      | some q=>
        obtain⟨y,r⟩:=q
        rw[htd] at h
        cases r with
        | cons _ _=>cases h
        | nil=>
          cases h
          obtain⟨h5,h6⟩:=kg hput c1 hec
          have hle:k*t.size+t.size≤x.length*t.size:=by
           have:=Nat.mul_le_mul_right t.size (show k+1≤x.length by omega)
           rwa [Nat.succ_mul] at this
          have hl1:us.toList.length=us.size:=Array.length_toList
          have hel:((us.toList.drop (S1.δ id+k*t.size)).take t.size).length=t.size:=by rw[List.length_take,List.length_drop];omega
          rw[hel] at h5
          have hst:=run_storeCells_at P (S1.σ id) (S1.δ id+k*t.size+off) T nus 0 us w h1 (by omega) h1c
          simp only[Nat.add_zero] at hst
          have hsz:((us.toList.take (S1.δ id+k*t.size+off)++nus++us.toList.drop (S1.δ id+k*t.size+off+nus.length)).toArray).size=us.size:=by
           rw[List.size_toArray,gm,gm,List.length_take,List.length_drop];omega
          have ht:=kq h1 hsz
          have hlive:(m1.at id).bd=true:=by rw[hm];exact kp hne
          have hfz1:(m1.at id).i_=false:=by rw[hm];rfl
          have hkeep:dT (m1.at id) (.arr false t (ah.set x (k:Int) y)):=by
           rw[hm]
           exact⟨rfl,by show(x.set (k:Int).toNat y).length=_;simp,rfl⟩
          have hO:=fL s1.wr hlive hfz1 hkeep (fun h=>by rw[hm] at h;cases h) ht
          obtain⟨u1,u2,e,hrep,hu2⟩:=ig t htd h6
          rw[aL.1 hu2,List.append_nil] at e
          refine⟨_,_,_,S1,rfl,hst,s1.trans ⟨s1.wr.set hlive hfz1 hkeep (fun h=>by rw[hm] at h;cases h) rfl ht ?_,hO,.refl⟩⟩
          have hset:ah.set x (k:Int) y=x.set k y:=by show x.set (k:Int).toNat y=_;rw[gS]
          rw[hset]
          refine⟨by rw[List.length_set];exact hlm,fun _=>⟨_,T,(0,0),setRow_heap w _ us _ T _ h1,rfl,by rw[List.length_set,hsz];exact h3,fun i z hz=>?_⟩⟩
          rw[List.getElem?_set] at hz
          simp only[List.toList_toArray]
          by_cases hik:k=i
          ·subst hik
           rw[if_pos rfl,if_pos hk] at hz
           cases hz
           rw[C8 (by omega) (by omega) (by omega) (by omega),show S1.δ id+k*t.size+off-(S1.δ id+k*t.size)=off from by omega,e]
           exact hrep.mono hO.jl
          ·rw[if_neg hik] at hz
           have h7:=h4 i z hz
           have hi:i<x.length:=(List.getElem?_eq_some_iff.1 hz).1
           rw[mA (by omega) (by
            rcases Nat.lt_or_gt_of_ne hik with hlt|hlt
            ·have:=Nat.mul_le_mul_right t.size (show k+1≤i by omega)
             rw[Nat.succ_mul] at this;omega
            ·have:=Nat.mul_le_mul_right t.size (show i+1≤k by omega)
             rw[Nat.succ_mul] at this;omega)]
           exact h7.mono hO.jl
 case rV id off k t i=>
  cases hfz:bS ah m new with
  | none=>rw[hfz] at h;cases h
  | some q=>
    obtain⟨m1,Qt⟩:=q
    rw[hfz] at h
    simp only at h
    obtain⟨S1,s1,c1⟩:=fw hW hfz hn
    have hp1:=hp.mono s1.out
    have hb:=s1.wr.box id
    rw[CR] at hp1
    cases hm:m1.at id<;>rw[hm] at h hp1 hb<;>(try simp only at hp1 h)<;>try (cases h;done)
    rename_i fz cs
    cases fz<;>(try simp only at h)<;>try (cases h;done)
    obtain⟨j,rfl,hj,rfl⟩:=hp1
    obtain⟨us,T,fr,h1,h2,h3⟩:=hb
    have h2:fr=(0,0):=h2
    subst h2
    cases ht:bD off (k*t.size) cs with
    | none=>rw[ht] at h;cases h
    | some l=>
      rw[ht] at h
      simp only at h
      obtain⟨h4,h5⟩:=bC.bD ht h3
      cases hd:pO (oA t) k l with
      | none=>rw[hd] at h;cases h
      | some q=>
        obtain⟨x,r⟩:=q
        rw[hd] at h
        cases htd:oA t Qt with
        | none=>rw[htd] at h;cases h
        | some q=>
          obtain⟨y,r2⟩:=q
          rw[htd] at h
          cases r2 with
          | cons _ _=>cases h
          | nil=>
            simp only at h
            cases hput:putCells off (fx ah (.arr k t) (ah.set x (j:Int) y)) cs with
            | none=>rw[hput] at h;cases h
            | some cs'=>
              rw[hput] at h
              cases h
              obtain⟨u1,u2,e,l1,l2,pr,_⟩:=ko (oA t) t.size (fun u y=>aS w S1.I t u y) (fun cs x r us h hc=>by
               obtain⟨u1,u2,e,h1,h2⟩:=ig t h hc
               exact⟨u1,u2,e,h1.length,h1,h2⟩) k l x r _ hd h5
              have hu2:u2=[]:=by
               have:=congrArg List.length e
               rw[h4,gm,l1] at this
               exact List.eq_nil_of_length_eq_zero (by omega)
              rw[hu2,List.append_nil] at e
              obtain⟨n1,n2,en,hrep,hn2⟩:=ig t htd c1
              rw[aL.1 hn2,List.append_nil] at en
              have hnl:nus.length=t.size:=by rw[en];exact hrep.length
              have hle:j*t.size+t.size≤k*t.size:=by
               have:=Nat.mul_le_mul_right t.size (show j+1≤k by omega)
               rwa [Nat.succ_mul] at this
              have hl1:us.toList.length=us.size:=Array.length_toList
              have hin:off+k*t.size≤us.toList.length:=by
               have:=h4
               rw[List.length_take,List.length_drop] at this
               by_cases hz:k*t.size=0
               ·have:=h3.length
                unfold bD at ht
                cases hbb:Nat.ble (off+k*t.size) cs.length with
                | false=>rw[hbb] at ht;cases ht
                | true=>have:=oX hbb;omega
               ·omega
              have hset:ah.set x (j:Int) y=x.set j y:=by show x.set (j:Int).toNat y=_;rw[gS]
              rw[hset] at hput
              have hrow:aS w S1.I (.arr k t) (u1.take (j*t.size)++nus++u1.drop (j*t.size+t.size)) (x.set j y):=by
               refine uD.2 ⟨by rw[List.length_set];exact l2,by simp only[gm,List.length_take,List.length_drop];omega,fun i z hz=>?_⟩
               rw[List.getElem?_set] at hz
               by_cases hij:j=i
               ·subst hij
                rw[if_pos rfl,if_pos (by omega)] at hz
                cases hz
                have hsp:=C8 (L:=u1) (new:=nus) (p:=j*t.size) (a:=j*t.size) (s:=t.size) (by omega) (by omega) (by omega) (by omega)
                rw[hnl] at hsp
                rw[hsp,Nat.sub_self,en]
                have hf:((u1.drop (j*t.size)).take t.size).length=t.size:=by rw[List.length_take,List.length_drop];omega
                have hnn:n1.length=t.size:=hrep.length
                rw[List.take_zero,List.nil_append,Nat.zero_add,List.drop_eq_nil_of_le (by omega),List.append_nil]
                exact hrep
               ·rw[if_neg hij] at hz
                have hi:i<x.length:=(List.getElem?_eq_some_iff.1 hz).1
                have hsp:=mA (L:=u1) (new:=nus) (p:=j*t.size) (a:=i*t.size) (s:=t.size) (by omega) (by
                 rcases Nat.lt_or_gt_of_ne hij with hlt|hlt
                 ·have:=Nat.mul_le_mul_right t.size (show j+1≤i by omega)
                  rw[Nat.succ_mul] at this;omega
                 ·have:=Nat.mul_le_mul_right t.size (show i+1≤j by omega)
                  rw[Nat.succ_mul] at this;omega)
                rw[hnl] at hsp
                rw[hsp]
                exact pr i z hz
              have hrl:(u1.take (j*t.size)++nus++u1.drop (j*t.size+t.size)).length=k*t.size:=by simp only[gm,List.length_take,List.length_drop];omega
              obtain⟨h6,h7⟩:=kg hput (gj (m:=m1) (.arr k t) hrow) h3
              rw[hrl,←e,Vv hin hle hnl] at h7
              have hst:=run_storeCells_at P (S1.σ id) (off+j*t.size) T nus 0 us w h1 (by omega) h1c
              simp only[Nat.add_zero] at hst
              have hsz:((us.toList.take (off+j*t.size)++nus++us.toList.drop (off+j*t.size+nus.length)).toArray).size=us.size:=by
               rw[List.size_toArray,gm,gm,List.length_take,List.length_drop];omega
              have htn:=kq h1 hsz
              have hlive:(m1.at id).bd=true:=by rw[hm];rfl
              have hfz1:(m1.at id).i_=false:=by rw[hm];rfl
              have hcl:cs'.length=cs.length:=by
               have a1:=h7.length
               have a2:=h3.length
               rw[gm,gm,List.length_take,List.length_drop] at a1
               omega
              have hkeep:dT (m1.at id) (.flat false cs'):=by
               rw[hm]
               exact hcl
              have hO:=fL s1.wr hlive hfz1 hkeep (fun h=>by rw[hm] at h;cases h) htn
              refine⟨_,_,_,S1,rfl,hst,s1.trans ⟨s1.wr.set hlive hfz1 hkeep (fun h=>by rw[hm] at h;cases h) rfl htn ?_,hO,.refl⟩⟩
              rw[show off+j*t.size+t.size=off+j*t.size+nus.length from by rw[hnl]] at h7
              exact⟨_,T,(0,0),setRow_heap w _ us _ T _ h1,rfl,h7.mono hO⟩
end
end Go.Ev
namespace Go.Ev
section
variable {P:Program} {w0:iP} {w:World} {S:St} {m:Mem}
theorem lq{id:Nat}(hlt:id<m.length)(hc:(m.at id).fI=false):bw w S m w S (m.set id .dead):=by
 refine⟨fun b hb=>⟨hb,rfl⟩,fun j hj=>?_,fun j hj=>?_⟩
 ·rw[Mem.at_set hlt]
  by_cases he:j=id
  ·subst he
   rw[if_pos rfl]
   refine⟨?_,fun h=>absurd rfl h⟩
   cases hm:m.at j<;>first|exact absurd hm hj|trivial
  ·rw[if_neg he];exact⟨bV hj,fun _=>⟨rfl,rfl,fun _ us T fr h=>⟨us,T,fr,h,rfl⟩⟩⟩
 ·rw[Mem.at_set hlt]
  by_cases he:j=id
  ·subst he;rw[hc] at hj;cases hj
  ·rw[if_neg he];exact hj
theorem mJ{id j:Nat}(hlt:id<m.length)(h:(Mem.at (m.set id .dead) j).bd=true):j≠id∧(m.at j).bd=true:=by
 rw[Mem.at_set hlt] at h
 by_cases he:j=id
 ·rw[if_pos he] at h;cases h
 ·rw[if_neg he] at h;exact⟨he,h⟩
theorem WR.kill(hW:WR w0 w S m){id:Nat}(hlt:id<m.length)(hc:(m.at id).fI=false):WR w0 w S (m.set id .dead):=by
 have hO:bw w S m w S (m.set id .dead):=lq hlt hc
 refine⟨hW.os,hW.tape,hW.output,hW.size,hW.base,hW.jl,fun j=>?_,fun i j h1 h2 he=>hW.inj i j (mJ hlt h1).2 (mJ hlt h2).2 he,fun j h=>hW.lo j (mJ hlt h).2,fun j h h'=>?_,fun j h=>?_,fun i b h=>⟨by rw[List.length_set];exact(hW.root i b h).1,(hW.root i b h).2⟩,hW.cells⟩
 ·have h0:=hW.box j
  rw[Mem.at_set hlt]
  by_cases he:j=id
  ·rw[if_pos he];trivial
  ·rw[if_neg he];exact h0.mono hO rfl rfl fun _=>rfl
 ·obtain⟨h1,h2⟩:=mJ hlt h
  rw[Mem.at_set hlt,if_neg h1] at h'
  exact hW.lT j h2 h'
 ·rw[Mem.at_set hlt] at h
  by_cases he:j=id
  ·rw[if_pos he] at h;cases h
  ·rw[if_neg he] at h;exact hW.Cu j h
theorem j_{w':World}{b d:Nat}(hI:¬S.I b)(ht:nk w w' b)(bx:il):bw w S m w' (S.push m.length b d false) (m ++ [bx]):=by
 refine⟨fun b' hb=>⟨.inl hb,ht.other _ fun e=>hI (e▸hb)⟩,fun j hj=>?_,fun j hc=>?_⟩
 ·have hlt:=Mem.jI hj
  rw[Mem.gu hlt]
  refine⟨bV hj,fun hd=>⟨if_neg (by omega),if_neg (by omega),fun _ us T fr h=>?_⟩⟩
  by_cases heq:S.σ j=b
  ·rw[heq] at h ⊢;exact ht.cells us T fr h
  ·exact⟨us,T,fr,by rw[ht.other _ heq];exact h,rfl⟩
 ·have hlt:j<m.length:=Mem.jI fun e=>by rw[e] at hc;cases hc
  rw[Mem.gu hlt];exact hc
theorem WR.G7{w':World}(hW:WR w0 w S m){b d:Nat}(hlo:w0.free b∧b<w.heap.size)(hfree:∀j,(m.at j).bd=true→S.σ j≠b)(hI:¬S.I b)(ht:nk w w' b){bx:il}(hfz:bx.i_=false)
  (hb:rW w' (S.push m.length b d false) (m ++ [bx]) m.length bx):WR w0 w' (S.push m.length b d false) (m ++ [bx]):=by
 have hO:=j_ (m:=m) (d:=d) hI ht bx
 have notI:∀x,(S.push m.length b d false).I x→S.I x:=fun x hx=>hx.elim id fun h=>absurd h.1 (by decide)
 refine⟨ht.os.trans hW.os,hW.tape.on ht.tape fun _=>Nat.le_of_eq ht.drawn.symm,ht.output.trans hW.output,by rw[ht.size];exact hW.size,fun b' hb'=>?_,fun b' hb'=>by rw[ht.size];exact hW.jl _ (notI _ hb'),fun j=>?_,fun i j h1 h2 he=>?_,fun j h=>?_,fun j h h'=>?_,fun j h=>?_,fun i b h=>⟨Nat.lt_of_lt_of_le (hW.root i b h).1 (by rw[gm];exact Nat.le_add_right _ _),(if_neg (Nat.ne_of_lt (hW.root i b h).1)).trans (hW.root i b h).2.1,fun d hd=>(if_neg (Nat.ne_of_lt (hW.root i b h).1)).trans ((hW.root i b h).2.2 d hd)⟩,fun c us T fr h=>by
  obtain⟨dS,T',dL,h1,h2⟩:=hW.cells c us T fr h
  by_cases e:c=b
  ·subst e;obtain⟨us2,T2,fr2,k1,k2⟩:=ht.cells dS T' dL h1;exact⟨us2,T2,fr2,k1,k2.trans h2⟩
  ·exact⟨dS,T',dL,by rw[ht.other c e];exact h1,h2⟩⟩
 ·rw[ht.other b' fun e=>hb' (by rw[e];exact hlo.1)];exact hW.base b' hb'
 ·by_cases hj:j=m.length
  ·subst hj;rw[Mem.bY];exact hb
  ·have h0:=hW.box j
   rw[Mem.ia,if_neg hj]
   exact h0.mono hO (if_neg hj) (if_neg hj) fun hl=>ht.other _ (hfree j hl)
 ·rw[Mem.ia] at h1 h2
  simp only[St.push] at he
  by_cases hi:i=m.length<;>by_cases hj:j=m.length
  ·rw[hi,hj]
  ·rw[if_pos hi,if_neg hj] at he;rw[if_neg hj] at h2
   exact absurd he.symm (hfree j h2)
  ·rw[if_neg hi,if_pos hj] at he;rw[if_neg hi] at h1
   exact absurd he (hfree i h1)
  ·rw[if_neg hi,if_neg hj] at he;rw[if_neg hi] at h1;rw[if_neg hj] at h2
   exact hW.inj i j h1 h2 he
 ·rw[Mem.ia] at h
  rw[ht.size]
  simp only[St.push]
  by_cases hj:j=m.length
  ·rw[if_pos hj];exact⟨.inr hlo.1,hlo.2⟩
  ·rw[if_neg hj] at h ⊢;exact⟨(hW.lo j h).1.imp .inl (fun x=>x),(hW.lo j h).2⟩
 ·intro hx
  have hx:=notI _ hx
  rw[Mem.ia] at h h'
  simp only[St.push] at hx
  by_cases hj:j=m.length
  ·rw[if_pos hj] at hx;exact hI hx
  ·rw[if_neg hj] at h h' hx;exact hW.lT j h h' hx
 ·rw[Mem.ia] at h
  by_cases hj:j=m.length
  ·rw[if_pos hj,hfz] at h;cases h
  ·rw[if_neg hj] at h
   show(S.push m.length b d false).I (if j=m.length then b else S.σ j)
   rw[if_neg hj];exact .inl (hW.Cu j h)
theorem Step.Xh{w':World}(hW:WR w0 w S m){id d:Nat}(hl:(m.at id).bd=true)(hc:(m.at id).fI=false)(hm:(m.at id).i_=false)(ht:nk w w' (S.σ id)){bx:il}(hfz:bx.i_=false)
  (hb:bw w S m w' (S.push m.length (S.σ id) d false) (m.set id .dead ++ [bx])→rW w' (S.push m.length (S.σ id) d false) (m.set id .dead ++ [bx]) m.length bx) :
  Step w0 w S m w' (S.push m.length (S.σ id) d false) (m.set id .dead ++ [bx]):=by
 have hlt:=Mem.iA hl
 have h1:=hW.kill hlt hc
 have hlen:(m.set id .dead).length=m.length:=List.length_set ..
 have hfree:∀j,(Mem.at (m.set id .dead) j).bd=true→S.σ j≠S.σ id:=fun j hj e=>(mJ hlt hj).1 (hW.inj j id (mJ hlt hj).2 hl e)
 have hI:=hW.lT id hl hm
 have hO:=(lq (w:=w) (S:=S) hlt hc).trans (j_ (d:=d) hI ht bx)
 have hb':=hb (by rw[hlen] at hO;exact hO)
 have:=h1.G7 (d:=d) ⟨hW.lof hl hm,(hW.lo id hl).2⟩ hfree hI ht hfz (by rw[hlen];exact hb')
 rw[hlen] at this hO
 exact⟨this,hO,fun b hb=>hb.elim .inl fun h=>absurd h.1 (by decide)⟩
theorem oq{A:aI}:∀{cs cs1:List AV} {m m1:Mem} {id:Nat} {fz:Bool} {c:List AV},bS A m cs=some (m1,cs1)→m.at id=.flat fz c→m1.at id=.flat fz c
 | [],cs1,m,m1,id,fz,c,h,hm=>by cases h;exact hm
 | v::vs,cs1,m,m1,id,fz,c,h,hm=>by
   have key:∀{m2:Mem} {v2:AV},m2.at id=.flat fz c→(match bS A m2 vs with|none=>none|some (m,vs)=>some (m,v2::vs))=some (m1,cs1)→m1.at id=.flat fz c:=by
    intro m2 v2 h2 h
    cases hf:bS A m2 vs with
    | none=>rw[hf] at h;cases h
    | some q=>
      rw[hf] at h
      cases h
      exact oq hf h2
   have set:∀{j:Nat} {fz':Bool} {t:Ty} {x:List t.T},m.at j=.arr fz' t x→Mem.at (m.set j (.arr true t x)) id=.flat fz c:=by
    intro j fz' t x hj
    have hlt:j<m.length:=Mem.jI fun e=>by rw[e] at hj;cases hj
    rw[Mem.at_set hlt,if_neg fun e=>by rw[e,hj] at hm;cases hm];exact hm
   have same:(match bS A m vs with|none=>none|some (m,vs)=>some (m,v::vs))=some (m1,cs1)→m1.at id=.flat fz c:=key hm
   unfold bS at h
   cases v<;>(try exact same h)
   case own j=>
    simp only at h
    cases hj:m.at j<;>rw[hj] at h<;>(try simp only at h)<;>try (cases h;done)
    exact key (set hj) h
   case nD j _ _ lo len=>
    simp only at h
    cases hj:m.at j<;>rw[hj] at h<;>(try simp only at h)<;>try (cases h;done)
    exact key (set hj) h
theorem yu.mono{w':World}{I I':Nat→Prop}(hI:∀b,I b→I' b∧w'.heap[b]? = w.heap[b]?){t:Ty}{v:Value}{y:List t.T}(hrow:∀b off us,gp w b off us→gp w' b off us)(h:yu w I t v y):yu w' I' t v y:=by
 obtain⟨a,cap,us,h1,h2,h3,h4,h5,h6,h7⟩:=h
 exact⟨a,cap,us,h1,h2,h3,fun hne=>by obtain⟨b,off,e,hr⟩:=h4 hne;exact⟨b,off,e,hrow _ _ _ hr⟩,h5,h6,fun i z hz=>(h7 i z hz).mono hI⟩
theorem AU(hW:WR w0 w S m){t:Ty}{v v1:AV}{u:Value}{m1:Mem}(hv:CR w S m v u)(h:vv ah t m v=some (v1,m1)):∃S1,Step w0 w S m w S1 m1∧CR w S1 m1 v1 u:=by
 unfold vv at h
 split at h
 ·rename_i id sz lo n
  split at h
  ·rename_i cs hm
   split at h
   ·rename_i hcond
    simp only[cd,jV,Bool.not_eq_true'] at hcond
    obtain⟨rfl,h1,h2,h3⟩:=hcond
    have h1:=mI h1
    have h2:=mI h2
    subst h2
    have h3:t.size≠0:=fun e=>by rw[e] at h3;cases h3
    have hc:=hv
    rw[CR,hm] at hc
    obtain⟨l,k,cap,a,e1,e2,h4,h5,h6,h7,rfl,h8⟩:=hc
    have hl:l=0:=by omega
    subst hl
    subst e2
    simp only[gS,Nat.zero_add] at h1 h4 h5
    have hcap:cap≤k:=Nat.le_of_mul_le_mul_right (by rw[←h1];exact h5) (by omega)
    have hcapk:cap=k:=by omega
    subst hcapk
    split at h
    ·rename_i hk
     have hk:=mI hk
     rw[gS] at hk
     cases h
     subst hk
     exact⟨S,.refl hW,iB.2 ⟨a,rfl,fun h=>by cases h⟩⟩
    ·rename_i hk
     have hk:cap≠0:=fun e=>by rw[gS,e] at hk;cases hk
     cases hf:bS ah m cs with
     | none=>rw[hf] at h;cases h
     | some q=>
       obtain⟨m2,cs2⟩:=q
       rw[hf] at h
       simp only[gS] at h
       cases htd:pO (oA t) cap cs2 with
       | none=>rw[htd] at h;cases h
       | some q=>
         obtain⟨x,r⟩:=q
         rw[htd] at h
         cases r with
         | cons _ _=>cases h
         | nil=>
           cases h
           have hbx:=hW.box id
           rw[hm] at hbx
           obtain⟨us,T,fr,k1,k2,k3⟩:=hbx
           obtain⟨S2,s1,s2⟩:=fw hW hf k3
           have hm2:m2.at id=.flat false cs:=oq hf hm
           obtain⟨u1,u2,e,l1,l2,pr,hr⟩:=ko (oA t) t.size (fun u y=>aS w S2.I t u y) (fun cs x r us h hc=>by
            obtain⟨u1,u2,e,h1,h2⟩:=ig t h hc
            exact⟨u1,u2,e,h1.length,h1,h2⟩) cap cs2 x [] _ htd s2
           rw[aL.1 hr,List.append_nil] at e
           have hσ:S2.σ id=S.σ id:=((s1.out.box id (by rw[hm];intro e;cases e)).2 (by rw[hm2];intro e;cases e)).1
           have hlive:(m2.at id).bd=true:=by rw[hm2];rfl
           have hlen:us.size=cap*t.size:=by rw[←Array.length_toList,e,l1]
           have hst:=Step.Xh (d:=0) (bx:=.arr false t x) s1.wr hlive (by rw[hm2];rfl) (by rw[hm2];rfl) (nk.none w _) rfl (fun hO=>by
            refine⟨by rw[l2];omega,fun _=>⟨us,T,fr,?_,k2,?_,fun i y hy=>?_⟩⟩
            ·simp only[St.push,if_pos];rw[hσ];exact k1
            ·simp only[St.push,if_pos];rw[l2];omega
            ·simp only[St.push,if_pos]
             rw[Nat.zero_add,e]
             exact(pr i y hy).mono hO.jl)
           refine⟨_,s1.trans hst,?_⟩
           rw[CR,show Mem.at (m2.set id .dead ++ [.arr false t x]) m2.length=.arr false t x from by
            have:=Mem.bY (m:=m2.set id .dead) (b:=.arr false t x);rwa [List.length_set] at this]
           refine .inr ⟨fun e=>by rw[e,List.length_nil] at l2;omega,cap,?_,by omega,us,T,fr,?_,?_⟩
           ·simp only[St.push,if_pos]
            rw[h8 hk,hσ,l2,Nat.zero_mul]
           ·simp only[St.push,if_pos];rw[hσ];exact k1
           ·simp only[St.push,if_pos];omega
   ·cases h
  ·cases h
 ·cases h;exact⟨S,.refl hW,hv⟩
theorem xQ{I:Nat→Prop}{us:Array Value}{T:TypeId}{fr:Nat×Nat}{b:Nat}{t:Ty}{x:List t.T}(hh:w.heap[b]? = some (.cells us T fr))(hb:I b)(h4:∀(i:Nat) (y:t.T),x[i]? = some y→aS w I t ((us.toList.drop (i*t.size)).take t.size) y)
  {l n cap:Nat} {a:Option Addr} (hx:n≤dD) (hl:l+n≤x.length) (hn:n≤cap) (ha:a=none→cap=0) (hne:n≠0→a=some ⟨b,l*t.size,none⟩) :
  aS w I (.slice t) [.slice a n cap] ((x.take (l+n)).drop l):=by
 have hlen:((x.take (l+n)).drop l).length=n:=by simp;omega
 refine bE.2 ⟨a,cap,by rw[hlen],by rw[hlen];exact hn,by rw[hlen];exact hx,ha,fun i y hy=>?_⟩
 rw[List.getElem?_drop,List.getElem?_take] at hy
 split at hy
 ·rename_i hlt
  have h5:=h4 _ _ hy
  refine⟨_,_,_,hne (by omega),hb,h5.length,?_,h5⟩
  have e:l*t.size+i*t.size=(l+i)*t.size:=by rw[Nat.add_mul]
  rw[e]
  exact dQ hh _ _
 ·cases hy
theorem yc(hW:WR w0 w S m){t:Ty}{v v1:AV}{u:Value}{m1:Mem}(hv:CR w S m v u)(h:rO ah t m v=some (v1,m1)):∃S1,Step w0 w S m w S1 m1∧CR w S1 m1 v1 u:=by
 unfold rO at h
 split at h
 ·rename_i id sz c lo n
  split at h
  ·rename_i fz cs hm
   split at h
   ·rename_i hcond
    simp only[cd,Bool.not_eq_true'] at hcond
    obtain⟨h1,h2,h3⟩:=hcond
    have h1:=mI h1
    have h3:=mI h3
    subst h1
    have h2:t.size≠0:=fun e=>by rw[e] at h2;cases h2
    have hc:=hv
    rw[CR,hm] at hc
    obtain⟨l,k,cap,a,rfl,rfl,h4,h5,h6,h7,rfl,h8⟩:=hc
    cases hf:bS ah m cs with
    | none=>rw[hf] at h;cases h
    | some q=>
      obtain⟨m2,cs2⟩:=q
      rw[hf] at h
      simp only at h
      cases htd:pO (oA t) (cs.length/t.size) cs2 with
      | none=>rw[htd] at h;cases h
      | some q=>
        obtain⟨x,r⟩:=q
        rw[htd] at h
        cases r with
        | cons _ _=>cases h
        | nil=>
          cases h
          have hbx:=hW.box id
          rw[hm] at hbx
          obtain⟨us,T,fr,k1,k2,k3⟩:=hbx
          obtain⟨S2,s1,s2⟩:=fw hW hf k3
          have hm2:m2.at id=.flat fz cs:=oq hf hm
          obtain⟨u1,u2,e,l1,l2,pr,hr⟩:=ko (oA t) t.size (fun u y=>aS w S2.I t u y) (fun cs x r us h hc=>by
           obtain⟨u1,u2,e,h1,h2⟩:=ig t h hc
           exact⟨u1,u2,e,h1.length,h1,h2⟩) (cs.length/t.size) cs2 x [] _ htd s2
          rw[aL.1 hr,List.append_nil] at e
          have hσ:S2.σ id=S.σ id:=((s1.out.box id (by rw[hm];intro e;cases e)).2 (by rw[hm2];intro e;cases e)).1
          have hln:cs2.length=cs.length:=by rw[←s2.length,k3.length]
          have hW2:=s1.wr.tH hm2 hln (by rw[hσ];exact k1) k2 s2
          have hlo:=s1.wr.lo id (by rw[hm2];rfl)
          refine⟨_,s1.trans ⟨hW2,gf s1.wr hm2 hln,fun b hb=>?_⟩,lz.2 ?_⟩
          ·rcases hb with hb|rfl
           ·exact .inl hb
           ·exact hlo.1
          have hxl:l+k≤x.length:=by
           rw[l2]
           have h9:(l+k)*t.size≤cs.length/t.size*t.size:=by
            rw[←h3]
            exact Nat.le_trans (Nat.mul_le_mul_right _ (by omega)) h5
           exact Nat.le_of_mul_le_mul_right h9 (by omega)
          have hrep:=xQ (w:=w) (I:=(S2.Cu (S2.σ id)).I) (t:=t) (x:=x) (us:=us) (l:=l) (n:=k) (cap:=cap) (a:=a) (by rw[hσ];exact k1) (.inr rfl) (fun i y hy=>by
           rw[e]
           exact aS.mono (fun b hb=>⟨.inl hb,rfl⟩) t (pr i y hy)) (by omega) hxl h6 h7 (by rw[hσ];exact h8)
          have hlm:=dI
          have e2:ah.b .add .i64 (l:Int) (k:Int)=((l+k:Nat):Int):=by
           show IntKind.i64.wrap _=_
           rw[wrap_small (by omega) (by omega)];omega
          split
          ·rename_i hcc
           simp only[cd,jV] at hcc
           have hl0:l=0:=by omega
           subst hl0
           have hk0:(x.take (0+k)).drop 0=x:=by rw[List.drop_zero,List.take_of_length_le (by omega)]
           rw[hk0] at hrep
           exact hrep
          ·rw[e2,tJ];exact hrep
   ·cases h
  ·cases h
 ·cases h
theorem yd(hW:WR w0 w S m){t:Ty}{v v1:AV}{u:Value}{m1:Mem}(hv:CR w S m v u)(h:wi ah t m v=some (v1,m1)):∃S1,Step w0 w S m w S1 m1∧CR w S1 m1 v1 u:=by
 unfold wi at h
 cases hw:rO ah t m v with
 | some r=>rw[hw] at h;cases h;exact yc hW hv hw
 | none=>rw[hw] at h;cases h
structure Src(P:Program)(w:World)(sz:Nat)(x:Value)(k:Nat)(news:List Value):Prop where
 len:∀w',(Builtin.lenOf x).run P w'=.ok k w'
 cells:∀w',w'.heap=w.heap→(Builtin.firstCells sz k x).run P w'=.ok news.toArray w'
 size:news.length=k*sz
theorem yu.src{I:Nat→Prop}{t:Ty}{v:Value}{y:List t.T}(h:yu w I t v y):∃us,Src P w t.size v y.length us∧∀(i:Nat) (z:t.T),y[i]? = some z→aS w I t ((us.drop (i*t.size)).take t.size) z:=by
 obtain⟨a,cap,us,rfl,h2,h3,h4,h5,h6,h7⟩:=h
 exact⟨us,⟨fun w'=>rfl,fun w' hh=>j4 h3 h4 w' hh,h3⟩,h7⟩
theorem kT{T T' ty e:TypeId}{i:TypeInfo}{u':TypeDesc}(ht:P.underlying T=some (.slice e))(ht':P.underlying T'=some u')(hu':∀k,u'≠.int k)(hi:P.info? e=some i){a:Option Addr}{n cap k:Nat}{x:Value}{news:List Value}(hs:Src P w i.size x k news)
  (hroom:n+k≤cap):(Builtin.append_ #[T,T'] ty #[.slice a n cap,x]).run P w =
    ((match a with|some a=>storeCells (a.add (n*i.size)) news|none=>pure ()).run P w).andThen fun _ w=>.ok (.slice a (n+k) cap) w:=by
 have hl:=hs.len w
 have hc:=hs.cells w rfl
 cases a with
 | none=>simp[Builtin.append_,run_underlying ht,run_underlying ht',sizeOf,typeInfo,hi,hl,hroom,hc]
 | some a=>simp[Builtin.append_,run_underlying ht,run_underlying ht',sizeOf,typeInfo,hi,hl,hroom,hc]
theorem vP{T T' ty e:TypeId}{i:TypeInfo}{z:Value}{u':TypeDesc}(ht:P.underlying T=some (.slice e))(ht':P.underlying T'=some u')(hu':∀k,u'≠.int k)(hi:P.info? e=some i)(hz:i.zero=some z){a:Option Addr}{n cap k:Nat}{x:Value}{olds news:List Value}(hs:Src P w i.size x k news)
  (ho:∀w',w'.heap=w.heap→(Builtin.firstCells i.size n (.slice a n cap)).run P w'=.ok olds.toArray w')
  (hg:cap<n+k) (h63:n+k≤dD) (hfit:Builtin.nextslicecap (n+k) cap*i.bytes≤281474976710656) :
  (Builtin.append_ #[T,T'] ty #[.slice a n cap,x]).run P w=.ok (.slice (some ⟨w.heap.size,0,none⟩) (n+k) (grownCap w (n+k) cap e))
    (w.drew.alloc (.cells ((olds++news).toArray++Builtin.zeroCells z.cells (grownCap w (n+k) cap e-(n+k))) e)):=by
 have hl:=hs.len w
 have hc:=hs.cells w.drew rfl
 have ho:=ho w.drew rfl
 rw[dI] at h63
 have hn:¬(n+k≤cap):=by omega
 have h63':¬(9223372036854775807<((n:Int)+(k:Int))):=by omega
 have h48':¬(281474976710656<Builtin.nextslicecap (n+k) cap*i.bytes):=by omega
 simp[Builtin.append_,run_underlying ht,run_underlying ht',sizeOf,typeInfo,zeroValue,hi,hz,hl,hn,h63',h48',Question.forced,hc,ho,newRow,grownCap]
 congr 2
 apply Array.ext'
 simp[List.append_assoc]
theorem uh{a b:Int}:ah.c .leq a b=true↔a≤b:=by
 show decide (a≤b)=true↔_
 exact decide_eq_true_iff
theorem Eb{a b:Int}:ah.c .eql a b=true↔a=b:=by
 show(a==b)=true↔_
 exact beq_iff_eq
theorem g_{α:Type}(x:List α):ah.l x=(x.length:Int):=rfl
theorem f_{α:Type}(x y:List α):ah.p x y=x++y:=rfl
theorem E9{n bytes:Nat}(h:(n:Int)≤140737488355328/((bytes.max 1:Nat):Int)):n≤dD∧n*bytes≤140737488355328:=by
 have h0:1≤bytes.max 1∧bytes≤bytes.max 1:=⟨Nat.le_max_right ..,Nat.le_max_left ..⟩
 have h1:n≤140737488355328/(bytes.max 1):=by
  have e:(140737488355328:Int)/((bytes.max 1:Nat):Int)=((140737488355328/(bytes.max 1):Nat):Int):=by rw[Int.natCast_ediv];rfl
  rw[e] at h
  omega
 have h2:n*(bytes.max 1)≤140737488355328:=(Nat.le_div_iff_mul_le (by omega)).1 h1
 have h3:n*bytes≤n*bytes.max 1:=Nat.mul_le_mul_left _ h0.2
 have h4:n*1≤n*bytes.max 1:=Nat.mul_le_mul_left _ h0.1
 rw[dI]
 omega
theorem rH{α:Type}{us:List α}{n s:Nat}(hl:us.length=n*s){u:α}(hu:u∈us):∃i,i<n∧u∈(us.drop (i*s)).take s:=by
 obtain⟨j,hj,rfl⟩:=List.getElem_of_mem hu
 have hs:0<s:=Nat.pos_of_ne_zero fun e=>by subst e;omega
 refine⟨j/s,(Nat.div_lt_iff_lt_mul hs).2 (by omega),?_⟩
 have h1:=Nat.div_add_mod j s
 have h2:=Nat.mod_lt j hs
 rw[Nat.mul_comm] at h1
 refine List.mem_of_getElem? (i:=j%s) ?_
 rw[List.getElem?_take,if_pos h2,List.getElem?_drop,h1]
 exact uX hj
mutual
theorem aS.oneCell{I:Nat→Prop}:∀(t:Ty) {cs:List Value} {x:t.T},t.mg=true→aS w I t cs x→∀u∈cs,u.oneCell'=true
 | .any n,cs,x,ht,h=>by cases ht
 | .int k,cs,x,_,h=>by rw[aS] at h;intro u hu;rw[h.1] at hu;rcases List.mem_singleton.1 hu with rfl;rfl
 | .bool,cs,x,_,h=>by rw[aS] at h;intro u hu;rw[h] at hu;rcases List.mem_singleton.1 hu with rfl;rfl
 | .str,cs,x,_,h=>by rw[aS] at h;intro u hu;rw[h.1] at hu;rcases List.mem_singleton.1 hu with rfl;rfl
 | .slice t,cs,x,_,h=>by rw[aS] at h;obtain⟨a,cap,h,_⟩:=h;intro u hu;rw[h] at hu;rcases List.mem_singleton.1 hu with rfl;rfl
 | .arr n t,cs,x,ht,h=>by
   rw[aS] at h
   intro u hu
   obtain⟨i,hi,hu⟩:=rH h.2.1 hu
   exact aS.oneCell t (by rw[Ty.mg] at ht;exact ht) (h.2.2 i _ (uX (by omega))) u hu
 | .struct ts,cs,x,ht,h=>by rw[aS] at h;exact bM.oneCell ts (by rw[Ty.mg] at ht;exact ht) h
theorem bM.oneCell{I:Nat→Prop}:∀(ts:List Ty) {cs:List Value} {x:Ty.Ts ts},Ty.zw ts=true→bM w I ts cs x→∀u∈cs,u.oneCell'=true
 | [],cs,x,_,h=>by rw[bM] at h;intro u hu;rw[h] at hu;cases hu
 | [t],cs,x,ht,h=>by rw[bM] at h;exact aS.oneCell t (by simpa [Ty.zw] using ht) h
 | t::t2::ts,cs,x,ht,h=>by
   rw[bM] at h
   rw[Ty.zw,cd] at ht
   obtain⟨us,vs,rfl,h1,h2⟩:=h
   intro u hu
   rcases ku.1 hu with hu|hu
   ·exact aS.oneCell t ht.1 h1 u hu
   ·exact bM.oneCell (t2::ts) ht.2 h2 u hu
end
theorem Gj(hW:WR w0 w S m){t:Ty}{e:TypeId}{xs:List t.T}{us:List Value}{zs:Array Value}{cap:Nat}(hl:us.length=xs.length*t.size)(hc:us.length+zs.size=cap*t.size)(hn:xs.length≤cap)(hm:xs.length≤dD)(hz:xs=[]→cap=0)
  (hr:∀(i:Nat) (y:t.T),xs[i]? = some y→aS w S.I t ((us.drop (i*t.size)).take t.size) y) :
  ∃S',Step w0 w S m (w.alloc (.cells (us.toArray++zs) e)) S' (m ++ [.arr false t xs])∧CR (w.alloc (.cells (us.toArray++zs) e)) S' (m ++ [.arr false t xs]) (.own m.length) (.slice (some ⟨w.heap.size,0,none⟩) xs.length cap):=by
 have hO:=gM hW (.cells (us.toArray++zs) e) (.arr false t xs) 0 false
 have hsz:(us.toArray++zs).size=cap*t.size:=by rw[Array.size_append,List.size_toArray,hc]
 have hle:xs.length*t.size≤cap*t.size:=Nat.mul_le_mul_right _ hn
 have hnew:(w.alloc (.cells (us.toArray++zs) e)).heap[w.heap.size]? = some (.cells (us.toArray++zs) e (0,0)):=heap_alloc_new w _
 refine⟨S.push m.length w.heap.size 0 false,Step.push hW (bx:=.arr false t xs) ⟨hm,fun _=>⟨us.toArray++zs,e,(0,0),?_,rfl,?_,fun i y hy=>?_⟩⟩,?_⟩
 ·simp only[St.push,if_pos];exact hnew
 ·simp only[St.push,if_pos];omega
 ·simp only[St.push,if_pos,Nat.zero_add,Array.toList_append]
  have hi:i<xs.length:=(List.getElem?_eq_some_iff.1 hy).1
  have hle2:i*t.size+t.size≤xs.length*t.size:=by
   have:=Nat.mul_le_mul_right t.size (show i+1≤xs.length by omega)
   rwa [Nat.succ_mul] at this
  have e1:((us++zs.toList).drop (i*t.size)).take t.size=(us.drop (i*t.size)).take t.size:=by
   rw[List.drop_append_of_le_length (by omega),List.take_append_of_le_length (by rw[List.length_drop];omega)]
  rw[e1]
  exact(hr i y hy).mono hO.jl
 ·rw[CR,Mem.bY]
  by_cases hx:xs=[]
  ·subst hx
   exact .inl ⟨rfl,_,by rw[hz rfl];rfl⟩
  refine .inr ⟨hx,cap,?_,hn,us.toArray++zs,e,(0,0),?_,?_⟩
  ·simp only[St.push,if_pos]
  ·simp only[St.push,if_pos];exact hnew
  ·simp only[St.push,if_pos];omega
theorem GQ{I:Nat→Prop}{t:Ty}{xs ys:List t.T}{us vs:List Value}(hl:us.length=xs.length*t.size)
  (h1:∀(i:Nat) (y:t.T),xs[i]? = some y→aS w I t ((us.drop (i*t.size)).take t.size) y) (h2:∀(i:Nat) (y:t.T),ys[i]? = some y→aS w I t ((vs.drop (i*t.size)).take t.size) y) :
  ∀(i:Nat) (y:t.T),(xs++ys)[i]? = some y→aS w I t (((us++vs).drop (i*t.size)).take t.size) y:=by
 intro i y hy
 by_cases hi:i<xs.length
 ·rw[List.getElem?_append_left hi] at hy
  have hle2:i*t.size+t.size≤xs.length*t.size:=by
   have:=Nat.mul_le_mul_right t.size (show i+1≤xs.length by omega)
   rwa [Nat.succ_mul] at this
  rw[List.drop_append_of_le_length (by omega),List.take_append_of_le_length (by rw[List.length_drop];omega)]
  exact h1 i y hy
 ·rw[List.getElem?_append_right (by omega)] at hy
  have e:i*t.size=us.length+(i-xs.length)*t.size:=by
   rw[hl,←Nat.add_mul];congr 1;omega
  rw[e,←List.drop_drop,List.drop_left]
  exact h2 _ y hy
theorem xW(hW:WR w0 w S m){T T' ty e:TypeId}{u':TypeDesc}(ht:P.underlying T=some (.slice e))(ht':P.underlying T'=some u')(hu':∀k,u'≠.int k){te:TI}(hte:v_ P e te){t:Ty}(hty:te.ty=some t)
  {dst:AV} {u x:Value} {y:List t.T} {news:List Value} {lit:Option Bool} {v:AV} {m':Mem} (hd:CR w S m dst u) (hs:Src P w t.size x y.length news) (hr:∀(i:Nat) (z:t.T),y[i]? = some z→aS w S.I t ((news.drop (i*t.size)).take t.size) z)
  (hlit:∀b,lit=some b→decide (y.length=0)=b) (h:(wF ah t te.bytes m dst y lit).Is (v,m')) :
  ∃z w' S',(Builtin.append_ #[T,T'] ty #[u,x]).run P w=.ok z w'∧Step w0 w S m w' S' m'∧CR w' S' m' v z:=by
 obtain⟨i,z0,hi,his,hib,hiz,hzc,hzr⟩:=hte.info
 have hts:t.size=te.size:=(hte.ty t hty).1
 have hz0:z0.cells.size=t.size:=by
  have:=(hzr t hty w S.I).length
  rwa [Array.length_toList] at this
 rw[hts,←his] at hs
 have hts':t.size=i.size:=by rw[hts,his]
 unfold wF at h
 cases ho:vv ah t m dst with
 | none=>rw[ho] at h;exact h.elim
 | some q=>
   obtain⟨d1,m1⟩:=q
   rw[ho] at h
   simp only at h
   obtain⟨S1,s1,hd1⟩:=AU hW hd ho
   have hr1:∀(i:Nat) (z:t.T),y[i]? = some z→aS w S1.I t ((news.drop (i*t.size)).take t.size) z:=fun i z hz=>(hr i z hz).mono s1.out.jl
   -- growing
   have grow:∀{a:Option Addr} {n cap:Nat} {xs:List t.T} {olds:List Value} {S2:St} {m2:Mem},Step w0 w S m w S2 m2→u=.slice a n cap→n=xs.length→olds.length=n*t.size→(n≠0→∃b off,a=some ⟨b,off,none⟩∧gp w b off olds)→
     (∀(i:Nat) (y:t.T),xs[i]? = some y→aS w S2.I t ((olds.drop (i*t.size)).take t.size) y)→cap<n+y.length→((n+y.length:Nat):Int)≤140737488355328/((te.bytes.max 1:Nat):Int)→
     ∃z w' S',(Builtin.append_ #[T,T'] ty #[u,x]).run P w=.ok z w'∧Step w0 w S m w' S' (m2 ++ [.arr false t (xs++y)])∧CR w' S' (m2 ++ [.arr false t (xs++y)]) (.own m2.length) z:=by
    intro a n cap xs olds S2 m2 s2 hu hn hl hrow hre hg hfit
    obtain⟨f1,f2⟩:=E9 hfit
    subst hu
    have hrun:=vP (ty:=ty) ht ht' hu' hi hiz hs (a:=a) (n:=n) (cap:=cap) (olds:=olds) (fun w' hh=>by rw[←hts'];exact j4 hl hrow w' hh) hg f1 (growslice_fits hg (by rw[hib];exact f2))
    have hcap:n+y.length≤grownCap w (n+y.length) cap e:=grownCap_ge ..
    have hlen:(olds++news).length=(xs++y).length*t.size:=by rw[gm,gm,hl,hs.size,Nat.add_mul,hn,hts']
    obtain⟨S3,s3,c3⟩:=Gj (w:=w.drew) s2.wr.drew (e:=e) (xs:=xs++y) (us:=olds++news) (zs:=Builtin.zeroCells z0.cells (grownCap w (n+y.length) cap e-(n+y.length))) (cap:=grownCap w (n+y.length) cap e) hlen
     (by rw[hlen,size_zeroCells,hz0,gm,←Nat.add_mul];congr 1;omega) (by rw[gm];omega) (by rw[gm];omega) (fun e=>by have:=congrArg List.length e;rw[gm,List.length_nil] at this;omega)
     (GQ (by rw[hl,hn]) (fun i z hz=>aS.mono (w:=w) (w':=w.drew) (fun _ hb=>⟨hb,rfl⟩) t (hre i z hz)) fun i z hz=>aS.mono (w:=w) (w':=w.drew) (fun b hb=>⟨(s2.out.jl b hb).1,rfl⟩) t (hr i z hz))
    refine⟨_,_,S3,hrun,(s2.trans (.drew s2.wr)).trans s3,?_⟩
    rw[show n+y.length=(xs++y).length from by rw[gm,hn]] at *
    exact c3
   cases d1<;>simp only at h<;>try exact h.elim
   case dp b=>
    obtain⟨a,rfl,hb⟩:=iB.1 hd1
    have none_:y.length=0→∃z w' S',(Builtin.append_ #[T,T'] ty #[.slice a 0 0,x]).run P w=.ok z w'∧Step w0 w S m w' S' m1∧CR w' S' m1 (.dp b) z:=by
     intro hy
     have hnil:news=[]:=List.eq_nil_of_length_eq_zero (by rw[hs.size,hy];omega)
     have hrun:=kT (ty:=ty) ht ht' hu' hi (a:=a) (n:=0) (cap:=0) hs (by omega)
     refine⟨.slice a 0 0,w,S1,?_,s1,iB.2 ⟨a,rfl,hb⟩⟩
     rw[hrun,hnil,hy]
     cases a<;>rfl
    have some_:y.length≠0→(y.length:Int)≤140737488355328/((te.bytes.max 1:Nat):Int)→∃z w' S',(Builtin.append_ #[T,T'] ty #[.slice a 0 0,x]).run P w=.ok z w'∧Step w0 w S m w' S' (m1 ++ [.arr false t y])∧CR w' S' (m1 ++ [.arr false t y]) (.own m1.length) z:=by
     intro hy hfit
     have:=grow (a:=a) (n:=0) (cap:=0) (xs:=[]) (olds:=[]) s1 rfl rfl (by simp) (fun h=>absurd rfl h) (fun i y hy=>by simp at hy) (by omega) (by rw[Nat.zero_add];exact hfit)
     simpa using this
    cases lit with
    | none=>
      simp only at h
      rcases h with ⟨hb,h⟩|⟨hb,hn,h⟩
      ·cases h
       rw[Eb,g_] at hb
       exact none_ (by omega)
      ·cases h
       rw[uh,g_] at hn
       refine some_ (fun h0=>?_) hn
       rw[show ah.c .eql (ah.l y) 0=true from Eb.2 (by rw[g_];omega)] at hb
       cases hb
    | some b'=>
      have:=hlit b' rfl
      cases b' with
      | true=>cases h;exact none_ (of_decide_eq_true this)
      | false=>
        obtain⟨hn,h⟩:=h
        cases h
        rw[uh,g_] at hn
        exact some_ (of_decide_eq_false this) hn
   case own id=>
    have hb:=s1.wr.box id
    rw[CR] at hd1
    cases hm:m1.at id<;>rw[hm] at h hd1 hb<;>(try simp only at hd1 h)<;>try (exact h.elim)
    rename_i fz t' xs
    cases fz<;>(try simp only at h)<;>try (exact h.elim)
    by_cases hbq:t'.beq t=true
    ·rw[dif_pos hbq] at h
     have:=Ty.eq_of_beq hbq;subst this
     obtain⟨hn,h⟩:=h
     cases h
     rw[uh,g_] at hn
     replace hn:((xs++y).length:Int)≤140737488355328/((te.bytes.max 1:Nat):Int):=hn
     rw[gm] at hn
     by_cases hxs:xs=[]
     ·subst hxs
      obtain⟨a,rfl⟩:∃a,u=.slice a 0 0:=hd1.elim (·.2) fun h=>absurd rfl h.1
      have hlt1:id<m1.length:=Mem.jI fun e=>by rw[e] at hm;cases hm
      have hctl:(m1.at id).fI=false:=by rw[hm];rfl
      have hlenm:(m1.set id .dead).length=m1.length:=List.length_set ..
      have sk:Step w0 w S1 m1 w S1 (m1.set id .dead):=⟨s1.wr.kill hlt1 hctl,lq hlt1 hctl,fun b hb=>.inl hb⟩
      by_cases hy:y.length=0
      ·have hy0:y=[]:=List.eq_nil_of_length_eq_zero hy
       have hnil:news=[]:=List.eq_nil_of_length_eq_zero (by rw[hs.size,hy];omega)
       have hrun:=kT (ty:=ty) ht ht' hu' hi (a:=a) (n:=0) (cap:=0) hs (by omega)
       have sv:=Step.afy sk.wr t'
       rw[hlenm] at sv
       refine⟨.slice a 0 0,w,S1.push m1.length 0 0 false,?_,?_,?_⟩
       ·rw[hrun,hnil,hy]
        cases a<;>rfl
       ·rw[hy0];exact(s1.trans sk).trans sv
       ·rw[hy0,CR,show Mem.at (m1.set id .dead ++ [.arr false t' (ah.p [] [])]) m1.length=.arr false t' [] from by rw[←hlenm];exact Mem.bY]
        exact .inl ⟨rfl,a,rfl⟩
      ·have:=grow (a:=a) (n:=0) (cap:=0) (xs:=[]) (olds:=[]) (s1.trans sk) rfl rfl (by simp) (fun h=>absurd rfl h) (fun i y hy=>by simp at hy) (by omega) (by simpa using hn)
       rw[hlenm] at this
       exact this
     obtain⟨cap,rfl,hcap,us0,T0,fr0,g1,g2⟩:=own_ne hd1 hxs
     obtain⟨us,T1,fr,k1,k2,k3,k4⟩:=hb.2 hxs
     have hlm:=hb.1
     rw[k1] at g1
     obtain⟨rfl,_⟩:=Obj.cells.inj (Option.some.inj g1)
     have k2:fr=(0,0):=k2
     subst k2
     have hlive:(m1.at id).bd=true:=by rw[hm];exact kp hxs
     have hctl:(m1.at id).fI=false:=by rw[hm];rfl
     have hfz1:(m1.at id).i_=false:=by rw[hm];rfl
     have hltm:=Mem.iA hlive
     have hlenm:(m1.set id .dead).length=m1.length:=List.length_set ..
     have hlu:us.toList.length=us.size:=Array.length_toList
     by_cases hroom:xs.length+y.length≤cap
     ·-- in place
      obtain⟨f1,_⟩:=E9 hn
      have hle:(xs.length+y.length)*t'.size≤cap*t'.size:=Nat.mul_le_mul_right _ hroom
      rw[Nat.add_mul] at hle
      have hnl:news.length=y.length*t'.size:=by rw[hs.size,hts']
      have h1c:∀v∈news,v.oneCell'=true:=fun u hu=>by
       obtain⟨i,hi,hu⟩:=rH hnl hu
       exact aS.oneCell t' (hte.mg _ hty) (hr i _ (uX hi)) u hu
      have hst:=run_storeCells_at P (S1.σ id) (S1.δ id+xs.length*t'.size) T1 news 0 us w k1 (by omega) h1c
      simp only[Nat.add_zero] at hst
      have hrun:=kT (ty:=ty) ht ht' hu' hi (a:=some ⟨S1.σ id,S1.δ id,none⟩) (n:=xs.length) (cap:=cap) hs hroom
      simp only[Addr.add_lit,←hts',hst,Result.andThen_ok] at hrun
      have hsz:((us.toList.take (S1.δ id+xs.length*t'.size)++news++us.toList.drop (S1.δ id+xs.length*t'.size+news.length)).toArray).size=us.size:=by
       rw[List.size_toArray,gm,gm,List.length_take,List.length_drop];omega
      have hturn:=kq k1 hsz
      have hstep:=Step.Xh (d:=S1.δ id) (bx:=.arr false t' (ah.p xs y)) s1.wr hlive hctl hfz1 hturn rfl (fun hO=>by
       refine⟨by rw[f_,gm];exact f1,fun _=>⟨(us.toList.take (S1.δ id+xs.length*t'.size)++news++us.toList.drop (S1.δ id+xs.length*t'.size+news.length)).toArray,T1,(0,0),?_,rfl,?_,fun i z hz=>?_⟩⟩
       ·simp only[St.push,if_pos];exact setRow_heap w _ us _ T1 _ k1
       ·simp only[St.push,if_pos];rw[hsz,f_,gm,Nat.add_mul];omega
       ·simp only[St.push,if_pos]
        rw[f_] at hz
        by_cases hi:i<xs.length
        ·rw[List.getElem?_append_left hi] at hz
         have hle2:i*t'.size+t'.size≤xs.length*t'.size:=by
          have:=Nat.mul_le_mul_right t'.size (show i+1≤xs.length by omega)
          rwa [Nat.succ_mul] at this
         rw[mA (by omega) (by omega)]
         exact(k4 i z hz).mono hO.jl
        ·rw[List.getElem?_append_right (by omega)] at hz
         have hi2:i-xs.length<y.length:=(List.getElem?_eq_some_iff.1 hz).1
         have hle2:(i-xs.length)*t'.size+t'.size≤y.length*t'.size:=by
          have:=Nat.mul_le_mul_right t'.size (show i-xs.length+1≤y.length by omega)
          rwa [Nat.succ_mul] at this
         have e1:i*t'.size=xs.length*t'.size+(i-xs.length)*t'.size:=by rw[←Nat.add_mul];congr 1;omega
         have e2:((us.toList.take (S1.δ id+xs.length*t'.size)++news++us.toList.drop (S1.δ id+xs.length*t'.size+news.length)).drop (S1.δ id+i*t'.size)).take t'.size=(news.drop ((i-xs.length)*t'.size)).take t'.size:=by
          apply List.ext_getElem?
          intro j
          rw[List.getElem?_take,List.getElem?_take]
          by_cases hj:j<t'.size
          ·rw[if_pos hj,if_pos hj,List.getElem?_drop,List.getElem?_drop,kP (by omega),if_neg (by omega),if_pos (by omega)]
           congr 1;omega
          ·rw[if_neg hj,if_neg hj]
         rw[e2]
         exact((hr1 _ z hz).mono hO.jl))
      refine⟨_,_,_,hrun,s1.trans hstep,?_⟩
      rw[CR,show Mem.at (m1.set id .dead ++ [.arr false t' (ah.p xs y)]) m1.length=.arr false t' (ah.p xs y) from by
       have:=Mem.bY (m:=m1.set id .dead) (b:=.arr false t' (ah.p xs y));rwa [hlenm] at this]
      refine .inr ⟨fun e=>hxs (List.append_eq_nil_iff.1 (show xs++y=[] from e)).1,cap,?_,by rw[f_,gm];exact hroom,(us.toList.take (S1.δ id+xs.length*t'.size)++news++us.toList.drop (S1.δ id+xs.length*t'.size+news.length)).toArray,T1,(0,0),?_,?_⟩
      ·simp only[St.push,if_pos];rw[f_,gm]
      ·simp only[St.push,if_pos];exact setRow_heap w _ us _ T1 _ k1
      ·simp only[St.push,if_pos];rw[hsz];exact g2
     ·-- grows
      have s2:Step w0 w S m w S1 (m1.set id .dead):=s1.trans ⟨s1.wr.kill hltm hctl,lq hltm hctl,.refl⟩
      have:=grow (a:=some ⟨S1.σ id,S1.δ id,none⟩) (n:=xs.length) (cap:=cap) (xs:=xs) (olds:=(us.toList.drop (S1.δ id)).take (xs.length*t'.size)) s2 rfl rfl
       (by rw[List.length_take,List.length_drop];omega) (fun _=>⟨_,_,rfl,dQ k1 _ _⟩) (fun i z hz=>by
         have hi:i<xs.length:=(List.getElem?_eq_some_iff.1 hz).1
         have hle2:i*t'.size+t'.size≤xs.length*t'.size:=by
          have:=Nat.mul_le_mul_right t'.size (show i+1≤xs.length by omega)
          rwa [Nat.succ_mul] at this
         rw[List.drop_take,List.drop_drop,List.take_take,Nat.min_eq_left (by omega)]
         exact k4 i z hz) (by omega) hn
      rw[hlenm] at this
      exact this
    ·rw[dif_neg hbq] at h;exact h.elim
theorem BW{w0:iP}{w:World}{S:St}{m m1:Mem}(hW:WR w0 w S m){k:Option Ty}{v v1:AV}{u:Value}(hv:CR w S m v u)(h:uz ah k m v=some (v1,m1)):∃S1,Step w0 w S m w S1 m1∧CR w S1 m1 v1 u:=by
 unfold uz at h
 split at h
 ·split at h
  ·exact yd hW hv h
  ·cases h;exact⟨S,.refl hW,hv⟩
 ·cases h;exact⟨S,.refl hW,hv⟩
theorem qz{w0:iP}{w:World}:∀{ks:List (Option Ty)} {cs:List AV} {m m1:Mem} {cs1:List AV} {S:St} {us:List Value},WR w0 w S m→vJ ah ks m cs=some (m1,cs1)→bC w S m cs us→∃S1,Step w0 w S m w S1 m1∧bC w S1 m1 cs1 us
 | [],cs,m,m1,cs1,S,us,hW,h,hc=>by cases h;exact⟨S,.refl hW,hc⟩
 | _::_, [],m,m1,cs1,S,us,hW,h,hc=>by cases h;exact⟨S,.refl hW,hc⟩
 | k::ks,v::vs,m,m1,cs1,S,us,hW,h,hc=>by
   rw[vJ] at h
   obtain⟨u,r,rfl,h1,h2⟩:=aV.1 hc
   cases ho:uz ah k m v with
   | none=>rw[ho] at h;cases h
   | some q=>
     obtain⟨v2,m2⟩:=q
     rw[ho] at h
     simp only at h
     obtain⟨S2,s2,hv2⟩:=BW hW h1 ho
     cases hr:vJ ah ks m2 vs with
     | none=>rw[hr] at h;cases h
     | some q=>
       obtain⟨m3,vs3⟩:=q
       rw[hr] at h
       cases h
       obtain⟨S3,s3,h3⟩:=qz s2.wr hr (h2.mono s2.out)
       exact⟨S3,s2.trans s3,aV.2 ⟨u,r,rfl,hv2.mono s3.out,h3⟩⟩
theorem Es(hW:WR w0 w S m){t:Option Ty}{n:Nat}{cs cs1:List AV}{m1:Mem}{us:List Value}(h:I5 ah t n m cs=some (m1,cs1))(hc:bC w S m cs us):∃S1,Step w0 w S m w S1 m1∧bC w S1 m1 cs1 us:=by
 cases t with
 | none=>cases h;exact⟨S,.refl hW,hc⟩
 | some t=>exact qz hW h hc
end
end Go.Ev
namespace Go.Ev
section
variable {P:Program} {w0:iP} {w:World} {S:St} {m:Mem}
theorem jY{α:Type}[Inhabited α](l:List α):∀n:Nat,(List.range (n*l.length)).map (fun i=>l[i%l.length]!)=(List.replicate n l).flatten
 | 0=>by simp
 | n+1=>by
   have h2:(List.range l.length).map (fun i=>l[(n*l.length+i)%l.length]!)=l:=by
    apply List.ext_getElem?
    intro j
    rw[List.getElem?_map]
    by_cases hj:j<l.length
    ·rw[List.getElem?_range hj,Option.map_some,Nat.mul_comm,Nat.mul_add_mod,Nat.mod_eq_of_lt hj,uX hj]
     simp[hj]
    ·rw[List.getElem?_eq_none (by simpa using hj),List.getElem?_eq_none (by omega)];rfl
   rw[Nat.succ_mul,List.range_add,List.map_append,jY l n,List.map_map,List.replicate_succ',List.flatten_append]
   congr 1
   rw[List.flatten_cons,List.flatten_nil,List.append_nil]
   exact h2
theorem oN(z:Array Value)(n:Nat):(madeCells z (n*z.size)).toList=(List.replicate n z.toList).flatten:=by
 have:=jY z.toList n
 rw[Array.length_toList] at this
 rw[←this,madeCells,Array.toList_map,Array.toList_range]
 exact List.map_congr_left fun a _=>Array.getElem!_toList.symm
theorem ky{cs:List AV}{us:List Value}(h:bC w S m cs us):∀n:Nat,bC w S m (List.replicate n cs).flatten (List.replicate n us).flatten
 | 0=>aL.2 rfl
 | n+1=>by
   rw[List.replicate_succ,List.replicate_succ,List.flatten_cons,List.flatten_cons]
   exact h.append (ky h n)
theorem jo{α:Type}{l:List α}{s:Nat}(hl:l.length=s):∀{n i:Nat},i<n→(((List.replicate n l).flatten).drop (i*s)).take s=l
 | n+1,0,_=>by rw[List.replicate_succ,List.flatten_cons,Nat.zero_mul,List.drop_zero,List.take_append_of_le_length (by omega),List.take_of_length_le (by omega)]
 | n+1,i+1,h=>by
   rw[List.replicate_succ,List.flatten_cons,Nat.succ_mul,Nat.add_comm,←List.drop_drop,List.drop_left' hl]
   exact jo hl (by omega)
def aft(P:Program)(w0:iP)(w:World)(S:St)(m:Mem)(s:Sem Next)(v:AV)(m':Mem):Prop:=
 ∃nx z w' S',s.run P w=.ok nx w'∧(nx=.value z∨(nx=.skip∧v=.undef))∧Step w0 w S m w' S' m'∧CR w' S' m' v z
theorem wC(hW:WR w0 w S m){us:Array Value}{e:TypeId}{cs:List AV}(fz:Bool)(hc:bC w S m cs us.toList) :
  Step w0 w S m (w.alloc (.cells us e)) (S.push m.length w.heap.size 0 fz) (m ++ [.flat fz cs]):=by
 have hO:=gM hW (.cells us e) (.flat fz cs) 0 fz
 refine Step.push hW (bx:=.flat fz cs) ⟨us,e,(0,0),?_,rfl,hc.mono hO⟩
 simp only[St.push,if_pos]
 exact heap_alloc_new w _
theorem JC(fz:Bool){w':World}{cs:List AV}{b d:Nat}:CR w' (S.push m.length b d fz) (m ++ [.flat fz cs]) (.ptr m.length 0) (.pointer (some ⟨b,0,none⟩)):=by
 rw[CR,Mem.bY]
 simp only[St.push,if_pos]
theorem BQ{E:PT TI}(hE:iV P E)(hW:WR w0 w S m){T:TypeId}{p v:AV}{u x:Value}{m':Mem}(hp:CR w S m p u)(hv:CR w S m v x)(h:(DI ah (E.get T) m p v).Is m') :
  ∃w' S',(Instr.storeAt T u x).run P w=.ok () w'∧Step w0 w S m w' S' m':=by
 unfold DI at h
 cases ht:E.get T with
 | none=>rw[ht] at h;exact h.elim
 | some ti=>
   rw[ht] at h
   simp only at h
   cases hc:(v.known m&&(Nat.beq v.cells.length ti.size&&rG m v.cells)) with
   | false=>rw[hc] at h;exact h.elim
   | true=>
     rw[hc] at h
     simp only[cd] at hc
     have h:=oF h
     have hcells:=wM hc.1 hv
     obtain⟨b,off,w',S',rfl,hst,hs⟩:=BM (P:=P) hW hp hcells hc.2.2 h
     have hlen:=hcells.length
     rw[mI hc.2.1,Array.length_toList] at hlen
     refine⟨w',S',?_,hs⟩
     simp[Instr.storeAt,Instr.sureAddr,storeVar,(hE T ti ht).lv w,hlen,hst]
theorem Be{t:Ty}{v:AV}{u:Value}{y:List t.T}{I:Nat→Prop}(hv:CR w S m v u)(hy:yu w I t u y)(hs:sliceData ah t m v=some y):∀b,zk v=some b→decide (y.length=0)=b:=by
 obtain⟨a,cap,us,e,_⟩:=hy
 intro b hb
 cases v<;>simp only[zk] at hb<;>try (cases hb;done)
 case dp b'=>
  cases hb
  obtain⟨a',rfl,_⟩:=iB.1 hv
  cases hs
  rfl
 case nD id sz c lo n=>
  cases c<;>simp only at hb<;>try (cases hb;done)
  cases hb
  rw[CR] at hv
  simp only[sliceData] at hs
  cases hm:m.at id<;>rw[hm] at hv hs<;>(try simp only at hv hs)<;>try (cases hs;done)
  ·obtain⟨l,k,cap',a',h1,h2,h3,h4,h5,h6,h7,h8⟩:=hv
   rw[h7] at e
   cases e
   subst h2
   simp
  ·obtain⟨l,k,cap',a',h1,h2,h3,h4,h5,h6,h7,h8⟩:=hv
   rw[h7] at e
   cases e
   subst h2
   simp
theorem v_.OE{T:TypeId}{te:TI}{t:Ty}(h:v_ P T te)(ht:te.ty=some t):t.size=te.size:=(h.ty t ht).1
theorem QF{q:Bool}{tv:TV (AV×Mem)}{x:AV×Mem}(h:(mo ah q tv).Is x):tv.Is x:=by
 cases q with
 | false=>exact h
 | true=>
   cases tv with
   | leaf p=>
     obtain⟨v,m⟩:=p
     cases v<;>first|exact h|exact h.elim
   | br b t e=>
     obtain⟨h1,h2⟩:=(show ah.not b=true∧e.Is x from h)
     cases b with
     | true=>exact absurd h1 (by simp[ah])
     | false=>exact .inr ⟨rfl,h2⟩
   | _=>exact h
theorem AP(hW:WR w0 w S m){T T' ty e e':TypeId}(ht:P.underlying T=some (.slice e))(ht':P.underlying T'=some (.slice e')){te:TI}(hte:v_ P e te){t:Ty}(hty:te.ty=some t)
  {dst src:AV} {u x:Value} {v:AV} {m':Mem} (hd:CR w S m dst u) (hx:CR w S m src x) (h:(Aw ah t te.bytes m dst src).Is (v,m')) :
  ∃z w' S',(Builtin.append_ #[T,T'] ty #[u,x]).run P w=.ok z w'∧Step w0 w S m w' S' m'∧CR w' S' m' v z:=by
 unfold Aw at h
 cases hsd:sliceData ah t m src with
 | none=>rw[hsd] at h;exact h.elim
 | some y=>
   cases hsf:gw ah t m src with
   | none=>rw[hsd,hsf] at h;exact h.elim
   | some m1=>
     rw[hsd,hsf] at h
     simp only at h
     obtain⟨S1,s1,hy⟩:=lZ hW hx hsd hsf
     obtain⟨us,hsrc,hrep⟩:=hy.src
     obtain⟨z,w',S',h1,h2,h3⟩:=xW (ty:=ty) s1.wr ht ht' (fun k hk=>by cases hk) hte hty (hd.mono s1.out) hsrc hrep (Be hx hy hsd) h
     exact⟨z,w',S',h1,s1.trans h2,h3⟩
theorem yu.take{I:Nat→Prop}{t:Ty}{v:Value}{y:List t.T}(h:yu w I t v y){n:Nat}(hn:n≤y.length):(Builtin.lenOf v).run P w=.ok y.length w∧
  ∃us:List Value,us.length=n*t.size∧(Builtin.firstCells t.size n v).run P w=.ok us.toArray w∧∀(i:Nat) (z:t.T),i<n→y[i]? = some z→aS w I t ((us.drop (i*t.size)).take t.size) z:=by
 obtain⟨a,cap,us,rfl,h2,h3,h4,h5,h6,h7⟩:=h
 have hle:n*t.size≤y.length*t.size:=Nat.mul_le_mul_right _ hn
 have hl:(us.take (n*t.size)).length=n*t.size:=by rw[List.length_take];omega
 refine⟨rfl,us.take (n*t.size),hl,j4 hl (fun hne=>?_) w rfl,fun i z hi hz=>?_⟩
 ·obtain⟨b,off,e,hr⟩:=h4 (by omega)
  refine⟨b,off,e,fun j u hj=>hr j u ?_⟩
  rw[List.getElem?_take] at hj
  split at hj
  ·exact hj
  ·cases hj
 ·have hle2:i*t.size+t.size≤n*t.size:=by
   have:=Nat.mul_le_mul_right t.size (show i+1≤n by omega)
   rwa [Nat.succ_mul] at this
  rw[List.drop_take,List.take_take,Nat.min_eq_left (by omega)]
  exact h7 i z hz
theorem zA(hW:WR w0 w S m){id:Nat}{t:Ty}{x y:List t.T}(hm:m.at id=.arr false t x)(hso:t.mg=true){l:Nat}{us:List Value}(hl:us.length=y.length*t.size)(hfit:l+y.length≤x.length)
  (hr:∀(i:Nat) (z:t.T),y[i]? = some z→aS w S.I t ((us.drop (i*t.size)).take t.size) z) :
  ∃w',(storeCells ⟨S.σ id,S.δ id+l*t.size,none⟩ us).run P w=.ok () w'∧Step w0 w S m w' S (m.set id (.arr false t (x.take l++y++x.drop (l+y.length)))):=by
 have hb:=hW.box id
 rw[hm] at hb
 obtain⟨hlm,hb⟩:=hb
 by_cases hne:x=[]
 ·subst hne
  have hy:y=[]:=List.eq_nil_of_length_eq_zero (by rw[List.length_nil] at hfit;omega)
  subst hy
  have hus:us=[]:=List.eq_nil_of_length_eq_zero (by simpa using hl)
  subst hus
  refine⟨w,rfl,?_⟩
  have hlt:id<m.length:=Mem.jI fun e=>by rw[e] at hm;cases hm
  have e:m.set id (.arr false t (List.take l ([]:List t.T) ++ []++List.drop (l+([]:List t.T).length) []))=m:=by
   apply List.ext_getElem?
   intro j
   rw[List.getElem?_set]
   by_cases hj:id=j
   ·subst hj
    rw[if_pos rfl,if_pos hlt]
    have h0:m[id]? = some (m.at id):=by rw[Mem.at,nE,uX hlt];rfl
    rw[h0,hm];simp
   ·rw[if_neg hj]
  rw[e];exact .refl hW
 obtain⟨cur,T,fr,k1,k2,k3,k4⟩:=hb hne
 have k2:fr=(0,0):=k2
 subst k2
 have hlu:cur.toList.length=cur.size:=Array.length_toList
 have hle:(l+y.length)*t.size≤x.length*t.size:=Nat.mul_le_mul_right _ hfit
 rw[Nat.add_mul] at hle
 have h1c:∀v∈us,v.oneCell'=true:=fun u hu=>by
  obtain⟨i,hi,hu⟩:=rH hl hu
  exact aS.oneCell t hso (hr i _ (uX hi)) u hu
 have hst:=run_storeCells_at P (S.σ id) (S.δ id+l*t.size) T us 0 cur w k1 (by omega) h1c
 simp only[Nat.add_zero] at hst
 have hsz:((cur.toList.take (S.δ id+l*t.size)++us++cur.toList.drop (S.δ id+l*t.size+us.length)).toArray).size=cur.size:=by
  rw[List.size_toArray,gm,gm,List.length_take,List.length_drop];omega
 have ht:=kq k1 hsz
 have hlive:(m.at id).bd=true:=by rw[hm];exact kp hne
 have hfz:(m.at id).i_=false:=by rw[hm];rfl
 have hxl:(x.take l++y++x.drop (l+y.length)).length=x.length:=by
  rw[gm,gm,List.length_take,List.length_drop];omega
 have hkeep:dT (m.at id) (.arr false t (x.take l++y++x.drop (l+y.length))):=by
  rw[hm];exact⟨rfl,hxl,rfl⟩
 have hc:(m.at id).fI=true→(il.arr false t (x.take l++y++x.drop (l+y.length))).fI=true:=fun h=>by rw[hm] at h;cases h
 have hO:=fL hW hlive hfz hkeep hc ht
 refine⟨_,hst,hW.set hlive hfz hkeep hc rfl ht ⟨by rw[hxl];exact hlm,fun _=>⟨(cur.toList.take (S.δ id+l*t.size)++us++cur.toList.drop (S.δ id+l*t.size+us.length)).toArray,T,(0,0),setRow_heap w _ cur _ T _ k1,rfl,by rw[hxl,hsz];exact k3,fun i z hz=>?_⟩⟩,hO,.refl⟩
 rw[kP (by omega)] at hz
 have elem:∀{i:Nat},x[i]? = some z→(i<l∨l+y.length≤i)→aS (w.setRow (S.σ id) (cur.toList.take (S.δ id+l*t.size)++us++cur.toList.drop (S.δ id+l*t.size+us.length)).toArray) S.I t
   (((cur.toList.take (S.δ id+l*t.size)++us++cur.toList.drop (S.δ id+l*t.size+us.length)).drop (S.δ id+i*t.size)).take t.size) z:=by
  intro i hz ho
  have hi:i<x.length:=(List.getElem?_eq_some_iff.1 hz).1
  rw[mA (by omega) (by
   rcases ho with ho|ho
   ·have:=Nat.mul_le_mul_right t.size (show i+1≤l by omega)
    rw[Nat.succ_mul] at this;omega
   ·have:=Nat.mul_le_mul_right t.size ho
    rw[Nat.add_mul] at this;omega)]
  exact(k4 i z hz).mono hO.jl
 by_cases h1:i<l
 ·rw[if_pos h1] at hz;exact elem hz (.inl h1)
 ·rw[if_neg h1] at hz
  by_cases h2:i<l+y.length
  ·rw[if_pos h2] at hz
   have hi2:i-l<y.length:=by omega
   have hle2:(i-l)*t.size+t.size≤y.length*t.size:=by
    have:=Nat.mul_le_mul_right t.size (show i-l+1≤y.length by omega)
    rwa [Nat.succ_mul] at this
   have e1:i*t.size=l*t.size+(i-l)*t.size:=by rw[←Nat.add_mul];congr 1;omega
   have e2:((cur.toList.take (S.δ id+l*t.size)++us++cur.toList.drop (S.δ id+l*t.size+us.length)).drop (S.δ id+i*t.size)).take t.size=(us.drop ((i-l)*t.size)).take t.size:=by
    apply List.ext_getElem?
    intro j
    rw[List.getElem?_take,List.getElem?_take]
    by_cases hj:j<t.size
    ·rw[if_pos hj,if_pos hj,List.getElem?_drop,List.getElem?_drop,kP (by omega),if_neg (by omega),if_pos (by omega)]
     congr 1;omega
    ·rw[if_neg hj,if_neg hj]
   show aS _ S.I t (((cur.toList.take (S.δ id+l*t.size)++us++cur.toList.drop (S.δ id+l*t.size+us.length)).drop (S.δ id+i*t.size)).take t.size) z
   rw[e2]
   exact(hr _ z hz).mono hO.jl
  ·rw[if_neg h2] at hz;exact elem hz (.inr (by omega))
theorem El(hW:WR w0 w S m){T T' ty e:TypeId}(ht:P.underlying T=some (.slice e)){te:TI}(hte:v_ P e te){t:Ty}(hty:te.ty=some t)
  {dst src:AV} {u x:Value} {v:AV} {m':Mem} (hd:CR w S m dst u) (hx:CR w S m src x) (h:(Jf ah t m dst src).Is (v,m')) :
  ∃z w' S',(Builtin.copy_ #[T,T'] ty #[u,x]).run P w=.ok z w'∧Step w0 w S m w' S' m'∧CR w' S' m' v z:=by
 obtain⟨i,z0,hi,his,_⟩:=hte.info
 have hts:i.size=t.size:=by rw[his,hte.OE hty]
 unfold Jf at h
 cases hsd:sliceData ah t m src with
 | none=>rw[hsd] at h;exact h.elim
 | some y=>
   cases hsf:gw ah t m src with
   | none=>rw[hsd,hsf] at h;exact h.elim
   | some m1=>
     rw[hsd,hsf] at h
     simp only at h
     obtain⟨S1,s1,hy⟩:=lZ hW hx hsd hsf
     have hd1:=hd.mono s1.out
     have hylm:y.length≤dD:=by obtain⟨_,_,_,_,h2,_⟩:=hy;exact h2
     -- the core: n elements go to place l of the box
     have core:∀{id l dl cap:Nat} {a:Option Addr} {xs:List t.T},m1.at id=.arr false t xs→u=.slice a dl cap→l+dl≤xs.length→(dl≠0→a=some ⟨S1.σ id,S1.δ id+l*t.size,none⟩)→
       ∃w' S',(Builtin.copy_ #[T,T'] ty #[u,x]).run P w=.ok (.int .i64 (Nat.min y.length dl:Nat)) w'∧Step w0 w S m w' S' (m1.set id (.arr false t (xs.take l++y.take (Nat.min y.length dl)++xs.drop (l+(y.take (Nat.min y.length dl)).length)))):=by
      intro id l dl cap a xs hm hu hfit ha
      subst hu
      have hmin:Nat.min y.length dl≤y.length:=Nat.min_le_left ..
      have hmin2:Nat.min y.length dl≤dl:=Nat.min_le_right ..
      obtain⟨hlen,us,g1,g2,g3⟩:=hy.take (P:=P) hmin
      have htk:(y.take (Nat.min y.length dl)).length=Nat.min y.length dl:=by rw[List.length_take];exact Nat.min_eq_left hmin
      obtain⟨w',hst,hs⟩:=zA (P:=P) s1.wr hm (hte.mg _ hty) (l:=l) (y:=y.take (Nat.min y.length dl)) (us:=us) (by rw[htk];exact g1) (by rw[htk];omega) (fun i z hz=>by
       rw[List.getElem?_take] at hz
       split at hz
       ·rename_i hi;exact g3 i z hi hz
       ·cases hz)
      by_cases h0:dl=0
      ·have hus:us=[]:=List.eq_nil_of_length_eq_zero (by rw[g1,show Nat.min y.length dl=0 from by omega];omega)
       subst hus
       have hw':w'=w:=by
        have:(storeCells ⟨S1.σ id,S1.δ id+l*t.size,none⟩ []).run P w=.ok () w:=rfl
        rw[this] at hst
        cases hst;rfl
       subst hw'
       refine⟨_,S1,?_,s1.trans hs⟩
       cases a with
       | none=>simp[Builtin.copy_,run_underlying ht,hlen,sizeOf,typeInfo,hi,hts,g2,goInt]
       | some a=>simp[Builtin.copy_,run_underlying ht,hlen,sizeOf,typeInfo,hi,hts,g2,goInt,storeCells]
      ·have ha:=ha h0
       subst ha
       refine⟨_,S1,?_,s1.trans hs⟩
       simp[Builtin.copy_,run_underlying ht,hlen,sizeOf,typeInfo,hi,hts,g2,goInt,hst]
     have mn:∀dl:Nat,ah.mn (ah.l y) (dl:Int)=((Nat.min y.length dl:Nat):Int):=by
      intro dl
      show(if (dl:Int)<(y.length:Int) then(dl:Int) else(y.length:Int))=_
      split
      ·rw[show Nat.min y.length dl=dl from Nat.min_eq_right (by omega)]
      ·rw[show Nat.min y.length dl=y.length from Nat.min_eq_left (by omega)]
     have hasI:∀dl:Nat,IntKind.i64.has ((Nat.min y.length dl:Nat):Int):=fun dl=>gX (Nat.le_trans (Nat.min_le_left ..) hylm)
     have sub0:∀n:Nat,ah.s y 0 (n:Int)=y.take n:=fun n=>by
      show(y.take (n:Int).toNat).drop (0:Int).toNat=_
      rw[gS];rfl
     cases dst<;>(try simp only at h)<;>try exact h.elim
     case own id=>
      rw[CR] at hd1
      cases hm:m1.at id<;>rw[hm] at h hd1<;>(try simp only at hd1 h)<;>try (exact h.elim)
      rename_i fz t' xs
      cases fz<;>(try simp only at h)<;>try (exact h.elim)
      by_cases hbq:t'.beq t=true
      ·rw[dif_pos hbq] at h
       have:=Ty.eq_of_beq hbq;subst this
       cases h
       obtain⟨a,cap,rfl,hcap,_,h8⟩:=vW hd1
       obtain⟨w',S',h1,h2⟩:=core (l:=0) hm rfl (by omega) (fun hn=>by rw[h8 hn,Nat.zero_mul,Nat.add_zero])
       refine⟨_,w',S',h1,?_,bK.2 ⟨?_,?_⟩⟩
       ·have e:ah.spl xs 0 (ah.s y 0 (ah.mn (ah.l y) (ah.l xs)))=xs.take 0++y.take (Nat.min y.length xs.length)++xs.drop (0+(y.take (Nat.min y.length xs.length)).length):=by
         rw[g_ xs,mn,sub0];rfl
        show Step w0 w S m w' S' (m1.set id (.arr false t' (ah.spl xs 0 (ah.s y 0 (ah.mn (ah.l y) (ah.l xs))))))
        rw[e];exact h2
       ·show _=Value.int .i64 (ah.mn (ah.l y) (ah.l xs))
        rw[g_ xs,mn]
       ·show IntKind.i64.has (ah.mn (ah.l y) (ah.l xs))
        rw[g_ xs,mn];exact hasI _
      ·rw[dif_neg hbq] at h;exact h.elim
     case nD id sz c lo len=>
      cases c<;>(try simp only at h)<;>try exact h.elim
      rw[CR] at hd1
      cases hm:m1.at id<;>rw[hm] at h hd1<;>(try simp only at hd1 h)<;>try (exact h.elim)
      rename_i fz t' xs
      cases fz<;>(try simp only at h)<;>try (exact h.elim)
      by_cases hbq:t'.beq t=true
      ·rw[dif_pos hbq] at h
       have:=Ty.eq_of_beq hbq;subst this
       cases h
       obtain⟨l,n,cap,a,rfl,rfl,rfl,h4,h5,h6,rfl,h8⟩:=hd1
       obtain⟨w',S',h1,h2⟩:=core (l:=l) hm rfl h4 h8
       refine⟨_,w',S',h1,?_,bK.2 ⟨?_,?_⟩⟩
       ·have e:ah.spl xs (l:Int) (ah.s y 0 (ah.mn (ah.l y) (n:Int)))=xs.take l++y.take (Nat.min y.length n)++xs.drop (l+(y.take (Nat.min y.length n)).length):=by
         rw[mn,sub0];show xs.take (l:Int).toNat++_++xs.drop ((l:Int).toNat+_)=_
         rw[gS]
        show Step w0 w S m w' S' (m1.set id (.arr false t' (ah.spl xs (l:Int) (ah.s y 0 (ah.mn (ah.l y) (n:Int))))))
        rw[e];exact h2
       ·show _=Value.int .i64 (ah.mn (ah.l y) (n:Int))
        rw[mn]
       ·show IntKind.i64.has (ah.mn (ah.l y) (n:Int))
        rw[mn];exact hasI _
      ·rw[dif_neg hbq] at h;exact h.elim
theorem vT(z:Array Value)(n:Nat):(Builtin.zeroCells z n).toList=(List.replicate n z.toList).flatten:=by
 unfold Builtin.zeroCells
 rw[Array.toList_map,Array.toList_range,←jY,Array.length_toList]
 exact List.map_congr_left fun i _=>by simp[Array.getElem!_eq_getD,List.getElem!_eq_getElem?_getD,Array.getD_eq_getD_getElem?]
theorem B7(hW:WR w0 w S m){T ty e:TypeId}{r:List TypeId}(ht:P.underlying T=some (.slice e)){te:TI}(hte:v_ P e te){t:Ty}(hty:te.ty=some t)
  {dst:AV} {u:Value} {v:AV} {m':Mem} (hd:CR w S m dst u) (h:(EV ah t m dst).Is (v,m')) :
  ∃z w' S',(Builtin.clear_ (T::r).toArray ty #[u]).run P w=.ok z w'∧Step w0 w S m w' S' m'∧CR w' S' m' v z:=by
 obtain⟨i,z,h1,h2,h3,h4,_,h6⟩:=hte.info
 unfold EV at h
 cases dst<;>(try simp only at h)<;>try exact h.elim
 case nD id sz c lo len=>
  cases c<;>(try simp only at h)<;>try exact h.elim
  rw[CR] at hd
  cases hm:m.at id<;>rw[hm] at h hd<;>(try simp only at hd h)<;>try (exact h.elim)
  rename_i fz t' xs
  cases fz<;>(try simp only at h)<;>try (exact h.elim)
  by_cases hbq:t'.beq t=true
  ·rw[dif_pos hbq] at h
   have:=Ty.eq_of_beq hbq;subst this
   cases h
   obtain⟨l,n,cap,a,rfl,rfl,rfl,k4,k5,k6,rfl,k8⟩:=hd
   have hzr:=h6 t' hty w S.I
   have hzl:z.cells.toList.length=t'.size:=hzr.length
   have hfl:((List.replicate n z.cells.toList).flatten).length=(List.replicate n t'.dZ).length*t'.size:=by
    rw[List.length_flatten,List.map_replicate,List.sum_replicate_nat,hzl,pQ]
   obtain⟨w',hst,hs⟩:=zA (P:=P) hW hm (hte.mg _ hty) (l:=l) (y:=List.replicate n t'.dZ) (us:=(List.replicate n z.cells.toList).flatten) hfl (by rw[pQ];exact k4) (fun j y hy=>by
    have hj:j<n:=by have:=(List.getElem?_eq_some_iff.1 hy).1;rwa [pQ] at this
    rw[List.getElem?_replicate,if_pos hj] at hy
    cases hy
    rw[jo hzl hj]
    exact hzr)
   have e:ah.spl xs (l:Int) (ah.r (n:Int) t'.dZ)=xs.take l++List.replicate n t'.dZ++xs.drop (l+(List.replicate n t'.dZ).length):=by
    show xs.take (l:Int).toNat++List.replicate (n:Int).toNat _++xs.drop ((l:Int).toNat+(List.replicate (n:Int).toNat _).length)=_
    rw[gS,gS]
   have hs':Step w0 w S m w' S (m.set id (.arr false t' (ah.spl xs (l:Int) (ah.r (n:Int) t'.dZ)))):=by rw[e];exact hs
   by_cases h0:n=0
   ·subst h0
    have hw':w'=w:=by
     have:(storeCells ⟨S.σ id,S.δ id+l*t'.size,none⟩ []).run P w=.ok () w:=rfl
     rw[show(List.replicate 0 z.cells.toList).flatten=[] from rfl,this] at hst
     cases hst;rfl
    subst hw'
    refine⟨.tuple #[],_,S,?_,hs',fC.2 ⟨#[],rfl,aL.2 rfl⟩⟩
    cases a<;>simp[Builtin.clear_,run_underlying ht]
   ·have ha:=k8 h0
    subst ha
    refine⟨.tuple #[],_,S,?_,hs',fC.2 ⟨#[],rfl,aL.2 rfl⟩⟩
    obtain⟨n',rfl⟩:∃n',n=n'+1:=⟨n-1,by omega⟩
    simp[Builtin.clear_,run_underlying ht,zeroValue,typeInfo,h1,h4,vT,hst]
  ·rw[dif_neg hbq] at h;exact h.elim
end
end Go.Ev
namespace Go.Ev
section
variable {P:Program} {w0:iP} {w:World} {S:St} {m:Mem}
theorem Hm{R:Type}{E:eB R}(hE:iV P E.ti)(hW:WR w0 w S m){ρa:Operand→AV}{ρc:Operand→Value}(hρ:∀x,CR w S m (ρa x) (ρc x)){fn:FuncId}{o:Oper}{v:AV}{m':Mem}
  (h:(qI ah E fn ρa m o).Is (v,m')):aft P w0 w S m (execOp ρc o) v m':=by
 obtain⟨dst,op,ty,pos,after,guard⟩:=o
 unfold qI at h
 cases op<;>simp only at h<;>try exact h.elim
 case alloc t=>
  cases ht:E.ti.get t with
  | none=>rw[ht] at h;exact h.elim
  | some ti=>
    rw[ht] at h
    cases h
    obtain⟨i,z,h1,h2,h3,h4,h5,_⟩:=(hE t ti ht).info
    exact⟨.value (.pointer (some ⟨w.heap.size,0,none⟩)),_,_,_,by simp[execOp,Instr.alloc,zeroValue,typeInfo,h1,h4,newVar,newRow];rfl,.inl rfl,wC hW false (h5 w S m),JC false⟩
 case box t x=>
  cases hk:(ρa x).known m with
  | false=>rw[hk] at h;exact h.elim
  | true=>
    rw[hk] at h
    cases h
    exact⟨.value (.pointer (some ⟨w.heap.size,0,none⟩)),_,_,_,by simp[execOp,Instr.box,newVar,newRow];rfl,.inl rfl,wC hW _ (wM hk (hρ x)),JC _⟩
 case buildSlice t n ps=>
  cases ht:E.ti.get t with
  | none=>rw[ht] at h;exact h.elim
  | some ti=>
    obtain⟨kind,size,bytes,agg,zero,tyy,eq⟩:=ti
    have hT:=hE t _ ht
    rw[ht] at h
    cases kind<;>simp only at h<;>try exact h.elim
    rename_i e
    have hTu:P.underlying t=some (.slice e):=hT.cv (k:=.slice e) rfl
    cases he:E.ti.get e with
    | none=>rw[he] at h;exact h.elim
    | some te=>
      rw[he] at h
      simp only at h
      have hte:=hE e te he
      obtain⟨i,z,h1,h2,h3,h4,h5,_⟩:=hte.info
      cases hf:zm m te.size (ps.toList.map fun p=>(p.1,ρa p.2)) ((List.replicate n te.zero).flatten) with
      | none=>rw[hf] at h;exact h.elim
      | some cs=>
        rw[hf] at h
        simp only at h
        cases hc:(Nat.ble (n*te.size) 16777216&&Nat.ble n 140737488355328) with
        | false=>rw[hc] at h;exact h.elim
        | true=>
          rw[hc] at h
          simp only at h
          simp only[cd] at hc
          have hc1:=oX hc.1
          have hc2:=oX hc.2
          have hzs:z.cells.size=te.size:=by
           have:=(h5 w S m).length
           rw[Array.length_toList,hte.ah0] at this
           exact this
          have hz:bC w S m (List.replicate n te.zero).flatten (madeCells z.cells (n*te.size)).toList:=by
           rw[←hzs,oN]
           exact ky (h5 w S m) n
          obtain⟨dS,g1,g2,g3⟩:=ql hρ ps.toList _ cs (madeCells z.cells (n*te.size)) hf hz
          cases hlit:I5 ah te.ty n m cs with
          | none=>rw[hlit] at h;exact h.elim
          | some q=>
          obtain⟨m1,cs1⟩:=q
          rw[hlit] at h
          cases h
          obtain⟨S1,s1,g2⟩:=Es hW hlit g2
          have hW1:=s1.wr
          have e0:(ps.map fun(i,x)=>(i,ρc x)).toList=ps.toList.map fun p=>(p.1,ρc p.2):=by simp
          have hO:=gM hW1 (.cells dS e) (.flat false cs1) 0 false
          have hul:dS.size=n*te.size:=by rw[g3,size_madeCells]
          refine⟨.value (.slice (some ⟨w.heap.size,0,none⟩) n n),.slice (some ⟨w.heap.size,0,none⟩) n n,w.alloc (.cells dS e),_,?_,.inl rfl,s1.trans (wC hW1 false g2),?_⟩
          ·by_cases hn:n*te.size=0
           ·have hm0:madeCells z.cells (n*te.size)=#[]:=by
             rw[hn];exact Array.eq_empty_of_size_eq_zero (size_madeCells _ _)
            rw[hm0] at g1
            simp only[execOp,Instr.buildSlice,Sem.run_bind,run_underlying hTu,Result.andThen_ok,sizeOf,typeInfo,run_program,h1,Sem.run_pure]
            rw[h2,hn]
            simp[g1,newRow,Array.range_zero']
           ·have hc1':¬(16777216<n*te.size):=by omega
            simp only[execOp,Instr.buildSlice,Sem.run_bind,run_underlying hTu,Result.andThen_ok,sizeOf,typeInfo,run_program,h1,Sem.run_pure]
            rw[h2]
            rw[madeCells] at g1
            simp[hn,hc1',zeroValue,typeInfo,h1,h4,g1,newRow]
          ·rw[CR,Mem.bY]
           refine⟨0,n,n,some ⟨w.heap.size,0,none⟩,rfl,rfl,by rw[dI];omega,?_,Nat.le_refl _,(fun h=>by cases h),rfl,fun _=>?_⟩
           ·rw[Nat.zero_add,←hul,←Array.length_toList,g2.length];exact Nat.le_refl _
           ·simp only[St.push,if_pos,Nat.zero_mul]
 case makeSlice t l c=>
  cases ht:E.ti.get t with
  | none=>rw[ht] at h;exact h.elim
  | some ti=>
    obtain⟨kind,size,bytes,agg,zero,tyy,eq⟩:=ti
    have hT:=hE t _ ht
    rw[ht] at h
    cases kind<;>simp only at h<;>try exact h.elim
    rename_i e
    have hTu:P.underlying t=some (.slice e):=hT.cv (k:=.slice e) rfl
    cases he:E.ti.get e with
    | none=>rw[he] at h;exact h.elim
    | some te=>
      obtain⟨tkind,tsize,tbytes,tagg,tzero,tty,teq⟩:=te
      rw[he] at h
      cases tty with
      | none=>exact h.elim
      | some d=>
        simp only at h
        have hte:=hE e _ he
        have hl:=hρ l
        have hcc:=hρ c
        cases hla:ρa l<;>rw[hla] at h hl<;>(try simp only at h)<;>try exact h.elim
        cases hca:ρa c<;>rw[hca] at h hcc<;>(try simp only at h)<;>try exact h.elim
        rename_i k1 c1 n k2 c2 n'
        obtain⟨hb,h⟩:=h
        cases h
        obtain⟨hv1,_⟩:=bK.1 hl
        obtain⟨hv2,_⟩:=bK.1 hcc
        have hb:(ah.c .eql n n'&&(ah.c .leq 0 n&&ah.c .leq n (140737488355328/(tbytes.max 1:Nat))))=true:=hb
        rw[cd,cd,Eb,uh,uh] at hb
        obtain⟨rfl,h0,hfit⟩:=hb
        obtain⟨k,rfl⟩:∃k:Nat,n=(k:Int):=⟨n.toNat,by omega⟩
        obtain⟨f1,f2⟩:=E9 hfit
        rw[dI] at f1
        obtain⟨i,z,h1,h2,h3,h4,_,h6⟩:=hte.info
        have hrun:=run_make (P:=P) w t e i z hTu h1 h4 k1 k2 k k h0 (Int.le_refl _) (by
         rw[h3]
         have:((k*tbytes:Nat):Int)≤140737488355328:=by generalize k*tbytes=q at f2 ⊢;omega
         rw[Int.natCast_mul,Int.mul_comm] at this
         show(tbytes:Int)*_≤_
         omega) (by omega)
        rw[gS,h2] at hrun
        have hzr:=h6 d rfl w S.I
        have hds:d.size=tsize:=hte.OE rfl
        have hzl:z.cells.size=d.size:=by rw[←Array.length_toList];exact hzr.length
        have hmade:madeCells z.cells (k*tsize)=(List.replicate k z.cells.toList).flatten.toArray++(#[]:Array Value):=by
         apply Array.ext'
         rw[←hds,←hzl,oN,Array.toList_append];exact(List.append_nil _).symm
        have hxl:(List.replicate k d.dZ).length=k:=pQ
        have hfl:((List.replicate k z.cells.toList).flatten).length=k*d.size:=by
         rw[List.length_flatten,List.map_replicate,List.sum_replicate_nat,Array.length_toList,hzl]
        rw[hmade] at hrun
        obtain⟨S',s',c'⟩:=Gj hW (t:=d) (e:=e) (xs:=List.replicate k d.dZ) (us:=(List.replicate k z.cells.toList).flatten) (zs:=#[]) (cap:=k) (by rw[hxl,hfl]) (by rw[hfl];simp) (by rw[hxl];exact Nat.le_refl _) (by rw[hxl,dI];exact f1) (fun e=>by rw[←hxl,e];rfl) (fun j y hy=>by
         have hj:j<k:=by have:=(List.getElem?_eq_some_iff.1 hy).1;rwa [hxl] at this
         rw[List.getElem?_replicate,if_pos hj] at hy
         cases hy
         rw[jo (by rw[Array.length_toList,hzl]) hj]
         exact hzr)
        have erep:ah.r (k:Int) d.dZ=List.replicate k d.dZ:=by show List.replicate (k:Int).toNat _=_;rw[gS]
        rw[erep]
        refine⟨.value (.slice (some ⟨w.heap.size,0,none⟩) k k),_,_,S',by simp only[execOp,hv1,hv2,Sem.run_bind,hrun,Result.andThen_ok,Sem.run_pure],.inl rfl,s',?_⟩
        rw[hxl] at c'
        exact c'
 case store t p x=>
  obtain⟨m1,hm,e⟩:=TV.wQ h
  cases e
  obtain⟨w',S',h1,h2⟩:=BQ hE hW (hρ p) (hρ x) hm
  exact⟨.skip,.bool true,w',S',by simp[execOp,h1],.inr ⟨rfl,rfl⟩,h2,dC⟩
 case call c=>
  obtain⟨callee,args,argTypes⟩:=c
  cases callee<;>(try simp only at h)<;>try exact h.elim
  rename_i b
  cases b<;>(try simp only at h)<;>try exact h.elim
  case append=>
   obtain⟨l⟩:=args
   obtain⟨tl⟩:=argTypes
   simp only at h
   match l,tl,h with
   | [d,s],t::t'::ts,h=>
     simp only at h
     cases ht:E.ti.get t with
     | none=>rw[ht] at h;exact h.elim
     | some ti=>
       obtain⟨kind,size,bytes,agg,zero,tyy,eq⟩:=ti
       have hT:=hE t _ ht
       rw[ht] at h
       cases kind<;>(try simp only at h)<;>try exact h.elim
       rename_i e
       cases ht':E.ti.get t' with
       | none=>rw[ht'] at h;exact h.elim
       | some ti'=>
         obtain⟨kind',size',bytes',agg',zero',tyy',eq'⟩:=ti'
         have hT':=hE t' _ ht'
         rw[ht'] at h
         cases kind'<;>(try simp only at h)<;>try exact h.elim
         rename_i e'
         cases he:E.ti.get e with
         | none=>rw[he] at h;exact h.elim
         | some te=>
           obtain⟨tkind,tsize,tbytes,tagg,tzero,tty,teq⟩:=te
           rw[he] at h
           cases tty with
           | none=>exact h.elim
           | some dt=>
             simp only at h
             obtain⟨z,w',S',h1,h2,h3⟩:=AP (P:=P) (ty:=ty) hW (hT.cv (k:=.slice e) rfl) (hT'.cv (k:=.slice e') rfl) (hE e _ he) rfl (hρ d) (hρ s) (QF h)
             refine⟨.value z,z,w',S',?_,.inl rfl,h2,h3⟩
             have:(Builtin.append_ (t::t'::ts).toArray ty #[ρc d,ρc s]).run P w=.ok z w':=by
              rw[←h1];rfl
             simp[execOp,resolve,invoke,builtin,this]
  case copy=>
   obtain⟨l⟩:=args
   obtain⟨tl⟩:=argTypes
   simp only at h
   match l,tl,h with
   | [d,s],t::t'::ts,h=>
     simp only at h
     cases ht:E.ti.get t with
     | none=>rw[ht] at h;exact h.elim
     | some ti=>
       obtain⟨kind,size,bytes,agg,zero,tyy,eq⟩:=ti
       have hT:=hE t _ ht
       rw[ht] at h
       cases kind<;>(try simp only at h)<;>try exact h.elim
       rename_i e
       cases ht':E.ti.get t' with
       | none=>rw[ht'] at h;exact h.elim
       | some ti'=>
         obtain⟨kind',size',bytes',agg',zero',tyy',eq'⟩:=ti'
         rw[ht'] at h
         cases kind'<;>(try simp only at h)<;>try exact h.elim
         cases he:E.ti.get e with
         | none=>rw[he] at h;exact h.elim
         | some te=>
           obtain⟨tkind,tsize,tbytes,tagg,tzero,tty,teq⟩:=te
           rw[he] at h
           cases tty with
           | none=>exact h.elim
           | some dt=>
             simp only at h
             obtain⟨z,w',S',h1,h2,h3⟩:=El (P:=P) (ty:=ty) (T':=t') hW (hT.cv (k:=.slice e) rfl) (hE e _ he) rfl (hρ d) (hρ s) h
             refine⟨.value z,z,w',S',?_,.inl rfl,h2,h3⟩
             have:(Builtin.copy_ (t::t'::ts).toArray ty #[ρc d,ρc s]).run P w=.ok z w':=by
              rw[←h1];rfl
             simp[execOp,resolve,invoke,builtin,this]
  case clear=>
   obtain⟨l⟩:=args
   obtain⟨tl⟩:=argTypes
   simp only at h
   match l,tl,h with
   | [d],t::ts,h=>
     simp only at h
     cases ht:E.ti.get t with
     | none=>rw[ht] at h;exact h.elim
     | some ti=>
       obtain⟨kind,size,bytes,agg,zero,tyy,eq⟩:=ti
       have hT:=hE t _ ht
       rw[ht] at h
       cases kind<;>(try simp only at h)<;>try exact h.elim
       rename_i e
       cases he:E.ti.get e with
       | none=>rw[he] at h;exact h.elim
       | some te=>
         obtain⟨tkind,tsize,tbytes,tagg,tzero,tty,teq⟩:=te
         rw[he] at h
         cases tty with
         | none=>exact h.elim
         | some dt=>
           simp only at h
           obtain⟨z,w',S',h1,h2,h3⟩:=B7 (P:=P) (ty:=ty) (r:=ts) hW (hT.cv (k:=.slice e) rfl) (hE e _ he) rfl (hρ d) h
           refine⟨.value z,z,w',S',?_,.inl rfl,h2,h3⟩
           have:(Builtin.clear_ (t::ts).toArray ty #[ρc d]).run P w=.ok z w':=h1
           simp[execOp,resolve,invoke,builtin,this]
 case convert s d x=>
  cases ht:E.ti.get s with
  | none=>rw[ht] at h;exact h.elim
  | some ti=>
    obtain⟨kind,size,bytes,agg,zero,tyy,eq⟩:=ti
    have hT:=hE s _ ht
    rw[ht] at h
    cases kind<;>(try simp only at h)<;>try exact h.elim
    rename_i e
    cases hd:E.ti.get d with
    | none=>rw[hd] at h;exact h.elim
    | some di=>
      obtain⟨dkind,dsize,dbytes,dagg,dzero,dty,deq⟩:=di
      have hD:=hE d _ hd
      rw[hd] at h
      cases dkind<;>(try simp only at h)<;>try exact h.elim
      cases he:E.ti.get e with
      | none=>rw[he] at h;exact h.elim
      | some te=>
        obtain⟨tkind,tsize,tbytes,tagg,tzero,tty,teq⟩:=te
        have hte:=hE e _ he
        rw[he] at h
        cases tkind<;>(try simp only at h)<;>try exact h.elim
        rename_i k
        cases k<;>(try simp only at h)<;>try exact h.elim
        cases hsd:sliceData ah (.int .u8) m (ρa x) with
        | none=>rw[hsd] at h;exact h.elim
        | some y=>
          cases hsf:gw ah (.int .u8) m (ρa x) with
          | none=>rw[hsd,hsf] at h;exact h.elim
          | some m1=>
            rw[hsd,hsf] at h
            cases h
            obtain⟨S1,s1,hr⟩:=lZ hW (hρ x) hsd hsf
            have hrun:(convert s d (ρc x)).run P w=.ok (.string ⟨(y.map fun n=>UInt8.ofNat n.toNat).toArray⟩) w:=F9 (hT.cv (k:=.slice e) rfl) (hte.cv (k:=.int .u8) rfl) (hD.cv (k:=.str) rfl) hr
            exact⟨.value (.string ⟨(ah.bytes y).toArray⟩),_,w,S1,by simp only[execOp,Sem.run_bind,hrun,Result.andThen_ok,Sem.run_pure];rfl,.inl rfl,s1,Fw hr⟩
end
end Go.Ev
namespace Go.Ev
theorem aY{a b:Nat}:Nat.beq a b=true↔a=b:=⟨mI,fun h=>by subst h;exact Nat.beq_refl a⟩
theorem bq{a b:Nat}:Nat.beq a b=false↔a≠b:=by
 constructor
 ·intro h e;rw[aY.2 e] at h;cases h
 ·intro h
  cases hb:Nat.beq a b with
  | false=>rfl
  | true=>exact absurd (aY.1 hb) h
section
variable {α:Type}
theorem PT.jk(l:PT α)(v:Option α)(r:PT α)(n:Nat):(PT.node l v r).get n=if n=0 then v else if n%2=1 then l.get (n/2) else r.get (n/2-1):=by
 rw[PT.get]
 by_cases h0:n=0
 ·rw[aY.2 h0,if_pos h0]
 ·rw[bq.2 h0,if_neg h0]
  by_cases h1:n%2=1
  ·simp only[aY.2 h1,if_pos h1]
  ·simp only[bq.2 h1,if_neg h1]
theorem PT.np(n:Nat):(PT.leaf:PT α).get n=none:=by rw[PT.get]
theorem PT.Na(f n:Nat)(a:α):PT.put (f+1) .leaf n a=if n=0 then .node .leaf (some a) .leaf else if n%2=1 then .node (PT.put f .leaf (n/2) a) none .leaf else .node .leaf none (PT.put f .leaf (n/2-1) a):=by
 rw[PT.put]
 by_cases h0:n=0
 ·rw[aY.2 h0,if_pos h0]
 ·rw[bq.2 h0,if_neg h0]
  by_cases h1:n%2=1
  ·simp only[aY.2 h1,if_pos h1]
  ·simp only[bq.2 h1,if_neg h1]
theorem PT.OL(f n:Nat)(l:PT α)(v:Option α)(r:PT α)(a:α):PT.put (f+1) (.node l v r) n a=if n=0 then .node l (some a) r else if n%2=1 then .node (PT.put f l (n/2) a) v r else .node l v (PT.put f r (n/2-1) a):=by
 rw[PT.put]
 by_cases h0:n=0
 ·rw[aY.2 h0,if_pos h0]
 ·rw[bq.2 h0,if_neg h0]
  by_cases h1:n%2=1
  ·simp only[aY.2 h1,if_pos h1]
  ·simp only[bq.2 h1,if_neg h1]
theorem PT.get_put:∀(f:Nat) (t:PT α) (n m:Nat) (a:α),n+1<2^f→(PT.put f t n a).get m=if m=n then some a else t.get m
 | 0,t,n,m,a,h=>by simp at h
 | f+1,t,n,m,a,h=>by
   rw[Nat.pow_succ] at h
   have split:∀(l:PT α) (v:Option α) (r:PT α),t.get m=(PT.node l v r).get m→
     (if n=0 then PT.node l (some a) r else if n%2=1 then .node (PT.put f l (n/2) a) v r else .node l v (PT.put f r (n/2-1) a)).get m=if m=n then some a else t.get m:=by
    intro l v r e
    rw[e]
    by_cases h0:n=0
    ·subst h0
     rw[if_pos rfl,PT.jk,PT.jk]
     by_cases hm:m=0
     ·rw[if_pos hm,if_pos hm]
     ·rw[if_neg hm,if_neg hm,if_neg hm]
    ·rw[if_neg h0]
     by_cases h1:n%2=1
     ·rw[if_pos h1,PT.jk,PT.jk]
      by_cases hm:m=0
      ·rw[if_pos hm,if_neg (by omega),if_pos hm]
      ·rw[if_neg hm,if_neg hm]
       by_cases hm1:m%2=1
       ·rw[if_pos hm1,if_pos hm1,PT.get_put f l (n/2) (m/2) a (by omega)]
        by_cases he:m=n
        ·rw[if_pos he,if_pos (by rw[he])]
        ·rw[if_neg he,if_neg (by omega)]
       ·rw[if_neg hm1,if_neg hm1,if_neg (by intro e;subst e;exact hm1 h1)]
     ·rw[if_neg h1,PT.jk,PT.jk]
      by_cases hm:m=0
      ·rw[if_pos hm,if_neg (by omega),if_pos hm]
      ·rw[if_neg hm,if_neg hm]
       by_cases hm1:m%2=1
       ·rw[if_pos hm1,if_pos hm1,if_neg (by intro e;subst e;exact h1 hm1)]
       ·rw[if_neg hm1,if_neg hm1,PT.get_put f r (n/2-1) (m/2-1) a (by omega)]
        by_cases he:m=n
        ·rw[if_pos he,if_pos (by rw[he])]
        ·rw[if_neg he,if_neg (by omega)]
   cases t with
   | leaf=>
     rw[PT.Na]
     have:=split .leaf none .leaf (by rw[PT.np,PT.jk,PT.np,PT.np];split<;>(try split)<;>rfl)
     exact this
   | node l v r=>
     rw[PT.OL]
     exact split l v r rfl
end
theorem Env.s8{e:Env}{n m:Nat}{v:AV}(h:n≤65535):(e.put n v).at m=if m=n then v else e.at m:=by
 rw[Env.put,Env.at,Env.at,PT.get_put 20 e n m v (by omega)]
 by_cases hm:m=n
 ·rw[if_pos hm,if_pos hm]
 ·rw[if_neg hm,if_neg hm]
theorem Env.D_{e:Env}{d:Option Nat}{m:Nat}{v:AV}{n:Nat}(hd:kG n d=true)(hn:n≤65535):(e.iK d v).at m=if d=some m then v else e.at m:=by
 cases d with
 | none=>rw[Env.iK,if_neg (by intro h;cases h)]
 | some d=>
   have:d<n:=by have:=hd;simp only[kG] at this;exact oX this
   rw[Env.iK,Env.s8 (by omega)]
   by_cases h:m=d
   ·rw[if_pos h,if_pos (by rw[h])]
   ·rw[if_neg h,if_neg (by intro e;exact h (by cases e;rfl))]
theorem Env.JM(m:Nat):Env.at .leaf m=.undef:=by rw[Env.at,PT.np]
theorem Env.Wz:∀{vs:List AV} {k m:Nat} {e:Env},k+vs.length≤65535→(Env.of k vs e).at m=if k≤m∧m<k+vs.length then vs.getD (m-k) .undef else e.at m
 | [],k,m,e,_=>by rw[Env.of,if_neg (by rw[List.length_nil];omega)]
 | v::vs,k,m,e,h=>by
   rw[List.length_cons] at h
   rw[Env.of,Env.Wz (by omega),Env.s8 (by omega),List.length_cons]
   by_cases h1:k+1≤m∧m<k+1+vs.length
   ·rw[if_pos h1,if_pos (by omega),show m-k=(m-(k+1))+1 from by omega];rfl
   ·rw[if_neg h1]
    by_cases h2:m=k
    ·subst h2;rw[if_pos rfl,if_pos (by omega),Nat.sub_self];rfl
    ·rw[if_neg h2,if_neg (by omega)]
theorem oJ{α:Type}{ρ ρ':Operand→α}{l:List Operand}(h:∀x∈l,ρ x=ρ' x):l.map ρ=l.map ρ':=List.map_congr_left h
section
variable {A:aI} {R:Type} {E:eB R} {ρ ρ':Operand→AV} {m:Mem} {fn:FuncId} {o:Oper}
theorem wV(h:∀x∈o.op.operands.toList,ρ x=ρ' x):nW A E ρ m o=nW A E ρ' m o:=by
 obtain⟨dst,op,ty,pos,after,guard⟩:=o
 simp only at h
 unfold nW
 cases op<;>simp only[Op.operands,List.mem_cons,List.not_mem_nil,or_false,forall_eq_or_imp,forall_eq] at h ⊢
 case move x=>rw[h]
 case assign x=>rw[h]
 case pick c a b=>rw[h.1,h.2.1,h.2.2]
 case load t p=>rw[h]
 case nilCheck x=>rw[h]
 case binOp op t x y t2=>rw[h.1,h.2]
 case unOp op t x=>rw[h]
 case convert s d x=>rw[h]
 case fieldAddr t x i=>rw[h]
 case indexAddr t x i=>rw[h.1,h.2]
 case index t x i=>rw[h.1,h.2]
 case extract t i=>rw[h]
 case makeFunc f a c=>
  have h1:a.toList.map ρ=a.toList.map ρ':=oJ fun x hx=>h x (by simp at hx ⊢;exact .inl hx)
  have h2:c.toList.map ρ=c.toList.map ρ':=oJ fun x hx=>h x (by simp at hx ⊢;exact .inr hx)
  cases f<;>simp only[h1,h2]
 case slice t x lo hi mx=>
  have h0:ρ x=ρ' x:=h x (by simp)
  have hm:∀(y:Option Operand),(∀z,y=some z→ρ z=ρ' z)→y.map ρ=y.map ρ':=fun y hy=>by
   cases y with
   | none=>rfl
   | some z=>simp[hy z rfl]
  rw[h0,hm lo fun z hz=>h z (by simp[hz]),hm hi fun z hz=>h z (by simp[hz]),hm mx fun z hz=>h z (by simp[hz])]
 case build t ps=>
  have:(ps.toList.map fun p=>(p.1,ρ p.2))=ps.toList.map fun p=>(p.1,ρ' p.2):=List.map_congr_left fun p hp=>by
   rw[h p.2 (by simp;exact⟨p.1,by simpa using hp⟩)]
  rw[this]
 case call c=>
  obtain⟨callee,args,argTypes⟩:=c
  have ha:∀x∈args.toList,ρ x=ρ' x:=fun x hx=>h x (by
   simp only[Call.operands]
   simp at hx ⊢
   cases callee<;>simp[hx])
  have hm:args.toList.map ρ=args.toList.map ρ':=oJ ha
  cases callee<;>(try rfl)
  rename_i b
  cases b<;>(try rfl)<;>(try simp only[hm])
  case len=>
   obtain⟨l⟩:=args
   match l,ha with
   | [],_=>rfl
   | [x],ha=>
     obtain⟨tl⟩:=argTypes
     cases tl with
     | nil=>rfl
     | cons t ts=>simp only;rw[ha x (by simp)]
   | _::_::_,_=>rfl
theorem G8(h:∀x∈o.op.operands.toList,ρ x=ρ' x):qI A E fn ρ m o=qI A E fn ρ' m o:=by
 obtain⟨dst,op,ty,pos,after,guard⟩:=o
 simp only at h
 unfold qI
 cases op<;>simp only[Op.operands,List.mem_cons,List.not_mem_nil,or_false,forall_eq_or_imp,forall_eq] at h ⊢
 case box t x=>rw[h]
 case store t p x=>rw[h.1,h.2]
 case makeSlice t l c=>rw[h.1,h.2]
 case convert s d x=>rw[h]
 case buildSlice t n ps=>
  have:(ps.toList.map fun p=>(p.1,ρ p.2))=ps.toList.map fun p=>(p.1,ρ' p.2):=List.map_congr_left fun p hp=>by
   rw[h p.2 (by simp;exact⟨p.1,by simpa using hp⟩)]
  rw[this]
 case call c=>
  obtain⟨callee,args,argTypes⟩:=c
  have ha:∀x∈args.toList,ρ x=ρ' x:=fun x hx=>h x (by
   simp only[Call.operands]
   simp at hx ⊢
   cases callee<;>simp[hx])
  cases callee<;>(try rfl)
  rename_i b
  cases b<;>(try rfl)
  case append=>
   obtain⟨l⟩:=args
   match l,ha with
   | [],_=>rfl
   | [x],_=>rfl
   | [d,s],ha=>
     obtain⟨tl⟩:=argTypes
     match tl with
     | []=>rfl
     | [_]=>rfl
     | t::t'::ts=>simp only;rw[ha d (by simp),ha s (by simp)]
   | _::_::_::_,_=>rfl
  case clear=>
   obtain⟨l⟩:=args
   match l,ha with
   | [],_=>rfl
   | [d],ha=>
     obtain⟨tl⟩:=argTypes
     match tl with
     | []=>rfl
     | t::ts=>simp only;rw[ha d (by simp)]
   | _::_::_,_=>rfl
  case copy=>
   obtain⟨l⟩:=args
   match l,ha with
   | [],_=>rfl
   | [x],_=>rfl
   | [d,s],ha=>
     obtain⟨tl⟩:=argTypes
     match tl with
     | []=>rfl
     | [_]=>rfl
     | t::t'::ts=>simp only;rw[ha d (by simp),ha s (by simp)]
   | _::_::_::_,_=>rfl
theorem Cb(h:∀x∈o.op.operands.toList,ρ x=ρ' x):vn A E m ρ o=vn A E m ρ' o:=by
 obtain⟨dst,op,ty,pos,after,guard⟩:=o
 simp only at h
 unfold vn
 cases op<;>(try rfl)
 rename_i c
 obtain⟨callee,args,argTypes⟩:=c
 simp only[Op.operands,Call.operands] at h
 cases callee<;>(try rfl)
 rename_i x
 have hx:ρ x=ρ' x:=h x (by simp)
 have hm:args.toList.map ρ=args.toList.map ρ':=oJ fun y hy=>h y (by simp at hy ⊢;exact .inr hy)
 simp only[hx,hm]
theorem wL(h:∀x∈o.op.operands.toList,ρ x=ρ' x):SF A E m ρ o=SF A E m ρ' o:=by
 unfold SF
 rw[wV h,Cb h]
end
end Go.Ev
namespace Go.Ev
section
variable {P:Program} {fr:Frame} {k:List Item} {cs:List Frame} {w:World}
theorem V7(hm:fr.mode=.run)(ht:fr.todo=.code .skip::k):step P (lone fr cs w)=.next (lone {fr with todo:=k} cs w):=
 step_lone_go (by simp[stepG,stepG.exec,hm,ht])
theorem QR{l:Nat}(hm:fr.mode=.run)(ht:fr.todo=.code (.label l)::k):step P (lone fr cs w)=.next (lone {fr with todo:=k} cs w):=
 step_lone_go (by simp[stepG,stepG.exec,hm,ht])
theorem Ht{id:Nat}(hm:fr.mode=.run)(ht:fr.todo=.inBlock id::k):step P (lone fr cs w)=.next (lone {fr with todo:=k} cs w):=
 step_lone_go (by simp[stepG,stepG.exec,hm,ht])
theorem Il{b:Code}(hm:fr.mode=.run)(ht:fr.todo=.inScope b::k):step P (lone fr cs w)=.next (lone {fr with todo:=k} cs w):=
 step_lone_go (by simp[stepG,stepG.exec,hm,ht])
theorem YJ{a b:Code}(hm:fr.mode=.run)(ht:fr.todo=.code (.seq a b)::k):step P (lone fr cs w)=.next (lone {fr with todo:=.code a :: .code b::k} cs w):=
 step_lone_go (by simp[stepG,stepG.exec,hm,ht])
theorem UQ{c:Operand}{a b:Code}{v:Bool}(hm:fr.mode=.run)(ht:fr.todo=.code (.cond c a b)::k)(hc:fr.eval c=.bool v) :
  step P (lone fr cs w)=.next (lone {fr with todo:=.code (if v then a else b)::k} cs w):=
 step_lone_go (by simp[stepG,stepG.exec,hm,ht,hc])
theorem QW{id:Nat}{b:Code}(hm:fr.mode=.run)(ht:fr.todo=.code (.block id b)::k):step P (lone fr cs w)=.next (lone {fr with todo:=.code b :: .inBlock id::k} cs w):=
 step_lone_go (by simp[stepG,stepG.exec,hm,ht])
theorem JP{b:Code}(hm:fr.mode=.run)(ht:fr.todo=.code (.loop b)::k):step P (lone fr cs w)=.next (lone {fr with todo:=.code b :: .inLoop b::k} cs w):=
 step_lone_go (by simp[stepG,stepG.exec,hm,ht])
theorem C7{b:Code}(hm:fr.mode=.run)(ht:fr.todo=.inLoop b::k):step P (lone fr cs w)=.next (lone {fr with todo:=.code b :: .inLoop b::k} cs w):=
 step_lone_go (by simp[stepG,stepG.exec,hm,ht])
theorem PX{b:Code}(hm:fr.mode=.run)(ht:fr.todo=.code (.scope b)::k):step P (lone fr cs w)=.next (lone {fr with todo:=.code b :: .inScope b::k} cs w):=
 step_lone_go (by simp[stepG,stepG.exec,hm,ht])
theorem U6{id:Nat}{k':List Item}(hm:fr.mode=.run)(ht:fr.todo=.code (.exit id)::k)(he:exitTo id k=some k'):step P (lone fr cs w)=.next (lone {fr with todo:=k'} cs w):=
 step_lone_go (by simp[stepG,stepG.exec,hm,ht,he])
theorem C_{id:Nat}{os:Array Oper}(hm:fr.mode=.run)(ht:fr.todo=.code (.region id os false)::k) :
  step P (lone fr cs w)=.next (lone {fr with todo:=.inRegion os (List.range os.size)::k} cs w):=
 step_lone_go (by simp[stepG,stepG.exec,hm,ht])
theorem IY{id:Nat}{os:Array Oper}(hm:fr.mode=.run)(ht:fr.todo=.code (.region id os true)::k) :
  step P (lone fr cs w)=.next (lone {fr with todo:=.inRegion os (Region.schedule (P.follows .mixedOrders) os (w.tape w.drawn (.order fr.fn id)))::k} cs w.drew):=
 step_lone_go (by simp[stepG,stepG.exec,hm,ht,choose,Sem.run,Question.forced,Question.cut])
theorem zM{os:Array Oper}(hm:fr.mode=.run)(ht:fr.todo=.inRegion os []::k):step P (lone fr cs w)=.next (lone {fr with todo:=k} cs w):=
 step_lone_go (by simp[stepG,stepG.exec,hm,ht])
theorem Tj(hm:fr.mode=.run)(hr:fr.roundOf=none)(ht:fr.todo=.code .ret::k):step P (lone fr cs w)=.next (lone {fr with mode:=.returning} cs w):=
 step_lone_go (by simp[stepG,stepG.exec,hm,ht,hr])
theorem Tp(hm:fr.mode=.run)(hr:fr.roundOf=none)(ht:fr.todo=[]):step P (lone fr cs w)=.next (lone {fr with mode:=.returning} cs w):=
 step_lone_go (by simp[stepG,stepG.exec,hm,ht,hr])
theorem Lg{l:Nat}{g:Frame}{jump:Option Code}{v:Value}{w':World}(hm:fr.mode=.run)(hk:fr.kind=.normal)(hr:fr.roundOf=some l)
  (ht:(fr.todo=[]∧jump=none)∨(∃k,fr.todo=.code .ret::k∧jump=some .ret)∨(∃id k,fr.todo=.code (.exit id)::k∧exitTo id k=none∧jump=some (.exit id))∨(∃id k,fr.todo=.code (.goto id)::k∧gotoIn id k=none∧jump=some (.goto id)))
  (he:(Instr.endRound l jump).run P w=.ok v w'):step P (lone fr (g::cs) w)=.next (lone (g.finish v) cs w'):=by
 rcases ht with ⟨ht,rfl⟩|⟨k,ht,rfl⟩|⟨id,k,ht,hx,rfl⟩|⟨id,k,ht,hx,rfl⟩
 ·exact step_lone_go (by simp[stepG,stepG.exec,hm,ht,hr,he,doReturn,hk])
 ·exact step_lone_go (by simp[stepG,stepG.exec,hm,ht,hr,he,doReturn,hk])
 ·exact step_lone_go (by simp[stepG,stepG.exec,hm,ht,hr,he,doReturn,hk,hx])
 ·exact step_lone_go (by simp[stepG,stepG.exec,hm,ht,hr,he,doReturn,hk,hx])
theorem CL{os:Array Oper}{i:Nat}{l:List Nat}{o:Oper}(hm:fr.mode=.run)(ht:fr.todo=.inRegion os (i::l)::k)(ho:os[i]? = some o)(hw:Region.wanted o (yielded os fr.tmps)=false) :
  step P (lone fr cs w)=.next (lone (fr.finish undef) cs w):=
 step_lone_go (by simp[stepG,stepG.exec,hm,ht,ho,hw])
theorem JL{os:Array Oper}{i:Nat}{l:List Nat}{o:Oper}(hm:fr.mode=.run)(ht:fr.todo=.inRegion os (i::l)::k)(ho:os[i]? = some o)(hw:Region.wanted o (yielded os fr.tmps)=true)
  (hd:∀c,o.op≠.defer c) :
  stepG P true {frame:=fr,callers:=cs,status:=.running,dying:=none} w=stepG.apply P true fr cs none (execOp fr.eval o) w:=by
 have h1:stepG P true {frame:=fr,callers:=cs,status:=.running,dying:=none} w=stepG.oper P true fr cs none w:=by
  simp[stepG,stepG.exec,hm,ht,ho,hw]
 rw[h1]
 simp only[stepG.oper,Frame.oper?,ht,ho]
 cases fr.roundOf with
 | none=>rfl
 | some l=>
   cases hop:o.op<;>first|rfl|exact absurd hop (hd _)
theorem HV{os:Array Oper}{i:Nat}{l:List Nat}{o:Oper}{z:Value}{w':World}(hm:fr.mode=.run)(ht:fr.todo=.inRegion os (i::l)::k)(ho:os[i]? = some o)(hw:Region.wanted o (yielded os fr.tmps)=true)
  (hd:∀c,o.op≠.defer c) (hx:(execOp fr.eval o).run P w=.ok (.value z) w'):step P (lone fr cs w)=.next (lone (fr.finish z) cs w'):=
 step_lone_go (by rw[JL hm ht ho hw hd];simp[stepG.apply,hx])
theorem ZT{os:Array Oper}{i:Nat}{l:List Nat}{o:Oper}{w':World}(hm:fr.mode=.run)(ht:fr.todo=.inRegion os (i::l)::k)(ho:os[i]? = some o)(hw:Region.wanted o (yielded os fr.tmps)=true)
  (hd:∀c,o.op≠.defer c) (hx:(execOp fr.eval o).run P w=.ok .skip w'):step P (lone fr cs w)=.next (lone (fr.finish undef) cs w'):=
 step_lone_go (by rw[JL hm ht ho hw hd];simp[stepG.apply,hx])
theorem EE{os:Array Oper}{i:Nat}{l:List Nat}{o:Oper}{f:FuncId}{aa:Array Value}{w':World}(hm:fr.mode=.run)(ht:fr.todo=.inRegion os (i::l)::k)(ho:os[i]? = some o)(hw:Region.wanted o (yielded os fr.tmps)=true)
  (hd:∀c,o.op≠.defer c) (hx:(execOp fr.eval o).run P w=.ok (.enter f aa) w'):step P (lone fr cs w)=.next (lone (Frame.enter P f aa .normal) (fr::cs) w'):=
 step_lone_go (by rw[JL hm ht ho hw hd];simp[stepG.apply,hx,ht])
theorem Xl{os:Array Oper}{i:Nat}{l:List Nat}{o:Oper}{n:Nat}{f:FuncId}{tmps:Array Value}{a b:Code}{w':World}(hm:fr.mode=.run)(ht:fr.todo=.inRegion os (i::l)::k)(ho:os[i]? = some o)(hw:Region.wanted o (yielded os fr.tmps)=true)
  (hd:∀c,o.op≠.defer c) (hx:(execOp fr.eval o).run P w=.ok (.round n f tmps a b) w'):step P (lone fr cs w)=.next (lone (Frame.round n f tmps a b .normal) (fr::cs) w'):=
 step_lone_go (by rw[JL hm ht ho hw hd];simp[stepG.apply,hx])
theorem QZ{l:Nat}{jump:Option Code}{w':World}(hm:fr.mode=.run)(ht:fr.todo=.endRangeFunc l::k)(he:(Instr.endLoop l).run P w=.ok jump w') :
  step P (lone fr cs w)=.next (lone {fr with todo:=(jump.map Item.code).toList++k} cs w'):=
 step_lone_go (by simp[stepG,stepG.exec,hm,ht,he])
theorem NU{l:Nat}{w':World}(hm:fr.mode=.run)(hr:fr.roundOf=some l)(ht:fr.todo=.beginRound::k)(he:(Instr.beginRound l).run P w=.ok () w') :
  step P (lone fr cs w)=.next (lone {fr with todo:=k} cs w'):=
 step_lone_go (by simp[stepG,stepG.exec,hm,ht,hr,stepG.apply,he,Frame.finish])
theorem adt{x:Operand}{ps:Array Tmp}{a b:Code}{l:Nat}{mark:List Deferred}{w' w2:World}{f:FuncId}{aa:Array Value}(hm:fr.mode=.run)(ht:fr.todo=.code (.rangeFunc x ps a b)::k)
  (he:(Instr.enterLoop fr.fn fr.tmps ps a b fr.roundOf).run P w=.ok (l,mark) w')
  (hx:(do let d ←resolve fr.eval {callee:=.value x,args:=#[.const (.func (.yield l) #[] #[])],argTypes:=#[]} 0;invoke d.target d.args:Sem Next).run P w'=.ok (.enter f aa) w2) :
  step P (lone fr cs w)=.next (lone (Frame.enter P f aa .normal) ({fr with todo:=.inRangeFunc l::k,defers:=mark++fr.defers}::cs) w2):=by
 refine step_lone_go ?_
 have he':Frame.eval {fn:=fr.fn,tmps:=fr.tmps,todo:=.inRangeFunc l::k,defers:=mark++fr.defers,mode:=.run,kind:=fr.kind,roundOf:=fr.roundOf}=fr.eval:=by funext y;cases y<;>rfl
 have hx':=hx
 simp only[Sem.run_bind] at hx'
 simp[stepG,stepG.exec,hm,ht,he,stepG.apply,he',hx']
end
end Go.Ev
namespace Go.Ev
def eZ(all:Array Oper)(env:Env)(o:Oper)(t:Bool):Prop:=
 match o.guard with
 | none=>t=true
 | some (j,want)=>∃p d,all[j]? = some p∧p.dst=some d∧((∃c v,env.at d=.bool c v∧t=(v==want))∨(env.at d=.qS []∧t=false))
def BG{R:Type}(E:eB R)(env:Env)(m:Mem)(all:Array Oper)(b:Nat):Prop:=
 ∃o,all[b]? = some o∧((eZ all env o false∧o9 env o.dst (.qS []))∨(eZ all env o true∧∃tv v,SF ah E m (gU env) o=some tv∧tv.Is v∧o9 env o.dst v))
def nX{R:Type}(E:eB R)(c:eD):Prop:=
 match c.frames with
 | f::_=>match f.todo with
   | .fA all _ _ bs::_=>∀b∈bs,BG E f.env c.mem all b
   | _=>True
 | []=>True
def ta(f0:FuncId):List bu→Prop
 | []=>False
 | [f]=>f.fn=f0
 | _::g::r=>ta f0 (g::r)
theorem ta.swap{f0:FuncId}{f g:bu}{fs:List bu}(h:ta f0 (f::fs))(e:g.fn=f.fn):ta f0 (g::fs):=by
 cases fs with
 | nil=>exact Eq.trans e h
 | cons x r=>exact h
def Ends{R:Type}(P:Program)(f0:FuncId)(Fin:R→Value→World→Prop)(Q:R→Prop)(fr:Frame)(frs cs:List Frame)(w:World):Prop:=
 ∃y v w' dL,Q y∧Fin y v w'∧Steps P (lone fr (frs++cs) w) (lone dL cs w')∧dL.fn=f0∧dL.leaving P w' (.returned v)
theorem Ends.step{R:Type}{P:Program}{f0:FuncId}{Fin:R→Value→World→Prop}{Q:R→Prop}{fr fr2:Frame}{frs frs2 cs:List Frame}{w w2:World}
  (h:step P (lone fr (frs++cs) w)=.next (lone fr2 (frs2++cs) w2)) (h2:Ends P f0 Fin Q fr2 frs2 cs w2):Ends P f0 Fin Q fr frs cs w:=by
 obtain⟨y,v,w',dL,h1,h3,h4,h5⟩:=h2
 exact⟨y,v,w',dL,h1,h3,.head h h4,h5⟩
theorem Ends.steps{R:Type}{P:Program}{f0:FuncId}{Fin:R→Value→World→Prop}{Q:R→Prop}{fr fr2:Frame}{frs frs2 cs:List Frame}{w w2:World}
  (h:Steps P (lone fr (frs++cs) w) (lone fr2 (frs2++cs) w2)) (h2:Ends P f0 Fin Q fr2 frs2 cs w2):Ends P f0 Fin Q fr frs cs w:=by
 obtain⟨y,v,w',dL,h1,h3,h4,h5⟩:=h2
 exact⟨y,v,w',dL,h1,h3,h.trans h4,h5⟩
def Good{R:Type}(P:Program)(E:eB R)(w0:iP)(I0:Nat→Prop)(f0:FuncId)(Fin:R→Value→World→Prop)(Q:R→Prop)(c:eD):Prop:=
 nX E c→∀(S:St) (fr:Frame) (frs cs:List Frame) (w:World),WR w0 w S c.mem→(∀b,S.I b→I0 b∨w0.free b)→Ax w S c.mem c.frames (fr::frs)→ta f0 c.frames→
  Ends P f0 Fin Q fr frs cs w
def kt(w:World)(I:Nat→Prop):(res:List Ty)→Value→Ty.Ts res→Prop
 | [],v,_=>v=.tuple #[]
 | [t],v,x=>gJ w I t v x
 | t::t2::ts,v,x=>∃us:Array Value,v=.tuple us∧dF w I (t::t2::ts) us.toList x
structure ax.Sound(P:Program)(g:FuncId)(s:ax):Prop where
 calls:∀(w:World) (I:Nat→Prop) (x:Ty.Ts s.args) (aa:Array Value),(∀b,I b→b<w.heap.size)→dF w I s.args aa.toList x→s.pre x=true→
  Calls P g aa w fun e w'=>∃v,e=.returned v∧w'.os=w.os∧w'.tape=w.tape∧w'.output=w.output∧w.heap.size≤w'.heap.size∧(∀b,b<w.heap.size→w'.heap[b]? = w.heap[b]?)∧
   ∃I',(∀b,I' b→I b∨(w.heap.size≤b∧b<w'.heap.size))∧kt w' I' s.res v (s.fn x)
 body:∃F,P.funcs[g]? = some F∧F.body.isSome=true∧(F.name == "runtime.NumGoroutine")=false
def ax.jD(P:Program)(g:FuncId)(s:ax):Prop:=
 ∀(w:World) (I:Nat→Prop) (x:Ty.Ts s.args) (aa:Array Value),(∀b,I b→b<w.heap.size)→dF w I s.args aa.toList x→s.pre x=true→
  Calls P g aa w fun e w'=>w.drawn≤w'.drawn∧∃v,e=.returned v∧w'.os=w.os∧w'.tape=w.tape∧w'.output=w.output∧w.heap.size≤w'.heap.size∧(∀b,b<w.heap.size→w'.heap[b]? = w.heap[b]?)∧
   ∃I',(∀b,I' b→I b∨(w.heap.size≤b∧b<w'.heap.size))∧kt w' I' s.res v (s.fn x)
structure gy.Sound(P:Program)(g:FuncId)(s:gy):Prop where
 calls:∀(w:World) (I:Nat→Prop) (x:s.view.T) (y:Ty.Ts s.args) (b:Nat) (us:Array Value) (T:TypeId) (fr:Nat×Nat) (aa:List Value),(∀b,I b→b<w.heap.size)→w.heap[b]? = some (.cells us T fr)→aS w I s.view us.toList x→
  dF w I s.args aa y→s.pre (x,y)=true→
  Calls P g (Value.pointer (some ⟨b,0,none⟩)::aa).toArray w fun e w'=>∃v,e=.returned v∧w'.os=w.os∧w'.tape=w.tape∧w'.output=w.output∧w.heap.size≤w'.heap.size∧(∀b,b<w.heap.size→w'.heap[b]? = w.heap[b]?)∧
   kt w' (fun _=>False) s.res v (s.fn (x,y))
 body:∃F,P.funcs[g]? = some F∧F.body.isSome=true∧(F.name == "runtime.NumGoroutine")=false
mutual
def VR(w:World)(I:Nat→Prop):(f:VF)→List Value→f.ty.T→List Nat→Prop
 | .d t,us,x,B=>aS w I t us x∧B=[]
 | .own t,us,x,B=>((show List t.T from x)=[]∧B=[]∧∃a,us=[.slice a 0 0])∨
    ((show List t.T from x)≠ []∧∃b dl cap,B=[b]∧us=[.slice (some ⟨b,dl,none⟩) (show List t.T from x).length cap]∧(show List t.T from x).length≤cap∧(show List t.T from x).length≤dD∧
      ∃(vs:Array Value) (T:TypeId) (fr:Nat×Nat),w.heap[b]? = some (.cells vs T fr)∧fq fr vs.size∧dl+cap*t.size≤vs.size∧
       ∀(i:Nat) (y:t.T),(show List t.T from x)[i]? = some y→aS w I t ((vs.toList.drop (dl+i*t.size)).take t.size) y)
 | .ptr fs,us,x,B=>∃b B',B=b::B'∧us=[.pointer (some ⟨b,0,none⟩)]∧
     ∃(vs:Array Value) (T:TypeId) (fr:Nat×Nat),w.heap[b]? = some (.cells vs T fr)∧fq fr vs.size∧nA w I fs vs.toList x B'
 | .kv fs,us,x,B=>∃b,us=[.pointer (some ⟨b,0,none⟩)]∧I b∧
     ∃(vs:Array Value) (T:TypeId) (fr:Nat×Nat),w.heap[b]? = some (.cells vs T fr)∧fq fr vs.size∧nA w I fs vs.toList x B
def nA(w:World)(I:Nat→Prop):(fs:List VF)→List Value→Ty.Ts (VF.fQ fs)→List Nat→Prop
 | [],us,_,B=>us=[]∧B=[]
 | [f],us,x,B=>VR w I f us x B
 | f::g::fs,us,x,B=>∃u1 u2 B1 B2,us=u1++u2∧B=B1++B2∧VR w I f u1 (Prod.fst (α:=f.ty.T) (β:=Ty.Ts (VF.fQ (g::fs))) x) B1∧nA w I (g::fs) u2 (Prod.snd (α:=f.ty.T) (β:=Ty.Ts (VF.fQ (g::fs))) x) B2
end
def h_(rs:List Nat):List Value:=rs.map fun b=>.pointer (some ⟨b,0,none⟩)
def Nk(w:World)(I:Nat→Prop)(rp:Bool)(rs:List Nat)(res:List Ty)(v:Value)(y:Ty.Ts res):Prop:=
 match rp with
 | false=>kt w I res v y
 | true=>(h_ rs).head? = some v
structure bL.Sound(P:Program)(g:FuncId)(s:bL):Prop where
 calls:∀(w:World) (I:Nat→Prop) (x:Ty.Ts (VF.fQ s.ptrs)) (y:Ty.Ts s.args) (rs:List Nat) (aa:List Value) (B:List Nat),(∀b,I b→b<w.heap.size)→nA w I s.ptrs (h_ rs) x B→rs.Nodup→B.Nodup→(∀b∈B,¬I b)→
  dF w I s.args aa y→s.pre (x,y)=true→
  Calls P g (h_ rs++aa).toArray w fun e w'=>∃v,e=.returned v∧w'.os=w.os∧w'.tape=w.tape∧w'.output=w.output∧w.heap.size≤w'.heap.size∧(∀b,b<w.heap.size→b ∉ B→w'.heap[b]? = w.heap[b]?)∧
   ∃(I':Nat→Prop) (B':List Nat),(∀b,I' b→(I b∨b∈B∨w.heap.size≤b)∧b<w'.heap.size)∧(∀(b:Nat) (us:Array Value) (T:TypeId) (fr:Nat×Nat),w.heap[b]? = some (.cells us T fr)→∃(dS:Array Value) (T':TypeId) (dL:Nat×Nat),w'.heap[b]? = some (.cells dS T' dL)∧dS.size=us.size)∧nA w' I' s.ptrs (h_ rs) (s.fn (x,y)).1 B'∧B'.Nodup∧(∀b∈B',(b∈B∨w.heap.size≤b)∧¬I' b)∧Nk w' I' s.rp rs s.res v (s.fn (x,y)).2
 body:∃F,P.funcs[g]? = some F∧F.body.isSome=true∧(F.name == "runtime.NumGoroutine")=false
def fnV(fs:List FuncId):List Value:=fs.map fun f=>.func (.func f) #[] #[]
structure dG.Sound(P:Program)(g:FuncId)(s:dG):Prop where
 calls:∀(w:World) (I:Nat→Prop) (x:List s.elem.T) (y:Ty.Ts s.args) (v:Value) (aa:List Value) (B:List Nat),(∀b,I b→b<w.heap.size)→VR w I (.own s.elem) [v] x B→(∀b∈B,¬I b)→
  dF w I s.args aa y→s.pre (x,y)=true→
  Calls P g (v::(aa++fnV s.dx)).toArray w fun e w'=>∃r,e=.returned r∧w'.os=w.os∧w'.tape=w.tape∧w'.output=w.output∧w.heap.size≤w'.heap.size∧(∀b,b<w.heap.size→b ∉ B→w'.heap[b]? = w.heap[b]?)∧
   ∃I':Nat→Prop,(∀b,I' b→(I b∨w.heap.size≤b)∧b<w'.heap.size)∧(∀(b:Nat) (us:Array Value) (T:TypeId) (fr:Nat×Nat),w.heap[b]? = some (.cells us T fr)→∃(dS:Array Value) (T':TypeId) (dL:Nat×Nat),w'.heap[b]? = some (.cells dS T' dL)∧dS.size=us.size)∧
    VR w' I' (.own s.elem) [v] (s.fn (x,y)).1 B∧kt w' I' s.res r (s.fn (x,y)).2
 body:∃F,P.funcs[g]? = some F∧F.body.isSome=true∧(F.name == "runtime.NumGoroutine")=false
def Yc:List Value→Value
 | [v]=>v
 | vs=>.tuple vs.toArray
def Tw(w0 w:World)(I:Nat→Prop)(f:VF)(opt:Bool)(res:List Ty)(z:Value)(y:Bool×f.ty.T×Ty.Ts res):Prop:=
 ∃(I':Nat→Prop) (B:List Nat) (v:Value) (vs:List Value),z=Yc (v::vs)∧(∀b,I' b→I b∨(w0.heap.size≤b∧b<w.heap.size))∧
  ((opt=true∧y.1=false∧v=.pointer none)∨((opt=true→y.1=true)∧VR w I' f [v] y.2.1 B∧B.Nodup∧∀b∈B,w0.heap.size≤b∧¬I' b))∧dF w I' res vs y.2.2
structure kl.Sound(P:Program)(g:FuncId)(s:kl):Prop where
 calls:∀(w:World) (I:Nat→Prop) (x:Ty.Ts s.args) (aa:Array Value),(∀b,I b→b<w.heap.size)→dF w I s.args aa.toList x→s.pre x=true→
  Calls P g aa w fun e w'=>∃v,e=.returned v∧w'.os=w.os∧w'.tape=w.tape∧w'.output=w.output∧w.heap.size≤w'.heap.size∧(∀b,b<w.heap.size→w'.heap[b]? = w.heap[b]?)∧
   Tw w w' I s.out s.opt s.res v (s.fn x)
 body:∃F,P.funcs[g]? = some F∧F.body.isSome=true∧(F.name == "runtime.NumGoroutine")=false
structure Fits{R:Type}(P:Program)(E:eB R)(Fin:R→Value→World→Prop)(w0:iP)(I0:Nat→Prop):Prop where
 ti:iV P E.ti
 dx:∀g F,look E.dx g=some F→P.funcs[g]? = some F∧(F.name == "runtime.NumGoroutine")=false
 cZ:∀g s,look E.cZ g=some s→s.Sound P g
 mixed:P.follows .mixedOrders=true
 fin:∀(S:St) (w:World) (m:Mem) (av:AV) (y:R) (v:Value),WR w0 w S m→(∀b,S.I b→I0 b∨w0.free b)→E.fin av m=some y→CR w S m av v→Fin y v w
 jH:∀g s,look E.jH g=some s→s.Sound P g
 kR:∀g s,look E.kR g=some s→s.Sound P g
 jP:∀g s,look E.jP g=some s→s.Sound P g
 ops:∀g s,look E.ops g=some s→s.Sound P g
 keep:w0.R.length≤E.keep
 nod:w0.D→(∀g s,look E.cZ g=some s→s.jD P g)∧E.jH=[]∧E.kR=[]∧E.jP=[]∧E.ops=[]
section
variable {P:Program} {R:Type} {E:eB R} {w0:iP} {I0:Nat→Prop} {f0:FuncId} {Fin:R→Value→World→Prop} {Q:R→Prop}
variable {w:World} {S:St} {m:Mem} {f:bu} {fr:Frame} {fs:List bu} {frs cs:List Frame}
theorem jm{x:Nat}(h:∀a∈f.todo.head?,a.B6=false):¬Hid f fr x:=by
 rintro ⟨all,bs,l,k',b,p,h1,_⟩
 cases hh:f.todo.head? with
 | none=>rw[hh] at h1;cases h1
 | some a=>
   rw[hh] at h1
   have:=h a hh
   rw[bH.B6,show a.drawn=some (all,bs) from h1] at this
   cases this
theorem FR.next(hf:FR w S m f fr)(hnh:∀x,¬Hid f fr x){k:List bH}{kc:List Item}(ht:cJ f.n S k kc)(hl:bP m k)(hd:∀a∈k.tail,a.B6=false):FR w S m {f with todo:=k} {fr with todo:=kc}:=
 ⟨hf.fn,hf.n,hf.small,fun i _=>hf.env i (hnh i),ht,hl,hd,hf.defers,hf.marks,hf.mode,hf.kind,hf.cK,hf.nU⟩
theorem cJ.cons_inv{n:Nat}{a:bH}{k:List bH}{l:List Item}(h:cJ n S (a::k) l):∃it kc,l=it::kc∧Am n S a it∧cJ n S k kc:=h
theorem cJ.mk{n:Nat}{a:bH}{k:List bH}{it:Item}{kc:List Item}(h1:Am n S a it)(h2:cJ n S k kc):cJ n S (a::k) (it::kc):=⟨it,kc,rfl,h1,h2⟩
theorem bP.tail{a:bH}{k:List bH}(h:bP m (a::k)):bP m k:=fun b hb=>h b (List.mem_cons_of_mem _ hb)
theorem bP.mk{a:bH}{k:List bH}(ha:match a with | .kw id=>(m.at id).fI=true | .kI id=>(m.at id).fI=true|_=>True)(h:bP m k):bP m (a::k):=fun b hb=>by
 rcases List.mem_cons.1 hb with rfl|hb
 ·exact ha
 ·exact h b hb
theorem df(h:∀a∈f.todo.head?,a.B6=false):nX E {frames:=f::fs,mem:=m}:=by
 unfold nX
 simp only
 split
 ·rename_i all ms rest bs k he
  have:=h (.fA all ms rest bs) (by rw[he];rfl)
  cases this
 ·trivial
theorem fM{k:List bH}{kc:List Item}(hW:WR w0 w S m)(hI:∀b,S.I b→I0 b∨w0.free b)(hf:FR w S m f fr)(hfs:Ax w S m fs frs)(hB:ta f0 (f::fs))(hnh:∀x,¬Hid f fr x)
  (hst:step P (lone fr (frs++cs) w)=.next (lone {fr with todo:=kc} (frs++cs) w)) (ht:cJ f.n S k kc) (hl:bP m k) (hd:∀a∈k,a.B6=false)
  (hg:Good P E w0 I0 f0 Fin Q {frames:={f with todo:=k}::fs,mem:=m}):Ends P f0 Fin Q fr frs cs w:=
 .step hst (hg (df fun a ha=>hd a (by simp only at ha;exact List.mem_of_mem_head? ha)) S _ _ cs w hW hI ⟨_,_,rfl,hf.next hnh ht hl fun a ha=>hd a (List.mem_of_mem_tail ha),hfs⟩ (hB.swap rfl))
end
end Go.Ev
namespace Go.Ev
theorem u9{n:Nat}{S:St}{m:Mem}{id:Nat}:∀{k k':List bH} {kc:List Item},cJ n S k kc→gP id k=some k'→∃kc',exitTo id kc=some kc'∧cJ n S k' kc'∧(bP m k→bP m k')∧(∀a∈k',a∈k)
 | [],k',kc,ht,h=>by cases h
 | a::k,k',kc,ht,h=>by
   obtain⟨it,kc1,rfl,h1,h2⟩:=ht.cons_inv
   have go' (hx:exitTo id (it::kc1)=exitTo id kc1) (h:gP id k=some k'):∃kc',exitTo id (it::kc1)=some kc'∧cJ n S k' kc'∧(bP m (a::k)→bP m k')∧(∀b∈k',b∈a::k):=by
    obtain⟨kc',e1,e2,e3,e4⟩:=u9 (m:=m) h2 h
    exact⟨kc',by rw[hx,e1],e2,fun hl=>e3 hl.tail,fun b hb=>List.mem_cons_of_mem _ (e4 b hb)⟩
   cases a<;>simp only[gP] at h
   case inBlock id'=>
    have h1:it=.inBlock id':=h1
    subst h1
    by_cases hi:id'=id
    ·subst hi
     rw[aY.2 rfl] at h
     cases h
     exact⟨kc1,by simp[exitTo],h2,fun hl=>hl.tail,fun b hb=>List.mem_cons_of_mem _ hb⟩
    ·rw[bq.2 hi] at h
     exact go' (by simp[exitTo,hi]) h
   case code c=>have h1:it=.code c:=h1;subst h1;exact go' rfl h
   case inLoop b=>
    have h1:it=.inLoop b∨it=.code (.loop b):=h1
    rcases h1 with rfl|rfl<;>exact go' rfl h
   case inScope b=>have h1:it=.inScope b:=h1;subst h1;exact go' rfl h
   case ops all rest=>obtain⟨l,rfl,_⟩:∃l:List Nat,it=.inRegion all l∧l.map (fun i=>all[i]?)=rest.map some:=h1;exact go' rfl h
   case fA all ms rest bs=>obtain⟨l,rfl,_⟩:∃l:List Nat,it=.inRegion all l∧fo n all ms rest bs l:=h1;exact go' rfl h
   case qh all ms i rest bs=>obtain⟨l,rfl,_⟩:∃l:List Nat,it=.inRegion all (i::l)∧fo n all ms (i::rest) bs (i::l):=h1;exact go' rfl h
   case kw l=>have h1:it=.inRangeFunc (S.σ l):=h1;subst h1;exact go' rfl h
   case kI l=>have h1:it=.endRangeFunc (S.σ l):=h1;subst h1;exact go' rfl h
   case beginRound=>have h1:it=.beginRound:=h1;subst h1;exact go' rfl h
theorem qo{n:Nat}{S:St}{id:Nat}:∀{k:List bH} {kc:List Item},cJ n S k kc→gP id k=none→exitTo id kc=none
 | [],kc,ht,h=>by have:kc=[]:=ht;subst this;rfl
 | a::k,kc,ht,h=>by
   obtain⟨it,kc1,rfl,h1,h2⟩:=ht.cons_inv
   have go' (hx:exitTo id (it::kc1)=exitTo id kc1) (h:gP id k=none):exitTo id (it::kc1)=none:=by
    rw[hx];exact qo h2 h
   cases a<;>simp only[gP] at h
   case inBlock id'=>
    have h1:it=.inBlock id':=h1
    subst h1
    by_cases hi:id'=id
    ·subst hi
     rw[aY.2 rfl] at h
     cases h
    ·rw[bq.2 hi] at h
     exact go' (by simp[exitTo,hi]) h
   case code c=>have h1:it=.code c:=h1;subst h1;exact go' rfl h
   case inLoop b=>
    have h1:it=.inLoop b∨it=.code (.loop b):=h1
    rcases h1 with rfl|rfl<;>exact go' rfl h
   case inScope b=>have h1:it=.inScope b:=h1;subst h1;exact go' rfl h
   case ops all rest=>obtain⟨l,rfl,_⟩:∃l:List Nat,it=.inRegion all l∧l.map (fun i=>all[i]?)=rest.map some:=h1;exact go' rfl h
   case fA all ms rest bs=>obtain⟨l,rfl,_⟩:∃l:List Nat,it=.inRegion all l∧fo n all ms rest bs l:=h1;exact go' rfl h
   case qh all ms i rest bs=>obtain⟨l,rfl,_⟩:∃l:List Nat,it=.inRegion all (i::l)∧fo n all ms (i::rest) bs (i::l):=h1;exact go' rfl h
   case kw l=>have h1:it=.inRangeFunc (S.σ l):=h1;subst h1;exact go' rfl h
   case kI l=>have h1:it=.endRangeFunc (S.σ l):=h1;subst h1;exact go' rfl h
   case beginRound=>have h1:it=.beginRound:=h1;subst h1;exact go' rfl h
theorem cJ.code{n:Nat}{S:St}{c:Code}{k:List bH}{kc:List Item}(h:cJ n S k kc):cJ n S (.code c::k) (.code c::kc):=.mk (a:=.code c) rfl h
theorem cJ.inLoop{n:Nat}{S:St}{c:Code}{k:List bH}{kc:List Item}(h:cJ n S k kc):cJ n S (.inLoop c::k) (.inLoop c::kc):=.mk (a:=.inLoop c) (.inl rfl) h
theorem cJ.loop{n:Nat}{S:St}{c:Code}{k:List bH}{kc:List Item}(h:cJ n S k kc):cJ n S (.inLoop c::k) (.code (.loop c)::kc):=.mk (a:=.inLoop c) (.inr rfl) h
theorem cJ.inBlock{n:Nat}{S:St}{c:Nat}{k:List bH}{kc:List Item}(h:cJ n S k kc):cJ n S (.inBlock c::k) (.inBlock c::kc):=.mk (a:=.inBlock c) rfl h
theorem cJ.inScope{n:Nat}{S:St}{c:Code}{k:List bH}{kc:List Item}(h:cJ n S k kc):cJ n S (.inScope c::k) (.inScope c::kc):=.mk (a:=.inScope c) rfl h
theorem vh{w:World}{S:St}{m:Mem}{f:bu}{fr:Frame}(hf:FR w S m f fr)(x:Operand)(hx:∀t,x=.tmp t→¬Hid f fr t):CR w S m (gU f.env x) (fr.eval x):=by
 cases x with
 | tmp t=>exact hf.env t (hx t rfl)
 | const v=>exact Jc v
 | global g=>exact dC
 | func g=>exact oT.2 ⟨#[],#[],rfl,aL.2 rfl,aL.2 rfl⟩
section
variable {P:Program} {R:Type} {E:eB R} {w0:iP} {I0:Nat→Prop} {f0:FuncId} {Fin:R→Value→World→Prop} {Q:R→Prop}
variable {w:World} {S:St} {m:Mem} {fr:Frame} {fs:List bu} {frs cs:List Frame}
variable {fn:FuncId} {nn:Nat} {env:Env} {marks:List Nat} {cK:Option Nat} {k:List bH} {n:Nat}
theorem Lu(hcan:∀ks f fs m,(∀a∈f.todo.head?,a.B6=false)→Good P E w0 I0 f0 Fin Q (canon E.keep ks {frames:=f::fs,mem:=m})→Good P E w0 I0 f0 Fin Q {frames:=f::fs,mem:=m})(ih:∀c,Tr.Ok Q (Good P E w0 I0 f0 Fin Q) (run ah E n c)→Good P E w0 I0 f0 Fin Q c)
  {i:bH} (hi:match i with | .inBlock _=>True | .inScope _=>True | .inLoop _=>True | .code x=>(match x with | .skip=>True | .label _=>True | .seq _ _=>True | .cond _ _ _=>True | .block _ _=>True | .loop _=>True | .scope _=>True | .region _ _ false=>True|_=>False) | .ops _ []=>True|_=>False)
  (h:Tr.Ok Q (Good P E w0 I0 f0 Fin Q) (run ah E (n+1) {frames:=⟨fn,nn,env,i::k,marks,cK⟩::fs,mem:=m}))
  (hst:nX E {frames:=⟨fn,nn,env,i::k,marks,cK⟩::fs,mem:=m})
  (hW:WR w0 w S m) (hI:∀b,S.I b→I0 b∨w0.free b) (hf:FR w S m ⟨fn,nn,env,i::k,marks,cK⟩ fr) (hfs:Ax w S m fs frs) (hB:ta f0 (⟨fn,nn,env,i::k,marks,cK⟩::fs)) :
  Ends P f0 Fin Q fr frs cs w:=by
 obtain⟨it,kc,ht,h1,h2⟩:=hf.todo.cons_inv
 have hl:bP m k:=hf.live.tail
 have hd:∀a∈k,a.B6=false:=hf.flat
 have hd1:∀{a:bH},a.B6=false→∀b∈a::k,b.B6=false:=fun ha b hb=>by
  rcases List.mem_cons.1 hb with rfl|hb
  ·exact ha
  ·exact hd b hb
 have hd2:∀{a a':bH},a.B6=false→a'.B6=false→∀b∈a::a'::k,b.B6=false:=fun ha ha' b hb=>by
  rcases List.mem_cons.1 hb with rfl|hb
  ·exact ha
  ·exact hd1 ha' b hb
 have hnh:i.B6=false→∀x,¬Hid ⟨fn,nn,env,i::k,marks,cK⟩ fr x:=fun hne x=>jm fun a ha=>by cases ha;exact hne
 cases i<;>simp only at hi
 case inBlock id=>
  simp only[run] at h
  have h1:it=.inBlock id:=h1
  subst h1
  exact fM hW hI hf hfs hB (hnh rfl) (Ht hf.mode ht) h2 hl hd (ih _ h)
 case inScope b=>
  simp only[run] at h
  have h1:it=.inScope b:=h1
  subst h1
  exact fM hW hI hf hfs hB (hnh rfl) (Il hf.mode ht) h2 hl hd (ih _ h)
 case inLoop b=>
  simp only[run] at h
  cases hs:wP E.stops fn (fH b) with
  | some ks=>rw[hs] at h;exact hcan ks _ _ _ (fun a ha=>by cases ha;rfl) h hst S fr frs cs w hW hI ⟨fr,frs,rfl,hf,hfs⟩ hB
  | none=>
    rw[hs] at h
    have h1:it=.inLoop b∨it=.code (.loop b):=h1
    have hst':step P (lone fr (frs++cs) w)=.next (lone {fr with todo:=.code b :: .inLoop b::kc} (frs++cs) w):=by
     rcases h1 with rfl|rfl
     ·exact C7 hf.mode ht
     ·exact JP hf.mode ht
    exact fM hW hI hf hfs hB (hnh rfl) hst' h2.inLoop.code (.mk trivial (.mk trivial hl)) (hd2 rfl rfl) (ih _ h)
 case ops all rest=>
  cases rest with
  | cons o rest=>exact hi.elim
  | nil=>
    simp only[run] at h
    obtain⟨l,rfl,hl0⟩:∃l:List Nat,it=.inRegion all l∧l.map (fun i=>all[i]?)=([]:List Oper).map some:=h1
    have:l=[]:=by simpa using hl0
    subst this
    exact fM hW hI hf hfs hB (hnh rfl) (zM hf.mode ht) h2 hl hd (ih _ h)
 case code x=>
  have h1:it=.code x:=h1
  subst h1
  replace hnh:=hnh rfl
  cases x<;>(try simp only at hi)
  case skip=>simp only[run] at h;exact fM hW hI hf hfs hB hnh (V7 hf.mode ht) h2 hl hd (ih _ h)
  case label l=>simp only[run] at h;exact fM hW hI hf hfs hB hnh (QR hf.mode ht) h2 hl hd (ih _ h)
  case seq a b=>simp only[run] at h;exact fM hW hI hf hfs hB hnh (YJ hf.mode ht) h2.code.code (.mk trivial (.mk trivial hl)) (hd2 rfl rfl) (ih _ h)
  case block id b=>simp only[run] at h;exact fM hW hI hf hfs hB hnh (QW hf.mode ht) h2.inBlock.code (.mk trivial (.mk trivial hl)) (hd2 rfl rfl) (ih _ h)
  case scope b=>simp only[run] at h;exact fM hW hI hf hfs hB hnh (PX hf.mode ht) h2.inScope.code (.mk trivial (.mk trivial hl)) (hd2 rfl rfl) (ih _ h)
  case loop b=>
   simp only[run] at h
   have hg:=ih _ h
   refine hg (df fun a ha=>by cases ha;rfl) S fr frs cs w hW hI ⟨fr,frs,rfl,?_,hfs⟩ (hB.swap rfl)
   exact⟨hf.fn,hf.n,hf.small,fun i _=>hf.env i (hnh i),by
    show cJ nn S (.inLoop b::k) fr.todo
    rw[ht];exact h2.loop,.mk trivial hl,hd,hf.defers,hf.marks,hf.mode,hf.kind,hf.cK,hf.nU⟩
  case region id os draw=>
   cases draw with
   | true=>exact hi.elim
   | false=>
     simp only[run] at h
     cases hcut:wP E.dd fn (some id) with
     | some ks=>rw[hcut] at h;exact hcan ks _ _ _ (fun a ha=>by cases ha;rfl) h hst S fr frs cs w hW hI ⟨fr,frs,rfl,hf,hfs⟩ hB
     | none=>
     rw[hcut] at h
     refine fM hW hI hf hfs hB hnh (C_ hf.mode ht) (.mk (a:=.ops os os.toList) ⟨_,rfl,?_⟩ h2) (.mk trivial hl) (hd1 rfl) (ih _ h)
     apply List.ext_getElem?
     intro j
     have e:os.toList[j]? = os[j]? :=Array.getElem?_toList
     rw[List.getElem?_map,List.getElem?_map,e]
     by_cases hj:j<os.size
     ·rw[List.getElem?_range hj,Option.map_some,Array.getElem?_eq_getElem hj];rfl
     ·rw[List.getElem?_eq_none (by simpa using hj),Array.getElem?_eq_none (by omega)];rfl
  case cond x a b=>
   have hx:=vh hf x fun t _=>hnh t
   simp only[run] at h
   cases hv:gU env x<;>rw[hv] at h hx<;>(try simp only at h)<;>try exact h.elim
   rename_i c1 v
   have e:=c_.1 hx
   have hstep:=UQ (P:=P) (cs:=frs++cs) (w:=w) hf.mode ht e
   cases c1 with
   | true=>
     simp only at h
     cases v with
     | true=>exact fM hW hI hf hfs hB hnh hstep h2.code (.mk trivial hl) (hd1 rfl) (ih _ h)
     | false=>exact fM hW hI hf hfs hB hnh hstep h2.code (.mk trivial hl) (hd1 rfl) (ih _ h)
   | false=>
     simp only[Tr.Ok] at h
     cases v with
     | true=>exact fM hW hI hf hfs hB hnh hstep h2.code (.mk trivial hl) (hd1 rfl) (ih _ (h.1 rfl))
     | false=>exact fM hW hI hf hfs hB hnh hstep h2.code (.mk trivial hl) (hd1 rfl) (ih _ (h.2 rfl))
end
end Go.Ev
namespace Go.Ev
section
variable {P:Program} {w0:iP} {w:World} {S:St} {m:Mem}
theorem uy{b:Nat}{o o':Obj}(h:w.heap[b]? = some o)(hc:∀us T fr,o≠.cells us T fr):nk w (w.putObj b o') b:=by
 refine⟨rfl,rfl,rfl,rfl,by simp[World.putObj],fun b' hb=>?_,fun us T fr h'=>absurd (Option.some.inj (h.symm.trans h')) (hc us T fr)⟩
 simp[World.putObj,Ne.symm hb]
theorem Li{b:Nat}{o o':Obj}(h:w.heap[b]? = some o):(w.putObj b o').heap[b]? = some o':=by
 have:=(Array.getElem?_eq_some_iff.1 h).1
 simp[World.putObj,this]
theorem P6(hW:WR w0 w S m){d:Nat}(hd:m.at d=.BZ):Step w0 w S m (w.putObj (S.σ d) (.deferred none)) S (m.set d .Mg):=by
 have hb:=hW.box d
 rw[hd] at hb
 have hb:w.heap[S.σ d]? = some (.deferred (some [])):=hb
 have hl:(m.at d).bd=true:=by rw[hd];rfl
 have hf:(m.at d).i_=false:=by rw[hd];rfl
 have hk:dT (m.at d) .Mg:=by rw[hd];trivial
 have ht:=uy (o':=.deferred none) hb (fun _ _ _ h=>by cases h)
 exact⟨hW.set hl hf hk (fun _=>rfl) rfl ht trivial,fL hW hl hf hk (fun _=>rfl) ht,.refl⟩
theorem Ah:∀{ds:List Nat} {m m':Mem} {w:World} {fr:Frame} {cs:List Frame},kM ds m=some m'→WR w0 w S m→fr.mode=.returning→
  fr.defers=ds.map (fun d=>{target:=.collected (S.σ d),args:=#[]})→∃w',Step w0 w S m w' S m'∧Steps P (lone fr cs w) (lone {fr with defers:=[]} cs w')
 | [],m,m',w,fr,cs,h,hW,hm,hd=>by
   cases h
   have e:{fr with defers:=[]}=fr:=by cases fr;simp only at hd;subst hd;rfl
   exact⟨w,.refl hW,by rw[e];exact .refl _ _⟩
 | d::ds,m,m',w,fr,cs,h,hW,hm,hd=>by
   simp only[kM] at h
   cases hmd:m.at d<;>rw[hmd] at h<;>(try simp only at h)<;>try (cases h;done)
   have hs:=P6 hW hmd
   have hb:=hW.box d
   rw[hmd] at hb
   have hb:w.heap[S.σ d]? = some (.deferred (some [])):=hb
   obtain⟨w',h1,h2⟩:=Ah (fr:={fr with defers:=ds.map (fun d=>{target:=.collected (S.σ d),args:=#[]})}) (cs:=cs) h hs.wr hm rfl
   refine⟨w',hs.trans h1,.head (m₁:=lone {fr with defers:=ds.map (fun d=>{target:=.collected (S.σ d),args:=#[]})} cs (w.putObj (S.σ d) (.deferred none))) (step_lone_go ?_) h2⟩
   have ht:(Instr.takeDeferred (S.σ d)).run P w=.ok [] (w.putObj (S.σ d) (.deferred none)):=by
    simp[Instr.takeDeferred,getObj,setObj,Sem.run,hb,World.putObj]
   simp[stepG,hm,unwind,hd,ht]
theorem P8{α:Type}{tv:TV α}{a:α}(h:NZ tv=some a):tv=.leaf a:=by
 cases tv<;>simp[NZ] at h
 rw[h]
def F5(tmps:Array Value):ResultVar→Sem Value
 | .tmp t=>pure (tmps.getD t undef)
 | .cell a t=>do loadVar t (←asAddr (tmps.getD a undef))
theorem y9{R:Type}{E:eB R}(hE:iV P E.ti)(hW:WR w0 w S m){env:Env}{tmps:Array Value}(henv:∀i,CR w S m (env.at i) (tmps.getD i undef)){r:ResultVar}{v:AV}(h:rf ah E env m r=some v) :
  ∃z,(F5 tmps r).run P w=.ok z w∧CR w S m v z:=by
 cases r with
 | tmp t=>simp only[rf] at h;cases h;exact⟨_,rfl,henv t⟩
 | cell a t=>
   simp only[rf] at h
   have hv:(zu ah (E.ti.get t) m (env.at a)).Is v:=by rw[P8 h];rfl
   obtain⟨b,off,u,e,h1,h2⟩:=uE hE hW (henv a) hv
   exact⟨u,by simp[F5,e,asAddr,h1],h2⟩
theorem pX{R:Type}{E:eB R}(hE:iV P E.ti)(hW:WR w0 w S m){env:Env}{tmps:Array Value}(henv:∀i,CR w S m (env.at i) (tmps.getD i undef)):∀{rs:List ResultVar} {vs:List AV},iM ah E env m rs=some vs→
  ∃us:List Value,(rs.mapM (F5 tmps)).run P w=.ok us w∧bC w S m vs us
 | [],vs,h=>by cases h;exact⟨[],by simp,aL.2 rfl⟩
 | r::rs,vs,h=>by
   simp only[iM] at h
   cases hr:rf ah E env m r with
   | none=>rw[hr] at h;cases h
   | some v=>
     rw[hr] at h
     simp only at h
     cases hrs:iM ah E env m rs with
     | none=>rw[hrs] at h;cases h
     | some vs'=>
       rw[hrs] at h
       cases h
       obtain⟨z,h1,h2⟩:=y9 hE hW henv hr
       obtain⟨us,h3,h4⟩:=pX hE hW henv hrs
       exact⟨z::us,by rw[List.mapM_cons];simp only[Sem.run_bind,h1,Result.andThen_ok,h3,Sem.run_pure],aV.2 ⟨z,us,rfl,h2,h4⟩⟩
theorem BO{R:Type}{E:eB R}(hE:iV P E.ti)(hW:WR w0 w S m){env:Env}{tmps:Array Value}(henv:∀i,CR w S m (env.at i) (tmps.getD i undef)){F:Func}{vs:List AV}(h:iM ah E env m F.results.toList=some vs) :
  ∃z,(results F tmps).run P w=.ok z w∧CR w S m (cO vs) z:=by
 obtain⟨us,h1,h2⟩:=pX hE hW henv h
 have hmap:(F.results.mapM (F5 tmps)).run P w=.ok us.toArray w:=by
  rw[Array.mapM_eq_mapM_toList,Sem.run_map]
  rw[h1]
  rfl
 have hres:results F tmps=(do let vs ←F.results.mapM (F5 tmps);pure (if h:vs.size=1 then vs[0] else .tuple vs)):=by
  unfold results
  congr 1
 match vs,us,h2 with
 | [],us,h2=>
   have:=aL.1 h2
   subst this
   exact⟨.tuple #[],by rw[hres,Sem.run_bind,hmap];rfl,fC.2 ⟨_,rfl,aL.2 rfl⟩⟩
 | [v],us,h2=>
   obtain⟨u,r,rfl,h3,h4⟩:=aV.1 h2
   have:=aL.1 h4
   subst this
   exact⟨u,by rw[hres,Sem.run_bind,hmap];rfl,h3⟩
 | v::v2::vs,us,h2=>
   have hl:=h2.length
   refine⟨.tuple us.toArray,?_,fC.2 ⟨_,rfl,h2⟩⟩
   rw[hres,Sem.run_bind,hmap]
   have hne:us.toArray.size≠1:=by rw[List.size_toArray,hl];simp
   simp only[Result.andThen_ok,Sem.run_pure,dif_neg hne]
def BB(tmps:Array Value)(d:Option Nat)(z:Value):Array Value:=
 match d with
 | some d=>tmps.setIfInBounds d z
 | none=>tmps
theorem wT{tmps:Array Value}{d:Option Nat}{z:Value}:(BB tmps d z).size=tmps.size:=by
 cases d<;>simp[BB]
theorem GX{tmps:Array Value}{d:Option Nat}{z:Value}(h:kG tmps.size d=true)(x:Nat):(BB tmps d z).getD x undef=if d=some x then z else tmps.getD x undef:=by
 cases d with
 | none=>simp[BB]
 | some d=>
   have hd:d<tmps.size:=by have:=h;simp only[kG] at this;exact oX this
   simp only[BB,Array.getD_eq_getD_getElem?,Array.getElem?_setIfInBounds,Option.some.injEq]
   by_cases hx:d=x
   ·subst hx;simp[hd]
   ·simp[hx]
theorem KS{f:bu}{tmps:Array Value}{d:Option Nat}{v:AV}{z:Value}(hn:tmps.size=f.n)(hs:f.n≤65535)(hd:kG f.n d=true)(hv:CR w S m v z){H:Nat→Prop}(henv:∀x,¬H x→d≠some x→CR w S m (f.env.at x) (tmps.getD x undef)) :
  ∀x,¬H x→CR w S m ((f.env.iK d v).at x) ((BB tmps d z).getD x undef):=by
 intro x hx
 rw[Env.D_ hd hs,GX (by rw[hn];exact hd)]
 by_cases h:d=some x
 ·rw[if_pos h,if_pos h];exact hv
 ·rw[if_neg h,if_neg h];exact henv x hx h
theorem ol{fr:Frame}{os:Array Oper}{i:Nat}{l:List Nat}{kc:List Item}{z:Value}{o:Oper}(ht:fr.todo=.inRegion os (i::l)::kc)(ho:os[i]? = some o) :
  fr.finish z={fr with tmps:=BB fr.tmps o.dst z,todo:=.inRegion os l::kc}:=by
 simp only[Frame.finish,ht,ho,Option.bind_some]
 cases o.dst<;>rfl
theorem zp{fn:FuncId}{nn:Nat}{env:Env}{all:Array Oper}{o:Oper}{rest:List Oper}{k:List bH}{marks:List Nat}{cK:Option Nat}{fr:Frame}{v:AV}{z:Value}
  (hf:FR w S m ⟨fn,nn,env,.ops all (o::rest)::k,marks,cK⟩ fr) (hd:kG nn o.dst=true) (hv:CR w S m v z):FR w S m ⟨fn,nn,env.iK o.dst v,.ops all rest::k,marks,cK⟩ (fr.finish z):=by
 obtain⟨it,kc,ht,h1,h2⟩:=hf.todo.cons_inv
 obtain⟨l,rfl,hl⟩:∃l:List Nat,it=.inRegion all l∧l.map (fun i=>all[i]?)=(o::rest).map some:=h1
 cases l with
 | nil=>cases hl
 | cons i l=>
   simp only[List.map_cons,List.cons.injEq] at hl
   rw[ol ht hl.1]
   exact⟨hf.fn,wT.trans hf.n,hf.small,fun x _=>KS (f:=⟨fn,nn,env,.ops all (o::rest)::k,marks,cK⟩) (H:=fun _=>False) hf.n hf.small hd hv (fun x _ _=>hf.env x (jm fun a ha=>by cases ha;rfl)) x (fun h=>h),
    .mk (a:=.ops all rest) ⟨l,rfl,hl.2⟩ h2,.mk trivial hf.live.tail,hf.flat,hf.defers,hf.marks,hf.mode,hf.kind,hf.cK,hf.nU⟩
theorem QC.tail{all:Array Oper}{i:Nat}{l:List Nat}(h:QC all (i::l)):QC all l:=by
 have h1:=List.pairwise_cons.1 h.pw
 have h2:=List.nodup_cons.1 h.nodup
 refine⟨h2.2,fun j hj=>h.lt j (List.mem_cons_of_mem _ hj),h1.2,fun j hj=>h.self j (List.mem_cons_of_mem _ hj),fun k hk hkl j hj hjl=>?_⟩
 by_cases hki:k=i
 ·subst hki;exact h1.1 j hjl hj
 ·exact h.closed k hk (fun hm=>(List.mem_cons.1 hm).elim hki hkl) j hj (List.mem_cons_of_mem _ hjl)
theorem Ai.tail{ms l:List Nat}{i:Nat}(h:Ai ms (i::l)):Ai ms l:=fun l1 j l2 e=>h (i::l1) j l2 (by rw[e];rfl)
theorem fo.take{n:Nat}{all:Array Oper}{ms rest bs l:List Nat}{i:Nat}(h:fo n all ms (i::rest) bs (i::l)):fo n all ms rest bs l:=by
 have hn:i ∉ rest++bs∧(rest++bs).Nodup:=List.nodup_cons.1 (by have:=h.nodup;rwa [List.cons_append] at this)
 have hl:=(List.nodup_cons.1 h.YP).1
 refine⟨h.msk.tail,(List.nodup_cons.1 h.YP).2,hn.2,fun j hj=>?_,fun j hj=>?_,h.lt,h.read,h.dst,h.own,h.grd,h.YO⟩
 ·rcases List.mem_cons.1 (h.sub j (List.mem_cons_of_mem _ hj)) with rfl|hm
  ·exact absurd (ku.2 (.inl hj)) hn.1
  ·exact hm
 ·rcases h.cov j (List.mem_cons_of_mem _ hj) with hm|hm
  ·rcases List.mem_cons.1 hm with rfl|hm
   ·exact absurd hj hl
   ·exact .inl hm
  ·exact .inr hm
theorem xM{fn:FuncId}{nn:Nat}{env:Env}{all:Array Oper}{ms:List Nat}{i:Nat}{rest bs:List Nat}{o:Oper}{k:List bH}{marks:List Nat}{cK:Option Nat}{fr:Frame}{v:AV}{z:Value}
  (hf:FR w S m ⟨fn,nn,env,.qh all ms i rest bs::k,marks,cK⟩ fr) (ho:all[i]? = some o) (hd:kG nn o.dst=true) (hv:CR w S m v z):FR w S m ⟨fn,nn,env.iK o.dst v,.fA all ms rest bs::k,marks,cK⟩ (fr.finish z):=by
 obtain⟨it,kc,ht,h1,h2⟩:=hf.todo.cons_inv
 obtain⟨l,rfl,hD⟩:∃l:List Nat,it=.inRegion all (i::l)∧fo nn all ms (i::rest) bs (i::l):=h1
 rw[ol ht ho]
 refine⟨hf.fn,wT.trans hf.n,hf.small,fun x hx=>KS (f:=⟨fn,nn,env,.qh all ms i rest bs::k,marks,cK⟩) (H:=fun x=>Hid ⟨fn,nn,env.iK o.dst v,.fA all ms rest bs::k,marks,cK⟩ {fr with tmps:=BB fr.tmps o.dst z,todo:=.inRegion all l::kc} x) hf.n hf.small hd hv (fun x hx _=>hf.env x fun hh=>hx ?_) x hx,
   .mk (a:=.fA all ms rest bs) ⟨l,rfl,hD.take⟩ h2,.mk trivial hf.live.tail,hf.flat,hf.defers,hf.marks,hf.mode,hf.kind,hf.cK,hf.nU⟩
 obtain⟨all',bs',l',k',b,p,e1,e2,e3,e4,e5,e6⟩:=hh
 cases e1
 rw[ht] at e2
 cases e2
 rcases List.mem_cons.1 e4 with rfl|e4
 ·have hn:b ∉ rest++bs:=(List.nodup_cons.1 (by have:=hD.nodup;rwa [List.cons_append] at this)).1
  exact absurd (ku.2 (.inr e3)) hn
 ·exact⟨all,bs,l,kc,b,p,rfl,rfl,e3,e4,e5,e6⟩
theorem uJ{g g':bu}{fr:Frame}{v:AV}{z:Value}(hf:FR w S m g fr)(hv:CR w S m v z)(h:finish g v=some g'):FR w S m g' (fr.finish z)∧g'.fn=g.fn:=by
 obtain⟨fn,nn,env,todo,marks,cK⟩:=g
 cases todo with
 | nil=>simp[finish] at h
 | cons a k=>
   cases a<;>simp only[finish] at h<;>try (cases h;done)
   case ops all rest=>
    cases rest with
    | nil=>cases h
    | cons o rest=>
      simp only at h
      cases hd:kG nn o.dst with
      | false=>rw[hd] at h;cases h
      | true=>rw[hd] at h;cases h;exact⟨zp hf hd hv,rfl⟩
   case qh all ms i rest bs=>
    cases ho:all[i]? with
    | none=>rw[ho] at h;cases h
    | some o=>
      rw[ho] at h
      simp only at h
      cases hd:kG nn o.dst with
      | false=>rw[hd] at h;cases h
      | true=>rw[hd] at h;cases h;exact⟨xM hf ho hd hv,rfl⟩
   case kw l=>
    cases h
    obtain⟨it,kc,ht,h1,h2⟩:=hf.todo.cons_inv
    have h1:it=.inRangeFunc (S.σ l):=h1
    subst h1
    have e:fr.finish z={fr with todo:=.endRangeFunc (S.σ l)::kc}:=by simp[Frame.finish,ht]
    rw[e]
    refine⟨hf.next (fun _=>jm fun a ha=>by cases ha;rfl) (.mk (a:=.kI l) rfl h2) (.mk ?_ hf.live.tail) hf.flat,rfl⟩
    exact hf.live (.kw l) List.mem_cons_self
end
end Go.Ev
namespace Go.Ev
section
variable {P:Program} {R:Type} {E:eB R} {w0:iP} {I0:Nat→Prop} {f0:FuncId} {Fin:R→Value→World→Prop} {Q:R→Prop}
variable {w:World} {S:St} {m:Mem} {fr:Frame} {fs:List bu} {frs cs:List Frame}
variable {fn:FuncId} {nn:Nat} {env:Env} {marks:List Nat} {cK:Option Nat} {k:List bH} {n:Nat}
theorem lg{all:Array Oper}{o:Oper}{t:Bool}(h:kZ all env o=some t):eZ all env o t:=by
 unfold kZ at h
 unfold eZ
 cases hg:o.guard with
 | none=>rw[hg] at h;cases h;rfl
 | some q=>
   obtain⟨j,want⟩:=q
   rw[hg] at h
   simp only at h ⊢
   cases hp:all[j]? with
   | none=>rw[hp] at h;cases h
   | some p=>
     rw[hp] at h
     simp only at h
     cases hd:p.dst with
     | none=>rw[hd] at h;cases h
     | some d=>
       rw[hd] at h
       simp only at h
       refine⟨p,d,rfl,hd,?_⟩
       cases he:env.at d<;>rw[he] at h<;>(try simp only at h)<;>try (cases h;done)
       case bool c v=>
        cases c<;>simp only at h<;>try (cases h;done)
        cases v<;>cases want<;>cases h<;>exact .inl ⟨_,_,rfl,rfl⟩
       case qS vs=>
        cases vs with
        | nil=>cases h;exact .inr ⟨rfl,rfl⟩
        | cons _ _=>cases h
theorem GI{G:eD→Prop}{v:AV}{t:Tr R}:∀{d:Option Nat},Tr.Ok Q G (QO env d v t)→o9 env d v∧Tr.Ok Q G t
 | none,h=>⟨trivial,h⟩
 | some _,h=>h
theorem vD{G:eD→Prop}{all:Array Oper}:∀{bs:List Nat} {t:Tr R},Tr.Ok Q G (re ah E env m all bs t)→(∀b∈bs,BG E env m all b)∧Tr.Ok Q G t
 | [],t,h=>⟨fun b hb=>absurd hb List.not_mem_nil,h⟩
 | b::bs,t,h=>by
   simp only[re] at h
   cases ho:all[b]? with
   | none=>rw[ho] at h;exact h.elim
   | some o=>
     rw[ho] at h
     simp only at h
     cases hk:kZ all env o with
     | none=>rw[hk] at h;exact h.elim
     | some g=>
       rw[hk] at h
       cases g with
       | false=>
         obtain⟨h1,h2⟩:=GI h
         obtain⟨h3,h4⟩:=vD h2
         refine⟨fun x hx=>?_,h4⟩
         rcases List.mem_cons.1 hx with rfl|hx
         ·exact⟨o,ho,.inl ⟨lg hk,h1⟩⟩
         ·exact h3 x hx
       | true=>
         simp only at h
         cases hv:SF ah E m (gU env) o with
         | none=>rw[hv] at h;exact h.elim
         | some tv=>
           rw[hv] at h
           simp only at h
           obtain⟨v,hv1,h0⟩:=TV.bind_ok h
           obtain⟨h1,h2⟩:=GI h0
           obtain⟨h3,h4⟩:=vD h2
           refine⟨fun x hx=>?_,h4⟩
           rcases List.mem_cons.1 hx with rfl|hx
           ·exact⟨o,ho,.inr ⟨lg hk,tv,v,hv,hv1,h1⟩⟩
           ·exact h3 x hx
theorem zv{G:eD→Prop}{f:bu}{t:Tr R}(h:Tr.Ok Q G (pE ah E f m t)):nX E {frames:=f::fs,mem:=m}∧Tr.Ok Q G t:=by
 unfold pE at h
 unfold nX
 simp only
 split at h
 ·rename_i all ms rest bs k he
  rw[he]
  exact vD h
 ·rename_i hne
  refine⟨?_,h⟩
  split
  ·rename_i all ms rest bs k he
   exact absurd he (hne _ _ _ _ _)
  ·trivial
theorem FL(hP:Fits P E Fin w0 I0)(ih:∀c,Tr.Ok Q (Good P E w0 I0 f0 Fin Q) (run ah E n c)→Good P E w0 I0 f0 Fin Q c){f:bu}
  (h:Tr.Ok Q (Good P E w0 I0 f0 Fin Q) (match kM f.marks m with
     | none=>.bad 139 ""
     | some m=>match look E.dx f.fn with
       | none=>.bad 141 ""
       | some F=>match iM ah E f.env m F.results.toList with
         | none=>.bad 142 ""
         | some vs=>match fs with
           | []=>match E.fin (cO vs) m with
             | some y=>.ret y
             | none=>.bad 143 ""
           | g::gs=>match finish g (cO vs) with
             | some g=>pE ah E g m (run ah E n {frames:=g::gs,mem:=m})
             | none=>.bad 144 ""))
  (hnh:∀x,¬Hid f fr x) (hret:step P (lone fr (frs++cs) w)=.next (lone {fr with mode:=.returning} (frs++cs) w))
  (hW:WR w0 w S m) (hI:∀b,S.I b→I0 b∨w0.free b) (hf:FR w S m f fr) (hfs:Ax w S m fs frs) (hB:ta f0 (f::fs)) :
  Ends P f0 Fin Q fr frs cs w:=by
 cases hm:kM f.marks m with
 | none=>rw[hm] at h;exact h.elim
 | some m1=>
   rw[hm] at h
   simp only at h
   cases hF:look E.dx f.fn with
   | none=>rw[hF] at h;exact h.elim
   | some F=>
     rw[hF] at h
     simp only at h
     cases hr:iM ah E f.env m1 F.results.toList with
     | none=>rw[hr] at h;exact h.elim
     | some vs=>
       rw[hr] at h
       simp only at h
       obtain⟨w1,hs,hsteps⟩:=Ah (P:=P) (fr:={fr with mode:=.returning}) (cs:=frs++cs) hm hW rfl hf.defers
       have henv:∀i,CR w1 S m1 (f.env.at i) (fr.tmps.getD i undef):=fun i=>(hf.env i (hnh i)).mono hs.out
       obtain⟨z,hz,hzc⟩:=BO hP.ti hs.wr henv hr
       have hleave:({fr with mode:=.returning,defers:=[]}:Frame).leaving P w1 (.returned z):=⟨rfl,rfl,hf.kind,F,by rw[←(hP.dx _ _ hF).1,←hf.fn],hz⟩
       have hto:Steps P (lone fr (frs++cs) w) (lone {fr with mode:=.returning,defers:=[]} (frs++cs) w1):=.head hret hsteps
       cases fs with
       | nil=>
         have:frs=[]:=hfs
         subst this
         simp only at h
         cases hy:E.fin (cO vs) m1 with
         | none=>rw[hy] at h;exact h.elim
         | some y=>
           rw[hy] at h
           exact⟨y,z,w1,_,h,hP.fin S w1 m1 _ y z hs.wr hI hy hzc,hto,hf.fn.trans hB,hleave⟩
       | cons g gs=>
         obtain⟨frg,frs',rfl,hg,hgs⟩:=hfs
         simp only at h
         cases hfin:finish g (cO vs) with
         | none=>rw[hfin] at h;exact h.elim
         | some g'=>
           rw[hfin] at h
           obtain⟨hst,h⟩:=zv (fs:=gs) h
           obtain⟨hfg,hfn⟩:=uJ (hg.mono hs.out) hzc hfin
           have hstep2:=step_leave_returned (P:=P) (c:=frg) (cs:=frs'++cs) hleave
           exact .steps (hto.trans (.one hstep2)) (ih _ h hst S _ _ cs w1 hs.wr hI ⟨_,_,rfl,hfg,hgs.mono hs.out⟩ (ta.swap (f:=g) hB hfn))
end
end Go.Ev
namespace Go.Ev
section
variable {P:Program} {R:Type} {E:eB R} {w0:iP} {I0:Nat→Prop} {f0:FuncId} {Fin:R→Value→World→Prop} {Q:R→Prop}
variable {w:World} {S:St} {m:Mem} {fr:Frame} {fs:List bu} {frs cs:List Frame}
variable {fn:FuncId} {nn:Nat} {env:Env} {marks:List Nat} {cK:Option Nat} {k:List bH} {n:Nat}
theorem vR(hW:WR w0 w S m){l:Nat}{r:Gx}(hm:m.at l=.loop r)(st:Nat)(pd:Option Code) :
  ∃lp,w.heap[S.σ l]? = some (.loop lp)∧FC w S m r lp∧Step w0 w S m (w.putObj (S.σ l) (.loop {lp with state:=mE st,pending:=pd})) S (m.set l (.loop {r with state:=st,pending:=pd})):=by
 have hb:=hW.box l
 rw[hm] at hb
 obtain⟨lp,h1,h2⟩:=hb
 refine⟨lp,h1,h2,?_⟩
 have hl:(m.at l).bd=true:=by rw[hm];rfl
 have hf:(m.at l).i_=false:=by rw[hm];rfl
 have hk:dT (m.at l) (.loop {r with state:=st,pending:=pd}):=by rw[hm];trivial
 have ht:=uy (o':=.loop {lp with state:=mE st,pending:=pd}) h1 (fun _ _ _ h=>by cases h)
 have hO:=fL hW hl hf hk (fun _=>rfl) ht
 obtain⟨_,_,g3,g4,g5,g6,g7,g8⟩:=h2
 exact⟨hW.set hl hf hk (fun _=>rfl) rfl ht ⟨_,Li h1,rfl,rfl,g3,g4,g5,g6,g7,fun i=>(g8 i).mono hO⟩,hO,.refl⟩
theorem xN(ih:∀c,Tr.Ok Q (Good P E w0 I0 f0 Fin Q) (run ah E n c)→Good P E w0 I0 f0 Fin Q c){f:bu}{l:Nat}{jump:Option Code}
  (hrnd:f.cK=some l)
  (h:Tr.Ok Q (Good P E w0 I0 f0 Fin Q) (match m.at l with
     | .loop r=>match fs with
       | g::gs=>match finish g (.bool true (CY jump)) with
         | some g=>pE ah E g (m.set l (.loop {r with state:=(zC jump),pending:=jump})) (run ah E n {frames:=g::gs,mem:=m.set l (.loop {r with state:=(zC jump),pending:=jump})})
         | none=>.bad 145 ""
       | []=>.bad 146 ""
     | _=>.bad 147 ""))
  (ht:(fr.todo=[]∧jump=none)∨(∃k,fr.todo=.code .ret::k∧jump=some .ret)∨(∃id k,fr.todo=.code (.exit id)::k∧exitTo id k=none∧jump=some (.exit id))∨(∃id k,fr.todo=.code (.goto id)::k∧gotoIn id k=none∧jump=some (.goto id)))
  (hW:WR w0 w S m) (hI:∀b,S.I b→I0 b∨w0.free b) (hf:FR w S m f fr) (hfs:Ax w S m fs frs) (hB:ta f0 (f::fs)) :
  Ends P f0 Fin Q fr frs cs w:=by
 cases hm:m.at l<;>rw[hm] at h<;>(try simp only at h)<;>try exact h.elim
 rename_i r
 cases fs with
 | nil=>exact h.elim
 | cons g gs=>
   simp only at h
   cases hfin:finish g (.bool true (CY jump)) with
   | none=>rw[hfin] at h;exact h.elim
   | some g'=>
     rw[hfin] at h
     obtain⟨hst,h⟩:=zv (fs:=gs) h
     obtain⟨frg,frs',rfl,hg,hgs⟩:=hfs
     obtain⟨lp,h1,h2,hs⟩:=vR hW hm (zC jump) jump
     have he:(Instr.endRound (S.σ l) jump).run P w=.ok (.bool (CY jump)) (w.putObj (S.σ l) (.loop {lp with state:=mE (zC jump),pending:=jump})):=by
      rw[run_endRound jump h1]
      cases jump<;>rfl
     have hstep:=Lg (P:=P) (g:=frg) (cs:=frs'++cs) hf.mode hf.kind (by rw[hf.cK,hrnd];rfl) ht he
     obtain⟨hfg,hfn⟩:=uJ (hg.mono hs.out) (z:=.bool (CY jump)) (c_.2 rfl) hfin
     exact .step hstep (ih _ h hst S _ _ cs _ hs.wr hI ⟨_,_,rfl,hfg,hgs.mono hs.out⟩ (ta.swap (f:=g) hB hfn))
theorem Mn(ih:∀c,Tr.Ok Q (Good P E w0 I0 f0 Fin Q) (run ah E n c)→Good P E w0 I0 f0 Fin Q c)
  (h:Tr.Ok Q (Good P E w0 I0 f0 Fin Q) (run ah E (n+1) {frames:=⟨fn,nn,env,.beginRound::k,marks,cK⟩::fs,mem:=m}))
  (hW:WR w0 w S m) (hI:∀b,S.I b→I0 b∨w0.free b) (hf:FR w S m ⟨fn,nn,env,.beginRound::k,marks,cK⟩ fr) (hfs:Ax w S m fs frs) (hB:ta f0 (⟨fn,nn,env,.beginRound::k,marks,cK⟩::fs)) :
  Ends P f0 Fin Q fr frs cs w:=by
 obtain⟨it,kc,ht,h1,h2⟩:=hf.todo.cons_inv
 have h1:it=.beginRound:=h1
 subst h1
 simp only[run] at h
 cases cK with
 | none=>exact h.elim
 | some l=>
   simp only at h
   cases hm:m.at l<;>rw[hm] at h<;>(try simp only at h)<;>try exact h.elim
   rename_i r
   cases hs0:Nat.beq r.state 0 with
   | false=>rw[hs0] at h;exact h.elim
   | true=>
     rw[hs0] at h
     simp only at h
     have hs0:=aY.1 hs0
     obtain⟨lp,g1,g2,hs⟩:=vR hW hm 1 r.pending
     have hst:lp.state=.ready:=by rw[g2.1,hs0];rfl
     have hb:=run_beginRound (P:=P) g1 hst
     have hw:({lp with state:=.busy}:Loop)={lp with state:=mE 1,pending:=r.pending}:=by rw[←g2.2.1];rfl
     rw[hw] at hb
     have hstep:=NU (P:=P) (cs:=frs++cs) hf.mode hf.cK ht hb
     have hf':=hf.mono hs.out
     exact .step hstep (ih _ h (df fun a ha=>hf.flat a (List.mem_of_mem_head? ha)) S _ _ cs _ hs.wr hI ⟨_,_,rfl,hf'.next (fun _=>jm fun a ha=>by cases ha;rfl) h2 hf'.live.tail (fun a ha=>hf.flat a (List.mem_of_mem_tail ha)),hfs.mono hs.out⟩ (hB.swap rfl))
theorem Ls(ih:∀c,Tr.Ok Q (Good P E w0 I0 f0 Fin Q) (run ah E n c)→Good P E w0 I0 f0 Fin Q c){l:Nat}
  (h:Tr.Ok Q (Good P E w0 I0 f0 Fin Q) (run ah E (n+1) {frames:=⟨fn,nn,env,.kI l::k,marks,cK⟩::fs,mem:=m}))
  (hW:WR w0 w S m) (hI:∀b,S.I b→I0 b∨w0.free b) (hf:FR w S m ⟨fn,nn,env,.kI l::k,marks,cK⟩ fr) (hfs:Ax w S m fs frs) (hB:ta f0 (⟨fn,nn,env,.kI l::k,marks,cK⟩::fs)) :
  Ends P f0 Fin Q fr frs cs w:=by
 obtain⟨it,kc,ht,h1,h2⟩:=hf.todo.cons_inv
 have h1:it=.endRangeFunc (S.σ l):=h1
 subst h1
 simp only[run] at h
 cases hm:m.at l<;>rw[hm] at h<;>(try simp only at h)<;>try exact h.elim
 rename_i r
 cases hs0:Nat.beq r.state 1 with
 | true=>rw[hs0] at h;exact h.elim
 | false=>
   rw[hs0] at h
   simp only at h
   have hs0:=bq.1 hs0
   obtain⟨lp,g1,g2,hs⟩:=vR hW hm 3 r.pending
   have hst:lp.state≠.busy:=by
    rw[g2.1]
    match hr:r.state,hs0 with
    | 0,_=>simp[mE]
    | 1,h=>exact absurd rfl h
    | 2,_=>simp[mE]
    | n+3,_=>simp[mE]
   have hb:=run_endLoop (P:=P) g1 hst
   have hw:({lp with state:=.exhausted}:Loop)={lp with state:=mE 3,pending:=r.pending}:=by rw[←g2.2.1];rfl
   rw[hw,g2.2.1] at hb
   have hstep:=QZ (P:=P) (cs:=frs++cs) hf.mode ht hb
   have hf':=hf.mono hs.out
   refine .step hstep (ih _ h (df fun a ha=>?_) S _ _ cs _ hs.wr hI ⟨_,_,rfl,hf'.next (fun _=>jm fun a ha=>by cases ha;rfl) ?_ ?_ (fun a ha=>?_),hfs.mono hs.out⟩ (hB.swap rfl))
   ·simp only at ha
    cases hp:r.pending with
    | none=>rw[hp] at ha;exact hf.flat a (List.mem_of_mem_head? ha)
    | some j=>rw[hp] at ha;cases ha;rfl
   ·cases hp:r.pending with
    | none=>exact h2
    | some j=>exact h2.code
   ·have key:∀(pd:Option Code) (M:Mem),bP M k→bP M (match pd with|some j=>.code j::k|none=>k):=fun pd M hM=>by
     cases pd with
     | none=>exact hM
     | some j=>exact .mk trivial hM
    exact key _ _ hf'.live.tail
   ·cases hp:r.pending with
    | none=>rw[hp] at ha;exact hf.flat a (List.mem_of_mem_tail ha)
    | some j=>rw[hp] at ha;exact hf.flat a ha
end
end Go.Ev
namespace Go.Ev
section
variable {P:Program} {R:Type} {E:eB R} {w0:iP} {I0:Nat→Prop} {f0:FuncId} {Fin:R→Value→World→Prop} {Q:R→Prop}
variable {w:World} {S:St} {m:Mem} {fr:Frame} {fs:List bu} {frs cs:List Frame}
variable {fn:FuncId} {nn:Nat} {env:Env} {marks:List Nat} {cK:Option Nat} {k:List bH} {n:Nat}
theorem fJ{g:FuncId}{F:Func}{aa:List AV}{h:bu}{args:Array Value}(hF:P.funcs[g]? = some F)(he:dV g F aa=some h)(ha:bC w S m aa args.toList) :
  FR w S m h (Frame.enter P g args .normal)∧F.body.isSome=true∧∀a∈h.todo.head?,a.B6=false:=by
 unfold dV at he
 cases hb:F.body with
 | none=>rw[hb] at he;cases he
 | some b=>
   rw[hb] at he
   simp only at he
   cases h1:Nat.ble aa.length F.ntmps with
   | false=>rw[h1] at he;cases he
   | true=>
     cases h2:Nat.ble F.ntmps 65535 with
     | false=>rw[h1,h2] at he;cases he
     | true=>
       rw[h1,h2] at he
       cases he
       have h1:=oX h1
       have h2:=oX h2
       have hlen:args.size=aa.length:=by rw[←Array.length_toList];exact ha.length
       refine⟨⟨rfl,?_,h2,fun i _=>?_,?_,.mk trivial fun a ha=>absurd ha List.not_mem_nil,fun a ha=>absurd ha List.not_mem_nil,rfl,fun d hd=>absurd hd List.not_mem_nil,rfl,rfl,rfl,fun l hl=>by cases hl⟩,rfl,fun a ha=>by cases ha;rfl⟩
       ·simp only[Frame.enter,hF,Option.map_some,Option.getD_some,Array.size_append,Array.size_replicate]
        omega
       ·rw[Env.Wz (by omega),Env.JM]
        by_cases hi:0≤i∧i<0+aa.length
        ·rw[if_pos hi,Nat.sub_zero]
         have hx:aa[i]? = some (aa.getD i .undef):=by
          rw[nE,uX (by omega)];rfl
         obtain⟨v,hv,hc⟩:=ha.get hx
         have hv':args[i]? = some v:=by rw[←Array.getElem?_toList];exact hv
         have:(Frame.enter P g args .normal).tmps.getD i undef=v:=by
          simp only[Frame.enter,Array.getD_eq_getD_getElem?]
          rw[Array.getElem?_append_left (by omega),hv'];rfl
         rw[this];exact hc
        ·rw[if_neg hi];exact dC
       ·have:(Frame.enter P g args .normal).todo=[.code b]:=by simp[Frame.enter,hF,hb]
        rw[this]
        exact cJ.code rfl
theorem Ey{g:FuncId}{F:Func}{args:Array Value}(hF:P.funcs[g]? = some F)(hn:(F.name == "runtime.NumGoroutine")=false)(hb:F.body.isSome=true)(w:World):(callFunc g args).run P w=.ok (.enter g args) w:=by
 simp only[beq_eq_false_iff_ne,ne_eq] at hn
 have hne:F.body≠none:=fun e=>by rw[e] at hb;cases hb
 simp[callFunc,hF,hn,hne]
theorem jj{ρ:Operand→Value}{x:Operand}{args:Array Operand}{ats:Array TypeId}{t:TypeId}{g:FuncId}{F:Func}{us vs:Array Value}(hx:ρ x=.func (.func g) us vs)(hF:P.funcs[g]? = some F)(hn:(F.name == "runtime.NumGoroutine")=false)(hb:F.body.isSome=true)(w:World) :
  (do let d ←resolve ρ {callee:=.value x,args:=args,argTypes:=ats} t;invoke d.target d.args:Sem Next).run P w=.ok (.enter g (us++args.map ρ++vs)) w:=by
 simp only[resolve,hx,Deferred.ofValue,Sem.run_bind,Sem.run_pure,Result.andThen_ok,invoke]
 exact Ey hF hn hb w
theorem FU(hW:WR w0 w S m){o:Obj}{bx:il}(hl:bx.bd=true)(hf:bx.i_=false)
  (hb:bw w S m (w.alloc o) (S.push m.length w.heap.size 0 false) (m ++ [bx])→rW (w.alloc o) (S.push m.length w.heap.size 0 false) (m ++ [bx]) m.length bx) :
  Step w0 w S m (w.alloc o) (S.push m.length w.heap.size 0 false) (m ++ [bx]):=by
 have hO:=gM hW o bx 0 false
 have:=Step.push hW (o:=o) (bx:=bx) (d:=0) (by rw[hf];exact hb hO)
 rw[hf] at this
 exact this
theorem Ln(hW:WR w0 w S m){f:bu}(hf:FR w S m f fr)(hnh:∀x,¬Hid f fr x){ps:Array Tmp}{a b:Code}(dv:Nat) :
  Step w0 w S m (w.alloc (.loop {state:=.ready,pending:=none,fn:=fr.fn,tmps:=fr.tmps,params:=ps,assign:=a,body:=b,defers:=dv})) (S.push m.length w.heap.size 0 false)
   (m ++ [.loop {fn:=f.fn,n:=f.n,env:=f.env,params:=ps.toList,assign:=a,body:=b,state:=0,pending:=none}]):=by
 refine FU hW rfl rfl fun hO=>⟨{state:=.ready,pending:=none,fn:=fr.fn,tmps:=fr.tmps,params:=ps,assign:=a,body:=b,defers:=dv},?_,rfl,rfl,hf.fn,?_,rfl,rfl,⟨hf.n,hf.small⟩,fun i=>(hf.env i (hnh i)).mono hO⟩
 ·simp only[St.push,if_pos];exact heap_alloc_new w _
 ·simp
theorem Mx{w':World}{b:Nat}{r:Gx}:CR w' (S.push m.length b 0 false) (m ++ [.loop r]) (.yield m.length) (.func (.yield b) #[] #[]):=by
 rw[CR,Mem.bY]
 simp only[St.push,if_pos]
theorem By(hP:Fits P E Fin w0 I0)(ih:∀c,Tr.Ok Q (Good P E w0 I0 f0 Fin Q) (run ah E n c)→Good P E w0 I0 f0 Fin Q c){x:Operand}{ps:Array Tmp}{a b:Code}
  (h:Tr.Ok Q (Good P E w0 I0 f0 Fin Q) (run ah E (n+1) {frames:=⟨fn,nn,env,.code (.rangeFunc x ps a b)::k,marks,cK⟩::fs,mem:=m}))
  (hW:WR w0 w S m) (hI:∀b,S.I b→I0 b∨w0.free b) (hf:FR w S m ⟨fn,nn,env,.code (.rangeFunc x ps a b)::k,marks,cK⟩ fr) (hfs:Ax w S m fs frs) (hB:ta f0 (⟨fn,nn,env,.code (.rangeFunc x ps a b)::k,marks,cK⟩::fs)) :
  Ends P f0 Fin Q fr frs cs w:=by
 obtain⟨it,kc,ht,h1,h2⟩:=hf.todo.cons_inv
 have h1:it=.code (.rangeFunc x ps a b):=h1
 subst h1
 have hnh:∀y,¬Hid ⟨fn,nn,env,.code (.rangeFunc x ps a b)::k,marks,cK⟩ fr y:=fun _=>jm fun a ha=>by cases ha;rfl
 have hx:=vh hf x fun t _=>hnh t
 simp only[run] at h
 cases hv:gU env x<;>rw[hv] at h hx<;>(try simp only at h)<;>try exact h.elim
 rename_i g first caps
 cases first with
 | cons _ _=>exact h.elim
 | nil=>
   obtain⟨us,vs,hxe,hus,hvs⟩:=oT.1 hx
   have hus:us=#[]:=Array.toList_eq_nil_iff.1 (aL.1 hus)
   subst hus
   simp only at h
   -- the world in which the record is laid
   have main:∀{S1:St} {m1:Mem} {w1:World} {marks1:List Nat} {mark:List Deferred} {dv:Nat},Step w0 w S m w1 S1 m1→
     (Instr.enterLoop fr.fn fr.tmps ps a b fr.roundOf).run P w=.ok (w1.heap.size,mark) (w1.alloc (.loop {state:=.ready,pending:=none,fn:=fr.fn,tmps:=fr.tmps,params:=ps,assign:=a,body:=b,defers:=dv}))→
     mark++fr.defers=marks1.map (fun d=>{target:=.collected (S1.σ d),args:=#[]})→(∀d∈marks1,(m1.at d).fI=true)→
     Tr.Ok Q (Good P E w0 I0 f0 Fin Q) (match look E.dx g with
         | none=>.bad 159 ""
         | some G=>match dV g G (.yield m1.length::caps) with
           | none=>.bad 160 ""
           | some h=>run ah E n {frames:=h::⟨fn,nn,env,.kw m1.length::k,marks1,cK⟩::fs,mem:=m1 ++ [.loop {fn:=fn,n:=nn,env:=env,params:=ps.toList,assign:=a,body:=b,state:=0,pending:=none}]})→
     Ends P f0 Fin Q fr frs cs w:=by
    intro S1 m1 w1 marks1 mark dv s1 he hmk hmc h
    cases hG:look E.dx g with
    | none=>rw[hG] at h;exact h.elim
    | some G=>
      rw[hG] at h
      simp only at h
      cases hen:dV g G (.yield m1.length::caps) with
      | none=>rw[hen] at h;exact h.elim
      | some h'=>
        rw[hen] at h
        simp only at h
        have s2:=Ln s1.wr (hf.mono s1.out) hnh (ps:=ps) (a:=a) (b:=b) dv
        have s12:=s1.trans s2
        obtain⟨hGf,hGn⟩:=hP.dx _ _ hG
        have hargs:bC (w1.alloc (.loop {state:=.ready,pending:=none,fn:=fr.fn,tmps:=fr.tmps,params:=ps,assign:=a,body:=b,defers:=dv})) (S1.push m1.length w1.heap.size 0 false) (m1 ++ [.loop {fn:=fn,n:=nn,env:=env,params:=ps.toList,assign:=a,body:=b,state:=0,pending:=none}])
          (.yield m1.length::caps) (#[Value.func (.yield w1.heap.size) #[] #[]]++vs).toList:=aV.2 ⟨.func (.yield w1.heap.size) #[] #[],vs.toList,by simp,Mx,hvs.mono s12.out⟩
        obtain⟨hfr,hbody,hnh'⟩:=fJ hGf hen hargs
        have hcall:=jj (ρ:=fr.eval) (x:=x) (args:=#[.const (.func (.yield w1.heap.size) #[] #[])]) (ats:=#[]) (t:=0) hxe hGf hGn hbody (w1.alloc (.loop {state:=.ready,pending:=none,fn:=fr.fn,tmps:=fr.tmps,params:=ps,assign:=a,body:=b,defers:=dv}))
        have hcall':(#[]:Array Value) ++ #[Operand.const (.func (.yield w1.heap.size) #[] #[])].map fr.eval++vs=#[Value.func (.yield w1.heap.size) #[] #[]]++vs:=by simp[Frame.eval]
        rw[hcall'] at hcall
        have hstep:=adt (P:=P) (cs:=frs++cs) hf.mode ht he hcall
        have hf2:=hf.mono s12.out
        have hlast:Mem.at (m1 ++ [.loop {fn:=fn,n:=nn,env:=env,params:=ps.toList,assign:=a,body:=b,state:=0,pending:=none}]) m1.length=.loop {fn:=fn,n:=nn,env:=env,params:=ps.toList,assign:=a,body:=b,state:=0,pending:=none}:=Mem.bY
        have hσ:(S1.push m1.length w1.heap.size 0 false).σ m1.length=w1.heap.size:=by simp only[St.push,if_pos]
        refine .step (frs2:={fr with todo:=.inRangeFunc w1.heap.size::kc,defers:=mark++fr.defers}::frs) hstep (ih _ h (df fun a ha=>?_) _ _ _ cs _ s12.wr (fun b hb=>(s12.grows b hb).elim (hI b) .inr) ⟨_,_,rfl,hfr,_,_,rfl,?_,hfs.mono s12.out⟩ (ta.swap (g:=⟨fn,nn,env,.kw m1.length::k,marks1,cK⟩) hB rfl))
        ·exact hnh' a ha
        ·have hf3:=hf2.next hnh (k:=.kw m1.length::k) (kc:=.inRangeFunc w1.heap.size::kc) (.mk (a:=.kw m1.length) (by show _=_;rw[hσ]) (cJ.mono s12.out hf.live.tail h2)) (.mk (by show(Mem.at _ _).fI=true;rw[hlast];rfl) hf2.live.tail) hf.flat
         refine⟨hf3.fn,hf3.n,hf3.small,hf3.env,hf3.todo,hf3.live,hf3.flat,?_,fun d hd=>s2.out.ctl d (hmc d hd),hf3.mode,hf3.kind,hf3.cK,hf3.nU⟩
         show mark++fr.defers=_
         rw[hmk]
         exact List.map_congr_left fun d hd=>by rw[vl s2.out (hmc d hd)]
   cases cK with
   | none=>
     simp only at h
     have s1:Step w0 w S m (w.alloc (.deferred (some []))) (S.push m.length w.heap.size 0 false) (m ++ [.BZ]):=FU hW rfl rfl fun _=>by
      show(w.alloc (.deferred (some []))).heap[(S.push m.length w.heap.size 0 false).σ m.length]? = _
      simp only[St.push,if_pos];exact heap_alloc_new w _
     have hσ:(S.push m.length w.heap.size 0 false).σ m.length=w.heap.size:=by simp only[St.push,if_pos]
     refine main (marks1:=m.length::marks) (mark:=[{target:=.collected w.heap.size,args:=#[]}]) (dv:=w.heap.size) s1 ?_ ?_ ?_ h
     ·rw[hf.cK]
      show(Instr.enterLoop fr.fn fr.tmps ps a b none).run P w=_
      rw[run_enterLoop_outer,World.size_alloc]
     ·rw[List.map_cons,hσ,hf.defers,List.singleton_append]
      congr 1
      exact List.map_congr_left fun d hd=>by rw[vl s1.out (hf.marks d hd)]
     ·intro d hd
      rcases List.mem_cons.1 hd with rfl|hd
      ·rw[Mem.bY];rfl
      ·exact s1.out.ctl d (hf.marks d hd)
   | some l0=>
     simp only at h
     cases hm0:m.at l0<;>rw[hm0] at h<;>(try simp only at h)<;>try exact h.elim
     have hb:=hW.box l0
     rw[hm0] at hb
     obtain⟨lp,g1,_⟩:=hb
     refine main (marks1:=marks) (mark:=[]) (dv:=lp.defers) (.refl hW) ?_ (by rw[List.nil_append];exact hf.defers) hf.marks h
     rw[hf.cK]
     show(Instr.enterLoop fr.fn fr.tmps ps a b (some (S.σ l0))).run P w=_
     simp[Instr.enterLoop,Sem.run_bind,run_getLoop g1]
end
end Go.Ev
namespace Go.Ev
section
variable {P:Program} {R:Type} {E:eB R} {w0:iP} {I0:Nat→Prop} {f0:FuncId} {Fin:R→Value→World→Prop} {Q:R→Prop}
variable {w:World} {S:St} {m:Mem} {fr:Frame} {fs:List bu} {frs cs:List Frame}
variable {fn:FuncId} {nn:Nat} {env:Env} {marks:List Nat} {cK:Option Nat} {k:List bH} {n:Nat}
theorem Ew{all:Array Oper}{tmps:Array Value}{j d:Nat}{p:Oper}{v:Bool}(hp:all[j]? = some p)(hd:p.dst=some d)(h:tmps.getD d undef=.bool v):yielded all tmps j=some v:=by
 have hlt:d<tmps.size:=by
  rcases Nat.lt_or_ge d tmps.size with h'|h'
  ·exact h'
  ·rw[Array.getD_eq_getD_getElem?,Array.getElem?_eq_none h'] at h;cases h
 have:tmps[d]? = some (.bool v):=by
  rw[Array.getD_eq_getD_getElem?,Array.getElem?_eq_getElem hlt] at h
  rw[Array.getElem?_eq_getElem hlt,←h];rfl
 simp[yielded,hp,hd,this]
theorem Fp{all:Array Oper}{tmps:Array Value}{j d:Nat}{p:Oper}(hp:all[j]? = some p)(hd:p.dst=some d)(h:tmps.getD d undef=.tuple #[]):yielded all tmps j=none:=by
 cases hx:tmps[d]? with
 | none=>simp[yielded,hp,hd,hx]
 | some u=>
   rw[Array.getD_eq_getD_getElem?,hx] at h
   have h:u=.tuple #[]:=h
   subst h
   simp[yielded,hp,hd,hx]
theorem mP{all:Array Oper}{o:Oper}{t:Bool}{tmps:Array Value}(h:eZ all env o t)(hc:∀d∈dO all o,CR w S m (env.at d) (tmps.getD d undef)):Region.wanted o (yielded all tmps)=t:=by
 unfold eZ at h
 unfold dO at hc
 cases hg:o.guard with
 | none=>rw[hg] at h;simp only at h;rw[h];simp[Region.wanted,hg]
 | some q=>
   obtain⟨j,want⟩:=q
   rw[hg] at h hc
   simp only at h hc
   obtain⟨p,d,hp,hd,h⟩:=h
   rw[hp] at hc
   simp only[hd] at hc
   have hcd:=hc d List.mem_cons_self
   rcases h with ⟨c,v,he,rfl⟩|⟨he,rfl⟩
   ·rw[he] at hcd
    simp only[Region.wanted,hg,Ew hp hd (c_.1 hcd)]
    cases v<;>cases want<;>rfl
   ·rw[he] at hcd
    obtain⟨us,hu,hnil⟩:=fC.1 hcd
    have:us=#[]:=Array.toList_eq_nil_iff.1 (aL.1 hnil)
    subst this
    simp only[Region.wanted,hg,Fp hp hd hu]
    rfl
theorem Bh{G:eD→Prop}{all:Array Oper}{o:Oper}{yes no:Env→Tr R}(h:Tr.Ok Q G (yF all env o yes no))(hs:∀d∈dO all o,∀c v,env.at d=.bool c v→d≤65535) :
  ∃env':Env,(∀x,env'.at x=env.at x∨(x∈dO all o∧∃v,env.at x=.bool false v∧env'.at x=.bool true v))∧((eZ all env' o true∧Tr.Ok Q G (yes env'))∨(eZ all env' o false∧Tr.Ok Q G (no env'))):=by
 unfold yF at h
 unfold dO at hs ⊢
 unfold eZ
 cases hg:o.guard with
 | none=>rw[hg] at h;exact⟨env,fun _=>.inl rfl,.inl ⟨rfl,h⟩⟩
 | some q=>
   obtain⟨j,want⟩:=q
   rw[hg] at h hs
   simp only at h hs ⊢
   cases hp:all[j]? with
   | none=>rw[hp] at h;exact h.elim
   | some p=>
     rw[hp] at h hs
     simp only at h hs ⊢
     cases hd:p.dst with
     | none=>rw[hd] at h;exact h.elim
     | some d=>
       rw[hd] at h hs
       simp only at h hs ⊢
       cases he:env.at d<;>rw[he] at h<;>(try simp only at h)<;>try exact h.elim
       case bool c v=>
        have hd6:=hs d List.mem_cons_self c v he
        have hput:∀b:Bool,b=v→c=false→∀x,(env.put d (.bool true b)).at x=env.at x∨(x∈ [d]∧∃v,env.at x=.bool false v∧(env.put d (.bool true b)).at x=.bool true v):=by
         intro b hb hc x
         rw[Env.s8 hd6]
         by_cases hx:x=d
         ·subst hx
          rw[if_pos rfl]
          exact .inr ⟨List.mem_cons_self,v,by rw[he,hc],by rw[hb]⟩
         ·rw[if_neg hx];exact .inl rfl
        have hat:∀b:Bool,(env.put d (.bool true b)).at d=.bool true b:=fun b=>by rw[Env.s8 hd6,if_pos rfl]
        cases c with
        | true=>
          simp only at h
          cases v<;>cases want<;>simp only at h
          ·exact⟨env,fun _=>.inl rfl,.inl ⟨⟨p,d,rfl,hd,.inl ⟨true,false,he,rfl⟩⟩,h⟩⟩
          ·exact⟨env,fun _=>.inl rfl,.inr ⟨⟨p,d,rfl,hd,.inl ⟨true,false,he,rfl⟩⟩,h⟩⟩
          ·exact⟨env,fun _=>.inl rfl,.inr ⟨⟨p,d,rfl,hd,.inl ⟨true,true,he,rfl⟩⟩,h⟩⟩
          ·exact⟨env,fun _=>.inl rfl,.inl ⟨⟨p,d,rfl,hd,.inl ⟨true,true,he,rfl⟩⟩,h⟩⟩
        | false=>
          simp only at h
          cases want with
          | true=>
            cases v with
            | true=>exact⟨_,hput true rfl rfl,.inl ⟨⟨p,d,rfl,hd,.inl ⟨true,true,hat true,rfl⟩⟩,h.1 rfl⟩⟩
            | false=>exact⟨_,hput false rfl rfl,.inr ⟨⟨p,d,rfl,hd,.inl ⟨true,false,hat false,rfl⟩⟩,h.2 rfl⟩⟩
          | false=>
            cases v with
            | true=>exact⟨_,hput true rfl rfl,.inr ⟨⟨p,d,rfl,hd,.inl ⟨true,true,hat true,rfl⟩⟩,h.1 rfl⟩⟩
            | false=>exact⟨_,hput false rfl rfl,.inl ⟨⟨p,d,rfl,hd,.inl ⟨true,false,hat false,rfl⟩⟩,h.2 rfl⟩⟩
       case qS vs=>
        cases vs with
        | nil=>exact⟨env,fun _=>.inl rfl,.inr ⟨⟨p,d,rfl,hd,.inr ⟨he,trivial⟩⟩,h⟩⟩
        | cons _ _=>exact h.elim
end
end Go.Ev
namespace Go.Ev
section
variable {P:Program} {w0:iP} {w:World} {S:St} {m:Mem}
theorem qp{A:aI}:∀{cs:List AV} {m:Mem},lk cs=true→bS A m cs=some (m,cs)
 | [],m,_=>rfl
 | v::vs,m,h=>by
   cases v<;>simp only[lk] at h<;>(try cases h;done)<;>simp only[bS,qp h]
theorem dE{w0:iP}{w:World}{ts:List Ty}{cs:List AV}{m m1:Mem}{cs1:List AV}{S:St}{us:List Value}(hW:WR w0 w S m)(h:bO ah ts m cs=some (m1,cs1))(hc:bC w S m cs us):∃S1,Step w0 w S m w S1 m1∧bC w S1 m1 cs1 us:=by
 unfold bO at h
 cases ho:vJ ah (Ty.ym ts) m cs with
 | none=>rw[ho] at h;cases h
 | some q=>
   obtain⟨m2,cs2⟩:=q
   rw[ho] at h
   simp only at h
   obtain⟨S2,s2,h2⟩:=qz hW ho hc
   obtain⟨S3,s3,h3⟩:=fw s2.wr h h2
   exact⟨S3,s2.trans s3,h3⟩
theorem w7{A:aI}:∀{ks:List (Option Ty)} {cs:List AV} {m:Mem},lk cs=true→vJ A ks m cs=some (m,cs)
 | [],cs,m,_=>rfl
 | _::_, [],m,_=>rfl
 | k::ks,v::vs,m,h=>by
   cases v<;>simp only[lk] at h<;>(try cases h;done)<;>simp only[vJ,uz,w7 h]
theorem Bs{A:aI}{ts:List Ty}{cs:List AV}{m:Mem}(h:lk cs=true):bO A ts m cs=some (m,cs):=by
 rw[bO,w7 h]
 exact qp h
theorem Step.extend{w':World}(hW:WR w0 w S m)(hos:w'.os=w.os)(htp:w'.tape=w.tape)(hdr:w0.D→w.drawn≤w'.drawn)(hout:w'.output=w.output)(hsz:w.heap.size≤w'.heap.size)(hb:∀b,b<w.heap.size→w'.heap[b]? = w.heap[b]?)
  {I':Nat→Prop} (hI':∀b,I' b→S.I b∨(w.heap.size≤b∧b<w'.heap.size)):Step w0 w S m w' {S with I:=fun b=>S.I b∨I' b} m:=by
 have hO:bw w S m w' {S with I:=fun b=>S.I b∨I' b} m:=by
  refine⟨fun b h=>⟨.inl h,hb b (hW.jl b h)⟩,fun id hbad=>⟨bV hbad,fun _=>⟨rfl,rfl,fun _ us T fr h=>⟨us,T,fr,?_,rfl⟩⟩⟩,fun _ h=>h⟩
  rw[hb _ (Array.getElem?_eq_some_iff.1 h).1];exact h
 refine⟨⟨hos.trans hW.os,hW.tape.on htp hdr,hout.trans hW.output,Nat.le_trans hW.size hsz,fun b h=>?_,fun b h=>?_,fun id=>?_,hW.inj,fun id h=>?_,fun id h h'=>?_,fun id h=>.inl (hW.Cu id h),hW.root,fun b us T fr h=>by
  obtain⟨dS,T',dL,h1,h2⟩:=hW.cells b us T fr h
  exact⟨dS,T',dL,by rw[hb b (Array.getElem?_eq_some_iff.1 h1).1];exact h1,h2⟩⟩,hO,fun b h=>?_⟩
 ·rw[hb b (Nat.lt_of_lt_of_le (iP.old h) hW.size)];exact hW.base b h
 ·rcases h with h|h
  ·exact Nat.lt_of_lt_of_le (hW.jl b h) hsz
  ·rcases hI' b h with h|h
   ·exact Nat.lt_of_lt_of_le (hW.jl b h) hsz
   ·exact h.2
 ·exact(hW.box id).mono hO rfl rfl fun hl=>hb _ (hW.lo id hl).2
 ·exact⟨(hW.lo id h).1.imp .inl (fun x=>x),Nat.lt_of_lt_of_le (hW.lo id h).2 hsz⟩
 ·rintro (hI|hI)
  ·exact hW.lT id h h' hI
  ·rcases hI' _ hI with hI|hI
   ·exact hW.lT id h h' hI
   ·have:=(hW.lo id h).2
    have h1:w.heap.size≤S.σ id:=hI.1
    omega
 ·rcases h with h|h
  ·exact .inl h
  ·rcases hI' b h with h|h
   ·exact .inl h
   ·exact .inr (.inl (Nat.le_trans hW.size h.1))
theorem gJ.weaken{I I':Nat→Prop}(hI:∀b,I b→I' b){t:Ty}{v:Value}{x:t.T}(h:gJ w I t v x):gJ w I' t v x:=by
 unfold gJ at h ⊢
 split
 ·rename_i ht
  rw[if_pos ht] at h
  obtain⟨us,e,h⟩:=h
  exact⟨us,e,aS.mono (fun b hb=>⟨hI b hb,rfl⟩) t h⟩
 ·rename_i ht
  rw[if_neg ht] at h
  exact aS.mono (fun b hb=>⟨hI b hb,rfl⟩) t h
theorem Ty.PS{t:Ty}(h:t.isAgg=false):t.size=1:=by cases t<;>first|rfl|cases h
theorem J0{t:Ty}{v:AV}{u:Value}(h:(match t.isAgg,v with|true,.agg cs=>Nat.beq cs.length t.size|true,_=>false|false,.agg _=>false|false,_=>true)=true)(hc:CR w S m v u) :
  ∃L:List Value,bC w S m v.cells L∧L.length=t.size∧∀(I:Nat→Prop) (x:t.T),aS w I t L x→gJ w I t u x:=by
 cases ht:t.isAgg with
 | true=>
   rw[ht] at h
   cases v<;>simp only at h<;>try (cases h;done)
   rename_i cs
   obtain⟨us,rfl,hcs⟩:=ou.1 hc
   refine⟨us.toList,hcs,by rw[hcs.length];exact mI h,fun I x hx=>?_⟩
   rw[gJ,if_pos ht]
   exact⟨us,rfl,hx⟩
 | false=>
   rw[ht] at h
   have hcells:v.cells=[v]:=by cases v<;>first|rfl|(simp only at h;cases h)
   refine⟨[u],by rw[hcells];exact aV.2 ⟨u, [],rfl,hc,aL.2 rfl⟩,(Ty.PS ht).symm,fun I x hx=>?_⟩
   rw[gJ,if_neg (by rw[ht];decide)]
   exact hx
theorem jf:∀{ts:List Ty} {vs:List AV} {us:List Value},cn ts vs=true→bC w S m vs us→
  ∃L:List Value,bC w S m (vs.flatMap AV.cells) L∧∀(I:Nat→Prop) (x:Ty.Ts ts),bM w I ts L x→dF w I ts us x
 | [], [],us,_,hc=>⟨[],aL.2 rfl,fun I x _=>by rw[dF];exact aL.1 hc⟩
 | [],_::_,us,h,_=>by cases h
 | [t], [v],us,h,hc=>by
   obtain⟨u,r,rfl,h1,h2⟩:=aV.1 hc
   have:=aL.1 h2
   subst this
   simp only[cn,Bool.and_true] at h
   obtain⟨L,g1,g2,g3⟩:=J0 h h1
   exact⟨L,by simpa using g1,fun I x hx=>by rw[dF];exact⟨u,rfl,g3 I x hx⟩⟩
 | [t], [],us,h,_=>by cases h
 | [t],_::_::_,us,h,_=>by simp[cn] at h
 | t::t2::ts, [],us,h,_=>by cases h
 | t::t2::ts,v::vs,us,h,hc=>by
   obtain⟨u,r,rfl,h1,h2⟩:=aV.1 hc
   have h:=(cd _ _).mp (show((match (generalizing:=false) t.isAgg,v with|true,.agg cs=>Nat.beq cs.length t.size|true,_=>false|false,.agg _=>false|false,_=>true)&&cn (t2::ts) vs)=true from h)
   obtain⟨L,g1,g2,g3⟩:=J0 h.1 h1
   obtain⟨L2,k1,k2⟩:=jf h.2 h2
   refine⟨L++L2,by rw[List.flatMap_cons];exact g1.append k1,fun I x hx=>?_⟩
   rw[bM] at hx
   obtain⟨a,b,e,hx1,hx2⟩:=hx
   have hal:a.length=L.length:=by rw[hx1.length,g2]
   obtain⟨rfl,rfl⟩:=List.append_inj e.symm hal
   rw[dF]
   exact⟨u,r,rfl,g3 I _ hx1,k2 I _ hx2⟩
theorem jg{I:Nat→Prop}(hI:∀b,I b→S.I b):∀{ts:List Ty} {us:List Value} {y:Ty.Ts ts},dF w I ts us y→bC w S m (cq ah ts y) us
 | [],us,y,h=>by rw[dF] at h;exact aL.2 h
 | [t],us,y,h=>by
   rw[dF] at h
   obtain⟨v,rfl,h1⟩:=h
   exact aV.2 ⟨v, [],rfl,uU (gJ.weaken hI h1),aL.2 rfl⟩
 | t::t2::ts,us,y,h=>by
   rw[dF] at h
   obtain⟨v,r,rfl,h1,h2⟩:=h
   exact aV.2 ⟨v,r,rfl,uU (gJ.weaken hI h1),jg hI h2⟩
theorem zY{I:Nat→Prop}(hI:∀b,I b→S.I b){res:List Ty}{v:Value}{y:Ty.Ts res}(h:kt w I res v y):CR w S m (cO (cq ah res y)) v:=by
 match res,y,h with
 | [],y,h=>rw[kt] at h;exact fC.2 ⟨#[],h,aL.2 rfl⟩
 | [t],y,h=>rw[kt] at h;exact uU (gJ.weaken hI h)
 | t::t2::ts,y,hh=>
   rw[kt] at hh
   obtain⟨us,hv,h3⟩:=hh
   have:=jg (m:=m) hI h3
   have e:cO (cq ah (t::t2::ts) y)=.qS (cq ah (t::t2::ts) y):=by
    cases ts<;>rfl
   rw[e]
   exact fC.2 ⟨us,hv,this⟩
theorem uu{g:FuncId}{s:ax}(hs:s.Sound P g)(hd:w0.D→s.jD P g)(hW:WR w0 w S m){aa:List AV}{args:Array Value}{v:AV}{m':Mem}(ha:bC w S m aa args.toList)(h:(pn ah s m aa).Is (v,m'))(cs:List Frame) :
  ∃w' S' z dL,Step w0 w S m w' S' m'∧CR w' S' m' v z∧Steps P (lone (Frame.enter P g args .normal) cs w) (lone dL cs w')∧dL.leaving P w' (.returned z):=by
 unfold pn at h
 cases hok:cn s.args aa with
 | false=>rw[hok] at h;exact h.elim
 | true=>
   rw[hok] at h
   simp only at h
   obtain⟨L,hL,hrep⟩:=jf hok ha
   cases hf:bO ah s.args m (aa.flatMap AV.cells) with
   | none=>rw[hf] at h;exact h.elim
   | some q=>
     obtain⟨m1,cs1⟩:=q
     rw[hf] at h
     simp only at h
     obtain⟨S1,s1,hc1⟩:=dE hW hf hL
     cases htd:jT s.args cs1 with
     | none=>rw[htd] at h;exact h.elim
     | some q=>
       obtain⟨x,r⟩:=q
       rw[htd] at h
       cases r with
       | cons _ _=>exact h.elim
       | nil=>
         simp only at h
         obtain⟨hpre,h⟩:=h
         cases h
         obtain⟨u1,u2,e,hx,hr⟩:=iC s.args htd hc1
         have hu2:=aL.1 hr
         rw[hu2,List.append_nil] at e
         rw[←e] at hx
         have both:Calls P g args w fun e w'=>(w0.D→w.drawn≤w'.drawn)∧∃v,e=.returned v∧w'.os=w.os∧w'.tape=w.tape∧w'.output=w.output∧w.heap.size≤w'.heap.size∧(∀b,b<w.heap.size→w'.heap[b]? = w.heap[b]?)∧
           ∃I',(∀b,I' b→S1.I b∨(w.heap.size≤b∧b<w'.heap.size))∧kt w' I' s.res v (s.fn x):=by
          by_cases hD:w0.D
          ·exact(hd hD w S1.I x args s1.wr.jl (hrep _ x hx) hpre).mono fun _ _ k=>⟨fun _=>k.1,k.2⟩
          ·exact(hs.calls w S1.I x args s1.wr.jl (hrep _ x hx) hpre).mono fun _ _ k=>⟨fun d=>absurd d hD,k⟩
         obtain⟨e',w',dL,⟨g0,z,he,g1,g2,g3,g4,g5,I',g6,g7⟩,hcomes,_,hleave⟩:=both cs
         subst he
         have s2:=Step.extend s1.wr g1 g2 g0 g3 g4 g5 g6
         exact⟨w',{S1 with I:=fun b=>S1.I b∨I' b},z,dL,s1.trans s2,zY (I:=I') (fun b hb=>Or.inr hb) g7,hcomes,hleave⟩
theorem B_{g:FuncId}{s:gy}(hs:s.Sound P g)(hno:¬w0.D)(hW:WR w0 w S m){aa:List AV}{args:Array Value}{v:AV}{m':Mem}(ha:bC w S m aa args.toList)(h:(Ez ah s m aa).Is (v,m'))(cs:List Frame) :
  ∃w' S' z dL,Step w0 w S m w' S' m'∧CR w' S' m' v z∧Steps P (lone (Frame.enter P g args .normal) cs w) (lone dL cs w')∧dL.leaving P w' (.returned z):=by
 unfold Ez at h
 cases aa with
 | nil=>exact h.elim
 | cons a rest=>
   cases a<;>(try simp only at h)<;>try exact h.elim
   case ptr id off=>
    cases off with
    | succ _=>exact h.elim
    | zero=>
      simp only at h
      obtain⟨u,us0,e,hu,hrest⟩:=aV.1 ha
      rw[CR] at hu
      cases hm:m.at id<;>rw[hm] at h hu<;>(try simp only at h)<;>try exact h.elim
      case flat fz cells=>
       subst hu
       have hb:=hW.box id
       rw[hm] at hb
       obtain⟨us,T,fr,k1,k2,k3⟩:=hb
       cases htd:oA s.view cells with
       | none=>rw[htd] at h;exact h.elim
       | some q=>
         obtain⟨x,r⟩:=q
         rw[htd] at h
         cases r with
         | cons _ _=>exact h.elim
         | nil=>
           simp only at h
           obtain⟨u1,u2,e1,hx,hr⟩:=ig s.view htd k3
           rw[aL.1 hr,List.append_nil] at e1
           rw[←e1] at hx
           cases hok:cn s.args rest with
           | false=>rw[hok] at h;exact h.elim
           | true=>
             rw[hok] at h
             simp only at h
             obtain⟨L,hL,hrep⟩:=jf hok hrest
             cases hf:bO ah s.args m (rest.flatMap AV.cells) with
             | none=>rw[hf] at h;exact h.elim
             | some q=>
               obtain⟨m1,cs1⟩:=q
               rw[hf] at h
               simp only at h
               obtain⟨S1,s1,hc1⟩:=dE hW hf hL
               cases htd2:jT s.args cs1 with
               | none=>rw[htd2] at h;exact h.elim
               | some q=>
                 obtain⟨y,r⟩:=q
                 rw[htd2] at h
                 cases r with
                 | cons _ _=>exact h.elim
                 | nil=>
                   cases hsc:Ty.scalars s.res with
                   | false=>rw[hsc] at h;exact h.elim
                   | true=>
                     rw[hsc] at h
                     simp only at h
                     obtain⟨hpre,h⟩:=h
                     cases h
                     obtain⟨v1,v2,e2,hy,hr2⟩:=iC s.args htd2 hc1
                     rw[aL.1 hr2,List.append_nil] at e2
                     rw[←e2] at hy
                     obtain⟨e',w',dL,⟨z,he,g1,g2,g3,g4,g5,g7⟩,hcomes,_,hleave⟩:=hs.calls w S1.I x y (S.σ id) us T fr us0 s1.wr.jl k1 (aS.mono s1.out.jl _ hx) (hrep _ y hy) hpre cs
                     subst he
                     have ea:args=(Value.pointer (some ⟨S.σ id,0,none⟩)::us0).toArray:=by rw[←e,Array.toArray_toList]
                     rw[←ea] at hcomes
                     have s2:=Step.extend s1.wr g1 g2 (fun k=>absurd k hno) g3 g4 g5 (I':=fun _=>False) (fun _ h=>h.elim)
                     exact⟨w',_,z,dL,s1.trans s2,zY (I:=fun _=>False) (fun _ hb=>hb.elim) g7,hcomes,hleave⟩
end
end Go.Ev
namespace Go.Ev
theorem eF:∀{l:List Nat} {n:Nat},nv l n=true↔n∈l
 | [],n=>by simp[nv]
 | i::l,n=>by
   rw[nv]
   by_cases h:i=n
   ·subst h;rw[aY.2 rfl];simp
   ·rw[bq.2 h,eF,List.mem_cons]
    exact⟨.inr,fun h'=>h'.elim (fun e=>absurd e.symm h) id⟩
section
variable {w:World} {I:Nat→Prop}
theorem UZ{t:Ty}{us:List Value}{x:t.T}{B:List Nat}:VR w I (.d t) us x B↔aS w I t us x∧B=[]:=Iff.rfl
theorem gV{t:Ty}{us:List Value}{x:List t.T}{B:List Nat}:VR w I (.own t) us x B↔(x=[]∧B=[]∧∃a,us=[.slice a 0 0])∨
   (x≠ []∧∃b dl cap,B=[b]∧us=[.slice (some ⟨b,dl,none⟩) x.length cap]∧x.length≤cap∧x.length≤dD∧
     ∃(vs:Array Value) (T:TypeId) (fr:Nat×Nat),w.heap[b]? = some (.cells vs T fr)∧fq fr vs.size∧dl+cap*t.size≤vs.size∧
      ∀(i:Nat) (y:t.T),x[i]? = some y→aS w I t ((vs.toList.drop (dl+i*t.size)).take t.size) y):=Iff.rfl
theorem vV{fs:List VF}{us:List Value}{x:Ty.Ts (VF.fQ fs)}{B:List Nat}:VR w I (.ptr fs) us x B↔∃b B',B=b::B'∧us=[.pointer (some ⟨b,0,none⟩)]∧
    ∃(vs:Array Value) (T:TypeId) (fr:Nat×Nat),w.heap[b]? = some (.cells vs T fr)∧fq fr vs.size∧nA w I fs vs.toList x B':=Iff.rfl
theorem rE{fs:List VF}{us:List Value}{x:Ty.Ts (VF.fQ fs)}{B:List Nat}:VR w I (.kv fs) us x B↔∃b,us=[.pointer (some ⟨b,0,none⟩)]∧I b∧
    ∃(vs:Array Value) (T:TypeId) (fr:Nat×Nat),w.heap[b]? = some (.cells vs T fr)∧fq fr vs.size∧nA w I fs vs.toList x B:=Iff.rfl
theorem yn{us:List Value}{x:Ty.Ts (VF.fQ [])}{B:List Nat}:nA w I [] us x B↔us=[]∧B=[]:=Iff.rfl
theorem nQ{f:VF}{us:List Value}{x:f.ty.T}{B:List Nat}:nA w I [f] us x B↔VR w I f us x B:=Iff.rfl
theorem qk{f g:VF}{fs:List VF}{us:List Value}{x:Ty.Ts (VF.fQ (f::g::fs))}{B:List Nat}:nA w I (f::g::fs) us x B↔∃u1 u2 B1 B2,us=u1++u2∧B=B1++B2∧VR w I f u1 (Prod.fst (α:=f.ty.T) (β:=Ty.Ts (VF.fQ (g::fs))) x) B1∧nA w I (g::fs) u2 (Prod.snd (α:=f.ty.T) (β:=Ty.Ts (VF.fQ (g::fs))) x) B2:=Iff.rfl
end
mutual
theorem VR.length{w:World}{I:Nat→Prop}:∀(f:VF) {us:List Value} {x:f.ty.T} {B:List Nat},VR w I f us x B→us.length=f.size
 | .d t,us,x,B,h=>(UZ.1 h).1.length
 | .own t,us,x,B,h=>by
   have h:=gV.1 h
   rcases h with ⟨_,_,a,rfl⟩|⟨_,b,dl,cap,_,rfl,_⟩<;>rfl
 | .ptr fs,us,x,B,h=>by
   have h:=vV.1 h
   obtain⟨b,B',_,rfl,_⟩:=h
   rfl
 | .kv fs,us,x,B,h=>by
   obtain⟨b,rfl,_⟩:=rE.1 h
   rfl
theorem nA.length{w:World}{I:Nat→Prop}:∀(fs:List VF) {us:List Value} {x:Ty.Ts (VF.fQ fs)} {B:List Nat},nA w I fs us x B→us.length=VF.gk fs
 | [],us,x,B,h=>by rw[(yn.1 h).1];rfl
 | [f],us,x,B,h=>by simp only[VF.gk,Nat.add_zero];exact VR.length f (nQ.1 h)
 | f::g::fs,us,x,B,h=>by
   have h:=qk.1 h
   obtain⟨u1,u2,B1,B2,rfl,_,h1,h2⟩:=h
   rw[gm,VR.length f h1,nA.length (g::fs) h2]
   simp only[VF.gk]
end
section
variable {P:Program} {w0:iP} {w:World} {S:St} {m:Mem}
def DN(m:Mem)(i:Nat):Prop:=(∃t x,m.at i=.arr false t x)∨∃cs,m.at i=.flat false cs
def rM(m:Mem)(j:Nat):Prop:=(m.at j).bd=true∧(m.at j).i_=false
mutual
theorem VF.pM(hW:WR w0 w S m):∀(f:VF) {cs:List AV} {x:f.ty.T} {ids:List Nat} {r:List AV} {us:List Value},VF.read m f cs=some (x,ids,r)→bC w S m cs us→
  ∃u1 u2 js,us=u1++u2∧bC w S m r u2∧List.Sublist js ids∧(∀j∈js,rM m j)∧(∀i∈ids,DN m i)∧VR w S.I f u1 x (js.map S.σ)
 | .d t,cs,x,ids,r,us,h,hc=>by
   simp only[VF.read] at h
   cases h1:oA t cs with
   | none=>rw[h1] at h;cases h
   | some p=>
     obtain⟨a,r1⟩:=p
     rw[h1] at h
     simp only[Option.some.injEq,Prod.mk.injEq] at h
     obtain⟨rfl,rfl,rfl⟩:=h
     obtain⟨u1,u2,e,h2,h3⟩:=ig t h1 hc
     exact⟨u1,u2, [],e,h3,List.Sublist.refl _,fun j hj=>absurd hj List.not_mem_nil,fun j hj=>absurd hj List.not_mem_nil,UZ.2 (⟨h2,rfl⟩)⟩
 | .own t,cs,x,ids,r,us,h,hc=>by
   simp only[VF.read] at h
   cases cs with
   | nil=>cases h
   | cons v cs=>
     obtain⟨u,dS,rfl,hv,hr⟩:=hc.cons_inv
     cases v<;>(try simp only at h)<;>try (cases h;done)
     case own id=>
      cases hm:m.at id<;>rw[hm] at h<;>(try simp only at h)<;>try (cases h;done)
      case arr fz t' y=>
       cases fz with
       | true=>cases h
       | false=>
         simp only at h
         by_cases hb:t'.beq t=true
         ·rw[dif_pos hb] at h
          have:=Ty.eq_of_beq hb;subst this
          simp only[Option.some.injEq,Prod.mk.injEq] at h
          obtain⟨rfl,rfl,rfl⟩:=h
          have hbx:=hW.box id
          rw[hm] at hbx
          rw[CR,hm] at hv
          have hown:∀i∈ [id],DN m i:=fun i hi=>by rw[List.mem_singleton.1 hi];exact .inl ⟨_,_,hm⟩
          rcases hv with ⟨hx,a,e⟩|⟨hne,cap,e,h2,us1,T1,fr1,h3,h4⟩
          ·refine⟨[u],dS, [],rfl,hr,List.nil_sublist _,fun j hj=>absurd hj List.not_mem_nil,hown,?_⟩
           exact gV.2 (.inl ⟨hx,rfl,a,by rw[e]⟩)
          ·obtain⟨us2,T2,fr2,g1,g2,g3,g4⟩:=hbx.2 hne
           rw[h3] at g1
           cases g1
           refine⟨[u],dS, [id],rfl,hr,List.Sublist.refl _,fun j hj=>?_,hown,?_⟩
           ·rw[List.mem_singleton.1 hj];exact⟨by rw[hm];exact kp hne,by rw[hm];exact gG⟩
           ·exact gV.2 (.inr ⟨hne,S.σ id,S.δ id,cap,rfl,by rw[e],h2,hbx.1,us1,T1,fr1,h3,g2,h4,g4⟩)
         ·rw[dif_neg hb] at h;cases h
     case dp b=>
      simp only[Option.some.injEq,Prod.mk.injEq] at h
      obtain⟨rfl,rfl,rfl⟩:=h
      obtain⟨a,e,_⟩:=iB.1 hv
      exact⟨[u],dS, [],rfl,hr,List.Sublist.refl _,fun j hj=>absurd hj List.not_mem_nil,fun j hj=>absurd hj List.not_mem_nil,gV.2 (.inl ⟨rfl,rfl,a,by rw[e]⟩)⟩
 | .ptr fs,cs,x,ids,r,us,h,hc=>by
   simp only[VF.read] at h
   cases cs with
   | nil=>cases h
   | cons v cs=>
     obtain⟨u,dS,rfl,hv,hr⟩:=hc.cons_inv
     cases v<;>(try simp only at h)<;>try (cases h;done)
     case ptr id off=>
      cases off with
      | succ _=>cases h
      | zero=>
        cases hm:m.at id<;>rw[hm] at h<;>(try simp only at h)<;>try (cases h;done)
        case flat fz l=>
         cases fz with
         | true=>cases h
         | false=>
           simp only at h
           cases hrd:VF.reads m fs l with
           | none=>rw[hrd] at h;cases h
           | some q=>
             obtain⟨y,is,r1⟩:=q
             rw[hrd] at h
             cases r1 with
             | cons _ _=>cases h
             | nil=>
               simp only[Option.some.injEq,Prod.mk.injEq] at h
               obtain⟨rfl,rfl,rfl⟩:=h
               have hbx:=hW.box id
               rw[hm] at hbx
               obtain⟨vs,T,fr,k1,k2,k3⟩:=hbx
               rw[CR,hm] at hv
               obtain⟨u1,u2,js,e,h2,h3,h4,h5,h6⟩:=VF.jL hW fs hrd k3
               rw[aL.1 h2,List.append_nil] at e
               rw[←e] at h6
               refine⟨[u],dS,id::js,rfl,hr,h3.cons_cons id,fun j hj=>?_,fun i hi=>?_,?_⟩
               ·rcases List.mem_cons.1 hj with rfl|hj
                ·exact⟨by rw[hm];rfl,by rw[hm];rfl⟩
                ·exact h4 j hj
               ·rcases List.mem_cons.1 hi with rfl|hi
                ·exact .inr ⟨_,hm⟩
                ·exact h5 i hi
               ·exact vV.2 (⟨S.σ id,js.map S.σ,rfl,by rw[show u=_ from hv],vs,T,fr,k1,k2,h6⟩)
 | .kv fs,cs,x,ids,r,us,h,hc=>by
   simp only[VF.read] at h
   cases cs with
   | nil=>cases h
   | cons v cs=>
     obtain⟨u,dS,rfl,hv,hr⟩:=hc.cons_inv
     cases v<;>(try simp only at h)<;>try (cases h;done)
     case ptr id off=>
      cases off with
      | succ _=>cases h
      | zero=>
        cases hm:m.at id<;>rw[hm] at h<;>(try simp only at h)<;>try (cases h;done)
        case flat fz l=>
         cases fz with
         | false=>cases h
         | true=>
           simp only at h
           cases hrd:VF.reads m fs l with
           | none=>rw[hrd] at h;cases h
           | some q=>
             obtain⟨y,is,r1⟩:=q
             rw[hrd] at h
             cases r1 with
             | cons _ _=>cases h
             | nil=>
               simp only[Option.some.injEq,Prod.mk.injEq] at h
               obtain⟨rfl,rfl,rfl⟩:=h
               have hbx:=hW.box id
               rw[hm] at hbx
               obtain⟨vs,T,fr,k1,k2,k3⟩:=hbx
               rw[CR,hm] at hv
               obtain⟨u1,u2,js,e,h2,h3,h4,h5,h6⟩:=VF.jL hW fs hrd k3
               rw[aL.1 h2,List.append_nil] at e
               rw[←e] at h6
               exact⟨[u],dS,js,rfl,hr,h3,h4,h5,rE.2 ⟨S.σ id,by rw[show u=_ from hv],hW.Cu id (by rw[hm];rfl),vs,T,fr,k1,k2,h6⟩⟩
theorem VF.jL(hW:WR w0 w S m):∀(fs:List VF) {cs:List AV} {x:Ty.Ts (VF.fQ fs)} {ids:List Nat} {r:List AV} {us:List Value},VF.reads m fs cs=some (x,ids,r)→bC w S m cs us→
  ∃u1 u2 js,us=u1++u2∧bC w S m r u2∧List.Sublist js ids∧(∀j∈js,rM m j)∧(∀i∈ids,DN m i)∧nA w S.I fs u1 x (js.map S.σ)
 | [],cs,x,ids,r,us,h,hc=>by
   simp only[VF.reads,Option.some.injEq,Prod.mk.injEq] at h
   obtain⟨rfl,rfl,rfl⟩:=h
   exact⟨[],us, [],rfl,hc,List.Sublist.refl _,fun j hj=>absurd hj List.not_mem_nil,fun j hj=>absurd hj List.not_mem_nil,yn.2 (⟨rfl,rfl⟩)⟩
 | [f],cs,x,ids,r,us,h,hc=>by
   simp only[VF.reads] at h
   obtain⟨u1,u2,js,h1,h2,h3,h4,h5,h6⟩:=VF.pM hW f h hc
   exact⟨u1,u2,js,h1,h2,h3,h4,h5,nQ.2 (h6)⟩
 | f::g::fs,cs,x,ids,r,us,h,hc=>by
   simp only[VF.reads] at h
   cases h1:VF.read m f cs with
   | none=>rw[h1] at h;cases h
   | some p=>
     obtain⟨a,i1,r1⟩:=p
     rw[h1] at h
     simp only at h
     cases h2:VF.reads m (g::fs) r1 with
     | none=>rw[h2] at h;cases h
     | some q=>
       obtain⟨b,i2,r2⟩:=q
       rw[h2] at h
       simp only[Option.some.injEq,Prod.mk.injEq] at h
       obtain⟨rfl,rfl,rfl⟩:=h
       obtain⟨u1,u2,js,rfl,c1,s1,l1,o1,v1⟩:=VF.pM hW f h1 hc
       obtain⟨u3,u4,ks,rfl,c2,s2,l2,o2,v2⟩:=VF.jL hW (g::fs) h2 c1
       refine⟨u1++u3,u4,js++ks,(List.append_assoc _ _ _).symm,c2,s1.append s2,fun j hj=>(ku.1 hj).elim (l1 j) (l2 j),fun j hj=>(ku.1 hj).elim (o1 j) (o2 j),?_⟩
       refine qk.2 ?_
       exact⟨u1,u3,_,_,rfl,List.map_append,v1,v2⟩
end
def G6(w0:iP)(S:St)(m:Mem)(b:Nat):Prop:=w0.free b∧¬S.I b∧∀j,(m.at j).bd=true→S.σ j≠b
theorem Step.G7(hW:WR w0 w S m){b d:Nat}(hf:G6 w0 S m b)(hlt:b<w.heap.size){bx:il}(hfz:bx.i_=false)
  (hb:bw w S m w (S.push m.length b d false) (m ++ [bx])→rW w (S.push m.length b d false) (m ++ [bx]) m.length bx):Step w0 w S m w (S.push m.length b d false) (m ++ [bx]):=
 ⟨hW.G7 ⟨hf.1,hlt⟩ hf.2.2 hf.2.1 (nk.none w b) hfz (hb (j_ hf.2.1 (nk.none w b) bx)),j_ hf.2.1 (nk.none w b) bx,fun b hb=>hb.elim .inl fun h=>absurd h.1 (by decide)⟩
structure Wrote(S:St)(m:Mem)(B:List Nat)(S':St)(m':Mem):Prop where
 jl:∀b,S'.I b→S.I b
 len:m.length≤m'.length
 old:∀j,j<m.length→m'.at j=m.at j∧S'.σ j=S.σ j
 new:∀j,m.length≤j→(m'.at j).bd=true→S'.σ j∈B
theorem Wrote.fresh{S':St}{m':Mem}{B C:List Nat}(h:Wrote S m B S' m'){b:Nat}(hf:G6 w0 S m b)(hb:b ∉ B):G6 w0 S' m' b:=by
 refine⟨hf.1,fun hI=>hf.2.1 (h.jl b hI),fun j hl he=>?_⟩
 by_cases hj:j<m.length
 ·obtain⟨h1,h2⟩:=h.old j hj
  rw[h1] at hl
  exact hf.2.2 j hl (h2.symm.trans he)
 ·exact hb (he▸h.new j (Nat.le_of_not_lt hj) hl)
theorem tj{b d:Nat}{bx:il}{B:List Nat}(hb:bx.bd=true→b∈B):Wrote S m B (S.push m.length b d false) (m ++ [bx]):=by
 refine⟨fun b h=>h.elim id fun h=>absurd h.1 (by decide),by rw[gm];exact Nat.le_add_right _ _,fun j hj=>⟨Mem.gu hj,if_neg (Nat.ne_of_lt hj)⟩,fun j hj hl=>?_⟩
 rw[Mem.ia] at hl
 by_cases he:j=m.length
 ·rw[if_pos he] at hl
  show(if j=m.length then b else S.σ j)∈B
  rw[if_pos he];exact hb hl
 ·rw[if_neg he] at hl
  exact absurd (Mem.iA hl) (Nat.not_lt_of_le hj)
theorem Wrote.trans{S1 S2:St}{m1 m2:Mem}{B1 B2 B:List Nat}(h1:Wrote S m B1 S1 m1)(h2:Wrote S1 m1 B2 S2 m2)(hB1:∀b∈B1,b∈B)(hB2:∀b∈B2,b∈B):Wrote S m B S2 m2:=by
 refine⟨fun b h=>h1.jl b (h2.jl b h),Nat.le_trans h1.len h2.len,fun j hj=>?_,fun j hj hl=>?_⟩
 ·obtain⟨a1,a2⟩:=h1.old j hj
  obtain⟨b1,b2⟩:=h2.old j (Nat.lt_of_lt_of_le hj h1.len)
  exact⟨b1.trans a1,b2.trans a2⟩
 ·by_cases hj':j<m1.length
  ·obtain⟨b1,b2⟩:=h2.old j hj'
   rw[b1] at hl
   rw[b2];exact hB1 _ (h1.new j hj hl)
  ·exact hB2 _ (h2.new j (Nat.le_of_not_lt hj') hl)
theorem uK{b:Nat}{o:Obj}(h:w.heap[b]? = some o):b<w.heap.size:=(Array.getElem?_eq_some_iff.1 h).1
mutual
theorem VF.q8{I:Nat→Prop}:∀(f:VF) {S:St} {m:Mem} {x:f.ty.T} {us:List Value} {B:List Nat},WR w0 w S m→(∀b,I b→S.I b)→VR w I f us x B→B.Nodup→(∀b∈B,G6 w0 S m b)→
  ∃S',Step w0 w S m w S' (VF.write ah f x m).1∧bC w S' (VF.write ah f x m).1 (VF.write ah f x m).2 us∧Wrote S m B S' (VF.write ah f x m).1
 | .d t,S,m,x,us,B,hW,hI,h,hn,hf=>by
   have h:=UZ.1 h
   rw[VF.write]
   exact⟨S,.refl hW,gj t (aS.mono (fun b hb=>⟨hI b hb,rfl⟩) t h.1),fun _ h=>h,Nat.le_refl _,fun _ _=>⟨rfl,rfl⟩,fun j hj hl=>absurd (Mem.iA hl) (Nat.not_lt_of_le hj)⟩
 | .own t,S,m,x,us,B,hW,hI,h,hn,hf=>by
   have h:=gV.1 h
   rw[VF.write]
   rcases h with ⟨hx,rfl,a,rfl⟩|⟨hne,b,dl,cap,rfl,rfl,h1,h2,vs,T,fr,h3,h4,h5,h6⟩
   ·have hx:x=([]:List t.T):=hx
    subst hx
    refine⟨_,Step.afy hW t,aV.2 ⟨_, [],rfl,?_,aL.2 rfl⟩,tj fun h=>by cases h⟩
    rw[CR,Mem.bY]
    exact .inl ⟨rfl,a,rfl⟩
   ·refine⟨_,Step.G7 hW (d:=dl) (hf b (List.mem_singleton.2 rfl)) (uK h3) gG fun hO=>⟨h2,fun _=>⟨vs,T,fr,?_,h4,?_,fun i y hy=>?_⟩⟩,aV.2 ⟨_, [],rfl,?_,aL.2 rfl⟩,tj fun _=>List.mem_singleton.2 rfl⟩
    ·show w.heap[if m.length=m.length then b else S.σ m.length]? = _
     rw[if_pos rfl];exact h3
    ·show(if m.length=m.length then dl else S.δ m.length)+_≤_
     rw[if_pos rfl]
     exact Nat.le_trans (Nat.add_le_add_left (Nat.mul_le_mul_right _ h1) _) h5
    ·show aS w _ t ((vs.toList.drop ((if m.length=m.length then dl else S.δ m.length)+_)).take _) y
     rw[if_pos rfl]
     exact aS.mono (fun b hb=>⟨.inl (hI b hb),rfl⟩) t (h6 i y hy)
    ·rw[CR,Mem.bY]
     refine .inr ⟨hne,cap,?_,h1,vs,T,fr,?_,?_⟩
     ·show Value.slice _ _ _=.slice (some ⟨if m.length=m.length then b else S.σ m.length,if m.length=m.length then dl else S.δ m.length,none⟩) _ _
      rw[if_pos rfl,if_pos rfl]
     ·show w.heap[if m.length=m.length then b else S.σ m.length]? = _
      rw[if_pos rfl];exact h3
     ·show(if m.length=m.length then dl else S.δ m.length)+_≤_
      rw[if_pos rfl];exact h5
 | .ptr fs,S,m,x,us,B,hW,hI,h,hn,hf=>by
   have h:=vV.1 h
   obtain⟨b,B',rfl,rfl,vs,T,fr,h1,h2,h3⟩:=h
   obtain⟨hnb,hn'⟩:=List.nodup_cons.1 hn
   obtain⟨S1,s1,c1,w1⟩:=VF.mC fs hW hI h3 hn' fun b hb=>hf b (List.mem_cons_of_mem _ hb)
   rw[VF.write]
   have hfb:=w1.fresh (C:=[]) (hf b List.mem_cons_self) hnb
   refine⟨_,s1.trans (Step.G7 s1.wr (d:=0) hfb (uK h1) rfl fun hO=>⟨vs,T,fr,?_,h2,c1.mono hO⟩),aV.2 ⟨_, [],rfl,?_,aL.2 rfl⟩,w1.trans (tj (B:=[b]) fun _=>List.mem_singleton.2 rfl) (fun b hb=>List.mem_cons_of_mem _ hb) fun b' hb=>by rw[List.mem_singleton.1 hb];exact List.mem_cons_self⟩
   ·show w.heap[if (VF.writes ah fs x m).1.length=(VF.writes ah fs x m).1.length then b else S1.σ _]? = _
    rw[if_pos rfl];exact h1
   ·rw[CR,Mem.bY]
    show Value.pointer _=.pointer (some ⟨if (VF.writes ah fs x m).1.length=(VF.writes ah fs x m).1.length then b else S1.σ _,0,none⟩)
    rw[if_pos rfl]
 | .kv fs,S,m,x,us,B,hW,hI,h,hn,hf=>by
   obtain⟨b,rfl,_⟩:=rE.1 h
   rw[VF.write]
   exact⟨S,.refl hW,aV.2 ⟨_, [],rfl,dC,aL.2 rfl⟩,fun _ h=>h,Nat.le_refl _,fun _ _=>⟨rfl,rfl⟩,fun j hj hl=>absurd (Mem.iA hl) (Nat.not_lt_of_le hj)⟩
theorem VF.mC{I:Nat→Prop}:∀(fs:List VF) {S:St} {m:Mem} {x:Ty.Ts (VF.fQ fs)} {us:List Value} {B:List Nat},WR w0 w S m→(∀b,I b→S.I b)→nA w I fs us x B→B.Nodup→(∀b∈B,G6 w0 S m b)→
  ∃S',Step w0 w S m w S' (VF.writes ah fs x m).1∧bC w S' (VF.writes ah fs x m).1 (VF.writes ah fs x m).2 us∧Wrote S m B S' (VF.writes ah fs x m).1
 | [],S,m,x,us,B,hW,hI,h,hn,hf=>by
   have h:=yn.1 h
   rw[VF.writes]
   exact⟨S,.refl hW,aL.2 h.1,fun _ h=>h,Nat.le_refl _,fun _ _=>⟨rfl,rfl⟩,fun j hj hl=>absurd (Mem.iA hl) (Nat.not_lt_of_le hj)⟩
 | [f],S,m,x,us,B,hW,hI,h,hn,hf=>by
   have h:=nQ.1 h
   rw[VF.writes]
   exact VF.q8 f hW hI h hn hf
 | f::g::fs,S,m,x,us,B,hW,hI,h,hn,hf=>by
   have h:=qk.1 h
   obtain⟨u1,u2,B1,B2,rfl,rfl,h1,h2⟩:=h
   obtain⟨n1,n2,n3⟩:=List.nodup_append.1 hn
   obtain⟨S1,s1,c1,w1⟩:=VF.q8 f hW hI h1 n1 fun b hb=>hf b (ku.2 (.inl hb))
   obtain⟨S2,s2,c2,w2⟩:=VF.mC (g::fs) s1.wr (fun b hb=>(s1.out.jl b (hI b hb)).1) h2 n2 fun b hb=>w1.fresh (C:=[]) (hf b (ku.2 (.inr hb))) fun hb1=>n3 b hb1 b hb rfl
   rw[VF.writes]
   exact⟨S2,s1.trans s2,(c1.mono s2.out).append c2,w1.trans w2 (fun b hb=>ku.2 (.inl hb)) fun b hb=>ku.2 (.inr hb)⟩
end
def ki(S:St)(m:Mem):List VF→List AV→List Nat→Prop
 | [],vs,rs=>vs=[]∧rs=[]
 | f::fs,vs,rs=>∃id off vs' rs' cs,(f=.ptr f.sub∨f=.kv f.sub)∧vs=.ptr id off::vs'∧rs=S.σ id::rs'∧m.at id=.flat f.fz cs∧cs.length=VF.gk f.sub∧ki S m fs vs' rs'
theorem ki.congr{S':St}{m':Mem}:∀{fs:List VF} {vs:List AV} {rs:List Nat},(∀j∈b_ vs,∀fz cs,m.at j=.flat fz cs→S'.σ j=S.σ j∧∃cs',m'.at j=.flat fz cs'∧cs'.length=cs.length)→ki S m fs vs rs→ki S' m' fs vs rs
 | [],vs,rs,_,h=>h
 | f::fs,vs,rs,hk,h=>by
   obtain⟨id,off,vs',rs',cs,hp,rfl,rfl,h1,h2,h3⟩:=h
   obtain⟨k1,cs',k2,k3⟩:=hk id (by rw[b_];exact List.mem_cons_self) _ cs h1
   exact⟨id,off,vs',rs',cs',hp,rfl,by rw[k1],k2,k3.trans h2,h3.congr fun j hj=>hk j (by rw[b_];exact List.mem_cons_of_mem _ hj)⟩
theorem ki.ids:∀{fs:List VF} {vs:List AV} {rs:List Nat},ki S m fs vs rs→rs=(b_ vs).map S.σ
 | [],vs,rs,h=>by rw[h.1,h.2];rfl
 | f::fs,vs,rs,h=>by
   obtain⟨id,off,vs',rs',cs,hp,rfl,rfl,_,_,h3⟩:=h
   rw[b_,List.map_cons,h3.ids]
theorem VR.blk{I:Nat→Prop}{f:VF}{b:Nat}{u1:List Value}{x:f.ty.T}{B:List Nat}(hp:f=.ptr f.sub∨f=.kv f.sub)(h:VR w I f (.pointer (some ⟨b,0,none⟩)::u1) x B) :
  u1=[]∧(f.fz=false→b∈B)∧(f.fz=true→I b)∧∃us T fr,w.heap[b]? = some (.cells us T fr)∧fq fr us.size∧us.size=VF.gk f.sub:=by
 generalize hg:f.sub=gs at hp
 rcases hp with rfl|rfl
 ·obtain⟨c,B',rfl,e,us,T,fr,h1,h2,h3⟩:=vV.1 h
  simp only[List.cons.injEq,Value.pointer.injEq,Option.some.injEq,Addr.mk.injEq,and_true] at e
  rw[e.1]
  exact⟨e.2,fun _=>List.mem_cons_self,fun h=>(by cases h),us,T,fr,h1,h2,by rw[←h3.length,Array.length_toList]⟩
 ·obtain⟨c,e,hI,us,T,fr,h1,h2,h3⟩:=rE.1 h
  simp only[List.cons.injEq,Value.pointer.injEq,Option.some.injEq,Addr.mk.injEq,and_true] at e
  rw[e.1]
  exact⟨e.2,fun h=>(by cases h),fun _=>hI,us,T,fr,h1,h2,by rw[←h3.length,Array.length_toList]⟩
theorem nA.head{I:Nat→Prop}{f g:VF}{fs:List VF}{b:Nat}{rs:List Nat}{x:Ty.Ts (VF.fQ (f::g::fs))}{B:List Nat}(hp:f=.ptr f.sub∨f=.kv f.sub)(h:nA w I (f::g::fs) (h_ (b::rs)) x B) :
  ∃B1 B2,B=B1++B2∧VR w I f [.pointer (some ⟨b,0,none⟩)] (Prod.fst (α:=f.ty.T) (β:=Ty.Ts (VF.fQ (g::fs))) x) B1∧nA w I (g::fs) (h_ rs) (Prod.snd (α:=f.ty.T) (β:=Ty.Ts (VF.fQ (g::fs))) x) B2:=by
 obtain⟨u1,u2,B1,B2,e,rfl,hv1,hv2⟩:=qk.1 h
 have hl:=VR.length _ hv1
 have h1:f.size=1:=by rcases hp with h|h<;>rw[h]<;>rfl
 rw[h1] at hl
 cases u1 with
 | nil=>cases hl
 | cons a u1=>
   have hu:u1=[]:=List.length_eq_zero_iff.1 (Nat.succ.inj hl)
   subst hu
   simp only[h_,List.map_cons,List.cons_append,List.nil_append,List.cons.injEq] at e
   obtain⟨rfl,e⟩:=e
   rw[←show h_ rs=u2 from e] at hv2
   exact⟨B1,B2,rfl,hv1,hv2⟩
theorem nA.roots{I:Nat→Prop}:∀{fs:List VF} {vs:List AV} {rs:List Nat} {x:Ty.Ts (VF.fQ fs)} {B:List Nat},ki S m fs vs rs→nA w I fs (h_ rs) x B→∀r∈rs,r∈B∨I r
 | [],vs,rs,x,B,h,_,r,hr=>by rw[h.2] at hr;exact absurd hr List.not_mem_nil
 | [f],vs,rs,x,B,h,hv,r,hr=>by
   obtain⟨id,off,vs',rs',cs,hp,rfl,rfl,_,_,h3⟩:=h
   rw[h3.2] at hr
   obtain⟨_,k1,k2,_⟩:=VR.blk hp (nQ.1 hv)
   rw[List.mem_singleton.1 hr]
   cases hz:f.fz with
   | false=>exact .inl (k1 hz)
   | true=>exact .inr (k2 hz)
 | f::g::fs,vs,rs,x,B,h,hv,r,hr=>by
   obtain⟨id,off,vs',rs',cs,hp,rfl,rfl,_,_,h3⟩:=h
   obtain⟨B1,B2,rfl,hv1,hv2⟩:=nA.head hp hv
   obtain⟨_,k1,k2,_⟩:=VR.blk hp hv1
   rcases List.mem_cons.1 hr with rfl|hr
   ·cases hz:f.fz with
    | false=>exact .inl (ku.2 (.inl (k1 hz)))
    | true=>exact .inr (k2 hz)
   ·exact(nA.roots h3 hv2 r hr).imp (fun h=>ku.2 (.inr h)) fun h=>h
theorem VF.zd{I:Nat→Prop}{f:VF}{id off:Nat}{x:f.ty.T}{B:List Nat}{m':Mem}{ocs:List AV}(hp:f=.ptr f.sub∨f=.kv f.sub)(hW:WR w0 w S m)(hI:∀b,I b→S.I b)(hv:VR w I f [.pointer (some ⟨S.σ id,0,none⟩)] x B)(hn:B.Nodup)
  (hB:∀b∈B,w0.free b∧¬S.I b∧∀j,(m.at j).bd=true→S.σ j=b→j=id) (hm:m.at id=.flat f.fz ocs) (hl:ocs.length=VF.gk f.sub) (h:VF.back ah f (.ptr id off) x m=some m') :
  ∃S',Step w0 w S m w S' m'∧(∀b,S'.I b→S.I b)∧S'.σ id=S.σ id∧(∀j,j<m.length→j≠id→m'.at j=m.at j∧S'.σ j=S.σ j)∧∀j,m.length≤j→(m'.at j).bd=true→S'.σ j∈B:=by
 have hidl:id<m.length:=Mem.jI fun e=>by rw[e] at hm;cases hm
 generalize hg:f.sub=gs at hp hl
 rcases hp with rfl|rfl
 ·obtain⟨b,B',rfl,e,vs,T,fr,h1,h2,h3⟩:=vV.1 hv
  simp only[List.cons.injEq,Value.pointer.injEq,Option.some.injEq,Addr.mk.injEq,and_true] at e
  obtain⟨hnb,hn'⟩:=List.nodup_cons.1 hn
  obtain⟨S1,s1,c1,w1⟩:=VF.mC gs hW hI h3 hn' fun b' hb'=>by
   obtain⟨k1,k2,k3⟩:=hB b' (List.mem_cons_of_mem _ hb')
   exact⟨k1,k2,fun j hl he=>hnb (by rw[←e,←k3 j hl he,he];exact hb')⟩
  simp only[VF.back,Option.some.injEq] at h
  subst h
  obtain⟨o1,o2⟩:=w1.old id hidl
  have hm1:(VF.writes ah gs x m).1.at id=.flat false ocs:=o1.trans hm
  have hlive:((VF.writes ah gs x m).1.at id).bd=true:=by rw[hm1];rfl
  have hfz:((VF.writes ah gs x m).1.at id).i_=false:=by rw[hm1];rfl
  have hlt1:id<(VF.writes ah gs x m).1.length:=Nat.lt_of_lt_of_le hidl w1.len
  have hk:dT ((VF.writes ah gs x m).1.at id) (.flat false (VF.writes ah gs x m).2):=by
   rw[hm1]
   show _=_
   rw[hl,←nA.length gs h3,c1.length]
  have hO:=fL s1.wr (w':=w) (bx:=.flat false (VF.writes ah gs x m).2) hlive hfz hk (fun h=>by rw[hm1] at h;cases h) (nk.none _ _)
  have hWr:=s1.wr.set (w':=w) (bx:=.flat false (VF.writes ah gs x m).2) hlive hfz hk (fun h=>by rw[hm1] at h;cases h) rfl (nk.none _ _) ⟨vs,T,fr,by rw[o2,e];exact h1,h2,c1.mono hO⟩
  refine⟨S1,s1.trans ⟨hWr,hO,.refl⟩,w1.jl,o2,fun j hj hne=>?_,fun j hj hl'=>?_⟩
  ·rw[Mem.at_set hlt1,if_neg hne];exact w1.old j hj
  ·have hne:j≠id:=fun e=>by rw[e] at hj;exact absurd hidl (Nat.not_lt_of_le hj)
   rw[Mem.at_set hlt1,if_neg hne] at hl'
   exact List.mem_cons_of_mem _ (w1.new j hj hl')
 ·obtain⟨b,e,hIb,vs,T,fr,h1,h2,h3⟩:=rE.1 hv
  simp only[List.cons.injEq,Value.pointer.injEq,Option.some.injEq,Addr.mk.injEq,and_true] at e
  obtain⟨S1,s1,c1,w1⟩:=VF.mC gs hW hI h3 hn fun b' hb'=>by
   obtain⟨k1,k2,k3⟩:=hB b' hb'
   exact⟨k1,k2,fun j hl he=>k2 (by rw[←he,k3 j hl he,e];exact hI b hIb)⟩
  simp only[VF.back,Option.some.injEq] at h
  subst h
  obtain⟨o1,o2⟩:=w1.old id hidl
  have hm1:(VF.writes ah gs x m).1.at id=.flat true ocs:=o1.trans hm
  have hlt1:id<(VF.writes ah gs x m).1.length:=Nat.lt_of_lt_of_le hidl w1.len
  have hln:(VF.writes ah gs x m).2.length=ocs.length:=by rw[hl,←nA.length gs h3,c1.length]
  have hO:=gf s1.wr hm1 hln
  have hWr:=s1.wr.tH hm1 hln (by rw[o2,e];exact h1) h2 c1
  have hσI:S1.I (S1.σ id):=s1.wr.Cu id (by rw[hm1];rfl)
  refine⟨S1.Cu (S1.σ id),s1.trans ⟨hWr,hO,fun b hb=>.inl (hb.elim (fun h=>h) fun h=>h▸hσI)⟩,fun b hb=>w1.jl b (hb.elim (fun h=>h) fun h=>h▸hσI),o2,fun j hj hne=>?_,fun j hj hl'=>?_⟩
  ·rw[Mem.at_set hlt1,if_neg hne];exact w1.old j hj
  ·have hne:j≠id:=fun e=>by rw[e] at hj;exact absurd hidl (Nat.not_lt_of_le hj)
   rw[Mem.at_set hlt1,if_neg hne] at hl'
   exact w1.new j hj hl'
theorem VF.qR{I:Nat→Prop}:∀(fs:List VF) {S:St} {m m':Mem} {vs:List AV} {rs:List Nat} {x:Ty.Ts (VF.fQ fs)} {B:List Nat},WR w0 w S m→(∀b,I b→S.I b)→nA w I fs (h_ rs) x B→B.Nodup→(∀b∈B,w0.free b∧¬S.I b)→
  ki S m fs vs rs→(b_ vs).Nodup→(∀b∈B,∀j,(m.at j).bd=true→S.σ j=b→j∈b_ vs)→VF.pR ah fs vs x m=some m'→∃S',Step w0 w S m w S' m'∧∀b,S'.I b→S.I b
 | [],S,m,m',vs,rs,x,B,hW,hI,hv,hn,hB,hr,hp,hj,h=>by
   rw[VF.pR] at h
   cases h
   exact⟨S,.refl hW,fun _ h=>h⟩
 | [f],S,m,m',vs,rs,x,B,hW,hI,hv,hn,hB,hr,hp,hj,h=>by
   obtain⟨id,off,vs',rs',cs,hf,rfl,rfl,k1,k2,hr'⟩:=hr
   obtain⟨rfl,rfl⟩:=hr'
   rw[VF.pR] at h
   obtain⟨S',s1,s2,_⟩:=VF.zd hf hW hI (nQ.1 hv) hn (fun b hb=>⟨(hB b hb).1,(hB b hb).2,fun j hl he=>by have:=hj b hb j hl he;rw[b_] at this;exact List.mem_singleton.1 this⟩) k1 k2 h
   exact⟨S',s1,s2⟩
 | f::g::fs,S,m,m',vs,rs,x,B,hW,hI,hv,hn,hB,hr,hp,hj,h=>by
   obtain⟨id,off,vs',rs',cs,hf,rfl,rfl,k1,k2,hr'⟩:=hr
   simp only[VF.pR] at h
   obtain⟨B1,B2,rfl,hv1,hv2⟩:=nA.head hf hv
   obtain⟨n1,n2,n3⟩:=List.nodup_append.1 hn
   rw[b_] at hp hj
   obtain⟨p1,p2⟩:=List.nodup_cons.1 hp
   have hrB:=nA.roots hr' hv2
   have hin:∀j∈b_ vs',S.σ j∈B2∨I (S.σ j):=fun j hj=>hrB _ (by rw[hr'.ids];exact List.mem_map_of_mem hj)
   cases hb:VF.back ah f (.ptr id off) (Prod.fst (α:=f.ty.T) (β:=Ty.Ts (VF.fQ (g::fs))) x) m with
   | none=>rw[hb] at h;cases h
   | some m1=>
     rw[hb] at h
     simp only at h
     obtain⟨S1,s1,i1,q1,q3,q4⟩:=VF.zd hf hW hI hv1 n1 (fun b hb=>by
      obtain⟨a1,a2⟩:=hB b (ku.2 (.inl hb))
      refine⟨a1,a2,fun j hl he=>?_⟩
      rcases List.mem_cons.1 (hj b (ku.2 (.inl hb)) j hl he) with h|h
      ·exact h
      ·rcases hin j h with k|k
       ·exact absurd rfl (n3 b hb _ (he▸k))
       ·exact absurd (he▸hI _ k) a2) k1 k2 hb
     have hidl:id<m.length:=Mem.jI fun e=>by rw[e] at k1;cases k1
     obtain⟨_,d1,d2,_⟩:=VR.blk hf hv1
     have hr1:ki S1 m1 (g::fs) vs' rs':=hr'.congr fun j hj fz cs hc=>by
      have hlt:j<m.length:=Mem.jI fun e=>by rw[e] at hc;cases hc
      obtain⟨a1,a2⟩:=q3 j hlt fun e=>p1 (e▸hj)
      exact⟨a2,cs,by rw[a1];exact hc,rfl⟩
     obtain⟨S2,s2,i2⟩:=VF.qR (g::fs) s1.wr (fun b hb=>(s1.out.jl b (hI b hb)).1) hv2 n2 (fun b hb=>⟨(hB b (ku.2 (.inr hb))).1,fun hI1=>(hB b (ku.2 (.inr hb))).2 (i1 b hI1)⟩) hr1 p2 (fun b hb2 j hl he=>by
      by_cases hlt:j<m.length
      ·by_cases hne:j=id
       ·subst hne
        rw[q1] at he
        cases hz:f.fz with
        | false=>exact absurd he (n3 _ (d1 hz) b hb2)
        | true=>exact absurd (he▸hI _ (d2 hz)) (hB b (ku.2 (.inr hb2))).2
       ·obtain⟨a1,a2⟩:=q3 j hlt hne
        rw[a1] at hl;rw[a2] at he
        exact(List.mem_cons.1 (hj b (ku.2 (.inr hb2)) j hl he)).resolve_left hne
      ·exact absurd he (n3 _ (q4 j (Nat.le_of_not_lt hlt) hl) b hb2)) h
     exact⟨S2,s1.trans s2,fun b hb=>i1 b (i2 b hb)⟩
theorem sD:∀{fs:List VF} {vs:List AV} {S:St} {m:Mem},WR w0 w S m→∃S',Step w0 w S m w S' (ua fs vs m)
 | [],vs,S,m,hW=>⟨S,.refl hW⟩
 | f::fs, [],S,m,hW=>⟨S,.refl hW⟩
 | f::fs,v::vs,S,m,hW=>by
   have one:∃S',Step w0 w S m w S' (I8 f v m):=by
    cases f<;>(try exact⟨S,.refl hW⟩)
    cases v<;>(try exact⟨S,.refl hW⟩)
    rename_i gs id off
    simp only[I8]
    cases hm:m.at id<;>(try exact⟨S,.refl hW⟩)
    rename_i fz cs
    have hbx:=hW.box id
    rw[hm] at hbx
    obtain⟨us,T,fr,k1,k2,k3⟩:=hbx
    refine⟨_,⟨hW.tH hm rfl k1 k2 k3,gf hW hm rfl,fun b hb=>?_⟩⟩
    rcases hb with hb|rfl
    ·exact .inl hb
    ·exact(hW.lo id (by rw[hm];rfl)).1
   obtain⟨S1,s1⟩:=one
   obtain⟨S2,s2⟩:=sD (fs:=fs) (vs:=vs) s1.wr
   exact⟨S2,s1.trans s2⟩
theorem Ia{roots:List Nat}{i:Nat}{fz:Bool}{cs:List AV}(h:nv roots i=true):u6 roots i (.flat fz cs)=.flat false (List.replicate cs.length .undef):=by unfold u6;rw[h]
theorem xH{roots:List Nat}:∀{ids:List Nat} {m:Mem},(s7 roots ids m).length=m.length
 | [],m=>rfl
 | i::ids,m=>by rw[s7,xH,List.length_set]
theorem DT{roots:List Nat}:∀{ids:List Nat} {m:Mem} {j:Nat},ids.Nodup→(∀i∈ids,i<m.length)→(s7 roots ids m).at j=if j∈ids then u6 roots j (m.at j) else m.at j
 | [],m,j,_,_=>by rw[s7,if_neg List.not_mem_nil]
 | i::ids,m,j,hn,hl=>by
   obtain⟨n1,n2⟩:=List.nodup_cons.1 hn
   have hlt:=hl i List.mem_cons_self
   rw[s7,DT n2 fun k hk=>by rw[List.length_set];exact hl k (List.mem_cons_of_mem _ hk),Mem.at_set hlt]
   by_cases he:j=i
   ·subst he
    rw[if_neg n1,if_pos rfl,if_pos List.mem_cons_self]
   ·rw[if_neg he]
    by_cases hj:j∈ids
    ·rw[if_pos hj,if_pos (List.mem_cons_of_mem _ hj)]
    ·rw[if_neg hj,if_neg fun h=>(List.mem_cons.1 h).elim he hj]
theorem wR:∀{n:Nat} {us:List Value},us.length=n→bC w S m (List.replicate n .undef) us
 | 0,us,h=>aL.2 (List.length_eq_zero_iff.1 h)
 | n+1, [],h=>by cases h
 | n+1,u::us,h=>aV.2 ⟨u,us,rfl,dC,wR (Nat.succ.inj h)⟩
theorem LO(hW:WR w0 w S m){roots ids:List Nat}(hn:ids.Nodup)(hids:∀i∈ids,DN m i){B:List Nat}(hB:∀b∈B,∃j∈ids,rM m j∧S.σ j=b){w':World}(hos:w'.os=w.os)(htp:w'.tape=w.tape)(hdr:w0.D→w.drawn≤w'.drawn)(hout:w'.output=w.output)
  (hsz:w.heap.size≤w'.heap.size) (hh:∀b,b<w.heap.size→b ∉ B→w'.heap[b]? = w.heap[b]?) {I':Nat→Prop} (hI':∀b,I' b→(S.I b∨b∈B∨w.heap.size≤b)∧b<w'.heap.size) (hcl:∀(b:Nat) (us:Array Value) (T:TypeId) (fr:Nat×Nat),w.heap[b]? = some (.cells us T fr)→∃(dS:Array Value) (T':TypeId) (dL:Nat×Nat),w'.heap[b]? = some (.cells dS T' dL)∧dS.size=us.size)
  (hroot:∀i∈ids,i∈roots→∀cs,m.at i=.flat false cs→¬I' (S.σ i)∧∃us T fr,w'.heap[S.σ i]? = some (.cells us T fr)∧fq fr us.size∧us.size=cs.length) :
  Step w0 w S m w' {S with I:=fun b=>S.I b∨I' b} (s7 roots ids m):=by
 have hlt:∀i∈ids,i<m.length:=fun i hi=>Mem.jI fun e=>by
  rcases hids i hi with ⟨t,x,h⟩|⟨cs,h⟩<;>rw[e] at h<;>cases h
 have hat:=fun j=>DT (roots:=roots) (m:=m) (j:=j) hn hlt
 have hBI:∀b∈B,¬S.I b:=fun b hb=>by
  obtain⟨j,_,⟨h1,h2⟩,rfl⟩:=hB b hb
  exact hW.lT j h1 h2
 have hBf:∀b∈B,w0.free b:=fun b hb=>by
  obtain⟨j,_,⟨h1,h2⟩,rfl⟩:=hB b hb
  exact hW.lof h1 h2
 have hout1:∀j,j ∉ ids→(m.at j).bd=true→S.σ j ∉ B:=fun j hj hl hb=>by
  obtain⟨k,hk,⟨h1,h2⟩,h3⟩:=hB _ hb
  exact hj (hW.inj j k hl h1 h3.symm▸hk)
 have live:∀j,((s7 roots ids m).at j).bd=true→(m.at j).bd=true∧(j∈ids→j∈roots∧∃cs,m.at j=.flat false cs∧(s7 roots ids m).at j=.flat false (List.replicate cs.length .undef)):=fun j h=>by
  rw[hat j] at h ⊢
  by_cases hj:j∈ids
  ·rw[if_pos hj] at h ⊢
   unfold u6 at h ⊢
   cases hr:nv roots j with
   | false=>rw[hr] at h;cases h
   | true=>
     rcases hids j hj with ⟨t,x,hm⟩|⟨cs,hm⟩
     ·rw[hr,hm] at h;cases h
     ·rw[hm];exact⟨rfl,fun _=>⟨eF.1 hr,cs,rfl,rfl⟩⟩
  ·rw[if_neg hj] at h ⊢;exact⟨h,fun h=>absurd h hj⟩
 have hO:bw w S m w' {S with I:=fun b=>S.I b∨I' b} (s7 roots ids m):=by
  refine⟨fun b hb=>⟨.inl hb,hh b (hW.jl b hb) fun h=>hBI b h hb⟩,fun j hj=>?_,fun j hc=>?_⟩
  ·by_cases hi:j∈ids
   ·by_cases hd:(s7 roots ids m).at j=.dead
    ·refine⟨?_,fun h=>absurd hd h⟩
     rw[hd]
     cases hm:m.at j<;>first|exact absurd hm hj|trivial
    ·have h1:=hat j
     rw[if_pos hi] at h1
     unfold u6 at h1
     cases hr:nv roots j with
     | false=>rw[hr] at h1;exact absurd h1 hd
     | true=>
       rw[hr] at h1
       rcases hids j hi with ⟨t,x,hm⟩|⟨cs,hm⟩
       ·rw[hm] at h1;exact absurd h1 hd
       ·rw[hm] at h1
        simp only at h1
        rw[h1,hm]
        refine⟨by show _=_;rw[pQ],fun _=>⟨rfl,rfl,fun _ us T fr h=>?_⟩⟩
        obtain⟨_,dS,T',dL,g1,g2,g3⟩:=hroot j hi (eF.1 hr) cs hm
        refine⟨dS,T',dL,g1,?_⟩
        have hb:=hW.box j
        rw[hm] at hb
        obtain⟨us2,T2,fr2,k1,k2,k3⟩:=hb
        rw[h] at k1
        cases k1
        rw[g3,←k3.length,Array.length_toList]
   ·have h1:=hat j
    rw[if_neg hi] at h1
    rw[h1]
    refine⟨bV hj,fun _=>⟨rfl,rfl,fun hq us T fr h=>?_⟩⟩
    exact⟨us,T,fr,by rw[hh _ (uK h) (hout1 j hi (Lm hq))];exact h,rfl⟩
  ·by_cases hi:j∈ids
   ·rcases hids j hi with ⟨t,x,hm⟩|⟨cs,hm⟩<;>rw[hm] at hc<;>cases hc
   ·rw[hat j,if_neg hi];exact hc
 refine⟨⟨hos.trans hW.os,hW.tape.on htp hdr,hout.trans hW.output,Nat.le_trans hW.size hsz,fun b hb=>?_,fun b hb=>?_,fun j=>?_,fun i j h1 h2 he=>hW.inj i j (live i h1).1 (live j h2).1 he,fun j h=>?_,fun j h h'=>?_,fun j h=>?_,fun i b h=>⟨by rw[xH];exact(hW.root i b h).1,(hW.root i b h).2⟩,fun b us T fr h=>by
  obtain⟨us1,T1,fr1,h1,h2⟩:=hW.cells b us T fr h
  obtain⟨us2,T2,fr2,h3,h4⟩:=hcl b us1 T1 fr1 h1
  exact⟨us2,T2,fr2,h3,h4.trans h2⟩⟩,hO,fun b hb=>?_⟩
 ·rw[hh b (Nat.lt_of_lt_of_le (iP.old hb) hW.size) fun h=>hb (hBf b h)];exact hW.base b hb
 ·rcases hb with hb|hb
  ·exact Nat.lt_of_lt_of_le (hW.jl b hb) hsz
  ·exact(hI' b hb).2
 ·by_cases hi:j∈ids
  ·have h1:=hat j
   rw[if_pos hi] at h1
   rw[h1]
   unfold u6
   cases hr:nv roots j with
   | false=>trivial
   | true=>
     rcases hids j hi with ⟨t,x,hm⟩|⟨cs,hm⟩
     ·rw[hm];trivial
     ·rw[hm]
      obtain⟨_,dS,T',dL,g1,g2,g3⟩:=hroot j hi (eF.1 hr) cs hm
      exact⟨dS,T',dL,g1,g2,wR (by rw[Array.length_toList];exact g3)⟩
  ·have h1:=hat j
   rw[if_neg hi] at h1
   rw[h1]
   exact(hW.box j).mono hO rfl rfl fun hl=>hh _ (hW.lo j hl).2 (hout1 j hi hl)
 ·exact⟨(hW.lo j (live j h).1).1.imp .inl (fun x=>x),Nat.lt_of_lt_of_le (hW.lo j (live j h).1).2 hsz⟩
 ·obtain⟨l1,l2⟩:=live j h
  rintro (hI|hI)
  ·by_cases hi:j∈ids
   ·obtain⟨_,cs,hm,_⟩:=l2 hi
    exact hW.lT j l1 (by rw[hm];rfl) hI
   ·rw[hat j,if_neg hi] at h'
    exact hW.lT j l1 h' hI
  ·by_cases hi:j∈ids
   ·obtain⟨hr,cs,hm,_⟩:=l2 hi
    exact(hroot j hi hr cs hm).1 hI
   ·rw[hat j,if_neg hi] at h'
    rcases (hI' _ hI).1 with k|k|k
    ·exact hW.lT j l1 h' k
    ·exact hout1 j hi l1 k
    ·have h1:=(hW.lo j l1).2
     have h2:w.heap.size≤S.σ j:=k
     omega
 ·by_cases hi:j∈ids
  ·rw[hat j,if_pos hi] at h
   unfold u6 at h
   cases hr:nv roots j with
   | false=>rw[hr] at h;cases h
   | true=>
     rcases hids j hi with ⟨t,x,hm⟩|⟨cs,hm⟩<;>rw[hr,hm] at h<;>cases h
  ·rw[hat j,if_neg hi] at h
   exact .inl (hW.Cu j h)
 ·rcases hb with hb|hb
  ·exact .inl hb
  ·rcases (hI' b hb).1 with k|k|k
   ·exact .inl k
   ·exact .inr (hBf b k)
   ·exact .inr (.inl (Nat.le_trans hW.size k))
theorem FJ(hW:WR w0 w S m){f:VF}{cs:List AV}{x:f.ty.T}{ids:List Nat}{r:List AV}{us:List Value}(hp:f=.ptr f.sub∨f=.kv f.sub)(h:VF.read m f cs=some (x,ids,r))(hc:bC w S m cs us) :
  ∃id dS ocs,cs=.ptr id 0::r∧us=.pointer (some ⟨S.σ id,0,none⟩)::dS∧bC w S m r dS∧(f.fz=false→id∈ids)∧m.at id=.flat f.fz ocs∧ocs.length=VF.gk f.sub:=by
 generalize hg:f.sub=gs at hp
 have main:∀{fz:Bool} {v:AV} {cs:List AV} {us:List Value},bC w S m (v::cs) us→∀{y:Ty.Ts (VF.fQ gs)} {is:List Nat} {id:Nat} {l:List AV},v=.ptr id 0→m.at id=.flat fz l→VF.reads m gs l=some (y,is, [])→
   ∃dS,us=.pointer (some ⟨S.σ id,0,none⟩)::dS∧bC w S m cs dS∧l.length=VF.gk gs:=by
  intro fz v cs us hc y is id l hv hm hrd
  subst hv
  obtain⟨u,dS,rfl,hv,hr⟩:=hc.cons_inv
  have hbx:=hW.box id
  rw[hm] at hbx
  obtain⟨vs,T,fr,k1,k2,k3⟩:=hbx
  rw[CR,hm] at hv
  obtain⟨u1,u2,js,e,h2,h3,h4,h5,h6⟩:=VF.jL hW gs hrd k3
  rw[aL.1 h2,List.append_nil] at e
  rw[←e] at h6
  exact⟨dS,by rw[show u=_ from hv],hr,by rw[←h6.length,k3.length]⟩
 rcases hp with rfl|rfl
 all_goals
  simp only[VF.read] at h
  cases cs with
  | nil=>cases h
  | cons v cs=>
    cases v<;>(try simp only at h)<;>try (cases h;done)
    case ptr id off=>
     cases off with
     | succ _=>cases h
     | zero=>
       cases hm:m.at id<;>rw[hm] at h<;>(try simp only at h)<;>try (cases h;done)
       case flat fz l=>
        cases fz<;>(try (cases h;done))
        simp only at h
        cases hrd:VF.reads m gs l with
        | none=>rw[hrd] at h;cases h
        | some q=>
          obtain⟨y,is,r1⟩:=q
          rw[hrd] at h
          cases r1 with
          | cons _ _=>cases h
          | nil=>
            simp only[Option.some.injEq,Prod.mk.injEq] at h
            obtain⟨rfl,rfl,rfl⟩:=h
            obtain⟨dS,k1,k2,k3⟩:=main hc rfl hm hrd
            exact⟨id,dS,l,rfl,k1,k2,fun h=>(by first|exact List.mem_cons_self|cases h),hm,k3⟩
theorem dA{f:VF}{fs:List VF}(h:dB (f::fs)=true):(f=.ptr f.sub∨f=.kv f.sub)∧dB fs=true:=by
 cases f<;>simp only[dB] at h<;>first|(cases h;done)|exact⟨.inl rfl,h⟩|exact⟨.inr rfl,h⟩
theorem xI(hW:WR w0 w S m):∀{fs:List VF} {vs:List AV} {us:List Value} {x:Ty.Ts (VF.fQ fs)} {ids:List Nat},dB fs=true→VF.reads m fs vs=some (x,ids, [])→bC w S m vs us→
  ki S m fs vs ((b_ vs).map S.σ)∧us=h_ ((b_ vs).map S.σ)∧∀i∈b_ vs,∃fz cs,m.at i=.flat fz cs∧(fz=false→i∈ids)
 | [],vs,us,x,ids,_,h,hc=>by
   simp only[VF.reads,Option.some.injEq,Prod.mk.injEq] at h
   obtain⟨_,_,rfl⟩:=h
   exact⟨⟨rfl,rfl⟩,aL.1 hc,fun i hi=>absurd hi List.not_mem_nil⟩
 | [f],vs,us,x,ids,hp,h,hc=>by
   obtain⟨hf,_⟩:=dA hp
   simp only[VF.reads] at h
   obtain⟨id,dS,ocs,rfl,rfl,h3,h4,h5,h6⟩:=FJ hW hf h hc
   rw[aL.1 h3]
   exact⟨⟨id,0, [], [],ocs,hf,rfl,rfl,h5,h6,rfl,rfl⟩,rfl,fun i hi=>by rw[b_] at hi;rw[List.mem_singleton.1 hi];exact⟨_,_,h5,h4⟩⟩
 | f::g::fs,vs,us,x,ids,hp,h,hc=>by
   simp only[VF.reads] at h
   cases h1:VF.read m f vs with
   | none=>rw[h1] at h;cases h
   | some p=>
     obtain⟨a,i1,r1⟩:=p
     rw[h1] at h
     simp only at h
     cases h2:VF.reads m (g::fs) r1 with
     | none=>rw[h2] at h;cases h
     | some q=>
       obtain⟨b,i2,r2⟩:=q
       rw[h2] at h
       simp only[Option.some.injEq,Prod.mk.injEq] at h
       obtain⟨rfl,rfl,rfl⟩:=h
       obtain⟨hf,hp'⟩:=dA hp
       obtain⟨id,dS,ocs,rfl,rfl,h3,h4,h5,h6⟩:=FJ hW hf h1 hc
       obtain⟨k1,rfl,k3⟩:=xI hW (fs:=g::fs) hp' h2 h3
       refine⟨⟨id,0,r1,_,ocs,hf,rfl,rfl,h5,h6,k1⟩,rfl,fun i hi=>?_⟩
       rw[b_] at hi
       rcases List.mem_cons.1 hi with rfl|hi
       ·exact⟨_,_,h5,fun h=>ku.2 (.inl (h4 h))⟩
       ·obtain⟨fz,cs,e1,e2⟩:=k3 i hi
        exact⟨fz,cs,e1,fun h=>ku.2 (.inr (e2 h))⟩
theorem nA.blocks{w':World}{I:Nat→Prop}:∀{fs:List VF} {vs:List AV} {rs:List Nat} {x:Ty.Ts (VF.fQ fs)} {B:List Nat},ki S m fs vs rs→nA w' I fs (h_ rs) x B→
  ∀i∈b_ vs,∀cs,m.at i=.flat false cs→S.σ i∈B∧∃us T fr,w'.heap[S.σ i]? = some (.cells us T fr)∧fq fr us.size∧us.size=cs.length:=by
 have one:∀{f:VF} {id:Nat} {x:f.ty.T} {B:List Nat} {ocs cs:List AV},(f=.ptr f.sub∨f=.kv f.sub)→VR w' I f [.pointer (some ⟨S.σ id,0,none⟩)] x B→m.at id=.flat f.fz ocs→ocs.length=VF.gk f.sub→m.at id=.flat false cs→
   S.σ id∈B∧∃us T fr,w'.heap[S.σ id]? = some (.cells us T fr)∧fq fr us.size∧us.size=cs.length:=by
  intro f id x B ocs cs hf hv k1 k2 hm
  rw[hm] at k1
  have hz:f.fz=false:=by simp only[il.flat.injEq] at k1;exact k1.1.symm
  have hc:cs=ocs:=by simp only[il.flat.injEq] at k1;exact k1.2
  obtain⟨_,d1,_,us,T,fr,d3,d4,d5⟩:=VR.blk hf hv
  exact⟨d1 hz,us,T,fr,d3,d4,by rw[hc,k2,d5]⟩
 intro fs
 induction fs with
 | nil=>intro vs rs x B h _ i hi;rw[h.1] at hi;exact absurd hi List.not_mem_nil
 | cons f fs ih=>
   intro vs rs x B h hv i hi cs hm
   obtain⟨id,off,vs',rs',ocs,hf,rfl,rfl,k1,k2,h3⟩:=h
   rw[b_] at hi
   cases fs with
   | nil=>
     obtain⟨rfl,rfl⟩:=h3
     rcases List.mem_cons.1 hi with rfl|hi
     ·exact one hf (nQ.1 hv) k1 k2 hm
     ·exact absurd hi List.not_mem_nil
   | cons g fs=>
     obtain⟨B1,B2,rfl,hv1,hv2⟩:=nA.head hf hv
     rcases List.mem_cons.1 hi with rfl|hi
     ·obtain⟨q1,q2⟩:=one hf hv1 k1 k2 hm
      exact⟨ku.2 (.inl q1),q2⟩
     ·obtain⟨q1,q2⟩:=ih h3 hv2 i hi cs hm
      exact⟨ku.2 (.inr q1),q2⟩
theorem kS:∀{l:List Nat},nodupB l=true→l.Nodup
 | [],_=>List.nodup_nil
 | i::l,h=>by
   rw[nodupB,cd,Bool.not_eq_true'] at h
   refine List.nodup_cons.2 ⟨fun hm=>?_,kS h.2⟩
   rw[eF.2 hm] at h
   cases h.1
theorem o6{α β:Type}{f:α→β}:∀{l:List α},l.Nodup→(∀a∈l,∀b∈l,f a=f b→a=b)→(l.map f).Nodup
 | [],_,_=>List.nodup_nil
 | a::l,hn,h=>by
   obtain⟨h1,h2⟩:=List.nodup_cons.1 hn
   rw[List.map_cons]
   refine List.nodup_cons.2 ⟨fun hm=>?_,o6 h2 fun x hx y hy=>h x (List.mem_cons_of_mem _ hx) y (List.mem_cons_of_mem _ hy)⟩
   obtain⟨b,hb,e⟩:=List.mem_map.1 hm
   exact h1 (h b (List.mem_cons_of_mem _ hb) a List.mem_cons_self e▸hb)
theorem pP(hW:WR w0 w S m){ids js:List Nat}(hn:ids.Nodup)(hs:List.Sublist js ids)(hl:∀j∈js,rM m j):(js.map S.σ).Nodup∧(∀b∈js.map S.σ,¬S.I b)∧(∀b∈js.map S.σ,w0.free b)∧∀b∈js.map S.σ,∃j∈ids,rM m j∧S.σ j=b:=by
 refine⟨o6 (hs.nodup hn) fun a ha b hb e=>hW.inj a b (hl a ha).1 (hl b hb).1 e,fun b hb=>?_,fun b hb=>?_,fun b hb=>?_⟩<;>obtain⟨j,hj,rfl⟩:=List.mem_map.1 hb
 ·exact hW.lT j (hl j hj).1 (hl j hj).2
 ·exact hW.lof (hl j hj).1 (hl j hj).2
 ·exact⟨j,hs.subset hj,hl j hj,rfl⟩
theorem Ca{g:FuncId}{s:bL}(hs:s.Sound P g)(hno:¬w0.D)(hW:WR w0 w S m){aa:List AV}{args:Array Value}{v:AV}{m':Mem}(ha:bC w S m aa args.toList)(h:(Ek ah s m aa).Is (v,m'))(cs:List Frame) :
  ∃w' S' z dL,Step w0 w S m w' S' m'∧CR w' S' m' v z∧Steps P (lone (Frame.enter P g args .normal) cs w) (lone dL cs w')∧dL.leaving P w' (.returned z):=by
 unfold Ek at h
 cases hok:cn s.args (aa.drop s.ptrs.length) with
 | false=>rw[hok] at h;exact h.elim
 | true=>
   rw[hok] at h
   simp only at h
   obtain⟨L,hL,hrep⟩:=jf hok (ha.drop s.ptrs.length)
   cases hf:bO ah s.args m ((aa.drop s.ptrs.length).flatMap AV.cells) with
   | none=>rw[hf] at h;exact h.elim
   | some q=>
     obtain⟨m1,cs1⟩:=q
     rw[hf] at h
     simp only at h
     obtain⟨S1,s1,hc1⟩:=dE hW hf hL
     cases htd:jT s.args cs1 with
     | none=>rw[htd] at h;exact h.elim
     | some q=>
       obtain⟨y,r⟩:=q
       rw[htd] at h
       cases r with
       | cons _ _=>exact h.elim
       | nil=>
         simp only at h
         obtain⟨v1,v2,e2,hy,hr2⟩:=iC s.args htd hc1
         rw[aL.1 hr2,List.append_nil] at e2
         rw[←e2] at hy
         obtain⟨S2,s2⟩:=sD (fs:=s.ptrs) (vs:=aa.take s.ptrs.length) s1.wr
         have hct:=(ha.take s.ptrs.length).mono (s1.trans s2).out
         have hy2:=bM.mono s2.out.jl _ hy
         generalize ua s.ptrs (aa.take s.ptrs.length) m1=mz at h s2 hct
         generalize hvs:aa.take s.ptrs.length=vs at h hct
         cases hrd:VF.reads mz s.ptrs vs with
         | none=>rw[hrd] at h;exact h.elim
         | some q=>
           obtain⟨x,ids,r⟩:=q
           rw[hrd] at h
           cases r with
           | cons _ _=>exact h.elim
           | nil=>
             simp only at h
             cases hck:nodupB ids&&(nodupB (b_ vs)&&dB s.ptrs) with
             | false=>rw[hck] at h;exact h.elim
             | true=>
               rw[hck] at h
               simp only at h
               rw[cd,cd] at hck
               obtain⟨hck1,hck2,hck3⟩:=hck
               have hn:=kS hck1
               have hnv:=kS hck2
               obtain⟨u1,u2,js,e3,hr3,hsub,hlv,hob,hvr⟩:=VF.jL s2.wr s.ptrs hrd hct
               rw[aL.1 hr3,List.append_nil] at e3
               obtain⟨hroots,e4,hrt⟩:=xI s2.wr hck3 hrd hct
               rw[←e3,e4] at hvr
               obtain⟨b1,b2,b3,b4⟩:=pP s2.wr hn hsub hlv
               have hrl:∀i∈b_ vs,(mz.at i).bd=true:=fun i hi=>by
                obtain⟨fz,cs,e1,_⟩:=hrt i hi
                rw[e1];rfl
               have hrn:((b_ vs).map S2.σ).Nodup:=o6 hnv fun a ha b hb e=>s2.wr.inj a b (hrl a ha) (hrl b hb) e
               cases hbk:VF.pR ah s.ptrs vs (ah.k s.fn (x,y)).1 (s7 (b_ vs) ids mz) with
               | none=>rw[hbk] at h;exact h.elim
               | some m2=>
                 rw[hbk] at h
                 simp only at h
                 obtain⟨hpre,h⟩:=h
                 cases h
                 obtain⟨e',w',dL,⟨z,he,g1,g2,g3,g4,g5,I',B',g6,gc,g7,g8,g9,g10⟩,hcomes,_,hleave⟩:=hs.calls w S2.I x y _ _ _ s2.wr.jl hvr hrn b1 b2 (hrep _ y hy2) hpre cs
                 subst he
                 have ea:args=(h_ ((b_ vs).map S2.σ)++args.toList.drop s.ptrs.length).toArray:=by
                  rw[←e4,List.take_append_drop,Array.toArray_toList]
                 rw[←ea] at hcomes
                 have hblk:=nA.blocks hroots g7
                 have s3:=LO (roots:=b_ vs) s2.wr hn hob b4 g1 g2 (fun k=>absurd k hno) g3 g4 g5 g6 gc fun i hi hir cs hm=>by
                  obtain⟨q1,q2⟩:=hblk i hir cs hm
                  exact⟨(g9 _ q1).2,q2⟩
                 have hlt:∀i∈ids,i<mz.length:=fun i hi=>Mem.jI fun e=>by
                  rcases hob i hi with ⟨t,x,h⟩|⟨cs,h⟩<;>rw[e] at h<;>cases h
                 have hat:=fun j=>DT (roots:=b_ vs) (m:=mz) (j:=j) hn hlt
                 have hA:∀b∈B',w0.free b∧¬(S2.I b∨I' b):=fun b hb=>by
                  obtain⟨k1,k2⟩:=g9 b hb
                  refine⟨k1.elim (b3 b) fun k=>.inl (Nat.le_trans s2.wr.size k),fun hI=>hI.elim (fun hI=>?_) k2⟩
                  rcases k1 with k1|k1
                  ·exact b2 b k1 hI
                  ·have:=s2.wr.jl b hI;omega
                 have hR:ki {S2 with I:=fun b=>S2.I b∨I' b} (s7 (b_ vs) ids mz) s.ptrs vs ((b_ vs).map S2.σ):=hroots.congr fun j hj fz cs hm=>by
                  obtain⟨fz',cs',e1,e2⟩:=hrt j hj
                  rw[hm] at e1
                  cases e1
                  cases fz with
                  | false=>
                    refine⟨rfl,List.replicate cs.length .undef,?_,pQ⟩
                    rw[hat j,if_pos (e2 rfl),hm,Ia (eF.2 hj)]
                  | true=>
                    refine⟨rfl,cs,?_,rfl⟩
                    rw[hat j,if_neg fun hi=>by rcases hob j hi with ⟨t,x,h⟩|⟨cs,h⟩<;>rw[h] at hm<;>cases hm]
                    exact hm
                 have hC:∀b∈B',∀j,((s7 (b_ vs) ids mz).at j).bd=true→S2.σ j=b→j∈b_ vs:=fun b hb j hl he=>by
                  by_cases hi:j∈ids
                  ·rw[hat j,if_pos hi] at hl
                   unfold u6 at hl
                   cases hr:nv (b_ vs) j with
                   | false=>rw[hr] at hl;cases hl
                   | true=>exact eF.1 hr
                  ·rw[hat j,if_neg hi] at hl
                   rcases (g9 b hb).1 with k|k
                   ·obtain⟨i,hi',⟨l1,_⟩,l3⟩:=b4 b k
                    exact absurd (s2.wr.inj j i hl l1 (he.trans l3.symm)▸hi') hi
                   ·have h1:=(s2.wr.lo j hl).2
                    have h2:S2.σ j=b:=he
                    omega
                 obtain⟨S3,s4,_⟩:=VF.qR (I:=I') s.ptrs s3.wr (fun b hb=>.inr hb) g7 g8 hA hR hnv hC hbk
                 refine⟨w',S3,z,dL,(s1.trans s2).trans (s3.trans s4),?_,hcomes,hleave⟩
                 cases hrp:s.rp with
                 | false=>
                   rw[hrp] at g10
                   exact zY (I:=I') (fun b hb=>(s4.out.jl b (.inr hb)).1) g10
                 | true=>
                   rw[hrp] at g10
                   have g10:(h_ ((b_ vs).map S2.σ)).head? = some z:=g10
                   have e5:args.toList.head? = some z:=by
                    rw[ea,List.toList_toArray,List.head?_append,g10];rfl
                   have hc:=ha.mono ((s1.trans s2).trans (s3.trans s4)).out
                   cases aa with
                   | nil=>rw[aL.1 ha] at e5;cases e5
                   | cons a as=>
                     obtain⟨u,us,e6,hu,_⟩:=aV.1 hc
                     rw[e6] at e5
                     cases e5
                     exact hu
theorem AN:∀{fs:List FuncId} {vs:List AV} {us:List Value},Bf fs vs=true→bC w S m vs us→us=fnV fs
 | [],vs,us,h,hc=>by
   cases vs with
   | nil=>exact aL.1 hc
   | cons _ _=>cases h
 | f::fs,vs,us,h,hc=>by
   cases vs with
   | nil=>cases h
   | cons v vs=>
     obtain⟨u,dS,rfl,hv,hr⟩:=aV.1 hc
     cases v<;>(try (cases h;done))
     rename_i g a c
     cases a<;>(try (cases h;done))
     cases c<;>(try (cases h;done))
     have h:=(cd _ _).mp (show(Nat.beq g f&&Bf fs vs)=true from h)
     obtain⟨x,y,e,h1,h2⟩:=oT.1 hv
     rw[AN h.2 hr,e,Array.toList_eq_nil_iff.1 (aL.1 h1),Array.toList_eq_nil_iff.1 (aL.1 h2),mI h.1]
     rfl
theorem Iu(hW:WR w0 w S m){id:Nat}{t:Ty}{x x':List t.T}(hm:m.at id=.arr false t x)(hlen:x'.length=x.length){w':World}{I':Nat→Prop}(hos:w'.os=w.os)(htp:w'.tape=w.tape)(hdr:w0.D→w.drawn≤w'.drawn)(hout:w'.output=w.output)(hsz:w.heap.size≤w'.heap.size)
  (hh:∀b,b<w.heap.size→(x≠ []→b≠S.σ id)→w'.heap[b]? = w.heap[b]?) (hI':∀b,I' b→(S.I b∨w.heap.size≤b)∧b<w'.heap.size) (hcl:∀(b:Nat) (us:Array Value) (T:TypeId) (fr:Nat×Nat),w.heap[b]? = some (.cells us T fr)→∃(dS:Array Value) (T':TypeId) (dL:Nat×Nat),w'.heap[b]? = some (.cells dS T' dL)∧dS.size=us.size)
  (hb:x≠ []→x'.length≤dD∧∃(us:Array Value) (T:TypeId) (fr:Nat×Nat),w'.heap[S.σ id]? = some (.cells us T fr)∧fq fr us.size∧S.δ id+x'.length*t.size≤us.size∧∀(i:Nat) (y:t.T),x'[i]? = some y→aS w' I' t ((us.toList.drop (S.δ id+i*t.size)).take t.size) y) :
  Step w0 w S m w' {S with I:=fun b=>S.I b∨I' b} (m.set id (.arr false t x')):=by
 have hlt:id<m.length:=Mem.jI fun e=>by rw[e] at hm;cases hm
 have hne:x'≠ []→x≠ []:=fun h e=>h (List.length_eq_zero_iff.1 (by rw[hlen,e];rfl))
 have hll:x≠ []→(m.at id).bd=true∧(m.at id).i_=false:=fun h=>by rw[hm];exact⟨kp h,gG⟩
 have live:∀j,(Mem.at (m.set id (.arr false t x')) j).bd=true→(m.at j).bd=true∧(j=id→x≠ []):=fun j h=>by
  rw[Mem.at_set hlt] at h
  by_cases he:j=id
  ·subst he;rw[if_pos rfl] at h;exact⟨(hll (hne (vB h))).1,fun _=>hne (vB h)⟩
  ·rw[if_neg he] at h;exact⟨h,fun e=>absurd e he⟩
 have hsame:∀j,(m.at j).bd=true→j≠id→w'.heap[S.σ j]? = w.heap[S.σ j]? :=fun j hl hj=>hh _ (hW.lo j hl).2 fun hx e=>hj (hW.inj j id hl (hll hx).1 e)
 have hO:bw w S m w' {S with I:=fun b=>S.I b∨I' b} (m.set id (.arr false t x')):=by
  refine⟨fun b hb=>⟨.inl hb,hh b (hW.jl b hb) fun hx e=>hW.lT id (hll hx).1 (hll hx).2 (e▸hb)⟩,fun j hj=>?_,fun j hc=>?_⟩
  ·rw[Mem.at_set hlt]
   by_cases he:j=id
   ·subst he
    rw[if_pos rfl,hm]
    exact⟨⟨rfl,hlen,rfl⟩,fun _=>⟨rfl,rfl,fun _ us T fr h=>hcl _ us T fr h⟩⟩
   ·rw[if_neg he]
    exact⟨bV hj,fun _=>⟨rfl,rfl,fun _ us T fr h=>hcl _ us T fr h⟩⟩
  ·rw[Mem.at_set hlt]
   by_cases he:j=id
   ·subst he;rw[hm] at hc;cases hc
   ·rw[if_neg he];exact hc
 refine⟨⟨hos.trans hW.os,hW.tape.on htp hdr,hout.trans hW.output,Nat.le_trans hW.size hsz,fun b hb=>?_,fun b hb=>?_,fun j=>?_,fun i j h1 h2 he=>hW.inj i j (live i h1).1 (live j h2).1 he,fun j h=>?_,fun j h h'=>?_,fun j h=>?_,fun i b h=>⟨by rw[List.length_set];exact(hW.root i b h).1,(hW.root i b h).2⟩,fun b us T fr h=>by
  obtain⟨us1,T1,fr1,h1,h2⟩:=hW.cells b us T fr h
  obtain⟨us2,T2,fr2,h3,h4⟩:=hcl b us1 T1 fr1 h1
  exact⟨us2,T2,fr2,h3,h4.trans h2⟩⟩,hO,fun b hb=>?_⟩
 ·rw[hh b (Nat.lt_of_lt_of_le (iP.old hb) hW.size) fun hx e=>hb (e▸hW.lof (hll hx).1 (hll hx).2)];exact hW.base b hb
 ·rcases hb with hb|hb
  ·exact Nat.lt_of_lt_of_le (hW.jl b hb) hsz
  ·exact(hI' b hb).2
 ·rw[Mem.at_set hlt]
  by_cases he:j=id
  ·subst he
   rw[if_pos rfl]
   by_cases hx:x=[]
   ·have hx':x'=[]:=List.length_eq_zero_iff.1 (by rw[hlen,hx];rfl)
    subst hx'
    exact⟨Nat.zero_le _,fun h=>absurd rfl h⟩
   ·obtain⟨h1,us,T,fr,h2,h3,h4,h5⟩:=hb hx
    exact⟨h1,fun _=>⟨us,T,fr,h2,h3,h4,fun i y hy=>aS.mono (fun b hb=>⟨.inr hb,rfl⟩) t (h5 i y hy)⟩⟩
  ·rw[if_neg he]
   exact(hW.box j).mono hO rfl rfl fun hl=>hsame j hl he
 ·exact⟨(hW.lo j (live j h).1).1.imp .inl (fun x=>x),Nat.lt_of_lt_of_le (hW.lo j (live j h).1).2 hsz⟩
 ·have hfz:(m.at j).i_=false:=by
   rw[Mem.at_set hlt] at h'
   by_cases he:j=id
   ·subst he;rw[hm];exact gG
   ·rw[if_neg he] at h';exact h'
  rintro (hI|hI)
  ·exact hW.lT j (live j h).1 hfz hI
  ·rcases (hI' _ hI).1 with k|k
   ·exact hW.lT j (live j h).1 hfz k
   ·have h1:=(hW.lo j (live j h).1).2
    have h2:w.heap.size≤S.σ j:=k
    omega
 ·rw[Mem.at_set hlt] at h
  by_cases he:j=id
  ·subst he;rw[if_pos rfl,gG] at h;cases h
  ·rw[if_neg he] at h;exact .inl (hW.Cu j h)
 ·rcases hb with hb|hb
  ·exact .inl hb
  ·rcases (hI' b hb).1 with k|k
   ·exact .inl k
   ·exact .inr (.inl (Nat.le_trans hW.size k))
theorem Ch{g:FuncId}{s:dG}(hs:s.Sound P g)(hno:¬w0.D)(hW:WR w0 w S m){aa:List AV}{args:Array Value}{v:AV}{m':Mem}(ha:bC w S m aa args.toList)(h:(E3 ah s m aa).Is (v,m'))(cs:List Frame) :
  ∃w' S' z dL,Step w0 w S m w' S' m'∧CR w' S' m' v z∧Steps P (lone (Frame.enter P g args .normal) cs w) (lone dL cs w')∧dL.leaving P w' (.returned z):=by
 unfold E3 at h
 cases aa with
 | nil=>exact h.elim
 | cons a rest=>
   simp only at h
   obtain⟨u,us0,e,hu,hrest⟩:=aV.1 ha
   cases hok:cn s.args (rest.take s.args.length)&&Bf s.dx (rest.drop s.args.length) with
   | false=>rw[hok] at h;exact h.elim
   | true=>
     rw[hok] at h
     simp only at h
     rw[cd] at hok
     obtain⟨L,hL,hrep⟩:=jf hok.1 (hrest.take s.args.length)
     have hfn:=AN hok.2 (hrest.drop s.args.length)
     cases hf:bO ah s.args m ((rest.take s.args.length).flatMap AV.cells) with
     | none=>rw[hf] at h;exact h.elim
     | some q=>
       obtain⟨m1,cs1⟩:=q
       rw[hf] at h
       simp only at h
       obtain⟨S1,s1,hc1⟩:=dE hW hf hL
       cases htd:jT s.args cs1 with
       | none=>rw[htd] at h;exact h.elim
       | some q=>
         obtain⟨y,r⟩:=q
         rw[htd] at h
         cases r with
         | cons _ _=>exact h.elim
         | nil=>
           simp only at h
           obtain⟨v1,v2,e2,hy,hr2⟩:=iC s.args htd hc1
           rw[aL.1 hr2,List.append_nil] at e2
           rw[←e2] at hy
           have hu1:=hu.mono s1.out
           have ea:args=(u::(us0.take s.args.length++fnV s.dx)).toArray:=by
            rw[←hfn,List.take_append_drop,←e,Array.toArray_toList]
           have read:∀{x:List s.elem.T} {ids:List Nat},VF.read m1 (.own s.elem) [a]=some (x,ids, [])→∃js,List.Sublist js ids∧(∀j∈js,rM m1 j)∧VR w S1.I (.own s.elem) [u] x (js.map S1.σ):=by
            intro x ids hrd
            obtain⟨u1,u2,js,e3,h2,h3,h4,_,h6⟩:=VF.pM s1.wr (.own s.elem) hrd (aV.2 ⟨u, [],rfl,hu1,aL.2 rfl⟩)
            rw[aL.1 h2,List.append_nil] at e3
            rw[←e3] at h6
            exact⟨js,h3,h4,h6⟩
           cases a<;>(try simp only at h)<;>(try exact h.elim)
           case own id=>
            cases hm:m1.at id<;>rw[hm] at h<;>(try simp only at h)<;>(try exact h.elim)
            rename_i fz t x
            cases fz with
            | true=>exact h.elim
            | false=>
              simp only at h
              by_cases hb:t.beq s.elem=true
              ·rw[dif_pos hb] at h
               have ht:=Ty.eq_of_beq hb
               obtain⟨el,args',fns',res',pre',fn'⟩:=s
               simp only at ht
               subst ht
               obtain⟨hpre,h⟩:=h
               cases h
               obtain⟨js,j1,j2,hvr⟩:=read (x:=x) (ids:=[id]) (by simp only[VF.read,hm];rw[dif_pos hb];rfl)
               obtain⟨b1,b2,b3,b4⟩:=pP s1.wr (ids:=[id]) (by simp) j1 j2
               obtain⟨e',w',dL,⟨z,he,g1,g2,g3,g4,g5,I',g6,gc,g7,g8⟩,hcomes,_,hleave⟩:=hs.calls w S1.I x y u _ _ s1.wr.jl hvr b2 (hrep _ y hy) hpre cs
               subst he
               rw[←ea] at hcomes
               have hu2:=hu1
               rw[CR,hm] at hu2
               have hB:∀b∈js.map S1.σ,x≠ []∧b=S1.σ id:=fun b hb=>by
                obtain⟨j,hj,l1,l2⟩:=b4 b hb
                rw[List.mem_singleton.1 hj] at l1 l2
                exact⟨by have:=l1.1;rw[hm] at this;exact vB this,l2.symm⟩
               have hlx:(fn' (x,y)).1.length=x.length:=by
                rcases gV.1 g7 with ⟨k1,_,a,k3⟩|⟨k1,b,dl,cap,k2,k3,_⟩<;>rcases hu2 with ⟨l1,a',l2⟩|⟨l1,cap',l2,_⟩
                ·rw[k1,l1]
                ·rw[l2] at k3
                 simp only[List.cons.injEq,Value.slice.injEq,and_true] at k3
                 rw[k1,k3.2.1];rfl
                ·rw[l2] at k3
                 simp only[List.cons.injEq,Value.slice.injEq,and_true] at k3
                 exact absurd (List.length_eq_zero_iff.1 k3.2.1.symm) k1
                ·rw[l2] at k3
                 simp only[List.cons.injEq,Value.slice.injEq,and_true] at k3
                 exact k3.2.1.symm
               have s2:=Iu s1.wr hm hlx g1 g2 (fun k=>absurd k hno) g3 g4 (fun b hb hx=>g5 b hb fun hin=>hx (hB b hin).1 (hB b hin).2) g6 gc fun hx=>by
                rcases hu2 with ⟨l1,_⟩|⟨l1,cap',l2,_⟩
                ·exact absurd l1 hx
                ·rcases gV.1 g7 with ⟨k1,_,a,k3⟩|⟨k1,b,dl,cap,k2,k3,k4,k5,us,T,fr,k6,k7,k8,k9⟩
                 ·exact absurd (List.length_eq_zero_iff.1 (by rw[←hlx,show(fn' (x,y)).1=[] from k1];rfl)) hx
                 ·rw[l2] at k3
                  simp only[List.cons.injEq,Value.slice.injEq,Option.some.injEq,Addr.mk.injEq,and_true] at k3
                  obtain⟨⟨q1,q2⟩,_,q4⟩:=k3
                  refine⟨k5,us,T,fr,by rw[q1];exact k6,k7,?_,by rw[q2];exact k9⟩
                  rw[q2]
                  exact Nat.le_trans (Nat.add_le_add_left (Nat.mul_le_mul_right _ k4) _) k8
               exact⟨w',_,z,dL,s1.trans s2,zY (I:=I') (fun b hb=>Or.inr hb) g8,hcomes,hleave⟩
              ·rw[dif_neg hb] at h;exact h.elim
           case dp b0=>
            obtain⟨hpre,h⟩:=h
            cases h
            obtain⟨js,j1,j2,hvr⟩:=read (x:=[]) (ids:=[]) (by simp only[VF.read];rfl)
            have hjs:js=[]:=List.eq_nil_of_sublist_nil j1
            subst hjs
            obtain⟨e',w',dL,⟨z,he,g1,g2,g3,g4,g5,I',g6,gc,g7,g8⟩,hcomes,_,hleave⟩:=hs.calls w S1.I [] y u _ _ s1.wr.jl hvr (fun b hb=>absurd hb List.not_mem_nil) (hrep _ y hy) hpre cs
            subst he
            rw[←ea] at hcomes
            have s2:=Step.extend s1.wr g1 g2 (fun k=>absurd k hno) g3 g4 (fun b hb=>g5 b hb List.not_mem_nil) fun b hb=>(g6 b hb).1.imp (fun h=>h) fun k=>⟨k,(g6 b hb).2⟩
            exact⟨w',_,z,dL,s1.trans s2,zY (I:=I') (fun b hb=>Or.inr hb) g8,hcomes,hleave⟩
theorem JN{vs:List AV}{us:List Value}(h:bC w S m vs us):CR w S m (cO vs) (Yc us):=by
 match vs,us,h with
 | [],us,h=>rw[aL.1 h];exact fC.2 ⟨#[],rfl,aL.2 rfl⟩
 | [a],us,h=>
   obtain⟨u,dS,rfl,hu,hr⟩:=aV.1 h
   rw[aL.1 hr];exact hu
 | a::b::vs,us,h=>
   obtain⟨u,dS,rfl,hu,hr⟩:=aV.1 h
   obtain⟨u2,us2,rfl,hu2,hr2⟩:=aV.1 hr
   exact fC.2 ⟨(u::u2::us2).toArray,rfl,h⟩
theorem Cc{g:FuncId}{s:kl}(hs:s.Sound P g)(hno:¬w0.D)(hW:WR w0 w S m){aa:List AV}{args:Array Value}{v:AV}{m':Mem}(ha:bC w S m aa args.toList)(h:(DO ah s m aa).Is (v,m'))(cs:List Frame) :
  ∃w' S' z dL,Step w0 w S m w' S' m'∧CR w' S' m' v z∧Steps P (lone (Frame.enter P g args .normal) cs w) (lone dL cs w')∧dL.leaving P w' (.returned z):=by
 unfold DO at h
 cases hok:cn s.args aa with
 | false=>rw[hok] at h;exact h.elim
 | true=>
   rw[hok] at h
   simp only at h
   obtain⟨L,hL,hrep⟩:=jf hok ha
   cases hf:bO ah s.args m (aa.flatMap AV.cells) with
   | none=>rw[hf] at h;exact h.elim
   | some q=>
     obtain⟨m1,cs1⟩:=q
     rw[hf] at h
     simp only at h
     obtain⟨S1,s1,hc1⟩:=dE hW hf hL
     cases htd:jT s.args cs1 with
     | none=>rw[htd] at h;exact h.elim
     | some q=>
       obtain⟨x,r⟩:=q
       rw[htd] at h
       cases r with
       | cons _ _=>exact h.elim
       | nil=>
         simp only at h
         obtain⟨u1,u2,e,hx,hr⟩:=iC s.args htd hc1
         have hu2:=aL.1 hr
         rw[hu2,List.append_nil] at e
         rw[←e] at hx
         cases hwr:VF.write ah s.out (ah.k s.fn x).2.1 m1 with
         | mk m2 vs=>
           rw[hwr] at h
           match vs,h,hwr with
           | [],h,_=>exact h.elim
           | _::_::_,h,_=>exact h.elim
           | [v2],h,hwr=>
             obtain⟨hpre,h⟩:=h
             obtain⟨e',w',dL,⟨z,he,g1,g2,g3,g4,g5,I',B,z1,zs,hz,g6,g7,g8⟩,hcomes,_,hleave⟩:=hs.calls w S1.I x args s1.wr.jl (hrep _ x hx) hpre cs
             subst he
             have s2:=Step.extend s1.wr g1 g2 (fun k=>absurd k hno) g3 g4 g5 g6
             have no:(s.opt=true∧(s.fn x).1=false∧z1=.pointer none)→m'=m1∧v=cO (.fS::cq ah s.res (s.fn x).2.2)→∃w' S' z dL,Step w0 w S m w' S' m'∧CR w' S' m' v z∧Steps P (lone (Frame.enter P g args .normal) cs w) (lone dL cs w')∧dL.leaving P w' (.returned z):=by
              rintro ⟨_,_,rfl⟩ ⟨rfl,rfl⟩
              exact⟨w',_,z,dL,s1.trans s2,by rw[hz];exact JN (aV.2 ⟨_,zs,rfl,by rw[CR],jg (I:=I') (fun b hb=>Or.inr hb) g8⟩),hcomes,hleave⟩
             have yes:((s.opt=true→(s.fn x).1=true)∧VR w' I' s.out [z1] (s.fn x).2.1 B∧B.Nodup∧∀b∈B,w.heap.size≤b∧¬I' b)→m'=m2∧v=cO (v2::cq ah s.res (s.fn x).2.2)→∃w' S' z dL,Step w0 w S m w' S' m'∧CR w' S' m' v z∧Steps P (lone (Frame.enter P g args .normal) cs w) (lone dL cs w')∧dL.leaving P w' (.returned z):=by
              rintro ⟨_,k7,k8,k9⟩ ⟨rfl,rfl⟩
              obtain⟨S3,s3,c3,_⟩:=VF.q8 (I:=I') s.out s2.wr (fun b hb=>.inr hb) k7 k8 fun b hb=>⟨.inl (Nat.le_trans s1.wr.size (k9 b hb).1),fun k=>k.elim (fun k=>absurd (s1.wr.jl b k) (Nat.not_lt_of_le (k9 b hb).1)) (k9 b hb).2,fun j hj e=>absurd (e▸(s1.wr.lo j hj).2) (Nat.not_lt_of_le (k9 b hb).1)⟩
              rw[show VF.write ah s.out (s.fn x).2.1 m1=(m', [v2]) from hwr] at s3 c3
              obtain⟨z',dS,e3,hz',hn⟩:=aV.1 c3
              cases e3
              refine⟨w',S3,z,dL,(s1.trans s2).trans s3,?_,hcomes,hleave⟩
              rw[hz]
              exact JN (aV.2 ⟨_,zs,rfl,hz',jg (I:=I') (fun b hb=>(s3.out.jl b (.inr hb)).1) g8⟩)
             cases ho:s.opt with
             | false=>
               rw[ho] at h
               cases h
               exact yes (g7.resolve_left fun k=>by rw[ho] at k;cases k.1) ⟨rfl,rfl⟩
             | true=>
               rw[ho] at h
               rcases h with ⟨hb,h⟩|⟨hb,h⟩
               ·cases h
                refine yes (g7.resolve_left fun k=>?_) ⟨rfl,rfl⟩
                have hb:(s.fn x).1=true:=hb
                rw[k.2.1] at hb;cases hb
               ·cases h
                refine no (g7.resolve_right fun k=>?_) ⟨rfl,rfl⟩
                have hb:(s.fn x).1=false:=hb
                rw[k.1 ho] at hb;cases hb
theorem zJ{R:Type}{E:eB R}{Fin:R→Value→World→Prop}{I0:Nat→Prop}(hP:Fits P E Fin w0 I0){g:FuncId}{aa:List AV}{tv:TV (AV×Mem)}(h:mR ah E g m aa=some tv) :
  (∃F,P.funcs[g]? = some F∧F.body.isSome=true∧(F.name == "runtime.NumGoroutine")=false)∧
  ∀{w:World} {S:St} {args:Array Value} {v:AV} {m':Mem},WR w0 w S m→bC w S m aa args.toList→tv.Is (v,m')→∀cs:List Frame,
   ∃w' S' z dL,Step w0 w S m w' S' m'∧CR w' S' m' v z∧Steps P (lone (Frame.enter P g args .normal) cs w) (lone dL cs w')∧dL.leaving P w' (.returned z):=by
 unfold mR at h
 cases hp:look E.jH g with
 | some s=>
   rw[hp] at h
   cases h
   exact⟨(hP.jH g s hp).body,fun hW ha h cs=>B_ (hP.jH g s hp) (fun d=>by rw[(hP.nod d).2.1] at hp;cases hp) hW ha h cs⟩
 | none=>
   rw[hp] at h
   simp only at h
   cases hq:look E.kR g with
   | none=>
     rw[hq] at h
     simp only at h
     cases hr:look E.jP g with
     | none=>
       rw[hr] at h
       simp only at h
       cases ho:look E.ops g with
       | none=>rw[ho] at h;cases h
       | some s=>
         rw[ho] at h
         cases h
         exact⟨(hP.ops g s ho).body,fun hW ha h cs=>Cc (hP.ops g s ho) (fun d=>by rw[(hP.nod d).2.2.2.2] at ho;cases ho) hW ha h cs⟩
     | some s=>
       rw[hr] at h
       cases h
       exact⟨(hP.jP g s hr).body,fun hW ha h cs=>Ch (hP.jP g s hr) (fun d=>by rw[(hP.nod d).2.2.2.1] at hr;cases hr) hW ha h cs⟩
   | some s=>
     rw[hq] at h
     cases h
     exact⟨(hP.kR g s hq).body,fun hW ha h cs=>Ca (hP.kR g s hq) (fun d=>by rw[(hP.nod d).2.2.1] at hq;cases hq) hW ha h cs⟩
end
end Go.Ev
