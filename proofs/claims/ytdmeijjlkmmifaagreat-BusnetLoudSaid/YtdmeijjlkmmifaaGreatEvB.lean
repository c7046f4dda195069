/- PROVED: an evaluator is right, operations on memory, calls. Conditions: tables and contracts fit. -/
import Derived.Test.YtdmeijjlkmmifaaGreatEvA
import Derived.Laws.CopyRow
import Derived.Laws.MakeOwn
import Derived.Laws.Append
import Derived.Laws.NewBlocks
import Derived.Laws.BytesString
import Derived.RangeFuncRecord
set_option linter.unusedVariables false
set_option linter.defProp false
set_option linter.unusedSimpArgs false
set_option linter.unusedSectionVars false
namespace Go.Ev
variable{b:iN}{i:Nat}{m:Mem}
theorem Mem.mg(h:i<m.length):Mem.at (m ++ [b]) i=m.at i:=by
 simp[Mem.at,Jt,cB h]
theorem Mem.fK:Mem.at (m ++ [b]) m.length=b:=by
 simp[Mem.at,Jt]
theorem Mem.ahM(h:m.length<=i):m.at i=.bY:=by
 simp[Mem.at,Jt,k_ h]
def Mem.pG(h:m.at i≠.bY):i<m.length:=by grind [Mem.ahM]
variable{S:St}
def Mem.jV(h:S.lv i (m.at i)=true):i<m.length:=
 Mem.pG λe=>by rw[e] at h;cases h
def Mem.nh:Mem.at (m ++ [b]) i=if i=m.length then b else m.at i:=by
 by_cases h:i=m.length
 .simp_all [Mem.fK]
 .rw[if_neg h]
  grind [Mem.mg,Mem.ahM]
theorem Mem.fV{j:Nat}(a:i<m.length):Mem.at (m.set i b) j=if j=i then b else m.at j:=by grind [Mem.at]
theorem fU(h:b≠.bY):i6 b b:=by
 cases b<;>first|exact absurd rfl h|trivial|rfl|exact⟨rfl,rfl,rfl⟩
variable{a:iN}
def FV{c:iN}(e:i6 a b)(g:i6 b c):i6 a c:=by
 cases a<;>cases b<;>cases c<;>first|exact e.elim|exact g.elim|trivial|skip
 .exact Eq.trans g e
 .obtain⟨rfl,h,_⟩:=e;obtain⟨rfl,i,_⟩:=g;exact⟨rfl,i.trans h,rfl⟩
def LL(h:i6 a .bY):False:=by cases a<;>exact h.elim
theorem Re{c:St}{id:Nat}(h:i6 a b)(g:b≠.a_)(i:c.vd id=S.vd id)(e:S.fl id a=true):c.fl id b=true:=by
 cases a<;>cases b<;>first|exact h.elim|(cases e;done)|exact absurd rfl g|rfl|(simp only[St.fl] at e ⊢;simp_all)
def dT.refl{w:World}:dT w S m w S m:=
 ⟨λ_ h=>⟨h,rfl⟩,λ_ a=>⟨fU a,λ_=>⟨rfl,rfl,rfl,λ_ b T fr h=>⟨b,T,fr,h,rfl⟩⟩⟩,λ_ h=>h⟩
def dT.trans{w s t:World}{p q:St}{j l:Mem}(c:dT w S m s p j)(g:dT s p j t q l):dT w S m t q l:=by
 refine⟨λb i=>?_,λid i=>?_,λid h=>g.ctl id<|c.ctl id h⟩
 .have⟨a1,a2⟩:=c.nQ b i;have⟨x,y⟩:=g.nQ b a1
  simp_all
 .have⟨r,c1⟩:=c.box id i;have⟨a,c2⟩:=g.box id<|λe=>LL<|e▸r;refine⟨FV r a,λu=>?_⟩;have v:j.at id≠.a_:=λe=>by
   rw[e] at a;cases hm:l.at id<;>rw[hm] at a u<;>first|exact a.elim|simp_all
  grind [Re]
variable{S':St}{m':Mem}{w':World}
theorem Oe.mono{w:World}(h:dT w S m w' S' m'){r:Oa}{l:Loop}(s:Oe w S m r l):Oe w' S' m' r l:=by
 have⟨a,b,c,e,g,j,p,q⟩:=s;exact⟨a,b,c,e,g,j,p,λi=>(q i).mono h⟩
theorem sr.mono{w:World}(h:dT w S m w' S' m'){id:Nat}(q:S'.σ id=S.σ id)(F:S'.δ id=S.δ id)(z:S'.vd id=S.vd id)(c:S.lv id b=true->w'.heap[S.σ id]? = w.heap[S.σ id]?)(a:sr w S m id b):sr w' S' m' id b:=
 match b,c,a with
 | .bY,_,_=>trivial
 | .a_,_,_=>trivial
 | .VH,_,_=>trivial
 | .cu fz cs,c,a=>by
   have⟨s,T,fr,u,j,v⟩:=a;exact⟨s,T,fr,by rw[q,c rfl];omega,j,v.mono h⟩
 | .arr fz t x,c,a=>by
   have⟨B,p,a⟩:=a;refine⟨B,λe=>p<|z.symm.trans e,λg=>?_⟩;have g:=z.symm.trans g;have⟨s,T,fr,u,j,v,C⟩:=a g;exact⟨s,T,fr,by grind [rP],j,by omega,λi y G=>by rw[F];exact(C i y G).mono h.nQ⟩
 | .loop r,c,a=>by
   have⟨l,u,j⟩:=a;exact⟨l,by rw[q,c rfl];omega,j.mono h⟩
 | .Jq,c,a=>by
   have a:w.heap[S.σ id]? = some (.deferred<|some []):=a;show w'.heap[S'.σ id]? = _;rw[q,c rfl];omega
theorem FC.mono{w:World}(h:dT w S m w' S' m'){n:Nat}{a:dX}{i:Item}(l:match a with | .oY id=>(m.at id).kq=true | .pq id=>(m.at id).kq=true|_=>True)
  (g:FC n S a i):FC n S' a i:=by
 have j:∀id,(m.at id).kq=true->S'.σ id=S.σ id:=λid b=>by
  have c:=h.ctl id b;refine((h.box id λe=>by rw[e] at b;cases b).2 λe=>by rw[e] at c;cases c).1
 cases a<;>first|exact g|(rw[FC] at g ⊢;grind)
theorem fY.mono{w:World}{S:St}{m:Mem}{w':World}{S':St}{m':Mem}(h:dT w S m w' S' m'):∀{n:Nat} {l:List dX} {k:List Item},eP m l->fY n S l k->fY n S' l k
 | _,[],k,_,ht=>ht
 | _,a::l,k,hl,ht=>by
   have⟨j,p,e,c,g⟩:=ht;exact⟨j,p,e,c.mono h<|hl a aJ,fY.mono h (λb i=>hl b<|aD _ i) g⟩
theorem eP.mono{w:World}(h:dT w S m w' S' m'){l:List dX}(c:eP m l):eP m' l:=by
 intro a b;have:=c a b;cases a<;>first|exact h.ctl _ this|trivial
def A9{w:World}{i:World}{b:St}{g:Mem}(h:dT w S m i b g){id:Nat}(a:(m.at id).kq=true):b.σ id=S.σ id:=by
 have c:=h.ctl id a;exact((h.box id λe=>by rw[e] at a;cases a).2 λe=>by rw[e] at c;cases c).1
theorem FR.mono{w:World}(h:dT w S m w' S' m'){f:dK}{fr:Frame}(a:FR w S m f fr):FR w' S' m' f fr:=by
 refine⟨a.fn,a.n,a.small,λi c=>(a.env i c).mono h,a.todo.mono h a.live,a.live.mono h,a.cu,?_,λd b=>h.ctl d<|a.marks d b,a.mode,a.kind,?_,λl e=>h.ctl l<|a.uH l e⟩
 .rw[a.defers];exact fj λd b=>by rw[A9 h<|a.marks d b]
 .rw[a.gB];cases hr:f.gB with
  | none=>rfl
  | some l=>simp[A9 h<|a.uH l hr]
theorem FB.mono{w:World}{S:St}{m:Mem}{w':World}{S':St}{m':Mem}(h:dT w S m w' S' m'):∀{fs:List dK} {l:List Frame},FB w S m fs l->FB w' S' m' fs l
 | [],l,hf=>hf
 | f::fs,l,hf=>by
   have⟨fr,r,e,a,b⟩:=hf;exact⟨fr,r,e,a.mono h,FB.mono h b⟩
def St.push(S:St)(id b d:Nat)(fz:Bool)(v:Bool:=false):St:=
 {σ:=λi=>if i=id then b else S.σ i,δ:=λi=>if i=id then d else S.δ i,vd:=λi=>if i=id then v else S.vd i,I:=λx=>S.I x\/(fz=true/\x=b)}
variable{d:Nat}
theorem wq{id b:Nat}{fz v:Bool}:(S.push id b d fz v).vd id=v:=if_pos rfl
def yO{id b:Nat}{fz:Bool}{p:Prop}(h:(S.push id b d fz).vd id=true):p:=by grind [wq]
def nS{id b:Nat}{fz v:Bool}(h:i≠id):(S.push id b d fz v).lv i a=S.lv i a:=by simp_all [St.lv,St.push]
def yN{id b:Nat}{fz v:Bool}(h:i≠id):(S.push id b d fz v).fz i a=S.fz i a:=by simp_all [St.fz,St.push]
def Es{id b:Nat}{fz:Bool}:(S.push id b d fz).fz id a=a.Uj:=by simp_all [St.fz,St.push,iN.Uj]
variable{w0:nN}
theorem oH{w:World}(l:WR w0 w S m)(o:Obj)(j:iN)(d:Nat)(fz:Bool):dT w S m (w.alloc o) (S.push m.length w.heap.size d fz)<|m ++ [j]:=by
 have c:∀b,b<w.heap.size->(w.alloc o).heap[b]? = w.heap[b]? :=λb a=>heap_alloc_old w o b a;refine⟨λb a=>⟨.inl a,c b<|l.nQ b a⟩,λid a=>?_,λid i=>?_⟩
 .have g:=Mem.pG a;rw[Mem.mg g];refine⟨fU a,λq=>?_⟩;refine⟨if_neg<|by omega,if_neg<|by omega,if_neg<|by omega,λ_ p T fr h=>⟨p,T,fr,?_,rfl⟩⟩
  grind
 .have g:id<m.length:=Mem.pG λe=>by rw[e] at i;cases i
  grind [Mem.mg]
variable{bx:iN}
theorem WR.push{w:World}(c:WR w0 w S m){o:Obj}
  (j:sr (w.alloc o) (S.push m.length w.heap.size d bx.Uj) (m ++ [bx]) m.length bx):WR w0 (w.alloc o) (S.push m.length w.heap.size d bx.Uj)<|m ++ [bx]:=by
 have x:=oH c o bx d bx.Uj;have g:∀b,b<w.heap.size->(w.alloc o).heap[b]? = w.heap[b]? :=λb j=>heap_alloc_old w o b j;refine⟨c.os,c.tape,c.output,by rw[oq];have:=c.size;omega,λb j=>?_,λb j=>?_,λid=>?_,λid l p q r=>?_,λid h=>?_,λid h s=>?_,λid h=>?_,λi b h=>⟨bC (c.root i b h).1<|by simp_all,(if_neg<|e_ (c.root i b h).1).trans (c.root i b h).2.1,λd u=>⟨(if_neg<|e_ (c.root i b h).1).trans ((c.root i b h).2.2 d u).1,(if_neg<|e_ (c.root i b h).1).trans ((c.root i b h).2.2 d u).2⟩⟩,λb z T fr h=>by
  have⟨F,B,G,p,q⟩:=c.cells b z T fr h
  grind⟩
 .rw[g b (by have:=c.size;have:=nN.old j;omega)];exact c.base b j
 .rw[oq];rcases j with j|⟨_,rfl⟩
  .have:=c.nQ b j;omega
  omega
 .by_cases a:id=m.length
  .grind [Mem.fK]
  .have v:=c.box id;rw[Mem.nh,if_neg a];exact v.mono x (if_neg a) (if_neg a) (if_neg a) λy=>g _ (c.lo id y).2
 .rw[Mem.nh] at p q;simp only[St.push] at r;by_cases a:id=m.length<;>by_cases e:l=m.length
  .omega
  .rw[if_pos a,if_neg e] at r;rw[if_neg e,nS e] at q;have:=(c.lo l q).2;omega
  .rw[if_neg a,if_pos e] at r;rw[if_neg a,nS a] at p;have:=(c.lo id p).2;omega
  .rw[if_neg a,if_neg e] at r;rw[if_neg a,nS a] at p;rw[if_neg e,nS e] at q;exact c.inj id l p q r
 .rw[Mem.nh] at h;by_cases a:id=m.length
  .simp[St.push,oq,a];exact .inr<|.inl c.size
  .rw[if_neg a,nS a] at h;have:=c.lo id h
   grind [St.push]
 .rw[Mem.nh] at h s;by_cases a:id=m.length
  .subst a;rw[if_pos rfl,Es] at s;simp only[St.push,if_pos]
   rintro (t|⟨C,_⟩)
   .have:=c.nQ _ t;omega
   simp_all
  .rw[if_neg a,nS a] at h;rw[if_neg a,yN a] at s;simp only[St.push,if_neg a]
   rintro (t|⟨_,r⟩)
   .exact c.qT id h s t
   .have:=(c.lo id h).2;omega
 .rw[Mem.nh] at h;by_cases a:id=m.length
  .subst a;rw[if_pos rfl,Es] at h
   grind [St.push]
  .rw[if_neg a,yN a] at h;simp only[St.push,if_neg a];exact .inl<|c.Js id h
structure rX(w w':World)(b:Nat):Prop where
 os:w'.os=w.os
 tape:w'.tape=w.tape
 drawn:w'.drawn=w.drawn
 output:w'.output=w.output
 size:w'.heap.size=w.heap.size
 other:∀b',b'≠b->w'.heap[b']? = w.heap[b']?
 cells:∀us T fr,w.heap[b]? = some (.cells us T fr)->∃iM T' iV,w'.heap[b]? = some (.cells iM T' iV)/\iM.size=us.size
def kV{w:World}(s:WR w0 w S m){id:Nat}(q:S.lv id (m.at id)=true)(u:S.fz id (m.at id)=false)(t:i6 (m.at id) bx)
  (v:(m.at id).kq=true->bx.kq=true) (c:rX w w'<|S.σ id):dT w S m w' S<|m.set id bx:=by
 have g:=Mem.jV q;refine⟨λb i=>⟨i,c.other b λe=>s.qT id q u<|e▸i⟩,λj p=>?_,λj p=>?_⟩
 .rw[Mem.fV g];by_cases l:j=id
  .subst l;rw[if_pos rfl];exact⟨t,λ_=>⟨rfl,rfl,rfl,λ_=>c.cells⟩⟩
  .rw[if_neg l];refine⟨fU p,λx=>⟨rfl,rfl,rfl,λ_ r T fr h=>?_⟩⟩;by_cases a:S.σ j=S.σ id
   .rw[a] at h ⊢;exact c.cells r T fr h
   .exact⟨r,T,fr,by rw[c.other _ a];exact h,rfl⟩
 grind [Mem.fV]
def WR.set{w:World}(a:WR w0 w S m){id:Nat}(s:S.lv id (m.at id)=true)(y:S.fz id (m.at id)=false)(K:i6 (m.at id) bx)
  (J:(m.at id).kq=true->bx.kq=true) (W:bx.Uj=false) (g:rX w w'<|S.σ id) (r:sr w' S (m.set id bx) id bx):WR w0 w' S<|m.set id bx:=by
 have H:=kV a s y K J g;have q:=Mem.jV s;have l:∀j,S.lv j (Mem.at (m.set id bx) j)=true->S.lv j (m.at j)=true:=λj h=>by grind [Mem.fV]
 refine⟨g.os.trans a.os,a.tape.on g.tape λ_=>kK g.drawn.symm,g.output.trans a.output,by rw[g.size];exact a.size,λb r=>?_,λb r=>by rw[g.size];exact a.nQ b r,λj=>?_,λi j t v p=>a.inj i j (l i t) (l j v) p,
  λj h=>by rw[g.size];exact a.lo j<|l j h,λj h u=>?_,λj h=>?_,λi b h=>⟨by rw[bW];exact(a.root i b h).1,(a.root i b h).2⟩,λc N T fr h=>by
  have⟨B,z,C,t,v⟩:=a.cells c N T fr h;by_cases e:c=S.σ id
  .rw[e] at t ⊢;have⟨O,V,F,X,Y⟩:=g.cells B z C t;simp_all
  .exact⟨B,z,C,by rw[g.other c e];omega,v⟩⟩
 .rw[g.other b λe=>r (by rw[e];exact a.lof s y)];exact a.base b r
 .by_cases p:j=id
  .simp_all [Mem.fV]
  .have G:=a.box j;rw[Mem.fV q,if_neg p];exact G.mono H rfl rfl rfl λx=>g.other _ λe=>p<|a.inj j id x s e
 .rw[Mem.fV q] at h u;by_cases p:j=id
  .subst p;exact a.qT j s y
  .rw[if_neg p] at h u;exact a.qT j h u
 .rw[Mem.fV q] at h;by_cases p:j=id
  .simp_all [ah7]
  .rw[if_neg p] at h;exact a.Js j h
def rX.none(w:World)(b:Nat):rX w w b:=⟨rfl,rfl,rfl,rfl,rfl,λ_ _=>rfl,λa T fr h=>⟨a,T,fr,h,rfl⟩⟩
def St.Js(S:St)(b:Nat):St:={S with I:=λx=>S.I x\/x=b}
def St.VO(S:St)(p:Prop)(b:Nat):St:={S with I:=λx=>S.I x\/(p/\x=b)}
variable{t:Ty}{x:List t.T}
def w6{w:World}(q:WR w0 w S m){id:Nat}{fz:Bool}(l:m.at id=.arr fz t x):dT w S m w (S.VO (S.vd id=false)<|S.σ id)<|m.set id<|.arr true t x:=by
 have a:id<m.length:=Mem.pG λe=>by grind
 refine⟨λb p=>⟨.inl p,rfl⟩,λj g=>?_,λj g=>?_⟩
 .rw[Mem.fV a];by_cases c:j=id
  .subst c;rw[if_pos rfl,l];exact⟨⟨rfl,rfl,rfl⟩,λ_=>⟨rfl,rfl,rfl,λ_ i T fr h=>⟨i,T,fr,h,rfl⟩⟩⟩
  .rw[if_neg c];exact⟨fU g,λ_=>⟨rfl,rfl,rfl,λ_ i T fr h=>⟨i,T,fr,h,rfl⟩⟩⟩
 .rw[Mem.fV a];by_cases c:j=id
  .subst c;rw[l] at g;cases g
  grind
def WR.freeze{w:World}(a:WR w0 w S m){id:Nat}{fz:Bool}(u:m.at id=.arr fz t x):WR w0 w (S.VO (S.vd id=false)<|S.σ id)<|m.set id<|.arr true t x:=by
 have y:=w6 a u;have l:id<m.length:=Mem.pG λe=>by simp_all
 have z:S.vd id=false->S.lv id (m.at id)=true:=λh=>by grind [rP]
 have c:∀j,S.lv j (Mem.at (m.set id<|.arr true t x) j)=true->S.lv j (m.at j)=true:=λj h=>by
  rw[Mem.fV l] at h;by_cases g:j=id
  .subst g;rw[if_pos rfl] at h;rw[u];exact h
  simp_all
 refine⟨a.os,a.tape,a.output,a.size,a.base,λb r=>?_,λj=>?_,λi j B C g=>a.inj i j (c i B) (c j C) g,λj h=>⟨(a.lo j<|c j h).1.imp .inl<|λx=>x,(a.lo j<|c j h).2⟩,λj h p=>?_,λj h=>?_,λi b h=>⟨by rw[bW];exact(a.root i b h).1,(a.root i b h).2⟩,a.cells⟩
 .rcases r with r|⟨v,rfl⟩
  .exact a.nQ b r
  .exact(a.lo id<|z v).2
 .have q:=a.box j;rw[Mem.fV l];by_cases g:j=id
  .subst g;rw[if_pos rfl];rw[u] at q;exact(sr.mono y (id:=j) (b:=.arr fz t x) rfl rfl rfl (λ_=>rfl) q:sr w (S.VO (S.vd j=false)<|S.σ j) (m.set j<|.arr true t x) j<|.arr fz t x)
  .rw[if_neg g];exact q.mono y rfl rfl rfl λ_=>rfl
 .rw[Mem.fV l] at h p;by_cases g:j=id
  .subst g;rw[if_pos rfl] at h p;exact absurd (show(!S.vd j)=true from h) (by rw[show(!S.vd j)=false from p];decide)
  .rw[if_neg g] at h p
   rintro (F|⟨v,s⟩)
   .exact a.qT j h p F
   .exact g<|a.inj j id h (z v) s
 .rw[Mem.fV l] at h;by_cases g:j=id
  .subst g;rw[if_pos rfl] at h;exact .inr ⟨by have e:(!S.vd j)=true:=h;simpa using e,rfl⟩
  .rw[if_neg g] at h;exact .inl<|a.Js j h
def lF{w:World}(s:WR w0 w S m){id:Nat}{fz:Bool}{cs a:List AV}(p:m.at id=.cu fz cs)(r:a.length=cs.length):dT w S m w (S.Js<|S.σ id)<|m.set id<|.cu true a:=by
 have c:id<m.length:=Mem.pG λe=>by grind
 refine⟨λb q=>⟨.inl q,rfl⟩,λj i=>?_,λj i=>?_⟩
 .rw[Mem.fV c];by_cases g:j=id
  .subst g;rw[if_pos rfl,p];exact⟨r,λ_=>⟨rfl,rfl,rfl,λ_ l T fr h=>⟨l,T,fr,h,rfl⟩⟩⟩
  .rw[if_neg g];exact⟨fU i,λ_=>⟨rfl,rfl,rfl,λ_ l T fr h=>⟨l,T,fr,h,rfl⟩⟩⟩
 .rw[Mem.fV c];by_cases g:j=id
  .subst g;rw[p] at i;cases i
  grind
def WR.Ai{w:World}(a:WR w0 w S m){id:Nat}{fz:Bool}{cs l:List AV}(y:m.at id=.cu fz cs)(u:l.length=cs.length){r:Array Value}{T:TypeId}{fr:Nat×Nat}(H:w.heap[S.σ id]? = some (.cells r T fr))(K:gS fr r.size)(G:eH w S m l r.toList):
  WR w0 w (S.Js<|S.σ id) (m.set id<|.cu true l):=by
 have v:=lF a y u;have p:id<m.length:=Mem.pG λe=>by simp_all
 have J:S.lv id (m.at id)=true:=by rw[y];rfl
 have c:∀j,S.lv j (Mem.at (m.set id<|.cu true l) j)=true->S.lv j (m.at j)=true:=λj h=>by grind [Mem.fV]
 refine⟨a.os,a.tape,a.output,a.size,a.base,λb s=>?_,λj=>?_,λi j B C g=>a.inj i j (c i B) (c j C) g,λj h=>⟨(a.lo j<|c j h).1.imp .inl<|λx=>x,(a.lo j<|c j h).2⟩,λj h q=>?_,λj h=>?_,λi b h=>⟨by rw[bW];exact(a.root i b h).1,(a.root i b h).2⟩,a.cells⟩
 .rcases s with s|rfl
  .exact a.nQ b s
  grind
 .have z:=a.box j;rw[Mem.fV p];by_cases g:j=id
  .subst g;rw[if_pos rfl];exact⟨r,T,fr,H,K,G.mono v⟩
  .rw[if_neg g];exact z.mono v rfl rfl rfl λ_=>rfl
 .rw[Mem.fV p] at h q;by_cases g:j=id
  .subst g;rw[if_pos rfl] at q;cases q
  .rw[if_neg g] at h q
   rintro (F|t)
   .exact a.qT j h q F
   .exact g<|a.inj j id h J t
 .rw[Mem.fV p] at h;by_cases g:j=id
  .subst g;exact .inr rfl
  .rw[if_neg g] at h;exact .inl<|a.Js j h
end Go.Ev
namespace Go.Ev
def zW(w0:nN)(S a:St):Prop:=∀b,a.I b->S.I b\/w0.free b
variable{S:St}{w0:nN}
def zW.refl:zW w0 S S:=λ_ h=>.inl h
def zW.trans{a c:St}(e:zW w0 S a)(g:zW w0 a c):zW w0 S c:=λb h=>(g b h).elim (e b) .inr
structure Step(w0:nN)(w:World)(S:St)(m:Mem)(w':World)(S':St)(m':Mem):Prop where
 wr:WR w0 w' S' m'
 out:dT w S m w' S' m'
 grows:zW w0 S S'
variable{m:Mem}
def Step.trans{w i j:World}{b c:St}{g h:Mem}(e:Step w0 w S m i b g)(a:Step w0 i b g j c h):Step w0 w S m j c h:=
 ⟨a.wr,e.out.trans a.out,e.grows.trans a.grows⟩
def Step.refl{w:World}(h:WR w0 w S m):Step w0 w S m w S m:=⟨h,.refl,.refl⟩
theorem Step.push{w:World}(a:WR w0 w S m){o:Obj}{bx:iN}{d:Nat}
  (c:sr (w.alloc o) (S.push m.length w.heap.size d bx.Uj) (m ++ [bx]) m.length bx):Step w0 w S m (w.alloc o) (S.push m.length w.heap.size d bx.Uj)<|m ++ [bx]:=
 ⟨a.push c,oH a o bx d _,λ_ h=>by
  rename_i b;rcases h with h|⟨_,rfl⟩
  .grind
  .exact .inr<|.inl a.size⟩
def Step.aph{w:World}(a:WR w0 w S m)(t:Ty):Step w0 w S m w (S.push m.length 0 0 false true)<|m ++ [.arr false t []]:=by
 have q:∀b,(S.push m.length 0 0 false true).I b->S.I b:=λb h=>h.elim id λh=>absurd h.1 (by decide);have s:dT w S m w (S.push m.length 0 0 false true)<|m ++ [.arr false t []]:=by
  refine⟨λb g=>⟨.inl g,rfl⟩,λj c=>?_,λj u=>?_⟩
  .have p:=Mem.pG c;rw[Mem.mg p];exact⟨fU c,λ_=>⟨if_neg<|by omega,if_neg<|by omega,if_neg<|by omega,λ_ F T fr h=>⟨F,T,fr,h,rfl⟩⟩⟩
  .have p:j<m.length:=Mem.pG λe=>by rw[e] at u;cases u
   grind [Mem.mg]
 have old:∀j,(S.push m.length 0 0 false true).lv j (Mem.at (m ++ [.arr false t []]) j)=true->S.lv j (m.at j)=true/\(S.push m.length 0 0 false true).σ j=S.σ j/\Mem.at (m ++ [.arr false t []]) j=m.at j:=λj h=>by
  rw[Mem.nh] at h ⊢;by_cases c:j=m.length
  all_goals simp_all [St.lv,St.push]
 refine⟨⟨a.os,a.tape,a.output,a.size,a.base,λb g=>a.nQ b<|q b g,λj=>?_,λi j B C y=>?_,λj h=>?_,λj h r g=>?_,λj h=>?_,λi b h=>⟨bC (a.root i b h).1<|by simp_all,(if_neg<|e_ (a.root i b h).1).trans (a.root i b h).2.1,λd v=>⟨(if_neg<|e_ (a.root i b h).1).trans ((a.root i b h).2.2 d v).1,(if_neg<|e_ (a.root i b h).1).trans ((a.root i b h).2.2 d v).2⟩⟩,a.cells⟩,s,λb g=>.inl<|q b g⟩
 .by_cases c:j=m.length
  .subst c;rw[Mem.fK];exact⟨aM _,λ_=>rfl,λh=>by grind [St.push]⟩
  .rw[Mem.nh,if_neg c];exact(a.box j).mono s (if_neg c) (if_neg c) (if_neg c) λ_=>rfl
 .have⟨a1,l,_⟩:=old i B;have⟨a2,z,_⟩:=old j C;rw[l,z] at y;exact a.inj i j a1 a2 y
 .have⟨a1,l,_⟩:=old j h;rw[l];exact⟨(a.lo j a1).1.imp .inl<|λx=>x,(a.lo j a1).2⟩
 .have⟨a1,l,c1⟩:=old j h;have c:j≠m.length:=e_<|Mem.jV a1;rw[c1,yN c] at r;rw[l] at g;exact a.qT j a1 r<|q _ g
 .rw[Mem.nh] at h;by_cases c:j=m.length
  .simp_all [St.fz]
  .rw[if_neg c,yN c] at h;show(S.push m.length 0 0 false true).I (if j=m.length then 0 else S.σ j);rw[if_neg c];exact .inl<|a.Js j h
def WR.drew{w:World}(h:WR w0 w S m):WR w0 w.drew S m:=
 ⟨h.os,h.tape.on rfl λ_=>jb _,h.output,h.size,h.base,h.nQ,λid=>by
  have:=h.box id;exact sr.mono (w:=w) (w':=w.drew) (S:=S) (S':=S) (m:=m) (m':=m) ⟨λb a=>⟨a,rfl⟩,λ_ a=>⟨fU a,λ_=>⟨rfl,rfl,rfl,λ_ c T fr h=>⟨c,T,fr,h,rfl⟩⟩⟩,λ_ h=>h⟩ rfl rfl rfl (λ_=>rfl) this,
  h.inj,h.lo,h.qT,h.Js,h.root,h.cells⟩
def Step.drew{w:World}(h:WR w0 w S m):Step w0 w S m w.drew S m:=
 ⟨h.drew,⟨λ_ a=>⟨a,rfl⟩,λ_ a=>⟨fU a,λ_=>⟨rfl,rfl,rfl,λ_ b T fr h=>⟨b,T,fr,h,rfl⟩⟩⟩,λ_ h=>h⟩,.refl⟩
variable{t:Ty}
section
variable {P:Program} {w0:nN} {w:World} {S:St} {m:Mem}
def qX(q:WR w0 w S m){id:Nat}{fz:Bool}{x:List t.T}(s:m.at id=.arr fz t x){I:Nat->Prop}(z:S.vd id=false->I (S.σ id))(g:∀b,S.I b->I b)
  {l n cap:Nat} {a:Option Addr} (K:l+n<=x.length) (N:n<=cap) (B:a=none->cap=0) (h:n≠0->a=some ⟨S.σ id,S.δ id+l*t.size,none⟩) :
  bT w I (.slice t) [.slice a n cap] ((x.take<|l+n).drop l):=by
 have c:=q.box id;rw[s] at c;have C:=c.1;have r:((x.take<|l+n).drop l).length=n:=by simp_all
 refine eF.2 ⟨a,cap,by grind,by omega,by omega,B,λi y j=>?_⟩;rw[da,cK] at j;split at j
 .rename_i F;have u:x≠ []:=λe=>by simp_all
  have⟨O,T,fr,G,H,J,v⟩:=sr.blk c u;have p:=v _ _ j;refine⟨_,_,_,h<|by omega,z<|q.vd s u,p.length,?_,bT.mono (λb c=>⟨g b c,rfl⟩) t p⟩
  grind [iU]
 simp_all
def Az{α:Type}{x:List α}{l n:Nat}:af.s x l ((l+n:Nat):Int)=(x.take<|l+n).drop l:=by rfl
theorem jU:∀{cs:List AV} {m p:Mem} {g:List AV} {S:St} {G:List Value},WR w0 w S m->gi af m cs=some (p,g)->eH w S m cs G->
  ∃q,Step w0 w S m w q p/\eH w q p g G
 | [],m,p,g,S,G,hW,h,i=>by
   cases h;exact⟨S,.refl hW,i⟩
 | v::vs,m,p,g,S,G,hW,h,i=>by
   obtain⟨u,r,rfl,O,hr⟩:=i.cons_inv
   have y:∀{F:Mem} {W:AV} {H:St},Step w0 w S m w H F->CR w H F W u->(match gi af F vs with|none=>none|some (m,vs)=>some (m,W::vs))=some (p,g)->
     ∃q,Step w0 w S m w q p/\eH w q p g (u::r):=by
    intro F W H N V h;split at h;cases h;rename_i m3 a6 hf;cases h;have⟨Y,C,Z⟩:=jU N.wr hf<|hr.mono N.out;exact⟨Y,N.trans C,bL.2 ⟨u,r,rfl,V.mono C.out,Z⟩⟩
   have same:(match gi af m vs with|none=>none|some (m,vs)=>some (m,v::vs))=some (p,g)->∃q,Step w0 w S m w q p/\eH w q p g (u::r):=y (.refl hW) O;have qs:∀{id:Nat} {fz:Bool} {t:Ty} {x:List t.T},m.at id=.arr fz t x->Step w0 w S m w (S.VO (S.vd id=false)<|S.σ id) (m.set id<|.arr true t x):=by
    intro id fz t x j;refine⟨hW.freeze j,w6 hW j,λb s=>?_⟩;rcases s with s|⟨B,rfl⟩
    .grind
    .exact(hW.lo id (by rw[j,rP,B];rfl)).1
   unfold gi at h;cases v<;>(try exact same h)
   case own id=>
    simp only at h;have i:=O;rw[CR] at i;cases j:m.at id<;>rw[j] at h i<;>(try simp only at i h)<;>try (cases h;done)
    rename_i fz t x;obtain⟨a,z,rfl,C,J,X⟩:=Dh i;refine y (qs j) (rm.2 ?_) h;have s:=qX hW j (I:=(S.VO (S.vd id=false)<|S.σ id).I) (λB=>.inr ⟨B,rfl⟩) (λb s=>.inl s) (l:=0) (n:=x.length) (cap:=z) (a:=a) (by omega) C J (λh=>by grind)
    grind
   case t6 id sz c lo len=>
    simp only at h;have i:=O;rw[CR] at i;cases j:m.at id<;>rw[j] at h i<;>(try simp only at i h)<;>try (cases h;done)
    rename_i fz t x;obtain⟨l,n,z,a,rfl,rfl,rfl,h4,h5,J,rfl,X,_⟩:=i;have K:x.length<=fX:=by have:=hW.box id;rw[j] at this;exact this.1
    rw[im] at K;refine y (qs j) (rm.2 ?_) h;have s:=qX hW j (I:=(S.VO (S.vd id=false)<|S.σ id).I) (λB=>.inr ⟨B,rfl⟩) (λb s=>.inl s) h4 h5 J X;have e:af.b .add .i64 (l:Int) (n:Int)=((l+n:Nat):Int):=by
     show IntKind.i64.wrap _=_;rw[wrap_small (by omega)<|by omega];omega
    rw[e,Az];omega
def rU(B:WR w0 w S m){v:AV}{u:Value}{y:List t.T}{m1:Mem}(C:CR w S m v u)(h:mT af t m v=some y)(s:mm af t m v=some m1):
  ∃K,Step w0 w S m w K m1/\E4 w K.I t u y:=by
 unfold mT at h;unfold mm at s;cases v<;>simp only at h s<;>try (cases h;done)
 case sl g x=>
  cases s;by_cases F:g.beq t=true
  .rw[dif_pos F] at h;have:=Ty.eq_of_beq F;subst this;cases h;exact⟨S,.refl B,E4.Mz (rm.1 C)⟩
  grind
 case fG b=>
  cases s;cases h;obtain⟨a,rfl,_⟩:=nA.1 C;exact⟨S,.refl B,a,0,[],rfl,aM _,by simp,λh=>absurd rfl h,λ_=>rfl,ai _,λi z N=>by grind⟩
 case own id=>
  cases s;rw[CR] at C;cases hm:m.at id<;>rw[hm] at h C<;>(try simp only at C h)<;>try (cases h;done)
  rename_i fz g x;by_cases F:g.beq t=true
  .rw[dif_pos F] at h;have:=Ty.eq_of_beq F;subst this;cases h;by_cases H:x=[]
   .subst H;rcases C with ⟨_,_,a,rfl⟩|⟨_,q,rfl,_⟩
    .exact⟨S,.refl B,E4.none λ_=>rfl⟩
    .exact⟨S,.refl B,E4.none λh=>by cases h⟩
   obtain⟨q,rfl,O,_⟩:=own_ne C (B.vd hm H);have F:=qX B hm (I:=λb=>S.I b\/b=S.σ id) (λ_=>.inr rfl) (λb F=>.inl F) (l:=0) (n:=x.length) (cap:=q) (a:=some ⟨S.σ id,S.δ id,none⟩) (by omega) O (λh=>by cases h) (λ_=>by simp);have a0:E4 w (λb=>S.I b\/b=S.σ id) g (.slice (some ⟨S.σ id,S.δ id,none⟩) x.length q) x:=E4.Mz (by grind);refine⟨S,.refl B,?_⟩;obtain⟨a,ab,us,e,g1,g2,g3,g4,g5,g6⟩:=a0;have j:=B.box id;rw[hm] at j;obtain⟨J,T,fr,W,_,k3,X⟩:=sr.blk j H;refine⟨_,_,(J.toList.drop (S.δ id)).take (x.length*g.size),rfl,g1,by grind,λ_=>⟨_,_,rfl,iU W _ _⟩,(λh=>by cases h),O,λi z N=>?_⟩;have:=X i z N;have a4:i<x.length:=(aU.1 N).1;have V:i*g.size+g.size<=x.length*g.size:=by
    have:=aI g.size (show i+1<=x.length by omega)
    grind
   rw[kR,fh,kT,j6 (by omega)];omega
  grind
 case t6 id sz c lo len=>
  rw[CR] at C;cases hm:m.at id<;>rw[hm] at h s C<;>(try simp only at C h s)<;>try (cases h;done)
  case arr fz g x=>
   cases s;by_cases F:g.beq t=true
   .rw[dif_pos F] at h;have:=Ty.eq_of_beq F;subst this;cases h;obtain⟨l,n,q,a,rfl,rfl,rfl,h4,h5,Y,rfl,Z,_⟩:=C;have j:=B.box id;rw[hm] at j;have a3:=j.1;rw[im] at a3;have e:af.b .add .i64 (l:Int) (n:Int)=((l+n:Nat):Int):=by
     show IntKind.i64.wrap _=_;rw[wrap_small (by omega) (by omega)];omega
    show ∃K:St,Step w0 w S m w K m/\E4 w K.I g (.slice a n q) (af.s x (l:Int) (af.b .add .i64 (l:Int) (n:Int)));rw[e,Az];have G:((x.take (l+n)).drop l).length=n:=by grind
    by_cases a5:n=0
    .subst a5;rw[aY G];exact⟨S,.refl B,E4.none Y⟩
    obtain⟨J,T,fr,W,_,k3,X⟩:=sr.blk j λe=>by grind
    have V:(l+n)*g.size<=x.length*g.size:=aI _ h4;rw[fI] at V
    refine⟨S,.refl B,a,q,(J.toList.drop (S.δ id+l*g.size)).take (n*g.size),by grind,by rw[G,im];omega,by have:=bF (xs:=J);rw[G,dh,dQ];omega,
     λH=>⟨_,_,Z (by omega),iU W _ _⟩,Y,by omega,λi z N=>?_⟩
    rw[da,cK] at N;split at N
    .rename_i a4;have ae:i*g.size+g.size<=n*g.size:=by
      have:=aI g.size (show i+1<=n by omega)
      grind
     rw[kR,fh,kT,j6 (by omega)]
     grind
    grind
   grind
  case cu fz cs=>
   cases hcc:c&&Nat.beq sz t.size with
   | false=>simp_all
   | true=>
     rw[hcc] at h;simp only[fZ] at hcc;have a6:=vH hcc.2;subst a6;simp only at h s;cases ht:eD (lo.toNat*t.size) (len.toNat*t.size) cs with
     | none=>simp_all
     | some l=>
       rw[ht] at h s;simp only at h s;cases hfz:gi af m l with
       | none=>simp_all
       | some p=>
         obtain⟨m',l'⟩:=p;rw[hfz] at h s;simp at h s;subst s;split at h
         rotate_left
         cases h;rename_i x rr hd;cases h;obtain⟨l0,n0,q,a,rfl,rfl,h4,h5,Y,h7,rfl,Z⟩:=C;have j:=B.box id;rw[hm] at j;obtain⟨J,T,fr,W,_,k3⟩:=j;obtain⟨X,k5⟩:=eH.eD ht k3;obtain⟨K,s1,s2⟩:=jU B hfz k5;simp only[AT] at hd ht X k5 s2;obtain⟨u1,u2,e,l1,l2,pr,_⟩:=qw (yk t) t.size (λu y=>bT w K.I t u y) (λcs x r us h hc=>by
          obtain⟨u1,u2,e,O,h2⟩:=nq t h hc;exact⟨u1,u2,e,O.length,O,h2⟩) n0 l' y rr _ hd s2
         have a7:u2=[]:=by simp_all
         rw[a7,aL] at e;refine⟨K,s1,a,q,u1,by rw[l2],by omega,by simp_all,λH=>⟨_,_,Z (by omega),?_⟩,h7,by omega,pr⟩;rw[<-e];exact iU W _ _
end
end Go.Ev
namespace Go.Ev
variable{p:Nat}{α:Type}
def qZ{L a:List α}(h:p+a.length<=L.length)(j:Nat):
  (L.take p++a++L.drop (p+a.length))[j]? = if j<p then L[j]? else if j<p+a.length then a[j-p]? else L[j]? :=by grind
def sM{L new:List α}(h:p+new.length<=L.length){a s:Nat}(c:a+s<=p\/p+new.length<=a):
  ((L.take p++new++L.drop (p+new.length)).drop a).take s=(L.drop a).take s:=by
 apply dR;intro j;rw[cK,cK];by_cases b:j<s
 .rw[if_pos b,if_pos b,da,da,qZ h]
  grind
 grind
def WS{L b:List α}(h:p+b.length<=L.length){a s:Nat}(e:a<=p)(g:p+b.length<=a+s)(i:a+s<=L.length):
  ((L.take p++b++L.drop (p+b.length)).drop a).take s=((L.drop a).take s).take (p-a)++b++((L.drop a).take s).drop (p-a+b.length):=by
 have l:((L.drop a).take s).length=s:=by grind
 apply dR;intro j;rw[qZ<|by omega,cK];by_cases c:j<s
 .rw[if_pos c,da,qZ h]
  grind
 grind
def qp{w:World}{g:Nat}{c a:Array Value}{T:TypeId}(j:w.heap[g]? = some (.cells c T (0,0)))(q:a.size=c.size):rX w (w.setRow g a) g:=
 ⟨rfl,rfl,rfl,rfl,size_setRow _ _ _,λb i=>setRow_other w g b a i,λl p e h=>⟨a,T,(0,0),setRow_heap w g c a T _ j,by grind⟩⟩
section
variable {P:Program} {w0:nN} {w:World} {S:St} {m:Mem}
theorem Rw{v:AV}{u:Value}(i:v.known m=true)(g:v.aaD=true)(h:CR w S m v u):u.oneCell'=true:=by
 cases v
 case undef=>cases i
 case agg=>cases g
 case yV=>cases g
 case int=>rw[(fq.1 h).1];rfl
 case bool=>rw[iD.1 h];rfl
 case str=>rw[(mo.1 h).1];rfl
 case sl=>have⟨a,c,e,_⟩:=eF.1<|rm.1 h;obtain rfl:=List.head_eq_of_cons_eq e;rfl
 case fG=>obtain⟨a,rfl,_⟩:=nA.1 h;rfl
 case pO=>obtain⟨b,o,j,rfl,_⟩:=ug.1 h;rfl
 case jX=>rw[qL.1 h];rfl
 case fn=>obtain⟨j,p,rfl,_⟩:=vo.1 h;rfl
 case tN=>rw[ta.1 h];rfl
 case own id=>
  rw[CR] at h;cases hm:m.at id<;>rw[hm] at h<;>simp_all
  case a_=>grind [AV.known,iN.lT]
  case arr=>obtain⟨a,c,rfl,_⟩:=Dh h;rfl
 case t6 id _ _ _ _=>
  rw[CR] at h;cases hm:m.at id<;>rw[hm] at h<;>simp_all
  case a_=>grind [AV.known,iN.lT]
  case arr=>obtain⟨_,_,c,a,_,_,_,_,_,_,rfl,_⟩:=h;rfl
  case cu=>obtain⟨_,_,c,a,_,_,_,_,_,_,rfl,_⟩:=h;rfl
 case ptr id _=>
  rw[CR] at h;cases hm:m.at id<;>rw[hm] at h<;>simp only at h
  case a_=>grind [AV.known,iN.lT]
  case cu=>rw[h];rfl
 case lu id _ _=>
  rw[CR] at h;cases hm:m.at id<;>rw[hm] at h<;>simp_all
  case a_=>simp[AV.known,hm,iN.lT] at i
  case arr=>obtain⟨_,_,_,rfl⟩:=h;rfl
 case zo id _ _ _ _=>
  rw[CR] at h;cases hm:m.at id<;>rw[hm] at h<;>simp_all
  case a_=>grind [AV.known,iN.lT]
  case cu=>obtain⟨_,_,_,rfl⟩:=h;rfl
 case yield l=>
  rw[CR] at h;cases hm:m.at l<;>rw[hm] at h<;>simp only at h
  case a_=>grind [AV.known,iN.lT]
  case loop=>rw[h];rfl
theorem Ep:∀{cs:List AV} {b:List Value},A6 m cs=true->eH w S m cs b->∀u∈b,u.oneCell'=true
 | [],b,_,h=>by rw[bw.1 h];simp_all
 | v::cs,b,hk,h=>by
   simp[A6,fZ] at hk;obtain⟨u,r,rfl,g,c⟩:=h.cons_inv;intro e a;rcases aF.1 a with rfl|a
   .grind [Rw]
   .exact Ep hk.2.2 c e a
def agP{c b:List α}{off a s n:Nat}(e:off+n<=c.length)(g:a+s<=n)(h:b.length=s):
  c.take off++(((c.drop off).take n).take a++b++((c.drop off).take n).drop (a+s))++c.drop (off+n)=c.take (off+a)++b++c.drop (off+a+s):=by
 apply dR;simp[List.getElem?_append]
 grind
def Kf(hW:WR w0 w S m){p:AV}{v:Value}{a3:List AV}{B:List Value}{m':Mem}(hp:CR w S m p v)(hn:eH w S m a3 B)(bc:A6 m a3=true)(h:Nx af m p a3=some m'):
  ∃b off w' S',v=.pointer (some ⟨b,off,none⟩)/\(storeCells ⟨b,off,none⟩ B).run P w=.ok () w'/\Step w0 w S m w' S' m':=by
 have ab:=Ep bc hn;unfold Nx at h;cases p<;>simp only at h<;>try (cases h;done)
 case ptr id off=>
  have hb:=hW.box id;rw[CR] at hp;cases hm:m.at id<;>rw[hm] at h hp hb<;>(try simp only at hp h)<;>try (cases h;done)
  rename_i fz cs;cases fz<;>(try simp only at h)<;>try (cases h;done)
  split at h
  rotate_left
  cases h;rename_i N F;cases h;have⟨C,T,fr,V,h2,h3⟩:=hb;subst h2;have⟨h4,h5⟩:=qg F hn h3;have O:=run_storeCells_at P (S.σ id) off T B 0 C w V (by omega) ab;have Z:((C.toList.take off++B++C.toList.drop (off+B.length)).toArray).size=C.size:=by grind
  have ht:=qp V Z;have g:S.lv id (m.at id)=true:=by rw[hm];rfl
  have J:S.fz id (m.at id)=false:=by rw[hm];rfl
  have c:i6 (m.at id)<|.cu false N:=by
   rw[hm];show N.length=cs.length;rw[<-h5.length,<-h3.length,t_,t_,dh,dQ];omega
  have hO:=kV hW g J c (λh=>by rw[hm] at h;cases h) ht;refine⟨_,_,_,S,hp,O,⟨hW.set g J c (λh=>by rw[hm] at h;cases h) rfl ht ?_,hO,.refl⟩⟩;exact⟨_,T,(0,0),setRow_heap w _ C _ T _ V,rfl,h5.mono hO⟩
 case lu id i off=>
  cases J:gi af m a3 with
  | none=>simp_all
  | some q=>
    have⟨m1,aa_⟩:=q;rw[J] at h;simp only at h;have⟨H,W,c1⟩:=jU hW J hn;have G:=hp.mono W.out;have hb:=W.wr.box id;rw[CR] at G;cases hm:m1.at id<;>rw[hm] at h G hb<;>(try simp only at G h)<;>try (cases h;done)
    rename_i fz t x;cases fz<;>(try simp only at h)<;>try (cases h;done)
    obtain⟨k,rfl,hk,rfl⟩:=G;have az:x≠ []:=ne_of_lt hk;have bx:=hb.1;have bh:=W.wr.vd hm az;have⟨C,T,fr,V,h2,h3,h4⟩:=sr.blk hb az;have h2:fr=(0,0):=h2;subst h2;have he:=h4 k _<|q8 hk;have b6:=lN (m:=m1) t he;cases F:iI off aa_ (lK af t<|af.n t x k) with
    | none=>simp_all
    | some N=>
      rw[F] at h;simp only at h;cases htd:yk t N with
      | none=>simp_all
      | some q=>
        have⟨y,r⟩:=q;rw[htd] at h;cases r with
        | cons _ _=>cases h
        | nil=>
          cases h;have⟨h5,h6⟩:=qg F c1 b6;have aw:k*t.size+t.size<=x.length*t.size:=by
           have:=aI t.size (show k+1<=x.length by omega)
           grind
          have ba:C.toList.length=C.size:=bF;have b7:((C.toList.drop<|H.δ id+k*t.size).take t.size).length=t.size:=by grind
          rw[b7] at h5;have O:=run_storeCells_at P (H.σ id) (H.δ id+k*t.size+off) T B 0 C w V (by omega) ab;simp only[kJ] at O;have Z:((C.toList.take (H.δ id+k*t.size+off)++B++C.toList.drop (H.δ id+k*t.size+off+B.length)).toArray).size=C.size:=by grind
          have ht:=qp V Z;have g:H.lv id (m1.at id)=true:=by grind [rP]
          have K:H.fz id (m1.at id)=false:=by rw[hm];rfl
          have c:i6 (m1.at id)<|.arr false t<|af.set x k y:=by
           rw[hm];exact⟨rfl,by show(x.set (k:Int).toNat y).length=_;simp,rfl⟩
          have hO:=kV W.wr g K c (λh=>by rw[hm] at h;cases h) ht;have⟨u1,u2,e,X,ae⟩:=nq t htd h6;rw[bw.1 ae,aL] at e;refine⟨_,_,_,H,rfl,O,W.trans ⟨W.wr.set g K c (λh=>by rw[hm] at h;cases h) rfl ht ?_,hO,.refl⟩⟩;have Y:af.set x k y=x.set k y:=by rfl
          rw[Y];refine⟨by simp_all,λe=>absurd (bh.symm.trans e)<|by decide,λ_=>⟨_,T,(0,0),setRow_heap w _ C _ T _ V,rfl,by simp_all,λi z hz=>?_⟩⟩;rw[nI] at hz;by_cases ac:k=i
          .subst ac;rw[if_pos rfl,if_pos hk] at hz;cases hz;rw[WS (by omega) (by omega) (by omega)<|by omega,show H.δ id+k*t.size+off-(H.δ id+k*t.size)=off from by omega,e];exact X.mono hO.nQ
          .rw[if_neg ac] at hz;have h7:=h4 i z hz;rw[sM (by omega) (by
            rcases Nat.lt_or_gt_of_ne ac with ad|ad
            .have:=aI t.size (show k+1<=i by omega)
             grind
            .have:=aI t.size (show i+1<=k by omega)
             grind)]
           exact h7.mono hO.nQ
 case zo id off k t i=>
  cases J:gi af m a3 with
  | none=>simp_all
  | some q=>
    have⟨m1,aa_⟩:=q;rw[J] at h;simp only at h;have⟨H,W,c1⟩:=jU hW J hn;have G:=hp.mono W.out;have hb:=W.wr.box id;rw[CR] at G;cases hm:m1.at id<;>rw[hm] at h G hb<;>(try simp only at G h)<;>try (cases h;done)
    rename_i fz cs;cases fz<;>(try simp only at h)<;>try (cases h;done)
    obtain⟨j,rfl,hj,rfl⟩:=G;have⟨C,T,fr,V,h2,h3⟩:=hb;subst h2;cases ht:eD off (k*t.size) cs with
    | none=>simp_all
    | some l=>
      rw[ht] at h;simp only at h;have⟨h4,h5⟩:=eH.eD ht h3;cases hd:Cg (yk t) k l with
      | none=>simp_all
      | some q=>
        have⟨x,r⟩:=q;rw[hd] at h;cases htd:yk t aa_ with
        | none=>simp_all
        | some q=>
          have⟨y,r2⟩:=q;rw[htd] at h;cases r2 with
          | cons _ _=>cases h
          | nil=>
            simp only at h;split at h
            rotate_left
            cases h;rename_i N F;cases h;have⟨u1,u2,e,l1,l2,pr,_⟩:=qw (yk t) t.size (λu y=>bT w H.I t u y) (λcs x r C h hc=>by
             have⟨u1,u2,e,V,h2⟩:=nq t h hc;exact⟨u1,u2,e,V.length,V,h2⟩) k l x r _ hd h5
            have ae:u2=[]:=by simp_all
            rw[ae,aL] at e;have⟨n1,n2,en,X,bb⟩:=nq t htd c1;rw[bw.1 bb,aL] at en;have b0:B.length=t.size:=by rw[en];exact X.length
            have aw:j*t.size+t.size<=k*t.size:=by
             have:=aI t.size (show j+1<=k by omega)
             grind
            have ba:C.toList.length=C.size:=bF;have b8:off+k*t.size<=C.toList.length:=by
             have:=h4;rw[dh,dQ] at this;by_cases hz:k*t.size=0
             .have:=h3.length;unfold eD at ht;cases hbb:Nat.ble (off+k*t.size) cs.length with
              | false=>grind
              | true=>simp_all
             .omega
            have Y:af.set x j y=x.set j y:=by rfl
            rw[Y] at F;have b1:bT w H.I (.arr k t) (u1.take (j*t.size)++B++u1.drop (j*t.size+t.size))<|x.set j y:=by
             refine AU.2 ⟨by simp_all,by grind,λi z hz=>?_⟩;rw[nI] at hz;by_cases av:j=i
             .grind
             .rw[if_neg av] at hz;have hi:i<x.length:=(aU.1 hz).1;have bz:=sM (L:=u1) (new:=B) (p:=j*t.size) (a:=i*t.size) (s:=t.size) (by omega) (by
               rcases Nat.lt_or_gt_of_ne av with ad|ad
               .have:=aI t.size (show j+1<=i by omega)
                grind
               .have:=aI t.size (show i+1<=j by omega)
                grind)
              grind
            have be:(u1.take (j*t.size)++B++u1.drop (j*t.size+t.size)).length=k*t.size:=by grind
            have⟨h6,h7⟩:=qg F (lN (m:=m1) (.arr k t) b1) h3;rw[be,<-e,agP b8 aw b0] at h7;have O:=run_storeCells_at P (H.σ id) (off+j*t.size) T B 0 C w V (by omega) ab;simp only[kJ] at O;have Z:((C.toList.take (off+j*t.size)++B++C.toList.drop (off+j*t.size+B.length)).toArray).size=C.size:=by grind
            have b2:=qp V Z;have g:H.lv id (m1.at id)=true:=by rw[hm];rfl
            have K:H.fz id (m1.at id)=false:=by rw[hm];rfl
            have b5:N.length=cs.length:=by
             have a1:=h7.length;have a2:=h3.length
             simp_all
            have c:i6 (m1.at id)<|.cu false N:=by
             rw[hm];exact b5
            have hO:=kV W.wr g K c (λh=>by rw[hm] at h;cases h) b2;refine⟨_,_,_,H,rfl,O,W.trans ⟨W.wr.set g K c (λh=>by rw[hm] at h;cases h) rfl b2 ?_,hO,.refl⟩⟩;rw[show off+j*t.size+t.size=off+j*t.size+B.length from by rw[b0]] at h7;exact⟨_,T,(0,0),setRow_heap w _ C _ T _ V,rfl,h7.mono hO⟩
end
end Go.Ev
namespace Go.Ev
variable{I:Nat->Prop}{a:Option Addr}{bx:iN}{cap:Nat}{e:TypeId}{i:TypeInfo}{n:Nat}{t:Ty}{u v x:Value}{α:Type}{y:List t.T}
section
variable {P:Program} {w0:nN} {w:World} {S:St} {m:Mem}
def oE{id:Nat}(a:id<m.length)(i:(m.at id).kq=false):dT w S m w S<|m.set id .a_:=by
 refine⟨λb e=>⟨e,rfl⟩,λj c=>?_,λj c=>?_⟩
 .rw[Mem.fV a];by_cases g:j=id
  .subst g;rw[if_pos rfl];refine⟨?_,λh=>absurd rfl h⟩;cases hm:m.at j<;>first|exact absurd hm c|trivial
  simp_all [fU]
 grind [Mem.fV]
def sU{id j:Nat}(a:id<m.length)(h:S.lv j (Mem.at (m.set id .a_) j)=true):j≠id/\S.lv j (m.at j)=true:=by
 rw[Mem.fV a] at h;by_cases b:j=id
 .rw[if_pos b] at h;cases h
 grind
def WR.kill(c:WR w0 w S m){id:Nat}(a:id<m.length)(s:(m.at id).kq=false):WR w0 w S<|m.set id .a_:=by
 have r:dT w S m w S<|m.set id .a_:=oE a s;refine⟨c.os,c.tape,c.output,c.size,c.base,c.nQ,λj=>?_,λi j g l e=>c.inj i j (sU a g).2 (sU a l).2 e,λj h=>c.lo j (sU a h).2,λj h p=>?_,λj h=>?_,λi b h=>⟨by rw[bW];exact(c.root i b h).1,(c.root i b h).2⟩,c.cells⟩
 .have q:=c.box j;rw[Mem.fV a];by_cases e:j=id
  .rw[if_pos e];trivial
  .rw[if_neg e];exact q.mono r rfl rfl rfl λ_=>rfl
 .have⟨g,l⟩:=sU a h;rw[Mem.fV a,if_neg g] at p;exact c.qT j l p
 .rw[Mem.fV a] at h;by_cases e:j=id
  .rw[if_pos e] at h;cases h
  .rw[if_neg e] at h;exact c.Js j h
def pU{r:World}{b d:Nat}(t:¬S.I b)(g:rX w r b)(s:iN):dT w S m r (S.push m.length b d false)<|m ++ [s]:=by
 refine⟨λu i=>⟨.inl i,g.other _ λe=>t<|e▸i⟩,λj p=>?_,λj l=>?_⟩
 .have c:=Mem.pG p;rw[Mem.mg c];refine⟨fU p,λv=>⟨if_neg<|by omega,if_neg<|by omega,if_neg<|by omega,λ_ q T fr h=>?_⟩⟩;by_cases a:S.σ j=b
  .rw[a] at h ⊢;exact g.cells q T fr h
  .exact⟨q,T,fr,by rw[g.other _ a];exact h,rfl⟩
 .have c:j<m.length:=Mem.pG λe=>by rw[e] at l;cases l
  grind [Mem.mg]
def WR.Kv{C:World}(g:WR w0 w S m){b d:Nat}(Y:w0.free b/\b<w.heap.size)(r:∀j,S.lv j (m.at j)=true->S.σ j≠b)(O:¬S.I b)(l:rX w C b)(W:bx.Uj=false)
  (hb:sr C (S.push m.length b d false) (m ++ [bx]) m.length bx):WR w0 C (S.push m.length b d false)<|m ++ [bx]:=by
 have V:=pU (m:=m) (d:=d) O l bx;have q:∀x,(S.push m.length b d false).I x->S.I x:=λx s=>s.elim id λh=>absurd h.1 (by decide);refine⟨l.os.trans g.os,g.tape.on l.tape λ_=>kK l.drawn.symm,l.output.trans g.output,by rw[l.size];exact g.size,λv p=>?_,λv p=>by rw[l.size];exact g.nQ _<|q _ p,λj=>?_,λi j u t z=>?_,λj h=>?_,λj h y=>?_,λj h=>?_,λi b h=>⟨bC (g.root i b h).1<|by simp_all,(if_neg<|e_ (g.root i b h).1).trans (g.root i b h).2.1,λd G=>⟨(if_neg<|e_ (g.root i b h).1).trans ((g.root i b h).2.2 d G).1,(if_neg<|e_ (g.root i b h).1).trans ((g.root i b h).2.2 d G).2⟩⟩,λc Z T fr h=>by
  have⟨H,F,J,u,t⟩:=g.cells c Z T fr h;by_cases e:c=b
  .subst e;have⟨a0,T2,K,k1,k2⟩:=l.cells H F J u;simp_all
  .exact⟨H,F,J,by rw[l.other c e];omega,t⟩⟩
 .rw[l.other v λe=>p<|by simp_all];exact g.base v p
 .by_cases a:j=m.length
  .grind [Mem.fK]
  .have N:=g.box j;rw[Mem.nh,if_neg a];exact N.mono V (if_neg a) (if_neg a) (if_neg a) λX=>l.other _<|r j X
 .rw[Mem.nh] at u t;simp only[St.push] at z;by_cases B:i=m.length<;>by_cases a:j=m.length
  .omega
  .rw[if_neg a,nS a] at t;grind
  .simp_all [nS]
  .rw[if_neg B,if_neg a] at z;rw[if_neg B,nS B] at u;rw[if_neg a,nS a] at t;exact g.inj i j u t z
 .rw[Mem.nh] at h;rw[l.size];by_cases a:j=m.length
  .simp_all [St.push]
  .rw[if_neg a,nS a] at h;simp only[St.push,if_neg a];exact⟨(g.lo j h).1.imp .inl<|λx=>x,(g.lo j h).2⟩
 .intro s;have s:=q _ s;rw[Mem.nh] at h y;simp only[St.push] at s;by_cases a:j=m.length
  .grind
  .rw[if_neg a,nS a] at h;rw[if_neg a,yN a] at y;rw[if_neg a] at s;exact g.qT j h y s
 .rw[Mem.nh] at h;by_cases a:j=m.length
  .simp_all [ah7]
  .rw[if_neg a,yN a] at h;show(S.push m.length b d false).I (if j=m.length then b else S.σ j);rw[if_neg a];exact .inl<|g.Js j h
def Step.abQ{p:World}(g:WR w0 w S m){id d:Nat}(i:S.lv id (m.at id)=true)(u:(m.at id).kq=false)(x:S.fz id (m.at id)=false)(y:rX w p<|S.σ id)(q:bx.Uj=false)
  (t:dT w S m p (S.push m.length (S.σ id) d false) (m.set id .a_ ++ [bx])->sr p (S.push m.length (S.σ id) d false) (m.set id .a_ ++ [bx]) m.length bx) :
  Step w0 w S m p (S.push m.length (S.σ id) d false) (m.set id .a_ ++ [bx]):=by
 have a:=Mem.jV i;have z:=g.kill a u;have l:(m.set id .a_).length=m.length:=bW ..;have c:∀j,S.lv j (Mem.at (m.set id .a_) j)=true->S.σ j≠S.σ id:=λj v e=>(sU a v).1<|g.inj j id (sU a v).2 i e;have r:=g.qT id i x;have s:=(oE (w:=w) (S:=S) a u).trans<|pU (d:=d) r y bx;have:=z.Kv (d:=d) ⟨g.lof i x,(g.lo id i).2⟩ c r y q (by grind);rw[l] at this s;exact⟨this,s,λb t=>t.elim .inl λh=>absurd h.1<|by decide⟩
theorem uV{A:aS}:∀{cs a:List AV} {m b:Mem} {id:Nat} {fz:Bool} {c:List AV},gi A m cs=some (b,a)->m.at id=.cu fz c->b.at id=.cu fz c
 | [],a,m,b,id,fz,c,h,hm=>by cases h;omega
 | v::vs,a,m,b,id,fz,c,h,hm=>by
   have i:∀{r:Mem} {s:AV},r.at id=.cu fz c->(match gi A r vs with|none=>none|some (m,vs)=>some (m,s::vs))=some (b,a)->b.at id=.cu fz c:=by
    intro r s u h;split at h;cases h;rename_i q y;cases h;exact uV y u
   have set:∀{j:Nat} {l:Bool} {t:Ty} {x:List t.T},m.at j=.arr l t x->Mem.at (m.set j<|.arr true t x) id=.cu fz c:=by
    intro j l t x g;have p:j<m.length:=Mem.pG λe=>by grind
    rw[Mem.fV p,if_neg λe=>by rw[e,g] at hm;cases hm];omega
   have same:(match gi A m vs with|none=>none|some (m,vs)=>some (m,v::vs))=some (b,a)->b.at id=.cu fz c:=i hm;unfold gi at h;cases v<;>(try exact same h)
   case own j=>
    simp only at h;cases g:m.at j<;>rw[g] at h<;>(try simp only at h)<;>try (cases h;done)
    exact i (set g) h
   case t6 j _ _ lo len=>
    simp only at h;cases g:m.at j<;>rw[g] at h<;>(try simp only at h)<;>try (cases h;done)
    exact i (set g) h
theorem E4.mono{w':World}{g:Nat->Prop}(x:∀b,I b->g b/\w'.heap[b]? = w.heap[b]?)(j:∀b off c,mf w b off c->mf w' b off c)(h:E4 w I t v y):E4 w' g t v y:=by
 have⟨a,e,c,l,p,q,F,r,s,u⟩:=h;exact⟨a,e,c,l,p,q,λB=>by grind,r,s,λi z C=>(u i z C).mono x⟩
def JQ(z:WR w0 w S m){q:Bool}{v G:AV}{j:Mem}(W:CR w S m v u)(h:Ma af q m v=(G,j)):∃p,Step w0 w S m w p j/\CR w p j G u:=by
 have same:(v,m)=(G,j)->∃p,Step w0 w S m w p j/\CR w p j G u:=λh=>by cases h;exact⟨S,.refl z,W⟩
 cases q
 .exact same h
 cases v<;>try exact same h
 rename_i id sz c lo n;unfold Ma at h;simp only at h;cases hm:m.at id<;>rw[hm] at h<;>try exact same h
 rename_i fz t x;cases fz<;>try exact same h
 simp only at h;split at h
 rotate_left
 .simp_all
 rename_i N;have N:=of_decide_eq_true N;cases h;have V:=W;rw[CR,hm] at V;obtain⟨l,k,H,a,e1,rfl,rfl,O,h5,h6,rfl,h8,h9⟩:=V;have hl:l=0:=by omega
 subst hl;rw[iy] at O;have B:=z.box id;rw[hm] at B;have Y:af.s x 0 (k:Int)=x.take k:=by rfl
 rw[Y];have s:id<m.length:=Mem.pG λe=>by simp_all
 have J:(m.set id .a_).length=m.length:=bW ..;have r:(x.take k).length=k:=by simp_all
 cases hvd:S.vd id
 .obtain⟨rfl,X,T,fr,C,k2⟩:=(h9 rfl).2 hvd;have⟨a8,T2,Z,K,g2,g3,g4⟩:=B.2.2 hvd;rw[C] at K;cases K;have F:=Step.abQ (d:=S.δ id) (bx:=.arr false t<|x.take k) z (id:=id) (by rw[hm];simp[St.lv,hvd]) (by rw[hm];rfl) (by rw[hm];rfl) (rX.none w _) rfl (λhO=>by
   refine⟨by rw[r];exact bd O B.1,yO,λ_=>⟨X,T,fr,?_,g2,?_,λi y hy=>?_⟩⟩
   .simp only[St.push];grind
   .simp only[St.push];have:=aI t.size h5
    grind
   .have a7:x[i]? = some y:=by grind
    simp only[St.push]
    simp_all)
  refine⟨_,F,?_⟩;have g:Mem.at (m.set id .a_ ++ [.arr false t<|x.take k]) m.length=.arr false t (x.take k):=by
   have:=Mem.fK (m:=m.set id .a_) (b:=.arr false t<|x.take k);simp_all
  rw[CR,g];refine .inr ⟨by simp[St.push],H,?_,by omega,X,T,fr,?_,?_⟩
  .simp only[St.push];grind
  .simp[St.push,if_pos];omega
  .simp[St.push,if_pos];omega
 .have hx:=B.2.1 hvd;have hk:k=0:=by simp_all
  subst hk;have C:=z.kill s (by rw[hm];rfl);have F:=Step.aph C t;rw[J] at F;refine⟨_,Step.trans ⟨C,oE s (by rw[hm];rfl),λb h=>.inl h⟩ F,?_⟩;have g:Mem.at (m.set id .a_ ++ [.arr false t []]) m.length=.arr false t []:=by
   have:=Mem.fK (m:=m.set id .a_) (b:=.arr false t []);simp_all
  show CR w _ (m.set id .a_ ++ [.arr false t []]) _ _;rw[CR,g];exact .inl ⟨wq,rfl,a,by simp_all⟩
def H8(G:WR w0 w S m){v v1:AV}{O:Mem}(hv:CR w S m v u)(h:BS af t m v=some (v1,O)):∃X,Step w0 w S m w X O/\CR w X O v1 u:=by
 unfold BS at h;split at h
 .rename_i id sz lo n;split at h
  rotate_left
  cases h;rename_i cs K;split at h
  rotate_left
  cases h;rename_i c;simp only[fZ,uR] at c;obtain⟨rfl,z,B,h3⟩:=c;have B:=vH B;subst B;have h3:t.size≠0:=λe=>by simp_all
  have H:=hv;rw[CR,K] at H;obtain⟨l,k,b,a,e1,e2,h4,h5,h6,h7,rfl,h8⟩:=H;have hl:l=0:=by omega
  subst hl;subst e2;simp at z h4 h5;have Y:b<=k:=rI (by rw[<-z];omega) (by omega);have g:b=k:=by omega
  subst g;split at h
  .rename_i F;have F:=vH F;cases h;subst F;exact⟨S,.refl G,nA.2 ⟨a,rfl,λh=>by cases h⟩⟩
  .rename_i F;have F:b≠0:=λe=>by simp_all
   cases hf:gi af m cs with
   | none=>simp_all
   | some q=>
     have⟨m2,s⟩:=q;rw[hf] at h;simp at h;cases htd:Cg (yk t) b s with
     | none=>simp_all
     | some q=>
       have⟨x,r⟩:=q;rw[htd] at h;cases r with
       | cons _ _=>cases h
       | nil=>
         cases h;have C:=G.box id;rw[K] at C;have⟨W,T,fr,k1,k2,k3⟩:=C;have⟨J,V,s2⟩:=jU G hf k3;have p:m2.at id=.cu false cs:=uV hf K;have⟨u1,u2,e,l1,l2,pr,hr⟩:=qw (yk t) t.size (λu y=>bT w J.I t u y) (λcs x r W h H=>by
          have⟨u1,u2,e,z,B⟩:=nq t h H;exact⟨u1,u2,e,z.length,z,B⟩) b s x [] _ htd s2
         rw[bw.1 hr,aL] at e;have hσ:J.σ id=S.σ id:=((V.out.box id<|by simp_all).2<|by simp_all).1;have j:J.lv id (m2.at id)=true:=by rw[p];rfl
         have Z:W.size=b*t.size:=by grind
         have N:=Step.abQ (d:=0) (bx:=.arr false t x) V.wr j (by rw[p];rfl) (by rw[p];rfl) (rX.none w _) rfl (λhO=>by
          refine⟨by omega,yO,λ_=>⟨W,T,fr,?_,k2,?_,λi y hy=>?_⟩⟩
          all_goals grind [St.push])
         refine⟨_,V.trans N,?_⟩
         simp_all [CR,Mem.at,St.push]
 .cases h;exact⟨S,.refl G,hv⟩
def EY{us:Array Value}{T:TypeId}{fr:Nat×Nat}{b:Nat}{x:List t.T}(u:w.heap[b]? = some (.cells us T fr))(r:I b)(p:∀(i:Nat) (y:t.T),x[i]? = some y->bT w I t ((us.toList.drop<|i*t.size).take t.size) y)
  {l n cap:Nat} {a:Option Addr} (B:n<=fX) (v:l+n<=x.length) (z:n<=cap) (q:a=none->cap=0) (c:n≠0->a=some ⟨b,l*t.size,none⟩) :
  bT w I (.slice t) [.slice a n cap] ((x.take<|l+n).drop l):=by
 have j:((x.take<|l+n).drop l).length=n:=by simp_all
 refine eF.2 ⟨a,cap,by grind,by omega,by omega,q,λi y g=>?_⟩;rw[da,cK] at g;split at g
 .rename_i s;have h:=p _ _ g;refine⟨_,_,_,c<|by omega,r,h.length,?_,h⟩;have e:l*t.size+i*t.size=(l+i)*t.size:=by grind
  grind [iU]
 simp_all
theorem EP(hW:WR w0 w S m){v v1:AV}{V:Mem}(hv:CR w S m v u)(h:CW af t m v=some (v1,V)):∃X,Step w0 w S m w X V/\CR w X V v1 u:=by
 unfold CW at h;split at h
 .rename_i id sz c lo n;split at h
  rotate_left
  cases h;rename_i fz cs N;split at h
  rotate_left
  cases h;rename_i g;simp only[fZ] at g;have⟨s,Y,Z⟩:=g;have s:=vH s;have Z:=vH Z;have H:=hv;rw[CR,N] at H;obtain⟨l,k,J,a,rfl,rfl,h4,h5,h6,h7,rfl,h8⟩:=H;cases hf:gi af m cs with
  | none=>grind
  | some q=>
    have⟨m2,j⟩:=q;rw[hf] at h;simp only at h;cases htd:Cg (yk t) (cs.length/t.size) j with
    | none=>grind
    | some q=>
      have⟨x,r⟩:=q;rw[htd] at h;cases r with
      | cons _ _=>cases h
      | nil=>
        cases h;have z:=hW.box id;rw[N] at z;have⟨us,T,fr,k1,k2,k3⟩:=z;have⟨F,C,W⟩:=jU hW hf k3;have p:m2.at id=.cu fz cs:=uV hf N;have⟨u1,u2,e,l1,l2,pr,hr⟩:=qw (yk t) t.size (λu y=>bT w F.I t u y) (λcs x r us h H=>by
         have⟨u1,u2,e,s,Y⟩:=nq t h H;exact⟨u1,u2,e,s.length,s,Y⟩) (cs.length/t.size) j x [] _ htd W
        rw[bw.1 hr,aL] at e;have hσ:F.σ id=S.σ id:=((C.out.box id<|by grind).2<|by grind).1;have B:j.length=cs.length:=by rw[<-W.length,k3.length]
        have K:=C.wr.Ai p B (by rw[hσ];omega) k2 W;have ae:=C.wr.lo id (by rw[p];rfl);refine⟨_,C.trans ⟨K,lF C.wr p B,λb G=>?_⟩,rm.2 ?_⟩
        .rcases G with G|rfl
         all_goals grind
        have O:l+k<=x.length:=by grind [Nat.mul_le_mul_right,Nat.le_of_mul_le_mul_right]
        have a3:=EY (w:=w) (I:=(F.Js<|F.σ id).I) (t:=t) (x:=x) (us:=us) (l:=l) (n:=k) (cap:=J) (a:=a) (by rw[hσ];omega) (.inr rfl) (λi y hy=>by
         rw[e];exact bT.mono (λb G=>⟨.inl G,rfl⟩) t<|pr i y hy) (by omega) O h6 h7 (by grind)
        have ad:=im;have e2:af.b .add .i64 (l:Int) (k:Int)=((l+k:Nat):Int):=by
         show IntKind.i64.wrap _=_
         grind [wrap_small]
        split
        .grind [List.take_of_length_le]
        .rw[e2,Az];omega
 simp_all
theorem EO(e:WR w0 w S m){v c:AV}{a:Mem}(g:CR w S m v u)(h:CV af t m v=some (c,a)):∃b,Step w0 w S m w b a/\CR w b a c u:=by grind [EP,CV]
structure Src(P:Program)(w:World)(sz:Nat)(x:Value)(k:Nat)(news:List Value):Prop where
 len:∀w',(Builtin.lenOf x).run P w'=.ok k w'
 cells:∀w',w'.heap=w.heap->(Builtin.firstCells sz k x).run P w'=.ok news.toArray w'
 size:news.length=k*sz
def E4.src(h:E4 w I t v y):∃b,Src P w t.size v y.length b/\∀(i:Nat) (z:t.T),y[i]? = some z->bT w I t ((b.drop<|i*t.size).take t.size) z:=by
 obtain⟨a,g,b,rfl,q,c,j,r,s,l⟩:=h;exact⟨b,⟨λe=>rfl,λe p=>pW c j e p,c⟩,l⟩
def qW{T h ty:TypeId}{s:TypeDesc}(r:P.underlying T=some (.slice e))(g:P.underlying h=some s)(t:∀k,s≠.int k)(l:P.info? e=some i){k:Nat}{c:List Value}(q:Src P w i.size x k c)
  (b:n+k<=cap):(Builtin.append_ #[T,h] ty #[.slice a n cap,x]).run P w =
    ((match a with|some a=>storeCells (a.add<|n*i.size) c|none=>pure ()).run P w).andThen λ_ w=>.ok (.slice a (n+k) cap) w:=by
 have p:=q.len w;have j:=q.cells w rfl;cases a with
 | none=>simp[Builtin.append_,run_underlying r,run_underlying g,sizeOf,typeInfo,l,p,b,j]
 | some a=>simp[Builtin.append_,run_underlying r,run_underlying g,sizeOf,typeInfo,l,p,b,j]
def Dw{T q ty:TypeId}{z:Value}{t:TypeDesc}(C:P.underlying T=some (.slice e))(l:P.underlying q=some t)(F:∀k,t≠.int k)(v:P.info? e=some i)(G:i.zero=some z){k:Nat}{olds b:List Value}(s:Src P w i.size x k b)
  (j:∀p,p.heap=w.heap->(Builtin.firstCells i.size n<|.slice a n cap).run P p=.ok olds.toArray p)
  (H:cap<n+k) (h:n+k<=fX) (r:Builtin.nextslicecap (n+k) cap*i.bytes<=281474976710656) :
  (Builtin.append_ #[T,q] ty #[.slice a n cap,x]).run P w=.ok (.slice (some ⟨w.heap.size,0,none⟩) (n+k)<|grownCap w (n+k) cap e)
    (w.drew.alloc<|.cells ((olds++b).toArray++Builtin.zeroCells z.cells (grownCap w (n+k) cap e-(n+k))) e):=by
 have y:=s.len w;have u:=s.cells w.drew rfl;have j:=j w.drew rfl;rw[im] at h;have B:¬(n+k<=cap):=by omega
 have g:¬(9223372036854775807<((n:Int)+(k:Int))):=by omega
 have c:¬(281474976710656<Builtin.nextslicecap (n+k) cap*i.bytes):=by omega
 simp[Builtin.append_,run_underlying C,run_underlying l,sizeOf,typeInfo,zeroValue,v,G,y,B,g,c,Question.forced,u,j,newRow,grownCap]
 grind
def uJ{a b:Int}:af.c .leq a b=true↔a<=b:=by
 show decide (a<=b)=true↔_
 grind
def Va{a b:Int}:af.c .eql a b=true↔a=b:=by
 show(a==b)=true↔_
 grind
def sO(x:List α):af.l x=(x.length:Int):=rfl
def mC(x y:List α):af.p x y=x++y:=rfl
def M4{a:Nat}(h:(n:Int)<=140737488355328/((a.max 1:Nat):Int)):n<=fX/\n*a<=140737488355328:=by
 have b:1<=a.max 1/\a<=a.max 1:=⟨Nat.le_max_right ..,Nat.le_max_left ..⟩;have c:n<=140737488355328/(a.max 1):=by grind
 have e:n*(a.max 1)<=140737488355328:=(Nat.le_div_iff_mul_le<|by omega).1 c;have g:n*a<=n*a.max 1:=Nat.mul_le_mul_left _ b.2;have i:n*1<=n*a.max 1:=Nat.mul_le_mul_left _ b.1
 grind [im]
def yG{a:List α}{s:Nat}(p:a.length=n*s){u:α}(c:u∈a):∃i,i<n/\u∈(a.drop<|i*s).take s:=by
 obtain⟨j,l,rfl⟩:=List.getElem_of_mem c;have b:0<s:=Nat.pos_of_ne_zero λe=>by grind
 refine⟨j/s,(Nat.div_lt_iff_lt_mul b).2<|by omega,?_⟩;have g:=Nat.div_add_mod j s;have h:=Nat.mod_lt j b;refine jl (i:=j%s) ?_
 grind
mutual
theorem bT.oneCell{I:Nat->Prop}:∀(t:Ty) {cs:List Value} {x:t.T},t.sj=true->bT w I t cs x->∀u∈cs,u.oneCell'=true
 | .any n,cs,x,ht,h=>by cases ht
 | .int k,cs,x,_,h=>by rw[bT] at h;intro u b;rw[h.1] at b;rcases aO.1 b with rfl;rfl
 | .bool,cs,x,_,h=>by rw[bT] at h;intro u b;rw[h] at b;rcases aO.1 b with rfl;rfl
 | .str,cs,x,_,h=>by rw[bT] at h;intro u b;rw[h.1] at b;rcases aO.1 b with rfl;rfl
 | .slice t,cs,x,_,h=>by rw[bT] at h;have⟨a,c,h,_⟩:=h;intro u b;rw[h] at b;rcases aO.1 b with rfl;rfl
 | .arr n t,cs,x,ht,h=>by
   rw[bT] at h;intro u b;have⟨i,e,b⟩:=yG h.2.1 b;exact bT.oneCell t (by grind [Ty.sj]) (h.2.2 i _<|KN<|by omega) u b
 | .struct ts,cs,x,ht,h=>by rw[bT] at h;exact gp.oneCell ts (by grind [Ty.sj]) h
theorem gp.oneCell{I:Nat->Prop}:∀(b:List Ty) {cs:List Value} {x:Ty.Ts b},Ty.IF b=true->gp w I b cs x->∀u∈cs,u.oneCell'=true
 | [],cs,x,_,h=>by grind [gp]
 | [t],cs,x,ht,h=>by rw[gp] at h;exact bT.oneCell t (by grind [Ty.IF]) h
 | t::g::b,cs,x,ht,h=>by
   rw[Ty.IF,fZ] at ht;obtain⟨i,j,rfl,c,e⟩:=h;intro u a;rcases pP.1 a with a|a
   .exact bT.oneCell t ht.1 c u a
   .exact gp.oneCell (g::b) ht.2 e u a
end
def PG(b:WR w0 w S m){xs:List t.T}{us:List Value}{zs:Array Value}(v:us.length=xs.length*t.size)(s:us.length+zs.size=cap*t.size)(q:xs.length<=cap)(p:xs.length<=fX)
  (r:∀(i:Nat) (y:t.T),xs[i]? = some y->bT w S.I t ((us.drop<|i*t.size).take t.size) y) :
  ∃a,Step w0 w S m (w.alloc<|.cells (us.toArray++zs) e) a (m ++ [.arr false t xs])/\CR (w.alloc<|.cells (us.toArray++zs) e) a (m ++ [.arr false t xs]) (.own m.length) (.slice (some ⟨w.heap.size,0,none⟩) xs.length cap):=by
 have l:=oH b (.cells (us.toArray++zs) e) (.arr false t xs) 0 false;have g:(w.alloc<|.cells (us.toArray++zs) e).heap[w.heap.size]? = some (.cells (us.toArray++zs) e (0,0)):=heap_alloc_new w _;refine⟨S.push m.length w.heap.size 0 false,Step.push b (bx:=.arr false t xs) ⟨p,yO,λ_=>⟨us.toArray++zs,e,(0,0),?_,rfl,?_,λi y h=>?_⟩⟩,?_⟩
 .simp only[St.push,if_pos];omega
 .simp[St.push,if_pos];omega
 .simp[St.push,if_pos,iy,gu];have u:i<xs.length:=(aU.1 h).1;have c:i*t.size+t.size<=xs.length*t.size:=by
   have:=aI t.size (show i+1<=xs.length by omega)
   grind
  have j:((us++zs.toList).drop<|i*t.size).take t.size=(us.drop<|i*t.size).take t.size:=by grind
  rw[j];exact(r i y h).mono l.nQ
 .rw[CR,Mem.fK];refine .inr ⟨wq,cap,?_,q,us.toArray++zs,e,(0,0),?_,?_⟩
  .simp[St.push,if_pos]
  .simp only[St.push,if_pos];omega
  .simp[St.push,if_pos];omega
def PS{a j:List t.T}{b h:List Value}(p:b.length=a.length*t.size)
  (q:∀(i:Nat) (y:t.T),a[i]? = some y->bT w I t ((b.drop<|i*t.size).take t.size) y) (r:∀(i:Nat) (y:t.T),j[i]? = some y->bT w I t ((h.drop<|i*t.size).take t.size) y) :
  ∀(i:Nat) (y:t.T),(a++j)[i]? = some y->bT w I t (((b++h).drop<|i*t.size).take t.size) y:=by
 intro i y g;by_cases l:i<a.length
 .rw[cB l] at g;have c:i*t.size+t.size<=a.length*t.size:=by
   have:=aI t.size (show i+1<=a.length by omega)
   grind
  grind
 .rw[dA<|by omega] at g;have e:i*t.size=b.length+(i-a.length)*t.size:=by
   rw[p,<-fI];simp_all
  grind [List.drop_drop,List.drop_left]
theorem ES(hW:WR w0 w S m){T T' ty:TypeId}{u':TypeDesc}(ht:P.underlying T=some (.slice e))(ht':P.underlying T'=some u')(hu':∀k,u'≠.int k){te:TI}(hte:CP P e te)(hty:te.ty=some t)
  {dst:AV} {u x:Value} {y:List t.T} {news:List Value} {lit:Option Bool} {v:AV} {m':Mem} (hd:CR w S m dst u) (hs:Src P w t.size x y.length news) (hr:∀(i:Nat) (z:t.T),y[i]? = some z->bT w S.I t ((news.drop (i*t.size)).take t.size) z)
  (hlit:∀b,lit=some b->decide (y.length=0)=b) (h:(C3 af t te.bytes m dst y lit).Is (v,m')) :
  ∃z w' S',(Builtin.append_ #[T,T'] ty #[u,x]).run P w=.ok z w'/\Step w0 w S m w' S' m'/\CR w' S' m' v z:=by
 obtain⟨i,z0,hi,his,hib,hiz,hzc,hzr⟩:=hte.info;have hts:t.size=te.size:=(hte.ty t hty).1;have hz0:z0.cells.size=t.size:=by
  have:=(hzr t hty w S.I).length;omega
 rw[hts,<-his] at hs;have hts':t.size=i.size:=by omega
 unfold C3 at h;cases ho:BS af t m dst with
 | none=>rw[ho] at h;exact h.elim
 | some q=>
   obtain⟨d1,m1⟩:=q;rw[ho] at h;obtain⟨S1,s1,hd1⟩:=H8 hW hd ho;have hr1:∀(i:Nat) (z:t.T),y[i]? = some z->bT w S1.I t ((news.drop (i*t.size)).take t.size) z:=λi z hz=>(hr i z hz).mono s1.out.nQ
   have grow:∀{a:Option Addr} {n cap:Nat} {xs:List t.T} {olds:List Value} {S2:St} {m2:Mem},Step w0 w S m w S2 m2->u=.slice a n cap->n=xs.length->olds.length=n*t.size->(n≠0->∃b off,a=some ⟨b,off,none⟩/\mf w b off olds)->
     (∀(i:Nat) (y:t.T),xs[i]? = some y->bT w S2.I t ((olds.drop (i*t.size)).take t.size) y)->cap<n+y.length->((n+y.length:Nat):Int)<=140737488355328/((te.bytes.max 1:Nat):Int)->
     ∃z w' S',(Builtin.append_ #[T,T'] ty #[u,x]).run P w=.ok z w'/\Step w0 w S m w' S' (m2 ++ [.arr false t (xs++y)])/\CR w' S' (m2 ++ [.arr false t (xs++y)]) (.own m2.length) z:=by
    intro a n cap xs olds S2 m2 s2 hu hn hl hrow hre hg hfit;obtain⟨f1,f2⟩:=M4 hfit;subst hu;have hrun:=Dw (ty:=ty) ht ht' hu' hi hiz hs (a:=a) (n:=n) (cap:=cap) (olds:=olds) (λw' hh=>by rw[<-hts'];exact pW hl hrow w' hh) hg f1 (growslice_fits hg (by grind));have hcap:n+y.length<=grownCap w (n+y.length) cap e:=grownCap_ge ..;have hlen:(olds++news).length=(xs++y).length*t.size:=by rw[t_,t_,hl,hs.size,fI,hn,hts']
    obtain⟨S3,s3,c3⟩:=PG (w:=w.drew) s2.wr.drew (e:=e) (xs:=xs++y) (us:=olds++news) (zs:=Builtin.zeroCells z0.cells (grownCap w (n+y.length) cap e-(n+y.length))) (cap:=grownCap w (n+y.length) cap e) hlen
     (by rw[hlen,size_zeroCells,hz0,t_,<-fI];grind) (by grind) (by grind) (PS (by grind) (λi z hz=>bT.mono (w:=w) (w':=w.drew) (λ_ hb=>⟨hb,rfl⟩) t (hre i z hz)) λi z hz=>bT.mono (w:=w) (w':=w.drew) (λb hb=>⟨(s2.out.nQ b hb).1,rfl⟩) t (hr i z hz))
    refine⟨_,_,S3,hrun,(s2.trans (.drew s2.wr)).trans s3,?_⟩
    simp_all
   cases d1<;>simp only at h<;>try exact h.elim
   case fG b=>
    obtain⟨a,rfl,hb⟩:=nA.1 hd1;have none_:y.length=0->∃z w' S',(Builtin.append_ #[T,T'] ty #[.slice a 0 0,x]).run P w=.ok z w'/\Step w0 w S m w' S' m1/\CR w' S' m1 (.fG b) z:=by
     intro hy;have hnil:news=[]:=aY (by rw[hs.size,hy];omega);have hrun:=qW (ty:=ty) ht ht' hu' hi (a:=a) (n:=0) (cap:=0) hs (by omega);refine⟨.slice a 0 0,w,S1,?_,s1,nA.2 ⟨a,rfl,hb⟩⟩;rw[hrun,hnil,hy];cases a<;>rfl
    have some_:y.length≠0->(y.length:Int)<=140737488355328/((te.bytes.max 1:Nat):Int)->∃z w' S',(Builtin.append_ #[T,T'] ty #[.slice a 0 0,x]).run P w=.ok z w'/\Step w0 w S m w' S' (m1 ++ [.arr false t y])/\CR w' S' (m1 ++ [.arr false t y]) (.own m1.length) z:=by
     intro hy hfit;have:=grow (a:=a) (n:=0) (cap:=0) (xs:=[]) (olds:=[]) s1 rfl rfl (by simp) (λh=>absurd rfl h) (λi y hy=>by grind) (by omega) (by omega)
     grind
    cases lit with
    | none=>
      rcases h with ⟨hb,h⟩|⟨hb,hn,h⟩
      .cases h;rw[Va,sO] at hb
       grind
      .cases h;rw[uJ,sO] at hn;refine some_ (λh0=>?_) hn
       simp_all
       cases hb
    | some b'=>
      cases b' with
      | true=>cases h;grind
      | false=>
        obtain⟨hn,h⟩:=h;cases h;rw[uJ,sO] at hn
        grind
   case own id=>
    have hb:=s1.wr.box id;rw[CR] at hd1;cases hm:m1.at id<;>rw[hm] at h hd1 hb<;>(try simp only at hd1 h)<;>try (exact h.elim)
    rename_i fz t' xs;cases fz<;>(try simp only at h)<;>try (exact h.elim)
    by_cases hbq:t'.beq t=true
    .rw[dif_pos hbq] at h;have:=Ty.eq_of_beq hbq;subst this;obtain⟨hn,h⟩:=h;cases h;rw[uJ,sO] at hn;replace hn:((xs++y).length:Int)<=140737488355328/((te.bytes.max 1:Nat):Int):=hn;rw[t_] at hn;cases hvd:S1.vd id with
     | true=>
       have hxs:=hb.2.1 hvd;subst hxs;obtain⟨a,rfl⟩:∃a,u=.slice a 0 0:=hd1.elim (·.2.2) λh=>by simp_all
       have hlt1:id<m1.length:=Mem.pG λe=>by simp_all
       have hctl:(m1.at id).kq=false:=by rw[hm];rfl
       have hlenm:(m1.set id .a_).length=m1.length:=bW ..;have sk:Step w0 w S1 m1 w S1 (m1.set id .a_):=⟨s1.wr.kill hlt1 hctl,oE hlt1 hctl,λb hb=>.inl hb⟩;by_cases hy:y.length=0
       .have hy0:y=[]:=aY hy;have hnil:news=[]:=aY (by rw[hs.size,hy];omega);have hrun:=qW (ty:=ty) ht ht' hu' hi (a:=a) (n:=0) (cap:=0) hs (by omega);have sv:=Step.aph sk.wr t';rw[hlenm] at sv;refine⟨.slice a 0 0,w,S1.push m1.length 0 0 false true,?_,?_,?_⟩
        .rw[hrun,hnil,hy];cases a<;>rfl
        .rw[hy0];exact(s1.trans sk).trans sv
        .rw[hy0,CR,show Mem.at (m1.set id .a_ ++ [.arr false t' (af.p [] [])]) m1.length=.arr false t' [] from by rw[<-hlenm];exact Mem.fK];exact .inl ⟨wq,rfl,a,rfl⟩
       .have:=grow (a:=a) (n:=0) (cap:=0) (xs:=[]) (olds:=[]) (s1.trans sk) rfl rfl (by simp) (λh=>absurd rfl h) (λi y hy=>by grind) (by omega) (by omega);rw[hlenm] at this;exact this
     | false=>
       obtain⟨cap,rfl,hcap,us0,T0,fr0,g1,g2⟩:=own_ne hd1 hvd;obtain⟨us,T1,fr,k1,k2,k3,k4⟩:=hb.2.2 hvd;have hlm:=hb.1;rw[k1] at g1;obtain⟨rfl,_⟩:=Obj.cells.inj (Option.some.inj g1);have k2:fr=(0,0):=k2;subst k2;have hlive:S1.lv id (m1.at id)=true:=by rw[hm,rP,hvd];rfl
       have hctl:(m1.at id).kq=false:=by rw[hm];rfl
       have hfz1:S1.fz id (m1.at id)=false:=by rw[hm];rfl
       have hltm:=Mem.jV hlive;have hlenm:(m1.set id .a_).length=m1.length:=bW ..;have hlu:us.toList.length=us.size:=bF;by_cases hroom:xs.length+y.length<=cap
       .-- in place
        obtain⟨f1,_⟩:=M4 hn;have hle:(xs.length+y.length)*t'.size<=cap*t'.size:=aI _ hroom;rw[fI] at hle;have hnl:news.length=y.length*t'.size:=by rw[hs.size,hts']
        have h1c:∀v∈news,v.oneCell'=true:=λu hu=>by
         obtain⟨i,hi,hu⟩:=yG hnl hu;exact bT.oneCell t' (hte.sj _ hty) (hr i _ (KN hi)) u hu
        have hst:=run_storeCells_at P (S1.σ id) (S1.δ id+xs.length*t'.size) T1 news 0 us w k1 (by omega) h1c;simp only[kJ] at hst;have hrun:=qW (ty:=ty) ht ht' hu' hi (a:=some ⟨S1.σ id,S1.δ id,none⟩) (n:=xs.length) (cap:=cap) hs hroom;simp only[kI,<-hts',hst,dH] at hrun;have hsz:((us.toList.take (S1.δ id+xs.length*t'.size)++news++us.toList.drop (S1.δ id+xs.length*t'.size+news.length)).toArray).size=us.size:=by
         rw[List.size_toArray,t_,t_,dh,dQ];omega
        have hturn:=qp k1 hsz;have hstep:=Step.abQ (d:=S1.δ id) (bx:=.arr false t' (af.p xs y)) s1.wr hlive hctl hfz1 hturn rfl (λhO=>by
         refine⟨by rw[mC,t_];omega,yO,λ_=>⟨(us.toList.take (S1.δ id+xs.length*t'.size)++news++us.toList.drop (S1.δ id+xs.length*t'.size+news.length)).toArray,T1,(0,0),?_,rfl,?_,λi z hz=>?_⟩⟩
         .simp only[St.push,if_pos];exact setRow_heap w _ us _ T1 _ k1
         .simp only[St.push,if_pos];rw[hsz,mC,t_,fI];omega
         .simp only[St.push,if_pos];rw[mC] at hz;by_cases hi:i<xs.length
          .rw[cB hi] at hz;have hle2:i*t'.size+t'.size<=xs.length*t'.size:=by
            have:=aI t'.size (show i+1<=xs.length by omega)
            grind
           rw[sM (by omega) (by omega)];exact(k4 i z hz).mono hO.nQ
          .rw[dA (by omega)] at hz;have hi2:i-xs.length<y.length:=(aU.1 hz).1;have hle2:(i-xs.length)*t'.size+t'.size<=y.length*t'.size:=by
            have:=aI t'.size (show i-xs.length+1<=y.length by omega)
            grind
           have e1:i*t'.size=xs.length*t'.size+(i-xs.length)*t'.size:=by rw[<-fI];grind
           have e2:((us.toList.take (S1.δ id+xs.length*t'.size)++news++us.toList.drop (S1.δ id+xs.length*t'.size+news.length)).drop (S1.δ id+i*t'.size)).take t'.size=(news.drop ((i-xs.length)*t'.size)).take t'.size:=by
            apply dR;intro j;rw[cK,cK];by_cases hj:j<t'.size
            .rw[if_pos hj,if_pos hj,da,da,qZ (by omega),if_neg (by omega),if_pos (by omega)];congr 1;omega
            grind
           rw[e2];exact((hr1 _ z hz).mono hO.nQ))
        refine⟨_,_,_,hrun,s1.trans hstep,?_⟩;rw[CR,show Mem.at (m1.set id .a_ ++ [.arr false t' (af.p xs y)]) m1.length=.arr false t' (af.p xs y) from by
         have:=Mem.fK (m:=m1.set id .a_) (b:=.arr false t' (af.p xs y));grind]
        refine .inr ⟨wq,cap,?_,by rw[mC,t_];omega,(us.toList.take (S1.δ id+xs.length*t'.size)++news++us.toList.drop (S1.δ id+xs.length*t'.size+news.length)).toArray,T1,(0,0),?_,?_⟩
        .simp only[St.push,if_pos];rw[mC,t_]
        .simp only[St.push,if_pos];exact setRow_heap w _ us _ T1 _ k1
        .simp only[St.push,if_pos];omega
       .-- grows
        have s2:Step w0 w S m w S1 (m1.set id .a_):=s1.trans ⟨s1.wr.kill hltm hctl,oE hltm hctl,.refl⟩
        have:=grow (a:=some ⟨S1.σ id,S1.δ id,none⟩) (n:=xs.length) (cap:=cap) (xs:=xs) (olds:=(us.toList.drop (S1.δ id)).take (xs.length*t'.size)) s2 rfl rfl
         (by grind) (λ_=>⟨_,_,rfl,iU k1 _ _⟩) (λi z hz=>by
           have hi:i<xs.length:=(aU.1 hz).1;have hle2:i*t'.size+t'.size<=xs.length*t'.size:=by
            have:=aI t'.size (show i+1<=xs.length by omega)
            grind
           rw[kR,fh,kT,j6 (by omega)]
           grind) (by omega) hn
        rw[hlenm] at this;exact this
    .rw[dif_neg hbq] at h;exact h.elim
def JV{w0:nN}{w:World}{S:St}{m a:Mem}(c:WR w0 w S m){k:Option Ty}{v g:AV}(e:CR w S m v u)(h:BR af k m v=some (g,a)):∃b,Step w0 w S m w b a/\CR w b a g u:=by
 unfold BR at h;split at h
 .split at h
  .grind [EO]
  .cases h;exact⟨S,.refl c,e⟩
 .cases h;exact⟨S,.refl c,e⟩
theorem x9{w0:nN}{w:World}:∀{j:List<|Option Ty} {cs:List AV} {m b:Mem} {a:List AV} {S:St} {c:List Value},WR w0 w S m->H6 af j m cs=some (b,a)->eH w S m cs c->∃i,Step w0 w S m w i b/\eH w i b a c
 | [],cs,m,b,a,S,c,hW,h,hc=>by cases h;exact⟨S,.refl hW,hc⟩
 | _::_,[],m,b,a,S,c,hW,h,hc=>by cases h;exact⟨S,.refl hW,hc⟩
 | k::j,v::vs,m,b,a,S,c,hW,h,hc=>by
   rw[H6] at h;obtain⟨u,r,rfl,s,t⟩:=bL.1 hc;cases ho:BR af k m v with
   | none=>grind
   | some q=>
     rw[ho] at h;simp only at h;have⟨B,g,e⟩:=JV hW s ho;split at h;cases h;rename_i C z y;cases h;have⟨p,l,x⟩:=x9 g.wr y<|t.mono g.out;exact⟨p,g.trans l,bL.2 ⟨u,r,rfl,e.mono l.out,x⟩⟩
def MC(e:WR w0 w S m){t:Option Ty}{cs a:List AV}{b:Mem}{i:List Value}(h:Ry af t n m cs=some (b,a))(g:eH w S m cs i):∃c,Step w0 w S m w c b/\eH w c b a i:=by
 cases t with
 | none=>cases h;exact⟨S,.refl e,g⟩
 | some t=>exact x9 e h g
end
end Go.Ev
namespace Go.Ev
variable{I:Nat->Prop}{cs:List AV}{e:TypeId}{t:Ty}{te:TI}{y:List t.T}
section
variable {P:Program} {w0:nN} {w:World} {S:St} {m:Mem}
theorem qk{α:Type}[Inhabited α](l:List α):∀n:Nat,(List.range<|n*l.length).map (λi=>l[i%l.length]!)=(List.replicate n l).flatten
 | 0=>by simp
 | n+1=>by
   have a:(List.range l.length).map (λi=>l[(n*l.length+i)%l.length]!)=l:=by
    apply dR
    grind [List.getElem?_range,Nat.mul_comm,Nat.mul_add_mod,Nat.mod_eq_of_lt]
   rw[kL,List.range_add,gk,qk l n,gn,List.replicate_succ',List.flatten_append];congr 1;rw[List.flatten_cons,List.flatten_nil,aL];exact a
def vE(z:Array Value)(n:Nat):(madeCells z<|n*z.size).toList=(List.replicate n z.toList).flatten:=by
 have:=qk z.toList n;rw[<-this,madeCells,r9,Array.toList_range]
 grind
theorem qF{cs:List AV}{a:List Value}(h:eH w S m cs a):∀n:Nat,eH w S m (List.replicate n cs).flatten (List.replicate n a).flatten
 | 0=>bw.2 rfl
 | n+1=>by
   exact h.append<|qF h n
theorem oM{α:Type}{l:List α}{s:Nat}(a:l.length=s):∀{n i:Nat},i<n->(((List.replicate n l).flatten).drop<|i*s).take s=l
 | n+1,0,_=>by grind
 | n+1,i+1,h=>by
   rw[List.replicate_succ,List.flatten_cons,kL,mM,<-fh,o6 a];exact oM a (by omega)
def apl(P:Program)(w0:nN)(w:World)(S:St)(m:Mem)(s:Sem Next)(v:AV)(e:Mem):Prop:=
 ∃a z b c,s.run P w=.ok a b/\(a=.value z\/(a=.skip/\v=.undef))/\Step w0 w S m b c e/\CR b c e v z
def Dp(b:WR w0 w S m){a:Array Value}(fz:Bool)(g:eH w S m cs a.toList):
  Step w0 w S m (w.alloc<|.cells a e) (S.push m.length w.heap.size 0 fz) (m ++ [.cu fz cs]):=by
 have c:=oH b (.cells a e) (.cu fz cs) 0 fz;refine Step.push b (bx:=.cu fz cs) ⟨a,e,(0,0),?_,rfl,g.mono c⟩
 grind [heap_alloc_new,St.push]
def UP(fz:Bool){a:World}{b d:Nat}:CR a (S.push m.length b d fz) (m ++ [.cu fz cs]) (.ptr m.length 0)<|.pointer<|some ⟨b,0,none⟩:=by simp_all [Mem.fK,CR,St.push]
def JP{E:PT TI}(q:nW P E)(r:WR w0 w S m){T:TypeId}{p v:AV}{u x:Value}{l:Mem}(s:CR w S m p u)(y:CR w S m v x)(h:(L_ af (E.get T) m p v).Is l):
  ∃g i,(Instr.storeAt T u x).run P w=.ok () g/\Step w0 w S m g i l:=by
 unfold L_ at h;cases ht:E.get T with
 | none=>rw[ht] at h;exact h.elim
 | some ti=>
   rw[ht] at h;simp only at h;split at h;exact h.elim;rename_i e;simp only[fZ] at e;have h:=x8 h;have a:=CU e.1 y;obtain⟨b,off,g,i,rfl,j,t⟩:=Kf (P:=P) r s a e.2.2 h;have c:=a.length;rw[vH e.2.1,bF] at c;refine⟨g,i,?_,t⟩;simp[Instr.storeAt,Instr.sureAddr,storeVar,(q T ti ht).rJ w,c,j]
def Hr{v:AV}{u:Value}(h:CR w S m v u)(i:E4 w I t u y)(l:mT af t m v=some y):∀b,Hq v=some b->decide (y.length=0)=b:=by
 have⟨a,g,p,e,_⟩:=i;intro b c;cases v<;>simp only[Hq] at c<;>try (cases c;done)
 case fG b'=>
  obtain⟨j,rfl,_⟩:=nA.1 h
  simp_all
 grind [CR,mT]
def CP.adG{T:TypeId}{a:TI}(h:CP P T a)(b:a.ty=some t):t.size=a.size:=(h.ty t b).1
def aaf{q:Bool}{a:TV<|AV×Mem}{x:AV×Mem}(h:(ah6 af q a).Is x):a.Is x:=by
 cases q with
 | false=>exact h
 | true=>
   cases a with
   | leaf p=>
     have⟨v,m⟩:=p;cases v<;>first|exact h|exact h.elim
   | br b t e=>
     have⟨g,c⟩:=(show af.not b=true/\e.Is x from h);cases b with
     | true=>grind [af]
     | false=>exact .inr ⟨rfl,c⟩
   | _=>exact h
theorem Gt(hW:WR w0 w S m){T T' ty e e':TypeId}(ht:P.underlying T=some (.slice e))(ht':P.underlying T'=some (.slice e')){te:TI}(hte:CP P e te){t:Ty}(hty:te.ty=some t)
  {dst src:AV} {u x:Value} {v:AV} {m':Mem} (hd:CR w S m dst u) (hx:CR w S m src x) (h:(Gs af t te.bytes m dst src).Is (v,m')) :
  ∃z w' S',(Builtin.append_ #[T,T'] ty #[u,x]).run P w=.ok z w'/\Step w0 w S m w' S' m'/\CR w' S' m' v z:=by
 unfold Gs at h;cases hsd:mT af t m src with
 | none=>rw[hsd] at h;exact h.elim
 | some y=>
   cases hsf:mm af t m src with
   | none=>rw[hsd,hsf] at h;exact h.elim
   | some m1=>
     rw[hsd,hsf] at h;obtain⟨S1,s1,hy⟩:=rU hW hx hsd hsf;obtain⟨us,hsrc,hrep⟩:=hy.src;obtain⟨z,w',S',h1,h2,h3⟩:=ES (ty:=ty) s1.wr ht ht' (λk hk=>by grind) hte hty (hd.mono s1.out) hsrc hrep (Hr hx hy hsd) h;exact⟨z,w',S',h1,s1.trans h2,h3⟩
def E4.take{v:Value}(h:E4 w I t v y){n:Nat}(K:n<=y.length):(Builtin.lenOf v).run P w=.ok y.length w/\
  ∃c:List Value,c.length=n*t.size/\(Builtin.firstCells t.size n v).run P w=.ok c.toArray w/\∀(i:Nat) (z:t.T),i<n->y[i]? = some z->bT w I t ((c.drop<|i*t.size).take t.size) z:=by
 obtain⟨a,p,c,rfl,x,B,q,C,F,G⟩:=h;have g:(c.take<|n*t.size).length=n*t.size:=by simp_all
 refine⟨rfl,c.take<|n*t.size,g,pW g (λr=>?_) w rfl,λi z H N=>?_⟩
 .have⟨b,off,e,s⟩:=q (by omega);refine⟨b,off,e,λj u J=>s j u ?_⟩
  grind
 .have l:i*t.size+t.size<=n*t.size:=by
   have:=aI t.size (show i+1<=n by omega)
   grind
  grind [List.drop_take]
def II(p:WR w0 w S m){id:Nat}{x:List t.T}(s:m.at id=.arr false t x)(O:t.sj=true){l:Nat}{us:List Value}(hl:us.length=y.length*t.size)(q:l+y.length<=x.length)
  (hr:∀(i:Nat) (z:t.T),y[i]? = some z->bT w S.I t ((us.drop<|i*t.size).take t.size) z) :
  ∃w',(storeCells ⟨S.σ id,S.δ id+l*t.size,none⟩ us).run P w=.ok () w'/\Step w0 w S m w' S (m.set id<|.arr false t<|x.take l++y++x.drop (l+y.length)):=by
 have F:=p.box id;rw[s] at F;have⟨ae,F⟩:=F;by_cases B:x=[]
 .subst B;have hy:y=[]:=aY (by simp_all);subst hy;have Y:us=[]:=aY (by simp_all);subst Y;refine⟨w,rfl,?_⟩;have ag:id<m.length:=Mem.pG λe=>by simp_all
  have e:m.set id (.arr false t<|List.take l ([]:List t.T) ++ []++List.drop (l+([]:List t.T).length) [])=m:=by
   apply dR
   simp_all [nI,Mem.at]
  rw[e];exact .refl p
 have C:=p.vd s B;have⟨a,T,fr,k1,k2,k3,k4⟩:=F.2 C;subst k2;have am:a.toList.length=a.size:=bF;have N:(l+y.length)*t.size<=x.length*t.size:=aI _ q;rw[fI] at N;have J:∀v∈us,v.oneCell'=true:=λu X=>by
  have⟨i,hi,X⟩:=yG hl X;exact bT.oneCell t O (hr i _<|KN hi) u X
 have V:=run_storeCells_at P (S.σ id) (S.δ id+l*t.size) T us 0 a w k1 (by omega) J;have W:((a.toList.take (S.δ id+l*t.size)++us++a.toList.drop (S.δ id+l*t.size+us.length)).toArray).size=a.size:=by grind
 have ht:=qp k1 W;have c:S.lv id (m.at id)=true:=by grind [rP]
 have r:S.fz id (m.at id)=false:=by rw[s];rfl
 have Z:(x.take l++y++x.drop (l+y.length)).length=x.length:=by grind
 have b:i6 (m.at id)<|.arr false t<|x.take l++y++x.drop (l+y.length):=by
  rw[s];exact⟨rfl,Z,rfl⟩
 have hc:(m.at id).kq=true->(iN.arr false t<|x.take l++y++x.drop (l+y.length)).kq=true:=λh=>by rw[s] at h;cases h
 have K:=kV p c r b hc ht;refine⟨_,V,p.set c r b hc rfl ht ⟨by grind,λe=>absurd (C.symm.trans e)<|by decide,λ_=>⟨(a.toList.take (S.δ id+l*t.size)++us++a.toList.drop (S.δ id+l*t.size+us.length)).toArray,T,(0,0),setRow_heap w _ a _ T _ k1,rfl,by grind,λi z g=>?_⟩⟩,K,.refl⟩;rw[qZ<|by omega] at g
 have a3:∀{i:Nat},x[i]? = some z->(i<l\/l+y.length<=i)->bT (w.setRow (S.σ id) (a.toList.take (S.δ id+l*t.size)++us++a.toList.drop (S.δ id+l*t.size+us.length)).toArray) S.I t
   (((a.toList.take (S.δ id+l*t.size)++us++a.toList.drop (S.δ id+l*t.size+us.length)).drop<|S.δ id+i*t.size).take t.size) z:=by
  intro i g H;rw[sM (by omega) (by
   rcases H with H|H
   .have:=aI t.size (show i+1<=l by omega)
    grind
   .have:=aI t.size H
    grind)]
  exact(k4 i z g).mono K.nQ
 by_cases h1:i<l
 .grind
 .rw[if_neg h1] at g;by_cases h2:i<l+y.length
  .rw[if_pos h2] at g;have a5:(i-l)*t.size+t.size<=y.length*t.size:=by
    have:=aI t.size (show i-l+1<=y.length by omega)
    grind
   have e1:i*t.size=l*t.size+(i-l)*t.size:=by rw[<-fI];congr 1;omega
   have e2:((a.toList.take (S.δ id+l*t.size)++us++a.toList.drop (S.δ id+l*t.size+us.length)).drop<|S.δ id+i*t.size).take t.size=(us.drop<|(i-l)*t.size).take t.size:=by
    apply dR;intro j;rw[cK,cK];by_cases G:j<t.size
    .rw[if_pos G,if_pos G,da,da,qZ<|by omega,if_neg<|by omega,if_pos<|by omega];congr 1;omega
    .rw[if_neg G,if_neg G]
   rw[e2];exact(hr _ z g).mono K.nQ
  grind
theorem L4(hW:WR w0 w S m){T T' ty:TypeId}(ht:P.underlying T=some (.slice e))(H:CP P e te)(O:te.ty=some t)
  {F src:AV} {u x:Value} {v:AV} {m':Mem} (hd:CR w S m F u) (hx:CR w S m src x) (h:(QS af t m F src).Is (v,m')) :
  ∃z q B,(Builtin.copy_ #[T,T'] ty #[u,x]).run P w=.ok z q/\Step w0 w S m q B m'/\CR q B m' v z:=by
 obtain⟨i,z0,hi,a4,_⟩:=H.info;have J:i.size=t.size:=by rw[a4,H.adG O]
 unfold QS at h;cases hsd:mT af t m src with
 | none=>rw[hsd] at h;exact h.elim
 | some y=>
   cases hsf:mm af t m src with
   | none=>rw[hsd,hsf] at h;exact h.elim
   | some m1=>
     rw[hsd,hsf] at h;obtain⟨K,X,hy⟩:=rU hW hx hsd hsf;have j:=hd.mono X.out;have V:y.length<=fX:=by obtain⟨_,_,_,_,h2,_⟩:=hy;omega
     have core:∀{id l b s:Nat} {a:Option Addr} {g:List t.T},m1.at id=.arr false t g->u=.slice a b s->l+b<=g.length->(b≠0->a=some ⟨K.σ id,K.δ id+l*t.size,none⟩)->
       ∃q B,(Builtin.copy_ #[T,T'] ty #[u,x]).run P w=.ok (.int .i64 (Nat.min y.length b:Nat)) q/\Step w0 w S m q B (m1.set id (.arr false t (g.take l++y.take (Nat.min y.length b)++g.drop (l+(y.take (Nat.min y.length b)).length)))):=by
      intro id l b s a g G hu am ha;subst hu;have N:Nat.min y.length b<=y.length:=Nat.min_le_left ..;have a5:Nat.min y.length b<=b:=Nat.min_le_right ..;obtain⟨r,us,g1,Y,g3⟩:=hy.take (P:=P) N;have b2:(y.take (Nat.min y.length b)).length=Nat.min y.length b:=by grind
      obtain⟨q,a6,hs⟩:=II (P:=P) X.wr G (H.sj _ O) (l:=l) (y:=y.take (Nat.min y.length b)) (us:=us) (by grind) (by omega) (λi z hz=>by grind);by_cases h0:b=0
      .have a8:us=[]:=aY (by grind);subst a8;have a9:q=w:=by
        have:(storeCells ⟨K.σ id,K.δ id+l*t.size,none⟩ []).run P w=.ok () w:=rfl
        grind
       subst a9;refine⟨_,K,?_,X.trans hs⟩;cases a with
       | none=>simp[Builtin.copy_,run_underlying ht,r,sizeOf,typeInfo,hi,J,Y,goInt]
       | some a=>simp[Builtin.copy_,run_underlying ht,r,sizeOf,typeInfo,hi,J,Y,goInt,storeCells]
      .have ha:=ha h0;subst ha;refine⟨_,K,?_,X.trans hs⟩;simp[Builtin.copy_,run_underlying ht,r,sizeOf,typeInfo,hi,J,Y,goInt,a6]
     have W:∀b:Nat,af.mn (af.l y) (b:Int)=((Nat.min y.length b:Nat):Int):=by
      intro b;show(if (b:Int)<(y.length:Int) then(b:Int) else(y.length:Int))=_
      grind
     have ae:∀b:Nat,IntKind.i64.has ((Nat.min y.length b:Nat):Int):=λb=>p9 (bd (Nat.min_le_left ..) V);have C:∀n:Nat,af.s y 0 (n:Int)=y.take n:=λn=>by rfl
     cases F<;>(try simp only at h)<;>try exact h.elim
     case own id=>
      rw[CR] at j;cases G:m1.at id<;>rw[G] at h j<;>(try simp only at j h)<;>try (exact h.elim)
      rename_i fz t' g;cases fz<;>(try simp only at h)<;>try (exact h.elim)
      by_cases p:t'.beq t=true
      .rw[dif_pos p] at h;have:=Ty.eq_of_beq p;subst this;cases h;obtain⟨a,s,rfl,ag,_,h8⟩:=Dh j;obtain⟨q,B,Z,h2⟩:=core (l:=0) G rfl (by omega) (λhn=>by grind);refine⟨_,q,B,Z,?_,fq.2 ⟨?_,?_⟩⟩
       .have e:af.spl g 0 (af.s y 0 (af.mn (af.l y) (af.l g)))=g.take 0++y.take (Nat.min y.length g.length)++g.drop (0+(y.take (Nat.min y.length g.length)).length):=by
         rw[sO g,W,C];rfl
        grind
       .show _=Value.int .i64 (af.mn (af.l y) (af.l g));rw[sO g,W]
       .show IntKind.i64.has (af.mn (af.l y) (af.l g));rw[sO g,W];simp_all
      .rw[dif_neg p] at h;exact h.elim
     case t6 id sz c lo len=>
      cases c<;>(try simp only at h)<;>try exact h.elim
      rw[CR] at j;cases G:m1.at id<;>rw[G] at h j<;>(try simp only at j h)<;>try (exact h.elim)
      rename_i fz t' g;cases fz<;>(try simp only at h)<;>try (exact h.elim)
      by_cases p:t'.beq t=true
      .rw[dif_pos p] at h;have:=Ty.eq_of_beq p;subst this;cases h;obtain⟨l,n,s,a,rfl,rfl,rfl,h4,h5,h6,rfl,h8,_⟩:=j;obtain⟨q,B,Z,h2⟩:=core (l:=l) G rfl h4 h8;refine⟨_,q,B,Z,?_,fq.2 ⟨?_,?_⟩⟩
       .have e:af.spl g (l:Int) (af.s y 0 (af.mn (af.l y) (n:Int)))=g.take l++y.take (Nat.min y.length n)++g.drop (l+(y.take (Nat.min y.length n)).length):=by
         rw[W,C];rfl
        simp_all
       all_goals grind
      .rw[dif_neg p] at h;exact h.elim
def DZ(z:Array Value)(n:Nat):(Builtin.zeroCells z n).toList=(List.replicate n z.toList).flatten:=by
 unfold Builtin.zeroCells;rw[r9,Array.toList_range,<-qk,bF]
 grind
theorem JM(hW:WR w0 w S m){T ty:TypeId}{r:List TypeId}(Y:P.underlying T=some (.slice e))(x:CP P e te)(B:te.ty=some t)
  {g:AV} {u:Value} {v:AV} {O:Mem} (C:CR w S m g u) (h:(LZ af t m g).Is (v,O)) :
  ∃z q V,(Builtin.clear_ (T::r).toArray ty #[u]).run P w=.ok z q/\Step w0 w S m q V O/\CR q V O v z:=by
 obtain⟨i,z,h1,h2,h3,h4,_,h6⟩:=x.info;unfold LZ at h;cases g<;>(try simp only at h)<;>try exact h.elim
 case t6 id sz c lo len=>
  cases c<;>(try simp only at h)<;>try exact h.elim
  rw[CR] at C;cases hm:m.at id<;>rw[hm] at h C<;>(try simp only at C h)<;>try (exact h.elim)
  rename_i fz b F;cases fz<;>(try simp only at h)<;>try (exact h.elim)
  by_cases p:b.beq t=true
  .rw[dif_pos p] at h;have:=Ty.eq_of_beq p;subst this;cases h;obtain⟨l,n,a3,a,rfl,rfl,rfl,k4,k5,k6,rfl,k8,_⟩:=C;have N:=h6 b B w S.I;have K:z.cells.toList.length=b.size:=N.length;have G:((List.replicate n z.cells.toList).flatten).length=(List.replicate n b.gy).length*b.size:=by simp_all
   obtain⟨q,H,hs⟩:=II (P:=P) hW hm (x.sj _ B) (l:=l) (y:=List.replicate n b.gy) (us:=(List.replicate n z.cells.toList).flatten) G (by grind) (λj y Z=>by
    have X:j<n:=by grind
    rw[List.getElem?_replicate,if_pos X] at Z;cases Z;rw[oM K X];omega)
   have e:af.spl F (l:Int) (af.r (n:Int) b.gy)=F.take l++List.replicate n b.gy++F.drop (l+(List.replicate n b.gy).length):=by rfl
   have s:Step w0 w S m q S (m.set id (.arr false b (af.spl F (l:Int) (af.r (n:Int) b.gy)))):=by grind
   by_cases W:n=0
   .subst W;have J:q=w:=by
     have:(storeCells ⟨S.σ id,S.δ id+l*b.size,none⟩ []).run P w=.ok () w:=rfl
     grind
    subst J;refine⟨.tuple #[],_,S,?_,s,kC.2 ⟨#[],rfl,bw.2 rfl⟩⟩;cases a<;>simp[Builtin.clear_,run_underlying Y]
   .have ha:=k8 W;subst ha;refine⟨.tuple #[],_,S,?_,s,kC.2 ⟨#[],rfl,bw.2 rfl⟩⟩;simp[Builtin.clear_,run_underlying Y,zeroValue,typeInfo,h1,h4,DZ,H]
  .rw[dif_neg p] at h;exact h.elim
end
end Go.Ev
namespace Go.Ev
section
variable {P:Program} {w0:nN} {w:World} {S:St} {m:Mem}
theorem Ou{R:Type}{E:kD R}(hE:nW P E.ti)(hW:WR w0 w S m){ρa:Operand->AV}{ρc:Operand->Value}(hρ:∀x,CR w S m (ρa x) (ρc x)){fn:FuncId}{o:Oper}{v:AV}{m':Mem}
  (h:(xC af E fn ρa m o).Is (v,m')):apl P w0 w S m (execOp ρc o) v m':=by
 obtain⟨dst,op,ty,pos,after,guard⟩:=o;unfold xC at h;cases op<;>simp only at h<;>try exact h.elim
 case alloc t=>
  split at h
  rotate_left
  exact h.elim;rename_i ti ht;cases h;obtain⟨i,z,h1,h2,h3,h4,h5,_⟩:=(hE t ti ht).info;exact⟨.value (.pointer (some ⟨w.heap.size,0,none⟩)),_,_,_,by simp[execOp,Instr.alloc,zeroValue,typeInfo,h1,h4,newVar,newRow];rfl,.inl rfl,Dp hW false (h5 w S m),UP false⟩
 case box t x=>
  split at h
  rotate_left
  exact h.elim;rename_i hk;cases h;exact⟨.value (.pointer (some ⟨w.heap.size,0,none⟩)),_,_,_,by rfl,.inl rfl,Dp hW _ (CU hk (hρ x)),UP _⟩
 case buildSlice t n ps=>
  cases ht:E.ti.get t with
  | none=>rw[ht] at h;exact h.elim
  | some ti=>
    obtain⟨kind,size,bytes,agg,zero,tyy,eq⟩:=ti;have hT:=hE t _ ht;rw[ht] at h;cases kind<;>simp only at h<;>try exact h.elim
    rename_i e;have hTu:P.underlying t=some (.slice e):=hT.gj (k:=.slice e) rfl;cases he:E.ti.get e with
    | none=>rw[he] at h;exact h.elim
    | some te=>
      rw[he] at h;simp only at h;have hte:=hE e te he;obtain⟨i,z,h1,h2,h3,h4,h5,_⟩:=hte.info;cases hf:GD m te.size (ps.toList.map λp=>(p.1,ρa p.2)) ((List.replicate n te.zero).flatten) with
      | none=>rw[hf] at h;exact h.elim
      | some cs=>
        rw[hf] at h;cases hc:(Nat.ble (n*te.size) 16777216&&Nat.ble n 140737488355328) with
        | false=>rw[hc] at h;exact h.elim
        | true=>
          rw[hc] at h;simp only at h;simp only[fZ] at hc;have hc1:=KX hc.1;have hc2:=KX hc.2;have hzs:z.cells.size=te.size:=by
           have:=(h5 w S m).length;rw[bF,hte.azU] at this;omega
          have hz:eH w S m (List.replicate n te.zero).flatten (madeCells z.cells (n*te.size)).toList:=by
           rw[<-hzs,vE];exact qF (h5 w S m) n
          obtain⟨iM,g1,g2,g3⟩:=xG hρ ps.toList _ cs (madeCells z.cells (n*te.size)) hf hz;cases hlit:Ry af te.ty n m cs with
          | none=>rw[hlit] at h;exact h.elim
          | some q=>
          obtain⟨m1,cs1⟩:=q;rw[hlit] at h;cases h;obtain⟨S1,s1,g2⟩:=MC hW hlit g2;have hW1:=s1.wr;have hul:iM.size=n*te.size:=by rw[g3,size_madeCells]
          refine⟨.value (.slice (some ⟨w.heap.size,0,none⟩) n n),.slice (some ⟨w.heap.size,0,none⟩) n n,w.alloc (.cells iM e),_,?_,.inl rfl,s1.trans (Dp hW1 false g2),?_⟩
          .by_cases hn:n*te.size=0
           .have hm0:madeCells z.cells (n*te.size)=#[]:=by grind
            rw[hm0] at g1;simp[execOp,Instr.buildSlice,eE,run_underlying hTu,dH,sizeOf,typeInfo,run_program,h1,jA];rw[h2,hn];simp[g1,newRow,Array.range_zero']
           .have hc1':¬(16777216<n*te.size):=by omega
            simp[execOp,Instr.buildSlice,eE,run_underlying hTu,dH,sizeOf,typeInfo,run_program,h1,jA];rw[h2];rw[madeCells] at g1;simp[hn,hc1',zeroValue,typeInfo,h1,h4,g1,newRow]
          .rw[CR,Mem.fK];refine⟨0,n,n,some ⟨w.heap.size,0,none⟩,rfl,rfl,by rw[im];omega,?_,ai _,(λh=>by cases h),rfl,λ_=>?_⟩
           .rw[iy,<-hul,<-bF,g2.length];omega
           .simp[St.push,if_pos,Nat.zero_mul]
 case makeSlice t l c=>
  cases ht:E.ti.get t with
  | none=>rw[ht] at h;exact h.elim
  | some ti=>
    obtain⟨kind,size,bytes,agg,zero,tyy,eq⟩:=ti;have hT:=hE t _ ht;rw[ht] at h;cases kind<;>simp only at h<;>try exact h.elim
    rename_i e;have hTu:P.underlying t=some (.slice e):=hT.gj (k:=.slice e) rfl;cases he:E.ti.get e with
    | none=>rw[he] at h;exact h.elim
    | some te=>
      obtain⟨tkind,tsize,tbytes,tagg,tzero,tty,teq⟩:=te;rw[he] at h;cases tty with
      | none=>exact h.elim
      | some d=>
        simp only at h;have hte:=hE e _ he;have hl:=hρ l;have hcc:=hρ c;cases hla:ρa l<;>rw[hla] at h hl<;>(try simp only at h)<;>try exact h.elim
        cases hca:ρa c<;>rw[hca] at h hcc<;>(try simp only at h)<;>try exact h.elim
        rename_i k1 c1 n k2 c2 n';obtain⟨hb,h⟩:=h;cases h;obtain⟨hv1,_⟩:=fq.1 hl;obtain⟨hv2,_⟩:=fq.1 hcc;obtain⟨hle,h0,hfit⟩:n<=n'/\0<=n/\n'<=140737488355328/(tbytes.max 1:Nat):=by
         split at hb
         .have hb:(af.c .leq n n'&&(af.c .leq 0 n&&af.c .leq n' (140737488355328/(tbytes.max 1:Nat))))=true:=hb;rw[fZ,fZ,uJ,uJ,uJ] at hb;omega
         .have hb:(af.c .eql n n'&&(af.c .leq 0 n&&af.c .leq n (140737488355328/(tbytes.max 1:Nat))))=true:=hb;rw[fZ,fZ,Va,uJ,uJ] at hb;omega
        obtain⟨k,rfl⟩:∃k:Nat,n=(k:Int):=⟨n.toNat,by omega⟩;obtain⟨k',rfl⟩:∃k':Nat,n'=(k':Int):=⟨n'.toNat,by omega⟩;have hle:k<=k':=by omega
        obtain⟨f1,f2⟩:=M4 hfit;rw[im] at f1;obtain⟨i,z,h1,h2,h3,h4,_,h6⟩:=hte.info;have hrun:=run_make (P:=P) w t e i z hTu h1 h4 k1 k2 k k' h0 (by omega) (by grind) (by omega);rw[AT,AT,h2] at hrun;have hzr:=h6 d rfl w S.I;have hds:d.size=tsize:=hte.adG rfl;have hzl:z.cells.size=d.size:=by rw[<-bF];exact hzr.length
        have hmade:madeCells z.cells (k'*tsize)=(List.replicate k z.cells.toList).flatten.toArray++(List.replicate (k'-k) z.cells.toList).flatten.toArray:=by
         apply Array.ext';rw[<-hds,<-hzl,vE,gu,<-List.flatten_append,gN,show k+(k'-k)=k' from by omega]
        have hxl:(List.replicate k d.gy).length=k:=Ht;have hfl:((List.replicate k z.cells.toList).flatten).length=k*d.size:=by simp_all
        rw[hmade] at hrun;obtain⟨S',s',c'⟩:=PG hW (t:=d) (e:=e) (xs:=List.replicate k d.gy) (us:=(List.replicate k z.cells.toList).flatten) (zs:=(List.replicate (k'-k) z.cells.toList).flatten.toArray) (cap:=k') (by simp_all) (by
         rw[hfl,List.size_toArray,List.length_flatten,List.map_replicate,List.sum_replicate_nat,bF,hzl,<-fI,show k+(k'-k)=k' from by omega]) (by omega) (by rw[hxl,im];omega) (λj y hy=>by
         have hj:j<k:=by grind
         rw[List.getElem?_replicate,if_pos hj] at hy;cases hy;rw[oM (by rw[bF,hzl]) hj];omega)
        have erep:af.r (k:Int) d.gy=List.replicate k d.gy:=by rfl
        rw[erep];refine⟨.value (.slice (some ⟨w.heap.size,0,none⟩) k k'),_,_,S',by simp only[execOp,hv1,hv2,eE,hrun,dH,jA],.inl rfl,s',?_⟩
        simp_all
 case store t p x=>
  obtain⟨S1,s1,h1⟩:=JQ hW (hρ x) rfl;obtain⟨m1,hm,e⟩:=TV.De h;cases e;obtain⟨w',S',h1,h2⟩:=JP hE s1.wr ((hρ p).mono s1.out) h1 hm;exact⟨.skip,.bool true,w',S',by simp[execOp,h1],.inr ⟨rfl,rfl⟩,s1.trans h2,gQ⟩
 case call c=>
  obtain⟨callee,args,argTypes⟩:=c;cases callee<;>(try simp only at h)<;>try exact h.elim
  rename_i b;cases b<;>(try simp only at h)<;>try exact h.elim
  case append=>
   obtain⟨l⟩:=args;obtain⟨tl⟩:=argTypes;simp only at h
   match l,tl,h with
   | [d,s],t::t'::ts,h=>
     simp only at h;cases ht:E.ti.get t with
     | none=>rw[ht] at h;exact h.elim
     | some ti=>
       obtain⟨kind,size,bytes,agg,zero,tyy,eq⟩:=ti;have hT:=hE t _ ht;rw[ht] at h;cases kind<;>(try simp only at h)<;>try exact h.elim
       rename_i e;cases ht':E.ti.get t' with
       | none=>rw[ht'] at h;exact h.elim
       | some ti'=>
         obtain⟨kind',size',bytes',agg',zero',tyy',eq'⟩:=ti';have hT':=hE t' _ ht';rw[ht'] at h;cases kind'<;>(try simp only at h)<;>try exact h.elim
         rename_i e';cases he:E.ti.get e with
         | none=>rw[he] at h;exact h.elim
         | some te=>
           obtain⟨tkind,tsize,tbytes,tagg,tzero,tty,teq⟩:=te;rw[he] at h;cases tty with
           | none=>exact h.elim
           | some dt=>
             simp only at h;obtain⟨z,w',S',h1,h2,h3⟩:=Gt (P:=P) (ty:=ty) hW (hT.gj (k:=.slice e) rfl) (hT'.gj (k:=.slice e') rfl) (hE e _ he) rfl (hρ d) (hρ s) (aaf h);refine⟨.value z,z,w',S',?_,.inl rfl,h2,h3⟩;have:(Builtin.append_ (t::t'::ts).toArray ty #[ρc d,ρc s]).run P w=.ok z w':=by
              rw[<-h1];rfl
             simp[execOp,resolve,invoke,builtin,this]
  case copy=>
   obtain⟨l⟩:=args;obtain⟨tl⟩:=argTypes;simp only at h
   match l,tl,h with
   | [d,s],t::t'::ts,h=>
     simp only at h;cases ht:E.ti.get t with
     | none=>rw[ht] at h;exact h.elim
     | some ti=>
       obtain⟨kind,size,bytes,agg,zero,tyy,eq⟩:=ti;have hT:=hE t _ ht;rw[ht] at h;cases kind<;>(try simp only at h)<;>try exact h.elim
       rename_i e;cases ht':E.ti.get t' with
       | none=>rw[ht'] at h;exact h.elim
       | some ti'=>
         obtain⟨kind',size',bytes',agg',zero',tyy',eq'⟩:=ti';rw[ht'] at h;cases kind'<;>(try simp only at h)<;>try exact h.elim
         cases he:E.ti.get e with
         | none=>rw[he] at h;exact h.elim
         | some te=>
           obtain⟨tkind,tsize,tbytes,tagg,tzero,tty,teq⟩:=te;rw[he] at h;cases tty with
           | none=>exact h.elim
           | some dt=>
             simp only at h;obtain⟨z,w',S',h1,h2,h3⟩:=L4 (P:=P) (ty:=ty) (T':=t') hW (hT.gj (k:=.slice e) rfl) (hE e _ he) rfl (hρ d) (hρ s) h;refine⟨.value z,z,w',S',?_,.inl rfl,h2,h3⟩;have:(Builtin.copy_ (t::t'::ts).toArray ty #[ρc d,ρc s]).run P w=.ok z w':=by
              rw[<-h1];rfl
             simp[execOp,resolve,invoke,builtin,this]
  case clear=>
   obtain⟨l⟩:=args;obtain⟨tl⟩:=argTypes;simp only at h
   match l,tl,h with
   | [d],t::ts,h=>
     simp only at h;cases ht:E.ti.get t with
     | none=>rw[ht] at h;exact h.elim
     | some ti=>
       obtain⟨kind,size,bytes,agg,zero,tyy,eq⟩:=ti;have hT:=hE t _ ht;rw[ht] at h;cases kind<;>(try simp only at h)<;>try exact h.elim
       rename_i e;cases he:E.ti.get e with
       | none=>rw[he] at h;exact h.elim
       | some te=>
         obtain⟨tkind,tsize,tbytes,tagg,tzero,tty,teq⟩:=te;rw[he] at h;cases tty with
         | none=>exact h.elim
         | some dt=>
           simp only at h;obtain⟨z,w',S',h1,h2,h3⟩:=JM (P:=P) (ty:=ty) (r:=ts) hW (hT.gj (k:=.slice e) rfl) (hE e _ he) rfl (hρ d) h;refine⟨.value z,z,w',S',?_,.inl rfl,h2,h3⟩;have:(Builtin.clear_ (t::ts).toArray ty #[ρc d]).run P w=.ok z w':=h1;simp[execOp,resolve,invoke,builtin,this]
 case convert s d x=>
  cases ht:E.ti.get s with
  | none=>rw[ht] at h;exact h.elim
  | some ti=>
    obtain⟨kind,size,bytes,agg,zero,tyy,eq⟩:=ti;have hT:=hE s _ ht;rw[ht] at h;cases kind<;>(try simp only at h)<;>try exact h.elim
    rename_i e;cases hd:E.ti.get d with
    | none=>rw[hd] at h;exact h.elim
    | some di=>
      obtain⟨dkind,dsize,dbytes,dagg,dzero,dty,deq⟩:=di;have hD:=hE d _ hd;rw[hd] at h;cases dkind<;>(try simp only at h)<;>try exact h.elim
      cases he:E.ti.get e with
      | none=>rw[he] at h;exact h.elim
      | some te=>
        obtain⟨tkind,tsize,tbytes,tagg,tzero,tty,teq⟩:=te;have hte:=hE e _ he;rw[he] at h;cases tkind<;>(try simp only at h)<;>try exact h.elim
        rename_i k;cases k<;>(try simp only at h)<;>try exact h.elim
        cases hsd:mT af (.int .u8) m (ρa x) with
        | none=>rw[hsd] at h;exact h.elim
        | some y=>
          cases hsf:mm af (.int .u8) m (ρa x) with
          | none=>rw[hsd,hsf] at h;exact h.elim
          | some m1=>
            rw[hsd,hsf] at h;cases h;obtain⟨S1,s1,hr⟩:=rU hW (hρ x) hsd hsf;have hrun:(convert s d (ρc x)).run P w=.ok (.string ⟨(y.map λn=>UInt8.ofNat n.toNat).toArray⟩) w:=Ol (hT.gj (k:=.slice e) rfl) (hte.gj (k:=.int .u8) rfl) (hD.gj (k:=.str) rfl) hr;exact⟨.value (.string ⟨(af.bytes y).toArray⟩),_,w,S1,by simp only[execOp,eE,hrun,dH,jA];rfl,.inl rfl,s1,Om hr⟩
end
end Go.Ev
namespace Go.Ev
def tM{a b:Nat}:Nat.beq a b=true↔a=b:=⟨vH,λh=>by simp_all⟩
def gJ{a b:Nat}:Nat.beq a b=false↔a≠b:=by
 constructor
 .intro h e;simp_all
 .intro h;cases hb:Nat.beq a b with
  | false=>rfl
  | true=>simp_all
section
variable {α:Type}
def PT.p8(l:PT α)(v:Option α)(r:PT α)(n:Nat):(PT.node l v r).get n=if n=0 then v else if n%2=1 then l.get (n/2) else r.get (n/2-1):=by
 rw[PT.get];by_cases a:n=0
 .simp_all
 .rw[gJ.2 a,if_neg a];by_cases b:n%2=1
  all_goals simp_all
theorem PT.G6(n:Nat):(PT.leaf:PT α).get n=none:=by rfl
def PT.abL(f n:Nat)(a:α):PT.put (f+1) .leaf n a=if n=0 then .node .leaf (some a) .leaf else if n%2=1 then .node (PT.put f .leaf (n/2) a) none .leaf else .node .leaf none (PT.put f .leaf (n/2-1) a):=by
 rw[PT.put];by_cases b:n=0
 .simp_all
 .rw[gJ.2 b,if_neg b];by_cases c:n%2=1
  all_goals simp_all
theorem PT.abN(f n:Nat)(l:PT α)(v:Option α)(r:PT α)(a:α):PT.put (f+1) (.node l v r) n a=if n=0 then .node l (some a) r else if n%2=1 then .node (PT.put f l (n/2) a) v r else .node l v (PT.put f r (n/2-1) a):=by
 rw[PT.put];by_cases b:n=0
 .simp_all
 .rw[gJ.2 b,if_neg b];by_cases c:n%2=1
  all_goals simp_all
theorem PT.get_put:∀(f:Nat) (t:PT α) (n m:Nat) (a:α),n+1<2^f->(PT.put f t n a).get m=if m=n then some a else t.get m
 | 0,t,n,m,a,h=>by omega
 | f+1,t,n,m,a,h=>by
   have split:∀(l:PT α) (v:Option α) (r:PT α),t.get m=(PT.node l v r).get m->
     (if n=0 then PT.node l (some a) r else if n%2=1 then .node (PT.put f l (n/2) a) v r else .node l v (PT.put f r (n/2-1) a)).get m=if m=n then some a else t.get m:=by
    intro l v r e;rw[e];by_cases i:n=0
    .simp_all [PT.p8]
    .rw[if_neg i];by_cases g:n%2=1
     .rw[if_pos g,PT.p8,PT.p8];by_cases c:m=0
      .grind
      .rw[if_neg c,if_neg c];by_cases b:m%2=1
       .rw[if_pos b,if_pos b,PT.get_put f l (n/2) (m/2) a<|by omega]
        grind
       grind
     .rw[if_neg g,PT.p8,PT.p8];by_cases c:m=0
      .grind
      .rw[if_neg c,if_neg c];by_cases b:m%2=1
       .grind
       .rw[if_neg b,if_neg b,PT.get_put f r (n/2-1) (m/2-1) a<|by omega]
        grind
   cases t with
   | leaf=>
     simp_all [PT.abL,PT.G6,PT.p8]
   | node l v r=>
     grind [PT.abN]
end
variable{e:Env}{v:AV}
theorem Env.z7{n m:Nat}(h:n<=65535):(e.put n v).at m=if m=n then v else e.at m:=by grind [PT.get_put,Env.put,Env.at]
theorem Env.LF{d:Option Nat}{m:Nat}{n:Nat}(a:tu n d=true)(b:n<=65535):(e.oI d v).at m=if d=some m then v else e.at m:=by
 cases d with
 | none=>rfl
 | some d=>
   have:d<n:=by have:=a;simp only[tu] at this;simp_all
   grind [Env.z7,Env.oI]
theorem Env.Tt(m:Nat):Env.at .leaf m=.undef:=by rfl
theorem Env.ahN:∀{a:List AV} {k m:Nat} {e:Env},k+a.length<=65535->(Env.of k a e).at m=if k<=m/\m<k+a.length then a.getD (m-k) .undef else e.at m
 | [],k,m,e,_=>by simp_all [if_neg,Env.of]
 | v::a,k,m,e,h=>by
   rw[bp] at h;rw[Env.of,Env.ahN<|by omega,Env.z7<|by omega,bp]
   grind
def vu{α:Type}{ρ ρ':Operand->α}{l:List Operand}(h:∀x∈l,ρ x=ρ' x):l.map ρ=l.map ρ':=fj h
section
variable {A:aS} {R:Type} {E:kD R} {ρ ρ':Operand->AV} {m:Mem} {fn:FuncId} {o:Oper}
theorem D8(h:∀x∈o.op.operands.toList,ρ x=ρ' x):uo A E ρ m o=uo A E ρ' m o:=by
 have⟨B,r,ty,F,l,q⟩:=o;unfold uo;cases r<;>simp only[Op.operands,aF,aC,or_false,forall_eq] at h ⊢
 case move x=>rw[h]
 case assign x=>rw[h]
 case pick c a b=>simp_all
 case load t p=>rw[h]
 case nilCheck x=>rw[h]
 case binOp r t x y t2=>simp_all
 case unOp r t x=>rw[h]
 case convert s d x=>rw[h]
 case fieldAddr t x i=>rw[h]
 case indexAddr t x i=>simp_all
 case index t x i=>simp_all
 case extract t i=>rw[h]
 case makeFunc f a c=>
  have G:a.toList.map ρ=a.toList.map ρ':=vu λx v=>h x (by simp_all);have H:c.toList.map ρ=c.toList.map ρ':=vu λx v=>h x (by simp_all)
  grind
 case slice t x lo hi mx=>
  have u:∀(y:Option Operand),(∀z,y=some z->ρ z=ρ' z)->y.map ρ=y.map ρ':=λy J=>by
   cases y with
   | none=>rfl
   | some z=>simp_all
  simp_all
 case build t ps=>
  grind [List.map_congr_left]
 case call c=>
  have⟨g,e,j⟩:=c;have C:∀x∈e.toList,ρ x=ρ' x:=λx v=>h x (by grind [Call.operands]);have u:e.toList.map ρ=e.toList.map ρ':=vu C;cases g<;>(try rfl);rename_i b;cases b<;>(try rfl)<;>(try simp only[u])
  grind
def Ot(h:∀x∈o.op.operands.toList,ρ x=ρ' x):xC A E fn ρ m o=xC A E fn ρ' m o:=by
 have⟨u,v,ty,y,j,q⟩:=o;simp only at h;unfold xC;cases v<;>simp only[Op.operands,aF,aC,or_false,forall_eq_or_imp,forall_eq] at h ⊢
 case box t x=>rw[h]
 case store t p x=>grind
 case makeSlice t l c=>grind
 case convert s d x=>rw[h]
 case buildSlice t n ps=>
  have:(ps.toList.map λp=>(p.1,ρ p.2))=ps.toList.map λp=>(p.1,ρ' p.2):=fj λp z=>by grind
  rw[this]
 case call c=>
  have⟨g,e,a⟩:=c;have i:∀x∈e.toList,ρ x=ρ' x:=λx B=>h x (by grind [Call.operands]);cases g<;>(try rfl);rename_i b;cases b<;>(try rfl)
  case append=>
   have⟨l⟩:=e
   match l,i with
   | [],_=>rfl
   | [x],_=>rfl
   | [d,s],i=>
     have⟨r⟩:=a
     match r with
     | []=>rfl
     | [_]=>rfl
     | t::t'::ts=>simp only;rw[i d<|by simp,i s<|by simp]
   | _::_::_::_,_=>rfl
  case clear=>
   have⟨l⟩:=e
   grind
  case copy=>
   have⟨l⟩:=e
   match l,i with
   | [],_=>rfl
   | [x],_=>rfl
   | [d,s],i=>
     have⟨r⟩:=a
     match r with
     | []=>rfl
     | [_]=>rfl
     | t::t'::ts=>simp only;rw[i d<|by simp,i s<|by simp]
   | _::_::_::_,_=>rfl
theorem JL(h:∀x∈o.op.operands.toList,ρ x=ρ' x):Bc A E m ρ o=Bc A E m ρ' o:=by
 have⟨j,q,ty,r,g,i⟩:=o;unfold Bc;cases q<;>(try rfl);rename_i c;have⟨a,b,e⟩:=c;simp only[Op.operands,Call.operands] at h;cases a<;>(try rfl);rename_i x;have p:ρ x=ρ' x:=h x (by simp);have l:b.toList.map ρ=b.toList.map ρ':=vu λy s=>h y (by grind);simp only[p,l]
theorem C5(h:∀x∈o.op.operands.toList,ρ x=ρ' x):evV A E m ρ o=evV A E m ρ' o:=by grind [D8,JL,evV]
end
end Go.Ev
namespace Go.Ev
variable{a:Array Oper}{b:Code}{e:Array Value}{f:FuncId}{i:Nat}{l:List Nat}{o:Oper}
section
variable {P:Program} {fr:Frame} {k:List Item} {cs:List Frame} {w:World}
def agV(a:fr.mode=.run)(b:fr.todo=.code .skip::k):step P (lone fr cs w)=.next (lone {fr with todo:=k} cs w):=
 step_lone_go (by simp_all [stepG,stepG.exec])
def acU{l:Nat}(a:fr.mode=.run)(b:fr.todo=.code (.label l)::k):step P (lone fr cs w)=.next (lone {fr with todo:=k} cs w):=
 step_lone_go (by simp_all [stepG,stepG.exec])
def Sm{id:Nat}(a:fr.mode=.run)(b:fr.todo=.inBlock id::k):step P (lone fr cs w)=.next (lone {fr with todo:=k} cs w):=
 step_lone_go (by simp_all [stepG,stepG.exec])
def Sn(a:fr.mode=.run)(c:fr.todo=.inScope b::k):step P (lone fr cs w)=.next (lone {fr with todo:=k} cs w):=
 step_lone_go (by simp_all [stepG,stepG.exec])
def anT{a:Code}(c:fr.mode=.run)(e:fr.todo=.code (.seq a b)::k):step P (lone fr cs w)=.next (lone {fr with todo:=.code a :: .code b::k} cs w):=
 step_lone_go (by simp_all [stepG,stepG.exec])
def agQ{c:Operand}{a:Code}{v:Bool}(g:fr.mode=.run)(h:fr.todo=.code (.cond c a b)::k)(e:fr.eval c=.bool v):
  step P (lone fr cs w)=.next (lone {fr with todo:=.code (if v then a else b)::k} cs w):=
 step_lone_go (by simp_all [stepG,stepG.exec])
def acS{id:Nat}(a:fr.mode=.run)(c:fr.todo=.code (.block id b)::k):step P (lone fr cs w)=.next (lone {fr with todo:=.code b :: .inBlock id::k} cs w):=
 step_lone_go (by simp_all [stepG,stepG.exec])
def U8(a:fr.mode=.run)(c:fr.todo=.code (.loop b)::k):step P (lone fr cs w)=.next (lone {fr with todo:=.code b :: .inLoop b::k} cs w):=
 step_lone_go (by simp_all [stepG,stepG.exec])
def Lc(a:fr.mode=.run)(c:fr.todo=.inLoop b::k):step P (lone fr cs w)=.next (lone {fr with todo:=.code b :: .inLoop b::k} cs w):=
 step_lone_go (by simp_all [stepG,stepG.exec])
def acV(a:fr.mode=.run)(c:fr.todo=.code (.scope b)::k):step P (lone fr cs w)=.next (lone {fr with todo:=.code b :: .inScope b::k} cs w):=
 step_lone_go (by simp_all [stepG,stepG.exec])
def agS{id:Nat}{a:List Item}(c:fr.mode=.run)(e:fr.todo=.code (.exit id)::k)(b:exitTo id k=some a):step P (lone fr cs w)=.next (lone {fr with todo:=a} cs w):=
 step_lone_go (by simp_all [stepG,stepG.exec])
def agT{l:Nat}{a:List Item}(c:fr.mode=.run)(e:fr.todo=.code (.goto l)::k)(b:gotoIn l k=some a):step P (lone fr cs w)=.next (lone {fr with todo:=a} cs w):=
 step_lone_go (by simp_all [stepG,stepG.exec])
def Le{id:Nat}(b:fr.mode=.run)(c:fr.todo=.code (.region id a false)::k):
  step P (lone fr cs w)=.next (lone {fr with todo:=.inRegion a (List.range a.size)::k} cs w):=
 step_lone_go (by simp_all [stepG,stepG.exec])
def Sq{id:Nat}(b:fr.mode=.run)(c:fr.todo=.code (.region id a true)::k):
  step P (lone fr cs w)=.next (lone {fr with todo:=.inRegion a (Region.schedule (P.follows .mixedOrders) a<|w.tape w.drawn<|.order fr.fn id)::k} cs w.drew):=
 step_lone_go (by simp_all [stepG,stepG.exec,Question.forced,Question.cut])
def IJ(b:fr.mode=.run)(c:fr.todo=.inRegion a []::k):step P (lone fr cs w)=.next (lone {fr with todo:=k} cs w):=
 step_lone_go (by simp_all [stepG,stepG.exec])
def agU(a:fr.mode=.run)(b:fr.roundOf=none)(c:fr.todo=.code .ret::k):step P (lone fr cs w)=.next (lone {fr with mode:=.returning} cs w):=
 step_lone_go (by simp_all [stepG,stepG.exec])
def agR(a:fr.mode=.run)(b:fr.roundOf=none)(c:fr.todo=[]):step P (lone fr cs w)=.next (lone {fr with mode:=.returning} cs w):=
 step_lone_go (by simp_all [stepG,stepG.exec])
def WT{l:Nat}{g:Frame}{a:Option Code}{v:Value}{c:World}(j:fr.mode=.run)(i:fr.kind=.normal)(p:fr.roundOf=some l)
  (b:(fr.todo=[]/\a=none)\/(∃k,fr.todo=.code .ret::k/\a=some .ret)\/(∃id k,fr.todo=.code (.exit id)::k/\exitTo id k=none/\a=some (.exit id))\/(∃id k,fr.todo=.code (.goto id)::k/\gotoIn id k=none/\a=some (.goto id)))
  (h:(Instr.endRound l a).run P w=.ok v c):step P (lone fr (g::cs) w)=.next (lone (g.finish v) cs c):=by
 rcases b with ⟨b,rfl⟩|⟨k,b,rfl⟩|⟨id,k,b,e,rfl⟩|⟨id,k,b,e,rfl⟩
 .exact step_lone_go (by simp_all [stepG,stepG.exec,doReturn])
 .exact step_lone_go (by simp_all [stepG,stepG.exec,doReturn])
 .exact step_lone_go (by simp_all [stepG,stepG.exec,doReturn])
 .exact step_lone_go (by simp_all [stepG,stepG.exec,doReturn])
def Lf(b:fr.mode=.run)(e:fr.todo=.inRegion a (i::l)::k)(c:a[i]? = some o)(g:Region.wanted o (yielded a fr.tmps)=false):
  step P (lone fr cs w)=.next (lone (fr.finish undef) cs w):=
 step_lone_go (by simp_all [stepG,stepG.exec])
def U9(e:fr.mode=.run)(h:fr.todo=.inRegion a (i::l)::k)(g:a[i]? = some o)(j:Region.wanted o (yielded a fr.tmps)=true)
  (b:∀c,o.op≠.defer c) :
  stepG P true {frame:=fr,callers:=cs,status:=.running,dying:=none} w=stepG.apply P true fr cs none (execOp fr.eval o) w:=by grind [stepG,stepG.oper,stepG.exec,Frame.oper?]
def Sp{z:Value}{b:World}(g:fr.mode=.run)(j:fr.todo=.inRegion a (i::l)::k)(h:a[i]? = some o)(p:Region.wanted o (yielded a fr.tmps)=true)
  (e:∀c,o.op≠.defer c) (q:(execOp fr.eval o).run P w=.ok (.value z) b):step P (lone fr cs w)=.next (lone (fr.finish z) cs b):=
 step_lone_go (by rw[U9 g j h p e];simp_all [stepG.apply])
def anS{b:World}(g:fr.mode=.run)(j:fr.todo=.inRegion a (i::l)::k)(h:a[i]? = some o)(p:Region.wanted o (yielded a fr.tmps)=true)
  (e:∀c,o.op≠.defer c) (q:(execOp fr.eval o).run P w=.ok .skip b):step P (lone fr cs w)=.next (lone (fr.finish undef) cs b):=
 step_lone_go (by rw[U9 g j h p e];simp_all [stepG.apply])
def Nu{b:Array Value}{e:World}(h:fr.mode=.run)(p:fr.todo=.inRegion a (i::l)::k)(j:a[i]? = some o)(q:Region.wanted o (yielded a fr.tmps)=true)
  (g:∀c,o.op≠.defer c) (r:(execOp fr.eval o).run P w=.ok (.enter f b) e):step P (lone fr cs w)=.next (lone (Frame.enter P f b .normal) (fr::cs) e):=
 step_lone_go (by rw[U9 h p j q g];simp_all [stepG.apply])
def anR{g:Array Oper}{n:Nat}{a:Code}{h:World}(p:fr.mode=.run)(r:fr.todo=.inRegion g (i::l)::k)(q:g[i]? = some o)(s:Region.wanted o (yielded g fr.tmps)=true)
  (j:∀c,o.op≠.defer c) (t:(execOp fr.eval o).run P w=.ok (.round n f e a b) h):step P (lone fr cs w)=.next (lone (Frame.round n f e a b .normal) (fr::cs) h):=
 step_lone_go (by rw[U9 p r q s j];simp_all [stepG.apply])
def acT{l:Nat}{a:Option Code}{b:World}(e:fr.mode=.run)(g:fr.todo=.endRangeFunc l::k)(c:(Instr.endLoop l).run P w=.ok a b):
  step P (lone fr cs w)=.next (lone {fr with todo:=(a.map Item.code).toList++k} cs b):=
 step_lone_go (by simp_all [stepG,stepG.exec])
def acR{l:Nat}{a:World}(c:fr.mode=.run)(e:fr.roundOf=some l)(g:fr.todo=.beginRound::k)(b:(Instr.beginRound l).run P w=.ok () a):
  step P (lone fr cs w)=.next (lone {fr with todo:=k} cs a):=
 step_lone_go (by simp_all [stepG,stepG.exec,stepG.apply,Frame.finish])
def awx{x:Operand}{g:Array Tmp}{a:Code}{l:Nat}{c:List Deferred}{h i:World}(q:fr.mode=.run)(r:fr.todo=.code (.rangeFunc x g a b)::k)
  (p:(Instr.enterLoop fr.fn fr.tmps g a b fr.roundOf).run P w=.ok (l,c) h)
  (s:(do let d <-resolve fr.eval {callee:=.value x,args:=#[.const<|.func (.yield l) #[] #[]],argTypes:=#[]} 0;invoke d.target d.args:Sem Next).run P h=.ok (.enter f e) i) :
  step P (lone fr cs w)=.next (lone (Frame.enter P f e .normal) ({fr with todo:=.inRangeFunc l::k,defers:=c++fr.defers}::cs) i):=by
 refine step_lone_go ?_;have j:Frame.eval {fn:=fr.fn,tmps:=fr.tmps,todo:=.inRangeFunc l::k,defers:=c++fr.defers,mode:=.run,kind:=fr.kind,roundOf:=fr.roundOf}=fr.eval:=by rfl
 simp_all [stepG,stepG.exec,stepG.apply]
end
end Go.Ev
namespace Go.Ev
def jH(all:Array Oper)(env:Env)(o:Oper)(t:Bool):Prop:=
 match o.guard with
 | none=>t=true
 | some (j,want)=>∃p d,all[j]? = some p/\p.dst=some d/\((∃c v,env.at d=.bool c v/\t=(v==want))\/(env.at d=.yV []/\t=false))
def Jw{R:Type}(E:kD R)(env:Env)(m:Mem)(all:Array Oper)(b:Nat):Prop:=
 ∃o,all[b]? = some o/\((jH all env o false/\wD env o.dst (.yV []))\/(jH all env o true/\∃a v,evV af E m (mV env) o=some a/\a.Is v/\wD env o.dst v))
def uh{R:Type}(E:kD R)(c:gY):Prop:=
 match c.bG with
 | f::_=>match f.todo with
   | .jO all _ _ bs::_=>∀b∈bs,Jw E f.env c.mem all b
   | _=>True
 | []=>True
def zV(f0:FuncId):List dK->Prop
 | []=>False
 | [f]=>f.fn=f0
 | _::g::r=>zV f0<|g::r
variable{f0:FuncId}
def zV.swap{f g:dK}{fs:List dK}(h:zV f0<|f::fs)(e:g.fn=f.fn):zV f0<|g::fs:=by
 cases fs with
 | nil=>exact Eq.trans e h
 | cons x r=>exact h
def Ends{R:Type}(P:Program)(f0:FuncId)(Fin:R->Value->World->Prop)(Q:R->Prop)(fr:Frame)(frs cs:List Frame)(w:World):Prop:=
 ∃y v b a,Q y/\Fin y v b/\Steps P (lone fr (frs++cs) w) (lone a cs b)/\a.fn=f0/\a.leaving P b (.returned v)
variable{P:Program}
def Ends.step{R:Type}{Fin:R->Value->World->Prop}{Q:R->Prop}{fr a:Frame}{frs frs2 cs:List Frame}{w b:World}
  (h:step P (lone fr (frs++cs) w)=.next (lone a (frs2++cs) b)) (e:Ends P f0 Fin Q a frs2 cs b):Ends P f0 Fin Q fr frs cs w:=by
 have⟨y,v,p,l,c,g,i,j⟩:=e;exact⟨y,v,p,l,c,g,.head h i,j⟩
def Ends.steps{R:Type}{Fin:R->Value->World->Prop}{Q:R->Prop}{fr b:Frame}{frs a cs:List Frame}{w c:World}
  (h:Steps P (lone fr (frs++cs) w)<|lone b (a++cs) c) (g:Ends P f0 Fin Q b a cs c):Ends P f0 Fin Q fr frs cs w:=by
 have⟨y,v,q,p,e,i,j,l⟩:=g;exact⟨y,v,q,p,e,i,h.trans j,l⟩
def Good{R:Type}(P:Program)(E:kD R)(w0:nN)(I0:Nat->Prop)(f0:FuncId)(Fin:R->Value->World->Prop)(Q:R->Prop)(c:gY):Prop:=
 uh E c->∀(S:St) (fr:Frame) (frs cs:List Frame) (w:World),WR w0 w S c.mem->(∀b,S.I b->I0 b\/w0.free b)->FB w S c.mem c.bG (fr::frs)->zV f0 c.bG->
  Ends P f0 Fin Q fr frs cs w
def rL(w:World)(I:Nat->Prop):(a:List Ty)->Value->Ty.Ts a->Prop
 | [],v,_=>v=.tuple #[]
 | [t],v,x=>mU w I t v x
 | t::t2::ts,v,x=>∃b:Array Value,v=.tuple b/\lg w I (t::t2::ts) b.toList x
structure aK.bI(P:Program)(g:FuncId)(s:aK):Prop where
 calls:∀(w:World) (I:Nat->Prop) (x:Ty.Ts s.args) (aa:Array Value),(∀b,I b->b<w.heap.size)->lg w I s.args aa.toList x->s.pre x=true->
  Calls P g aa w λe w'=>∃v,e=.returned v/\w'.os=w.os/\w'.tape=w.tape/\w'.output=w.output/\w.heap.size<=w'.heap.size/\(∀b,b<w.heap.size->w'.heap[b]? = w.heap[b]?)/\
   ∃I',(∀b,I' b->I b\/(w.heap.size<=b/\b<w'.heap.size))/\rL w' I' s.res v (s.fn x)
 all:s.N_=true->∀x,s.pre x=true
 body:∃F,P.funcs[g]? = some F/\F.body.isSome=true/\(F.name == "runtime.NumGoroutine")=false
def aK.oT(P:Program)(g:FuncId)(s:aK):Prop:=
 ∀(w:World) (I:Nat->Prop) (x:Ty.Ts s.args) (h:Array Value),(∀b,I b->b<w.heap.size)->lg w I s.args h.toList x->s.pre x=true->
  Calls P g h w λe a=>w.drawn<=a.drawn/\∃v,e=.returned v/\a.os=w.os/\a.tape=w.tape/\a.output=w.output/\w.heap.size<=a.heap.size/\(∀b,b<w.heap.size->a.heap[b]? = w.heap[b]?)/\
   ∃c,(∀b,c b->I b\/(w.heap.size<=b/\b<a.heap.size))/\rL a c s.res v (s.fn x)
structure qG.bI(P:Program)(g:FuncId)(s:qG):Prop where
 calls:∀(w:World) (I:Nat->Prop) (x:s.view.T) (y:Ty.Ts s.args) (b:Nat) (us:Array Value) (T:TypeId) (fr:Nat×Nat) (aa:List Value),(∀b,I b->b<w.heap.size)->w.heap[b]? = some (.cells us T fr)->bT w I s.view us.toList x->
  lg w I s.args aa y->s.pre (x,y)=true->
  Calls P g (Value.pointer (some ⟨b,0,none⟩)::aa).toArray w λe w'=>∃v,e=.returned v/\w'.os=w.os/\w'.tape=w.tape/\w'.output=w.output/\w.heap.size<=w'.heap.size/\(∀b,b<w.heap.size->w'.heap[b]? = w.heap[b]?)/\
   rL w' (λ_=>False) s.res v (s.fn (x,y))
 body:∃F,P.funcs[g]? = some F/\F.body.isSome=true/\(F.name == "runtime.NumGoroutine")=false
mutual
def VR(w:World)(I:Nat->Prop)(D:Nat->Nat×Nat):(f:VF)->List Value->f.ty.T->List Nat->Prop
 | .d t,us,x,B=>bT w I t us x/\B=[]
 | .own t,us,x,B=>((show List t.T from x)=[]/\B=[]/\∃a,us=[.slice a 0 0])\/
    (∃b g e,B=[b]/\us=[.slice (some ⟨b,g,none⟩) (show List t.T from x).length e]/\(show List t.T from x).length<=e/\(show List t.T from x).length<=fX/\
      ∃(c:Array Value) (T:TypeId) (fr:Nat×Nat),w.heap[b]? = some (.cells c T fr)/\gS fr c.size/\g+e*t.size<=c.size/\
       ∀(i:Nat) (y:t.T),(show List t.T from x)[i]? = some y->bT w I t ((c.toList.drop<|g+i*t.size).take t.size) y)
 | .fix k t,us,x,B=>B=[]/\∃e,us=[.slice (some ⟨(D k).1,(D k).2,none⟩) (show List t.T from x).length e]/\(show List t.T from x).length<=e/\(show List t.T from x).length<=fX/\
     ∃(c:Array Value) (T:TypeId) (fr:Nat×Nat),w.heap[(D k).1]? = some (.cells c T fr)/\gS fr c.size/\(D k).2+e*t.size<=c.size/\
      ∀(i:Nat) (y:t.T),(show List t.T from x)[i]? = some y->bT w I t ((c.toList.drop<|(D k).2+i*t.size).take t.size) y
 | .ptr fs,us,x,B=>∃b h,B=b::h/\us=[.pointer<|some ⟨b,0,none⟩]/\
     ∃(c:Array Value) (T:TypeId) (fr:Nat×Nat),w.heap[b]? = some (.cells c T fr)/\gS fr c.size/\ru w I D fs c.toList x h
 | .od fs,us,x,B=>∃b,us=[.pointer<|some ⟨b,0,none⟩]/\I b/\
     ∃(c:Array Value) (T:TypeId) (fr:Nat×Nat),w.heap[b]? = some (.cells c T fr)/\gS fr c.size/\ru w I D fs c.toList x B
def ru(w:World)(I:Nat->Prop)(D:Nat->Nat×Nat):(fs:List VF)->List Value->Ty.Ts (VF.iq fs)->List Nat->Prop
 | [],us,_,B=>us=[]/\B=[]
 | [f],us,x,B=>VR w I D f us x B
 | f::g::fs,us,x,B=>∃c e a b,us=c++e/\B=a++b/\VR w I D f c (Prod.fst (α:=f.ty.T) (β:=Ty.Ts<|VF.iq<|g::fs) x) a/\ru w I D (g::fs) e (Prod.snd (α:=f.ty.T) (β:=Ty.Ts<|VF.iq<|g::fs) x) b
end
def nk(a:List Nat):List Value:=a.map λb=>.pointer<|some ⟨b,0,none⟩
def ad1(w:World)(I:Nat->Prop)(b:Bool)(c:List Nat)(a:List Ty)(v:Value)(y:Ty.Ts a):Prop:=
 match b with
 | false=>rL w I a v y
 | true=>(nk c).head? = some v
def oW(D:Nat->Nat×Nat)(fs:List VF):List Nat:=(VF.i7 fs).map λk=>(D k).1
def VF.lens(fs:List VF)(x:Ty.Ts<|VF.iq fs):List Nat:=(VF.gF fs x).map λp=>match p.2 with | .arr _ _ l=>l.length|_=>0
structure cH.bI(P:Program)(g:FuncId)(s:cH):Prop where
 calls:∀(w:World) (I:Nat->Prop) (D:Nat->Nat×Nat) (x:Ty.Ts (VF.iq s.aN)) (y:Ty.Ts s.args) (rs:List Nat) (aa:List Value) (B:List Nat),(∀b,I b->b<w.heap.size)->ru w I D s.aN (nk rs) x B->rs.Nodup->(B++oW D s.aN).Nodup->(∀b∈B++oW D s.aN,¬I b)->
  lg w I s.args aa y->s.pre (x,y)=true->
  Calls P g (nk rs++aa).toArray w λe w'=>∃v,e=.returned v/\w'.os=w.os/\w'.tape=w.tape/\w'.output=w.output/\w.heap.size<=w'.heap.size/\(∀b,b<w.heap.size->b ∉ B++oW D s.aN->w'.heap[b]? = w.heap[b]?)/\
   ∃(I':Nat->Prop) (B':List Nat),(∀b,I' b->(I b\/b∈B++oW D s.aN\/w.heap.size<=b)/\b<w'.heap.size)/\(∀(b:Nat) (us:Array Value) (T:TypeId) (fr:Nat×Nat),w.heap[b]? = some (.cells us T fr)->∃(iM:Array Value) (T':TypeId) (iV:Nat×Nat),w'.heap[b]? = some (.cells iM T' iV)/\iM.size=us.size)/\ru w' I' D s.aN (nk rs) (s.fn (x,y)).1 B'/\(B'++oW D s.aN).Nodup/\(∀b∈B'++oW D s.aN,(b∈B++oW D s.aN\/w.heap.size<=b)/\¬I' b)/\ad1 w' I' s.rp rs s.res v (s.fn (x,y)).2
 keep:∀x y,s.pre (x,y)=true->VF.lens s.aN (s.fn (x,y)).1=VF.lens s.aN x
 all:s.N_=true->∀x,s.pre x=true
 body:∃F,P.funcs[g]? = some F/\F.body.isSome=true/\(F.name == "runtime.NumGoroutine")=false
def fnV(fs:List FuncId):List Value:=fs.map λf=>.func (.func f) #[] #[]
structure gg.bI(P:Program)(g:FuncId)(s:gg):Prop where
 calls:∀(w:World) (I:Nat->Prop) (x:List s.elem.T) (y:Ty.Ts s.args) (v:Value) (aa:List Value) (B:List Nat),(∀b,I b->b<w.heap.size)->VR w I (λ_=>(0,0)) (.own s.elem) [v] x B->(∀b∈B,¬I b)->
  lg w I s.args aa y->s.pre (x,y)=true->
  Calls P g (zv s.xh v (aa++fnV s.l_)).toArray w λe w'=>∃r,e=.returned r/\w'.os=w.os/\w'.tape=w.tape/\w'.output=w.output/\w.heap.size<=w'.heap.size/\(∀b,b<w.heap.size->b ∉ B->w'.heap[b]? = w.heap[b]?)/\
   ∃I':Nat->Prop,(∀b,I' b->(I b\/w.heap.size<=b)/\b<w'.heap.size)/\(∀(b:Nat) (us:Array Value) (T:TypeId) (fr:Nat×Nat),w.heap[b]? = some (.cells us T fr)->∃(iM:Array Value) (T':TypeId) (iV:Nat×Nat),w'.heap[b]? = some (.cells iM T' iV)/\iM.size=us.size)/\
    VR w' I' (λ_=>(0,0)) (.own s.elem) [v] (s.fn (x,y)).1 B/\rL w' I' s.res r (s.fn (x,y)).2
 body:∃F,P.funcs[g]? = some F/\F.body.isSome=true/\(F.name == "runtime.NumGoroutine")=false
def anr:List Value->Value
 | [v]=>v
 | vs=>.tuple vs.toArray
def ad2(w0 w:World)(I:Nat->Prop)(f:VF)(a:Bool)(c:List Ty)(z:Value)(y:Bool×f.ty.T×Ty.Ts c):Prop:=
 ∃(e:Nat->Prop) (D:Nat->Nat×Nat) (B:List Nat) (v:Value) (g:List Value),z=anr (v::g)/\(∀b,e b->I b\/(w0.heap.size<=b/\b<w.heap.size))/\
  ((a=true/\y.1=false/\v=.pointer none)\/((a=true->y.1=true)/\VR w e D f [v] y.2.1 B/\B.Nodup/\∀b∈B,w0.heap.size<=b/\¬e b))/\lg w e c g y.2.2
structure pn.bI(P:Program)(g:FuncId)(s:pn):Prop where
 calls:∀(w:World) (I:Nat->Prop) (x:Ty.Ts s.args) (aa:Array Value),(∀b,I b->b<w.heap.size)->lg w I s.args aa.toList x->s.pre x=true->
  Calls P g aa w λe w'=>∃v,e=.returned v/\w'.os=w.os/\w'.tape=w.tape/\w'.output=w.output/\w.heap.size<=w'.heap.size/\(∀b,b<w.heap.size->w'.heap[b]? = w.heap[b]?)/\
   ad2 w w' I s.out s.opt s.res v (s.fn x)
 body:∃F,P.funcs[g]? = some F/\F.body.isSome=true/\(F.name == "runtime.NumGoroutine")=false
structure Fits{R:Type}(P:Program)(E:kD R)(Fin:R->Value->World->Prop)(w0:nN)(I0:Nat->Prop):Prop where
 ti:nW P E.ti
 l_:∀g F,look E.l_ g=some F->P.funcs[g]? = some F/\(F.name == "runtime.NumGoroutine")=false
 kh:∀g s,look E.kh g=some s->s.bI P g
 mixed:P.follows .mixedOrders=true
 fin:∀(S:St) (w:World) (m:Mem) (av:AV) (y:R) (v:Value),WR w0 w S m->(∀b,S.I b->I0 b\/w0.free b)->E.fin av m=some y->CR w S m av v->Fin y v w
 u6:∀g s,look E.u6 g=some s->s.bI P g
 u5:∀g s,look E.u5 g=some s->s.bI P g
 uY:∀g s,look E.uY g=some s->s.bI P g
 ops:∀g s,look E.ops g=some s->s.bI P g
 keep:w0.R.length<=E.keep
 zM:w0.D->(∀g s,look E.kh g=some s->s.oT P g)/\E.u6=[]/\E.u5=[]/\E.uY=[]/\E.ops=[]
variable{a:dX}{n:Nat}
section
variable {P:Program} {R:Type} {E:kD R} {w0:nN} {I0:Nat->Prop} {f0:FuncId} {Fin:R->Value->World->Prop} {Q:R->Prop}
variable {w:World} {S:St} {m:Mem} {f:dK} {fr:Frame} {fs:List dK} {frs cs:List Frame}
def oO{x:Nat}(h:∀a∈f.todo.head?,a.He=false):¬Hid f fr x:=by
 rintro ⟨all,bs,l,e,b,p,c,_⟩
 cases hh:f.todo.head? with
 | none=>simp_all
 | some a=>
   simp_all [dX.He]
def FR.next(b:FR w S m f fr)(c:∀x,¬Hid f fr x){k:List dX}{kc:List Item}(h:fY f.n S k kc)(g:eP m k)(e:∀a∈k.tail,a.He=false):FR w S m {f with todo:=k} {fr with todo:=kc}:=
 ⟨b.fn,b.n,b.small,λi _=>b.env i<|c i,h,g,e,b.defers,b.marks,b.mode,b.kind,b.gB,b.uH⟩
def fY.cons_inv{k:List dX}{l:List Item}(h:fY n S (a::k) l):∃b c,l=b::c/\FC n S a b/\fY n S k c:=h
def fY.mk{k:List dX}{b:Item}{c:List Item}(e:FC n S a b)(g:fY n S k c):fY n S (a::k)<|b::c:=⟨b,c,rfl,e,g⟩
def eP.tail{k:List dX}(h:eP m<|a::k):eP m k:=λb c=>h b<|aD _ c
def eP.mk{k:List dX}(e:match a with | .oY id=>(m.at id).kq=true | .pq id=>(m.at id).kq=true|_=>True)(h:eP m k):eP m<|a::k:=λb c=>by
 rcases aF.1 c with rfl|c
 .omega
 .exact h b c
def gP(h:∀a∈f.todo.head?,a.He=false):uh E {bG:=f::fs,mem:=m}:=by
 unfold uh;simp only;split
 .rename_i all c b bs k e;have:=h (.jO all c b bs) (by grind);cases this
 grind
def kg{k:List dX}{j:List Item}(q:WR w0 w S m)(p:∀b,S.I b->I0 b\/w0.free b)(r:FR w S m f fr)(c:FB w S m fs frs)(l:zV f0<|f::fs)(e:∀x,¬Hid f fr x)
  (g:step P (lone fr (frs++cs) w)=.next (lone {fr with todo:=j} (frs++cs) w)) (u:fY f.n S k j) (t:eP m k) (i:∀a∈k,a.He=false)
  (s:Good P E w0 I0 f0 Fin Q {bG:={f with todo:=k}::fs,mem:=m}):Ends P f0 Fin Q fr frs cs w:=
 .step g (s (gP λa h=>i a<|by grind) S _ _ cs w q p ⟨_,_,rfl,r.next e u t λa h=>i a<|jm h,c⟩<|l.swap rfl)
end
end Go.Ev
namespace Go.Ev
theorem Bi{n:Nat}{S:St}{m:Mem}{id:Nat}:∀{k q:List dX} {s:List Item},fY n S k s->mQ id k=some q->∃j,exitTo id s=some j/\fY n S q j/\(eP m k->eP m q)/\(∀a∈q,a∈k)
 | [],q,s,ht,h=>by cases h
 | a::k,q,s,ht,h=>by
   obtain⟨p,r,rfl,e,x⟩:=ht.cons_inv;have g (G:exitTo id (p::r)=exitTo id r) (h:mQ id k=some q):∃j,exitTo id (p::r)=some j/\fY n S q j/\(eP m (a::k)->eP m q)/\(∀b∈q,b∈a::k):=by
    have⟨j,F,z,B,C⟩:=Bi (m:=m) x h;exact⟨j,by simp_all,z,λu=>B u.tail,λb t=>aD _<|C b t⟩
   cases a<;>simp[mQ] at h
   case inBlock v=>
    subst e;by_cases y:v=id
    .subst y;rw[tM.2 rfl] at h;cases h;exact⟨r,by simp[exitTo],x,λu=>u.tail,λb t=>aD _ t⟩
    .rw[gJ.2 y] at h
     grind [exitTo]
   case code c=>have e:p=.code c:=e;subst e;exact g rfl h
   case inLoop b=>
    rcases e with rfl|rfl<;>exact g rfl h
   case inScope b=>have e:p=.inScope b:=e;subst e;exact g rfl h
   case ops all rest=>obtain⟨l,rfl,_⟩:∃l:List Nat,p=.inRegion all l/\l.map (λi=>all[i]?)=rest.map some:=e;exact g rfl h
   case jO all ms rest bs=>obtain⟨l,rfl,_⟩:∃l:List Nat,p=.inRegion all l/\iY n all ms rest bs l:=e;exact g rfl h
   case sD all ms i rest bs=>obtain⟨l,rfl,_⟩:∃l:List Nat,p=.inRegion all (i::l)/\iY n all ms (i::rest) bs (i::l):=e;exact g rfl h
   case oY l=>have e:p=.inRangeFunc (S.σ l):=e;subst e;exact g rfl h
   case pq l=>have e:p=.endRangeFunc (S.σ l):=e;subst e;exact g rfl h
   case beginRound=>have e:p=.beginRound:=e;subst e;exact g rfl h
theorem xF{n:Nat}{S:St}{id:Nat}:∀{k:List dX} {q:List Item},fY n S k q->mQ id k=none->exitTo id q=none
 | [],q,ht,h=>by have:q=[]:=ht;subst this;rfl
 | a::k,q,ht,h=>by
   obtain⟨j,p,rfl,e,s⟩:=ht.cons_inv;have g (t:exitTo id (j::p)=exitTo id p) (h:mQ id k=none):exitTo id (j::p)=none:=by
    rw[t];exact xF s h
   cases a<;>simp[mQ] at h
   case inBlock r=>
    subst e;by_cases u:r=id
    .simp_all
    grind [exitTo]
   case code c=>have e:j=.code c:=e;subst e;exact g rfl h
   case inLoop b=>
    rcases e with rfl|rfl<;>exact g rfl h
   case inScope b=>have e:j=.inScope b:=e;subst e;exact g rfl h
   case ops all rest=>obtain⟨l,rfl,_⟩:∃l:List Nat,j=.inRegion all l/\l.map (λi=>all[i]?)=rest.map some:=e;exact g rfl h
   case jO all ms rest bs=>obtain⟨l,rfl,_⟩:∃l:List Nat,j=.inRegion all l/\iY n all ms rest bs l:=e;exact g rfl h
   case sD all ms i rest bs=>obtain⟨l,rfl,_⟩:∃l:List Nat,j=.inRegion all (i::l)/\iY n all ms (i::rest) bs (i::l):=e;exact g rfl h
   case oY l=>have e:j=.inRangeFunc (S.σ l):=e;subst e;exact g rfl h
   case pq l=>have e:j=.endRangeFunc (S.σ l):=e;subst e;exact g rfl h
   case beginRound=>have e:j=.beginRound:=e;subst e;exact g rfl h
theorem Bv{n:Nat}{S:St}{m:Mem}{l:Nat}:∀{k q:List dX} {t:List Item},fY n S k t->mR l k=some q->∃j,gotoIn l t=some j/\fY n S q j/\(eP m k->eP m q)/\(∀a∈q,a∈k\/a.He=false)
 | [],q,t,ht,h=>by cases h
 | a::k,q,t,ht,h=>by
   obtain⟨p,r,rfl,e,v⟩:=ht.cons_inv;have g (C:gotoIn l (p::r)=gotoIn l r) (h:mR l k=some q):∃j,gotoIn l (p::r)=some j/\fY n S q j/\(eP m (a::k)->eP m q)/\(∀b∈q,b∈a::k\/b.He=false):=by
    have⟨j,B,x,y,z⟩:=Bv (m:=m) v h;exact⟨j,by simp_all,x,λu=>y u.tail,λb s=>(z b s).imp (aD _) id⟩
   cases a<;>simp[mR] at h
   case inScope body=>
    subst e;cases hf:findLabel body l with
    | none=>grind [gotoIn]
    | some rest=>
      rw[hf] at h;cases h;refine⟨.code rest :: .inScope body::r,by grind [gotoIn],.mk rfl<|.mk rfl v,λu=>.mk trivial u,λb s=>?_⟩;rcases aF.1 s with rfl|s
      .exact .inr rfl
      simp_all
   case code c=>have e:p=.code c:=e;subst e;exact g rfl h
   case inLoop b=>
    rcases e with rfl|rfl<;>exact g rfl h
   case inBlock b=>have e:p=.inBlock b:=e;subst e;exact g rfl h
   case ops all rest=>obtain⟨l,rfl,_⟩:∃l:List Nat,p=.inRegion all l/\l.map (λi=>all[i]?)=rest.map some:=e;exact g rfl h
   case jO all ms rest bs=>obtain⟨l,rfl,_⟩:∃l:List Nat,p=.inRegion all l/\iY n all ms rest bs l:=e;exact g rfl h
   case sD all ms i rest bs=>obtain⟨l,rfl,_⟩:∃l:List Nat,p=.inRegion all (i::l)/\iY n all ms (i::rest) bs (i::l):=e;exact g rfl h
   case oY l=>have e:p=.inRangeFunc (S.σ l):=e;subst e;exact g rfl h
   case pq l=>have e:p=.endRangeFunc (S.σ l):=e;subst e;exact g rfl h
   case beginRound=>have e:p=.beginRound:=e;subst e;exact g rfl h
theorem xP{n:Nat}{S:St}{l:Nat}:∀{k:List dX} {q:List Item},fY n S k q->mR l k=none->gotoIn l q=none
 | [],q,ht,h=>by have:q=[]:=ht;subst this;rfl
 | a::k,q,ht,h=>by
   obtain⟨j,p,rfl,e,r⟩:=ht.cons_inv;have g (s:gotoIn l (j::p)=gotoIn l p) (h:mR l k=none):gotoIn l (j::p)=none:=by
    rw[s];exact xP r h
   cases a<;>simp[mR] at h
   case inScope body=>
    subst e
    grind [gotoIn]
   case code c=>have e:j=.code c:=e;subst e;exact g rfl h
   case inLoop b=>
    rcases e with rfl|rfl<;>exact g rfl h
   case inBlock b=>have e:j=.inBlock b:=e;subst e;exact g rfl h
   case ops all rest=>obtain⟨l,rfl,_⟩:∃l:List Nat,j=.inRegion all l/\l.map (λi=>all[i]?)=rest.map some:=e;exact g rfl h
   case jO all ms rest bs=>obtain⟨l,rfl,_⟩:∃l:List Nat,j=.inRegion all l/\iY n all ms rest bs l:=e;exact g rfl h
   case sD all ms i rest bs=>obtain⟨l,rfl,_⟩:∃l:List Nat,j=.inRegion all (i::l)/\iY n all ms (i::rest) bs (i::l):=e;exact g rfl h
   case oY l=>have e:j=.inRangeFunc (S.σ l):=e;subst e;exact g rfl h
   case pq l=>have e:j=.endRangeFunc (S.σ l):=e;subst e;exact g rfl h
   case beginRound=>have e:j=.beginRound:=e;subst e;exact g rfl h
variable{S:St}{b:List Item}{c:Code}{n:Nat}
def fY.code{k:List dX}(h:fY n S k b):fY n S (.code c::k)<|.code c::b:=.mk (a:=.code c) rfl h
def fY.inLoop{k:List dX}(h:fY n S k b):fY n S (.inLoop c::k)<|.inLoop c::b:=.mk (a:=.inLoop c) (.inl rfl) h
def fY.loop{k:List dX}(h:fY n S k b):fY n S (.inLoop c::k)<|.code (.loop c)::b:=.mk (a:=.inLoop c) (.inr rfl) h
def fY.inBlock{c:Nat}{k:List dX}(h:fY n S k b):fY n S (.inBlock c::k)<|.inBlock c::b:=.mk (a:=.inBlock c) rfl h
def fY.inScope{k:List dX}(h:fY n S k b):fY n S (.inScope c::k)<|.inScope c::b:=.mk (a:=.inScope c) rfl h
def BQ{w:World}{m:Mem}{f:dK}{fr:Frame}(a:FR w S m f fr)(x:Operand)(b:∀t,x=.tmp t->¬Hid f fr t):CR w S m (mV f.env x)<|fr.eval x:=by
 cases x with
 | tmp t=>exact a.env t<|b t rfl
 | const v=>exact Rt v
 | global g=>exact gQ
 | func g=>exact vo.2 ⟨#[],#[],rfl,bw.2 rfl,bw.2 rfl⟩
section
variable {P:Program} {R:Type} {E:kD R} {w0:nN} {I0:Nat->Prop} {f0:FuncId} {Fin:R->Value->World->Prop} {Q:R->Prop}
variable {w:World} {S:St} {m:Mem} {fr:Frame} {fs:List dK} {frs cs:List Frame}
variable {fn:FuncId} {nn:Nat} {env:Env} {marks:List Nat} {gB:Option Nat} {k:List dX} {n:Nat}
def Wu(J:∀W f fs m,(∀a∈f.todo.head?,a.He=false)->Good P E w0 I0 f0 Fin Q (canon E.keep W {bG:=f::fs,mem:=m})->Good P E w0 I0 f0 Fin Q {bG:=f::fs,mem:=m})(B:∀c,Tr.Ok Q (Good P E w0 I0 f0 Fin Q) (run af E n c)->Good P E w0 I0 f0 Fin Q c)
  {i:dX} (Y:match i with | .inBlock _=>True | .inScope _=>True | .inLoop _=>True | .code x=>(match x with | .skip=>True | .label _=>True | .seq _ _=>True | .cond _ _ _=>True | .block _ _=>True | .loop _=>True | .scope _=>True | .region _ _ false=>True|_=>False) | .ops _ []=>True|_=>False)
  (h:Tr.Ok Q (Good P E w0 I0 f0 Fin Q)<|run af E (n+1) {bG:=⟨fn,nn,env,i::k,marks,gB⟩::fs,mem:=m})
  (O:uh E {bG:=⟨fn,nn,env,i::k,marks,gB⟩::fs,mem:=m})
  (u:WR w0 w S m) (s:∀b,S.I b->I0 b\/w0.free b) (g:FR w S m ⟨fn,nn,env,i::k,marks,gB⟩ fr) (p:FB w S m fs frs) (r:zV f0<|⟨fn,nn,env,i::k,marks,gB⟩::fs) :
  Ends P f0 Fin Q fr frs cs w:=by
 have⟨it,kc,C,N,y⟩:=g.todo.cons_inv;have z:eP m k:=g.live.tail;have K:∀a∈k,a.He=false:=g.cu
 have F:∀{a:dX},a.He=false->∀b∈a::k,b.He=false:=λH b hb=>by grind
 have G:∀{a X:dX},a.He=false->X.He=false->∀b∈a::X::k,b.He=false:=λH a0 b hb=>by grind
 have j:i.He=false->∀x,¬Hid ⟨fn,nn,env,i::k,marks,gB⟩ fr x:=λa6 x=>oO λa H=>by grind
 cases i<;>simp only at Y
 case inBlock id=>
  subst N;exact kg u s g p r (j rfl) (Sm g.mode C) y z K<|B _ h
 case inScope b=>
  subst N;exact kg u s g p r (j rfl) (Sn g.mode C) y z K<|B _ h
 case inLoop b=>
  simp only[run] at h;cases hs:DC E.stops fn (kN b) with
  | some W=>rw[hs] at h;exact J W _ _ _ (λa H=>by cases H;rfl) h O S fr frs cs w u s ⟨fr,frs,rfl,g,p⟩ r
  | none=>
    rw[hs] at h;have V:step P (lone fr (frs++cs) w)=.next (lone {fr with todo:=.code b :: .inLoop b::kc} (frs++cs) w):=by
     rcases N with rfl|rfl
     .exact Lc g.mode C
     .exact U8 g.mode C
    exact kg u s g p r (j rfl) V y.inLoop.code (.mk trivial<|.mk trivial z) (G rfl rfl)<|B _ h
 case ops all rest=>
  cases rest with
  | cons o rest=>grind
  | nil=>
    obtain⟨l,rfl,a5⟩:∃l:List Nat,it=.inRegion all l/\l.map (λi=>all[i]?)=([]:List Oper).map some:=N;have:l=[]:=by simp_all
    subst this;exact kg u s g p r (j rfl) (IJ g.mode C) y z K<|B _ h
 case code x=>
  subst N;replace j:=j rfl;cases x<;>(try simp only at Y)
  case skip=>simp only[run] at h;exact kg u s g p r j (agV g.mode C) y z K<|B _ h
  case label l=>simp only[run] at h;exact kg u s g p r j (acU g.mode C) y z K<|B _ h
  case seq a b=>simp only[run] at h;exact kg u s g p r j (anT g.mode C) y.code.code (.mk trivial<|.mk trivial z) (G rfl rfl)<|B _ h
  case block id b=>simp only[run] at h;exact kg u s g p r j (acS g.mode C) y.inBlock.code (.mk trivial<|.mk trivial z) (G rfl rfl)<|B _ h
  case scope b=>simp only[run] at h;exact kg u s g p r j (acV g.mode C) y.inScope.code (.mk trivial<|.mk trivial z) (G rfl rfl)<|B _ h
  case loop b=>
   have hg:=B _ h;refine hg (gP λa H=>by cases H;rfl) S fr frs cs w u s ⟨fr,frs,rfl,?_,p⟩<|r.swap rfl;exact⟨g.fn,g.n,g.small,λi _=>g.env i<|j i,by
    rw[C];exact y.loop,.mk trivial z,K,g.defers,g.marks,g.mode,g.kind,g.gB,g.uH⟩
  case region id os draw=>
   cases draw with
   | true=>grind
   | false=>
     simp only[run] at h;cases hcut:DC E.qD fn (some id) with
     | some W=>rw[hcut] at h;exact J W _ _ _ (λa H=>by cases H;rfl) h O S fr frs cs w u s ⟨fr,frs,rfl,g,p⟩ r
     | none=>
     rw[hcut] at h;refine kg u s g p r j (Le g.mode C) (.mk (a:=.ops os os.toList) ⟨_,rfl,?_⟩ y) (.mk trivial z) (F rfl)<|B _ h;apply dR
     grind
  case cond x a b=>
   have Z:=BQ g x λt _=>j t;simp only[run] at h;cases hv:mV env x<;>rw[hv] at h Z<;>(try simp only at h)<;>try exact h.elim
   rename_i c1 v;have e:=iD.1 Z;have q:=agQ (P:=P) (cs:=frs++cs) (w:=w) g.mode C e;cases c1 with
   | true=>
     cases v with
     | true=>exact kg u s g p r j q y.code (.mk trivial z) (F rfl)<|B _ h
     | false=>exact kg u s g p r j q y.code (.mk trivial z) (F rfl)<|B _ h
   | false=>
     cases v with
     | true=>exact kg u s g p r j q y.code (.mk trivial z) (F rfl)<|B _<|h.1 rfl
     | false=>exact kg u s g p r j q y.code (.mk trivial z) (F rfl)<|B _<|h.2 rfl
end
end Go.Ev
namespace Go.Ev
variable{a:Array Value}{d:Option Nat}{env:Env}{fn:FuncId}{fr:Frame}{gB:Option Nat}{i:Nat}{l marks:List Nat}{o:Oper}{v:AV}{z:Value}
section
variable {P:Program} {w0:nN} {w:World} {S:St} {m:Mem}
def BW{b:Nat}{o o':Obj}(h:w.heap[b]? = some o)(e:∀a T fr,o≠.cells a T fr):rX w (w.putObj b o') b:=by
 refine⟨rfl,rfl,rfl,rfl,by simp_all,λg i=>?_,λa T fr c=>absurd (Option.some.inj<|h.symm.trans c)<|e a T fr⟩
 simp_all [ig,World.putObj]
def Wi{b:Nat}{o a:Obj}(h:w.heap[b]? = some o):(w.putObj b a).heap[b]? = some a:=by grind [World.putObj]
def aad(b:WR w0 w S m){d:Nat}(a:m.at d=.Jq):Step w0 w S m (w.putObj (S.σ d)<|.deferred none) S<|m.set d .VH:=by
 have c:=b.box d;rw[a] at c;have i:S.lv d (m.at d)=true:=by rw[a];rfl
 have e:S.fz d (m.at d)=false:=by rw[a];rfl
 have g:i6 (m.at d) .VH:=by rw[a];trivial
 have j:=BW (o':=.deferred none) c (λ_ _ _ h=>by cases h);exact⟨b.set i e g (λ_=>rfl) rfl j trivial,kV b i e g (λ_=>rfl) j,.refl⟩
theorem G1:∀{a:List Nat} {m b:Mem} {w:World} {fr:Frame} {cs:List Frame},sT a m=some b->WR w0 w S m->fr.mode=.returning->
  fr.defers=a.map (λd=>{target:=.collected<|S.σ d,args:=#[]})->∃c,Step w0 w S m c S b/\Steps P (lone fr cs w) (lone {fr with defers:=[]} cs c)
 | [],m,b,w,fr,cs,h,hW,hm,hd=>by
   cases h;have e:{fr with defers:=[]}=fr:=by cases fr;simp_all
   exact⟨w,.refl hW,by rw[e];exact .refl _ _⟩
 | d::a,m,b,w,fr,cs,h,hW,hm,hd=>by
   simp[sT] at h;cases hmd:m.at d<;>rw[hmd] at h<;>(try simp only at h)<;>try (cases h;done)
   have i:=aad hW hmd;have g:=hW.box d;rw[hmd] at g;have g:w.heap[S.σ d]? = some (.deferred<|some []):=g;have⟨c,j,l⟩:=G1 (fr:={fr with defers:=a.map<|λd=>{target:=.collected<|S.σ d,args:=#[]}}) (cs:=cs) h i.wr hm rfl;refine⟨c,i.trans j,.head (m₁:=lone {fr with defers:=a.map<|λd=>{target:=.collected<|S.σ d,args:=#[]}} cs (w.putObj (S.σ d)<|.deferred none)) (step_lone_go ?_) l⟩
   simp_all [Instr.takeDeferred,getObj,setObj,Sem.run,World.putObj,stepG,unwind]
def adF{α:Type}{b:TV α}{a:α}(h:adE b=some a):b=.leaf a:=by
 cases b<;>simp[adE] at h;rw[h]
def PR(b:Array Value):ResultVar->Sem Value
 | .tmp t=>pure<|b.getD t undef
 | .cell a t=>do loadVar t (<-asAddr<|b.getD a undef)
def Gw{R:Type}{E:kD R}(e:nW P E.ti)(g:WR w0 w S m){b:Array Value}(c:∀i,CR w S m (env.at i)<|b.getD i undef){r:ResultVar}(h:Bh af E env m r=some v):
  ∃z,(PR b r).run P w=.ok z w/\CR w S m v z:=by
 cases r with
 | tmp t=>simp only[Bh] at h;cases h;exact⟨_,rfl,c t⟩
 | cell a t=>
   have j:(Gv af (E.ti.get t) m<|env.at a).Is v:=by rw[adF h];rfl
   grind [Bg,PR,asAddr]
theorem wQ{R:Type}{E:kD R}(l:nW P E.ti)(p:WR w0 w S m){env:Env}{b:Array Value}(a:∀i,CR w S m (env.at i)<|b.getD i undef):∀{j:List ResultVar} {e:List AV},qO af E env m j=some e->
  ∃c:List Value,(j.mapM<|PR b).run P w=.ok c w/\eH w S m e c
 | [],e,h=>by cases h;exact⟨[],by simp,bw.2 rfl⟩
 | r::j,e,h=>by
   simp[qO] at h;cases hr:Bh af E env m r with
   | none=>grind
   | some v=>
     rw[hr] at h;simp only at h;split at h;cases h;rename_i t g;cases h;have⟨z,u,q⟩:=Gw l p a hr;have⟨c,x,s⟩:=wQ l p a g;exact⟨z::c,by simp_all,bL.2 ⟨z,c,rfl,q,s⟩⟩
def JY{R:Type}{E:kD R}(s:nW P E.ti)(t:WR w0 w S m)(g:∀i,CR w S m (env.at i)<|a.getD i undef){F:Func}{c:List AV}(h:qO af E env m F.results.toList=some c):
  ∃z,(results F a).run P w=.ok z w/\CR w S m (gU c) z:=by
 have⟨e,x,b⟩:=wQ s t g h;have j:(F.results.mapM<|PR a).run P w=.ok e.toArray w:=by simp_all [mJ]
 have l:results F a=(do let c <-F.results.mapM<|PR a;pure (if h:c.size=1 then c[0] else .tuple c)):=by rfl
 match c,e,b with
 | [],e,b=>
   have:=bw.1 b;exact⟨.tuple #[],by simp_all,kC.2 ⟨_,rfl,bw.2 rfl⟩⟩
 | [v],e,b=>
   obtain⟨u,r,rfl,p,q⟩:=bL.1 b;have:=bw.1 q;exact⟨u,by simp_all,p⟩
 | v::v2::c,e,b=>
   have y:=b.length;refine⟨.tuple e.toArray,?_,kC.2 ⟨_,rfl,b⟩⟩
   simp_all
def PH(a:Array Value)(d:Option Nat)(z:Value):Array Value:=
 match d with
 | some d=>a.setIfInBounds d z
 | none=>a
def Dq:(PH a d z).size=a.size:=by
 cases d<;>simp[PH]
theorem PI(h:tu a.size d=true)(x:Nat):(PH a d z).getD x undef=if d=some x then z else a.getD x undef:=by
 cases d with
 | none=>rfl
 | some d=>
   have b:d<a.size:=by simp_all [tu]
   simp[PH,d_]
   grind
def TC{f:dK}(e:a.size=f.n)(g:f.n<=65535)(c:tu f.n d=true)(h:CR w S m v z){H:Nat->Prop}(b:∀x,¬H x->d≠some x->CR w S m (f.env.at x) (a.getD x undef)):
  ∀x,¬H x->CR w S m ((f.env.oI d v).at x) ((PH a d z).getD x undef):=by grind [Env.LF,PI]
def uS{a:Array Oper}{b:List Item}(e:fr.todo=.inRegion a (i::l)::b)(c:a[i]? = some o):
  fr.finish z={fr with tmps:=PH fr.tmps o.dst z,todo:=.inRegion a l::b}:=by
 simp[Frame.finish,e,c];rfl
theorem GF{nn:Nat}{all:Array Oper}{b:List Oper}{k:List dX}
  (c:FR w S m ⟨fn,nn,env,.ops all (o::b)::k,marks,gB⟩ fr) (q:tu nn o.dst=true) (s:CR w S m v z):FR w S m ⟨fn,nn,env.oI o.dst v,.ops all b::k,marks,gB⟩<|fr.finish z:=by
 have⟨t,u,r,g,j⟩:=c.todo.cons_inv;obtain⟨l,rfl,e⟩:∃l:List Nat,t=.inRegion all l/\l.map (λi=>all[i]?)=(o::b).map some:=g;cases l with
 | nil=>grind
 | cons i l=>
   simp at e;rw[uS r e.1]
   exact⟨c.fn,Dq.trans c.n,c.small,λx _=>TC (f:=⟨fn,nn,env,.ops all (o::b)::k,marks,gB⟩) (H:=λ_=>False) c.n c.small q s (λx _ _=>c.env x (oO λa p=>by cases p;rfl)) x<|λh=>h,
    .mk (a:=.ops all b) ⟨l,rfl,e.2⟩ j,.mk trivial c.live.tail,c.cu,c.defers,c.marks,c.mode,c.kind,c.gB,c.uH⟩
def Xn.tail{all:Array Oper}(h:Xn all<|i::l):Xn all l:=by
 have g:=dM.1 h.pw;have p:=bR.1 h.nodup;refine⟨p.2,λj a=>h.lt j<|aD _ a,g.2,λj a=>h.self j<|aD _ a,λk q e j a b=>?_⟩;by_cases c:k=i
 .grind
 .exact h.closed k q (λr=>(aF.1 r).elim c e) j a<|aD _ b
def FD.tail{a:List Nat}(h:FD a<|i::l):FD a l:=λl1 j l2 e=>h (i::l1) j l2 (by rw[e];rfl)
def iY.take{n:Nat}{all:Array Oper}{e a bs:List Nat}(h:iY n all e (i::a) bs<|i::l):iY n all e a bs l:=by
 have g:i ∉ a++bs/\(a++bs).Nodup:=bR.1 (by have:=h.nodup;grind);have p:=(bR.1 h.lnd).1;refine⟨h.msk.tail,(bR.1 h.lnd).2,g.2,λj b=>?_,λj b=>?_,h.lt,h.read,h.dst,h.own,h.Xc,h.dok⟩
 .rcases aF.1 (h.sub j (aD _ b)) with rfl|c
  all_goals grind
 .rcases h.cov j (aD _ b) with c|c
  all_goals grind
theorem Ea{nn:Nat}{all:Array Oper}{g:List Nat}{c bs:List Nat}{k:List dX}
  (e:FR w S m ⟨fn,nn,env,.sD all g i c bs::k,marks,gB⟩ fr) (V:all[i]? = some o) (N:tu nn o.dst=true) (W:CR w S m v z):FR w S m ⟨fn,nn,env.oI o.dst v,.jO all g c bs::k,marks,gB⟩<|fr.finish z:=by
 have⟨X,t,s,G,J⟩:=e.todo.cons_inv;obtain⟨l,rfl,K⟩:∃l:List Nat,X=.inRegion all (i::l)/\iY nn all g (i::c) bs (i::l):=G;rw[uS s V]
 refine⟨e.fn,Dq.trans e.n,e.small,λx j=>TC (f:=⟨fn,nn,env,.sD all g i c bs::k,marks,gB⟩) (H:=λx=>Hid ⟨fn,nn,env.oI o.dst v,.jO all g c bs::k,marks,gB⟩ {fr with tmps:=PH fr.tmps o.dst z,todo:=.inRegion all l::t} x) e.n e.small N W (λx j _=>e.env x λO=>j ?_) x j,
   .mk (a:=.jO all g c bs) ⟨l,rfl,K.take⟩ J,.mk trivial e.live.tail,e.cu,e.defers,e.marks,e.mode,e.kind,e.gB,e.uH⟩
 have⟨q,u,Z,Y,b,p,y,r,B,h,C,F⟩:=O;cases y;rw[s] at r;cases r;rcases aF.1 h with rfl|h
 .grind
 .exact⟨all,bs,l,t,b,p,rfl,rfl,B,h,C,F⟩
def Bj{g j:dK}(b:FR w S m g fr)(u:CR w S m v z)(h:finish g v=some j):FR w S m j (fr.finish z)/\j.fn=g.fn:=by
 have⟨fn,nn,env,c,marks,gB⟩:=g;cases c with
 | nil=>grind [finish]
 | cons a k=>
   cases a<;>simp only[finish] at h<;>simp_all
   case ops all rest=>
    grind [GF]
   case sD all ms i rest bs=>
    grind [Ea]
   case oY l=>
    cases h;have⟨x,s,t,p,q⟩:=b.todo.cons_inv;subst p;have e:fr.finish z={fr with todo:=.endRangeFunc (S.σ l)::s}:=by grind [Frame.finish]
    rw[e];refine⟨b.next (λ_=>oO λa r=>by cases r;rfl) (.mk (a:=.pq l) rfl q) (.mk ?_ b.live.tail) b.cu,rfl⟩;exact b.live (.oY l) aJ
end
end Go.Ev
namespace Go.Ev
variable{G:gY->Prop}{f:dK}
section
variable {P:Program} {R:Type} {E:kD R} {w0:nN} {I0:Nat->Prop} {f0:FuncId} {Fin:R->Value->World->Prop} {Q:R->Prop}
variable {w:World} {S:St} {m:Mem} {fr:Frame} {fs:List dK} {frs cs:List Frame}
variable {fn:FuncId} {nn:Nat} {env:Env} {marks:List Nat} {gB:Option Nat} {k:List dX} {n:Nat}
theorem uX{all:Array Oper}{o:Oper}{t:Bool}(h:qP all env o=some t):jH all env o t:=by
 unfold qP at h;unfold jH;cases hg:o.guard with
 | none=>grind
 | some q=>
   have⟨j,a⟩:=q;rw[hg] at h;simp only at h ⊢;cases hp:all[j]? with
   | none=>grind
   | some p=>
     rw[hp] at h;simp only at h;cases hd:p.dst with
     | none=>grind
     | some d=>
       rw[hd] at h;simp only at h;refine⟨p,d,rfl,hd,?_⟩;cases he:env.at d<;>rw[he] at h<;>(try simp only at h)<;>try (cases h;done)
       case bool c v=>
        cases c<;>simp only at h<;>try (cases h;done)
        cases v<;>cases a<;>cases h<;>exact .inl ⟨_,_,rfl,rfl⟩
       grind
theorem P2{v:AV}{t:Tr R}:∀{d:Option Nat},Tr.Ok Q G (ace env d v t)->wD env d v/\Tr.Ok Q G t
 | none,h=>⟨trivial,h⟩
 | some _,h=>h
theorem B_{G:gY->Prop}{all:Array Oper}:∀{bs:List Nat} {t:Tr R},Tr.Ok Q G (yj af E env m all bs t)->(∀b∈bs,Jw E env m all b)/\Tr.Ok Q G t
 | [],t,h=>⟨λb q=>absurd q aC,h⟩
 | b::bs,t,h=>by
   simp only[yj] at h;cases ho:all[b]? with
   | none=>rw[ho] at h;exact h.elim
   | some o=>
     rw[ho] at h;simp only at h;cases hk:qP all env o with
     | none=>rw[hk] at h;exact h.elim
     | some g=>
       rw[hk] at h;cases g with
       | false=>
         have⟨c,e⟩:=P2 h;have⟨p,i⟩:=B_ e;refine⟨λx a=>?_,i⟩;rcases aF.1 a with rfl|a
         .exact⟨o,ho,.inl ⟨uX hk,c⟩⟩
         grind
       | true=>
         cases hv:evV af E m (mV env) o with
         | none=>rw[hv] at h;exact h.elim
         | some r=>
           rw[hv] at h;have⟨v,j,l⟩:=TV.bind_ok h;have⟨c,e⟩:=P2 l;have⟨p,i⟩:=B_ e;refine⟨λx a=>?_,i⟩;rcases aF.1 a with rfl|a
           .exact⟨o,ho,.inr ⟨uX hk,r,v,hv,j,c⟩⟩
           grind
def IM{t:Tr R}(h:Tr.Ok Q G<|wH af E f m t):uh E {bG:=f::fs,mem:=m}/\Tr.Ok Q G t:=by grind [B_,wH,uh]
def O6(H:Fits P E Fin w0 I0)(ih:∀c,Tr.Ok Q (Good P E w0 I0 f0 Fin Q) (run af E n c)->Good P E w0 I0 f0 Fin Q c)
  (h:Tr.Ok Q (Good P E w0 I0 f0 Fin Q) (match sT f.marks m with
     | none=>.bY 139 ""
     | some m=>match look E.l_ f.fn with
       | none=>.bY 141 ""
       | some F=>match qO af E f.env m F.results.toList with
         | none=>.bY 142 ""
         | some W=>match fs with
           | []=>match E.fin (gU W) m with
             | some y=>.ret y
             | none=>.bY 143 ""
           | g::gs=>match finish g (gU W) with
             | some g=>wH af E g m<|run af E n {bG:=g::gs,mem:=m}
             | none=>.bY 144 ""))
  (O:∀x,¬Hid f fr x) (v:step P (lone fr (frs++cs) w)=.next (lone {fr with mode:=.returning} (frs++cs) w))
  (hW:WR w0 w S m) (Y:∀b,S.I b->I0 b\/w0.free b) (s:FR w S m f fr) (u:FB w S m fs frs) (X:zV f0<|f::fs) :
  Ends P f0 Fin Q fr frs cs w:=by
 split at h;exact h.elim;rename_i Z hm;cases hF:look E.l_ f.fn with
 | none=>rw[hF] at h;exact h.elim
 | some F=>
   rw[hF] at h;simp only at h;split at h;exact h.elim;rename_i W hr;have⟨p,l,j⟩:=G1 (P:=P) (fr:={fr with mode:=.returning}) (cs:=frs++cs) hm hW rfl s.defers;have r:∀i,CR p S Z (f.env.at i)<|fr.tmps.getD i undef:=λi=>(s.env i<|O i).mono l.out;have⟨z,hz,C⟩:=JY H.ti l.wr r hr;have a:({fr with mode:=.returning,defers:=[]}:Frame).leaving P p<|.returned z:=⟨rfl,rfl,s.kind,F,by rw[<-(H.l_ _ _ hF).1,<-s.fn],hz⟩;have B:Steps P (lone fr (frs++cs) w)<|lone {fr with mode:=.returning,defers:=[]} (frs++cs) p:=.head v j;cases fs with
   | nil=>
     have:frs=[]:=u;subst this;simp only at h;split at h
     rotate_left
     exact h.elim;rename_i y hy;exact⟨y,z,p,_,h,H.fin S p Z _ y z l.wr Y hy C,B,s.fn.trans X,a⟩
   | cons g gs=>
     obtain⟨G,q,rfl,hg,N⟩:=u;simp only at h;split at h
     rotate_left
     exact h.elim;rename_i g' t;have⟨V,h⟩:=IM (fs:=gs) h;have⟨J,K⟩:=Bj (hg.mono l.out) C t;have e:=step_leave_returned (P:=P) (c:=G) (cs:=q++cs) a;exact .steps (B.trans<|.one e)<|ih _ h V S _ _ cs p l.wr Y ⟨_,_,rfl,J,N.mono l.out⟩<|zV.swap (f:=g) X K
end
end Go.Ev
namespace Go.Ev
variable{l:Nat}
section
variable {P:Program} {R:Type} {E:kD R} {w0:nN} {I0:Nat->Prop} {f0:FuncId} {Fin:R->Value->World->Prop} {Q:R->Prop}
variable {w:World} {S:St} {m:Mem} {fr:Frame} {fs:List dK} {frs cs:List Frame}
variable {fn:FuncId} {nn:Nat} {env:Env} {marks:List Nat} {gB:Option Nat} {k:List dX} {n:Nat}
def Dd(g:WR w0 w S m){r:Oa}(a:m.at l=.loop r)(c:Nat)(b:Option Code):
  ∃lp,w.heap[S.σ l]? = some (.loop lp)/\Oe w S m r lp/\Step w0 w S m (w.putObj (S.σ l)<|.loop {lp with state:=sN c,pending:=b}) S (m.set l<|.loop {r with state:=c,pending:=b}):=by
 have q:=g.box l;rw[a] at q;have⟨lp,e,j⟩:=q;refine⟨lp,e,j,?_⟩;have u:S.lv l (m.at l)=true:=by rw[a];rfl
 have s:S.fz l (m.at l)=false:=by rw[a];rfl
 have t:i6 (m.at l)<|.loop {r with state:=c,pending:=b}:=by rw[a];trivial
 have v:=BW (o':=.loop {lp with state:=sN c,pending:=b}) e (λ_ _ _ h=>by cases h);have p:=kV g u s t (λ_=>rfl) v;have⟨_,_,x,y,z,B,C,F⟩:=j;exact⟨g.set u s t (λ_=>rfl) rfl v ⟨_,Wi e,rfl,rfl,x,y,z,B,C,λi=>(F i).mono p⟩,p,.refl⟩
def xT(N:∀c,Tr.Ok Q (Good P E w0 I0 f0 Fin Q) (run af E n c)->Good P E w0 I0 f0 Fin Q c){f:dK}{jump:Option Code}
  (j:f.gB=some l)
  (h:Tr.Ok Q (Good P E w0 I0 f0 Fin Q) (match m.at l with
     | .loop r=>match fs with
       | g::gs=>match finish g (.bool true (O5 jump)) with
         | some g=>wH af E g (m.set l<|.loop {r with state:=Hf jump,pending:=jump})<|run af E n {bG:=g::gs,mem:=m.set l<|.loop {r with state:=Hf jump,pending:=jump}}
         | none=>.bY 145 ""
       | []=>.bY 146 ""
     | _=>.bY 147 ""))
  (K:(fr.todo=[]/\jump=none)\/(∃k,fr.todo=.code .ret::k/\jump=some .ret)\/(∃id k,fr.todo=.code (.exit id)::k/\exitTo id k=none/\jump=some (.exit id))\/(∃id k,fr.todo=.code (.goto id)::k/\gotoIn id k=none/\jump=some (.goto id)))
  (G:WR w0 w S m) (F:∀b,S.I b->I0 b\/w0.free b) (q:FR w S m f fr) (u:FB w S m fs frs) (C:zV f0<|f::fs) :
  Ends P f0 Fin Q fr frs cs w:=by
 cases hm:m.at l<;>rw[hm] at h<;>(try simp only at h)<;>try exact h.elim
 cases fs with
 | nil=>exact h.elim
 | cons g gs=>
   simp only at h;split at h
   rotate_left
   exact h.elim;rename_i O i;have⟨y,h⟩:=IM (fs:=gs) h;obtain⟨p,e,rfl,J,v⟩:=u;have⟨lp,B,V,x⟩:=Dd G hm (Hf jump) jump;have H:(Instr.endRound (S.σ l) jump).run P w=.ok (.bool<|O5 jump) (w.putObj (S.σ l)<|.loop {lp with state:=sN<|Hf jump,pending:=jump}):=by
    rw[run_endRound jump B];cases jump<;>rfl
   have a:=WT (P:=P) (g:=p) (cs:=e++cs) q.mode q.kind (by rw[q.gB,j];rfl) K H;have⟨s,t⟩:=Bj (J.mono x.out) (z:=.bool<|O5 jump) (iD.2 rfl) i;exact .step a<|N _ h y S _ _ cs _ x.wr F ⟨_,_,rfl,s,v.mono x.out⟩<|zV.swap (f:=g) C t
theorem Wq(J:∀c,Tr.Ok Q (Good P E w0 I0 f0 Fin Q) (run af E n c)->Good P E w0 I0 f0 Fin Q c)
  (h:Tr.Ok Q (Good P E w0 I0 f0 Fin Q)<|run af E (n+1) {bG:=⟨fn,nn,env,.beginRound::k,marks,gB⟩::fs,mem:=m})
  (F:WR w0 w S m) (C:∀b,S.I b->I0 b\/w0.free b) (i:FR w S m ⟨fn,nn,env,.beginRound::k,marks,gB⟩ fr) (q:FB w S m fs frs) (B:zV f0<|⟨fn,nn,env,.beginRound::k,marks,gB⟩::fs) :
  Ends P f0 Fin Q fr frs cs w:=by
 have⟨K,N,G,y,z⟩:=i.todo.cons_inv;subst y;simp only[run] at h;cases gB with
 | none=>exact h.elim
 | some l=>
   simp only at h;cases hm:m.at l<;>rw[hm] at h<;>(try simp only at h)<;>try exact h.elim
   rename_i r;split at h
   rotate_left
   exact h.elim;rename_i e;have e:=tM.1 e;have⟨lp,x,u,s⟩:=Dd F hm 1 r.pending;have t:lp.state=.ready:=by rw[u.1,e];rfl
   have v:=run_beginRound (P:=P) x t;have H:({lp with state:=.busy}:Loop)={lp with state:=sN 1,pending:=r.pending}:=by rw[<-u.2.1];rfl
   rw[H] at v;have g:=acR (P:=P) (cs:=frs++cs) i.mode i.gB G v;have p:=i.mono s.out;exact .step g<|J _ h (gP λa j=>i.cu a<|lb j) S _ _ cs _ s.wr C ⟨_,_,rfl,p.next (λ_=>oO λa j=>by cases j;rfl) z p.live.tail<|λa j=>i.cu a<|jm j,q.mono s.out⟩<|B.swap rfl
theorem Wt(V:∀c,Tr.Ok Q (Good P E w0 I0 f0 Fin Q) (run af E n c)->Good P E w0 I0 f0 Fin Q c)
  (h:Tr.Ok Q (Good P E w0 I0 f0 Fin Q)<|run af E (n+1) {bG:=⟨fn,nn,env,.pq l::k,marks,gB⟩::fs,mem:=m})
  (K:WR w0 w S m) (H:∀b,S.I b->I0 b\/w0.free b) (p:FR w S m ⟨fn,nn,env,.pq l::k,marks,gB⟩ fr) (t:FB w S m fs frs) (G:zV f0<|⟨fn,nn,env,.pq l::k,marks,gB⟩::fs) :
  Ends P f0 Fin Q fr frs cs w:=by
 have⟨W,X,N,C,F⟩:=p.todo.cons_inv;subst C;simp only[run] at h;cases hm:m.at l<;>rw[hm] at h<;>(try simp only at h)<;>try exact h.elim
 rename_i r;split at h;exact h.elim;rename_i g;have g:=gJ.1 g;have⟨lp,B,s,u⟩:=Dd K hm 3 r.pending;have v:lp.state≠.busy:=by
  rw[s.1]
  match hr:r.state,g with
  | 0,_=>simp[sN]
  | 1,h=>omega
  | 2,_=>simp[sN]
  | n+3,_=>simp[sN]
 have z:=run_endLoop (P:=P) B v;have O:({lp with state:=.exhausted}:Loop)={lp with state:=sN 3,pending:=r.pending}:=by rw[<-s.2.1];rfl
 rw[O,s.2.1] at z;have i:=acT (P:=P) (cs:=frs++cs) p.mode N z;have q:=p.mono u.out;refine .step i<|V _ h (gP λa e=>?_) S _ _ cs _ u.wr H ⟨_,_,rfl,q.next (λ_=>oO λa e=>by cases e;rfl) ?_ ?_<|λa e=>?_,t.mono u.out⟩<|G.swap rfl
 .simp only at e;split at e
  rotate_left
  exact p.cu a<|lb e;cases e;rfl
 .cases hp:r.pending with
  | none=>grind
  | some j=>exact F.code
 .have x:∀(y:Option Code) (M:Mem),eP M k->eP M (match y with|some j=>.code j::k|none=>k):=λy M J=>by
   cases y with
   | none=>omega
   | some j=>exact .mk trivial J
  exact x _ _ q.live.tail
 .cases hp:r.pending with
  | none=>rw[hp] at e;exact p.cu a<|jm e
  | some j=>rw[hp] at e;exact p.cu a e
end
end Go.Ev
namespace Go.Ev
variable{F:Func}{a:Array Value}{g:FuncId}{ps:Array Tmp}{x:Operand}
section
variable {P:Program} {R:Type} {E:kD R} {w0:nN} {I0:Nat->Prop} {f0:FuncId} {Fin:R->Value->World->Prop} {Q:R->Prop}
variable {w:World} {S:St} {m:Mem} {fr:Frame} {fs:List dK} {frs cs:List Frame}
variable {fn:FuncId} {nn:Nat} {env:Env} {marks:List Nat} {gB:Option Nat} {k:List dX} {n:Nat}
def kM{j:List AV}{h:dK}{c:Array Value}(s:P.funcs[g]? = some F)(q:ju g F j=some h)(e:eH w S m j c.toList):
  FR w S m h (Frame.enter P g c .normal)/\F.body.isSome=true/\∀a∈h.todo.head?,a.He=false:=by
 unfold ju at q;cases hb:F.body with
 | none=>grind
 | some b=>
   rw[hb] at q;cases r:Nat.ble j.length F.ntmps with
   | false=>grind
   | true=>
     cases p:Nat.ble F.ntmps 65535 with
     | false=>grind
     | true=>
       rw[r,p] at q;cases q;have r:=KX r;have p:=KX p;have u:c.size=j.length:=by rw[<-bF];exact e.length
       refine⟨⟨rfl,?_,p,λi _=>?_,?_,.mk trivial λa e=>absurd e aC,λa e=>absurd e aC,rfl,λd x=>absurd x aC,rfl,rfl,rfl,λl B=>by grind⟩,rfl,λa e=>by cases e;rfl⟩
       .simp[Frame.enter,s,o7,Option.getD_some,Array.size_append,Array.size_replicate];omega
       .rw[Env.ahN<|by omega,Env.Tt];by_cases t:0<=i/\i<0+j.length
        .rw[if_pos t,Nat.sub_zero];have y:j[i]? = some (j.getD i .undef):=by grind
         have⟨v,C,z⟩:=e.get y;have:(Frame.enter P g c .normal).tmps.getD i undef=v:=by
          simp[Frame.enter,d_]
          grind
         grind
        .rw[if_neg t];exact gQ
       .have:(Frame.enter P g c .normal).todo=[.code b]:=by simp[Frame.enter,s,hb]
        rw[this];exact fY.code rfl
def M7(c:P.funcs[g]? = some F)(i:(F.name == "runtime.NumGoroutine")=false)(h:F.body.isSome=true)(w:World):(callFunc g a).run P w=.ok (.enter g a) w:=by
 have b:F.body≠none:=λe=>by simp_all
 simp_all [callFunc]
def oJ{ρ:Operand->Value}{args:Array Operand}{ats:Array TypeId}{t:TypeId}{b:Array Value}(i:ρ x=.func (.func g) a b)(c:P.funcs[g]? = some F)(h:(F.name == "runtime.NumGoroutine")=false)(e:F.body.isSome=true)(w:World):
  (do let d <-resolve ρ {callee:=.value x,args:=args,argTypes:=ats} t;invoke d.target d.args:Sem Next).run P w=.ok (.enter g<|a++args.map ρ++b) w:=by
 simp only[resolve,i];exact M7 c h e w
def PE(b:WR w0 w S m){o:Obj}{a:iN}(g:a.kq=true)(e:a.Uj=false)
  (c:dT w S m (w.alloc o) (S.push m.length w.heap.size 0 false) (m ++ [a])->sr (w.alloc o) (S.push m.length w.heap.size 0 false) (m ++ [a]) m.length a) :
  Step w0 w S m (w.alloc o) (S.push m.length w.heap.size 0 false) (m ++ [a]):=by grind [oH,Step.push]
def Wh(j:WR w0 w S m){f:dK}(c:FR w S m f fr)(e:∀x,¬Hid f fr x){a b:Code}(g:Nat):
  Step w0 w S m (w.alloc<|.loop {state:=.ready,pending:=none,fn:=fr.fn,tmps:=fr.tmps,params:=ps,assign:=a,body:=b,defers:=g}) (S.push m.length w.heap.size 0 false)
   (m ++ [.loop {fn:=f.fn,n:=f.n,env:=f.env,params:=ps.toList,assign:=a,body:=b,state:=0,pending:=none}]):=by
 refine PE j rfl rfl λh=>⟨{state:=.ready,pending:=none,fn:=fr.fn,tmps:=fr.tmps,params:=ps,assign:=a,body:=b,defers:=g},?_,rfl,rfl,c.fn,?_,rfl,rfl,⟨c.n,c.small⟩,λi=>(c.env i<|e i).mono h⟩
 all_goals grind [heap_alloc_new,St.push]
def W4{a:World}{b:Nat}{r:Oa}:CR a (S.push m.length b 0 false) (m ++ [.loop r]) (.yield m.length)<|.func (.yield b) #[] #[]:=by simp_all [Mem.fK,CR,St.push]
theorem J2(hP:Fits P E Fin w0 I0)(ih:∀c,Tr.Ok Q (Good P E w0 I0 f0 Fin Q) (run af E n c)->Good P E w0 I0 f0 Fin Q c){a b:Code}
  (h:Tr.Ok Q (Good P E w0 I0 f0 Fin Q)<|run af E (n+1) {bG:=⟨fn,nn,env,.code (.rangeFunc x ps a b)::k,marks,gB⟩::fs,mem:=m})
  (hW:WR w0 w S m) (hI:∀b,S.I b->I0 b\/w0.free b) (hf:FR w S m ⟨fn,nn,env,.code (.rangeFunc x ps a b)::k,marks,gB⟩ fr) (hfs:FB w S m fs frs) (hB:zV f0<|⟨fn,nn,env,.code (.rangeFunc x ps a b)::k,marks,gB⟩::fs) :
  Ends P f0 Fin Q fr frs cs w:=by
 have⟨it,kc,ht,h1,h2⟩:=hf.todo.cons_inv;subst h1;have hnh:∀y,¬Hid ⟨fn,nn,env,.code (.rangeFunc x ps a b)::k,marks,gB⟩ fr y:=λ_=>oO λa ha=>by cases ha;rfl
 have hx:=BQ hf x λt _=>hnh t;simp only[run] at h;cases hv:mV env x<;>rw[hv] at h hx<;>(try simp only at h)<;>try exact h.elim
 rename_i g first caps
 cases first with
 | cons _ _=>exact h.elim
 | nil=>
   have⟨us,vs,hxe,hus,hvs⟩:=vo.1 hx;have hus:us=#[]:=eG.1<|bw.1 hus;subst hus
   have main:∀{S1:St} {m1:Mem} {w1:World} {marks1:List Nat} {mark:List Deferred} {dv:Nat},Step w0 w S m w1 S1 m1->
     (Instr.enterLoop fr.fn fr.tmps ps a b fr.roundOf).run P w=.ok (w1.heap.size,mark) (w1.alloc<|.loop {state:=.ready,pending:=none,fn:=fr.fn,tmps:=fr.tmps,params:=ps,assign:=a,body:=b,defers:=dv})->
     mark++fr.defers=marks1.map (λd=>{target:=.collected<|S1.σ d,args:=#[]})->(∀d∈marks1,(m1.at d).kq=true)->
     Tr.Ok Q (Good P E w0 I0 f0 Fin Q) (match look E.l_ g with
         | none=>.bY 159 ""
         | some G=>match ju g G (.yield m1.length::caps) with
           | none=>.bY 160 ""
           | some h=>run af E n {bG:=h::⟨fn,nn,env,.oY m1.length::k,marks1,gB⟩::fs,mem:=m1 ++ [.loop {fn:=fn,n:=nn,env:=env,params:=ps.toList,assign:=a,body:=b,state:=0,pending:=none}]})->
     Ends P f0 Fin Q fr frs cs w:=by
    intro S1 m1 w1 marks1 mark dv s1 he hmk hmc h;cases hG:look E.l_ g with
    | none=>rw[hG] at h;exact h.elim
    | some G=>
      rw[hG] at h;simp only at h;cases hen:ju g G (.yield m1.length::caps) with
      | none=>rw[hen] at h;exact h.elim
      | some h'=>
        rw[hen] at h;have s2:=Wh s1.wr (hf.mono s1.out) hnh (ps:=ps) (a:=a) (b:=b) dv;have s12:=s1.trans s2;have⟨hGf,hGn⟩:=hP.l_ _ _ hG
        have hargs:eH (w1.alloc<|.loop {state:=.ready,pending:=none,fn:=fr.fn,tmps:=fr.tmps,params:=ps,assign:=a,body:=b,defers:=dv}) (S1.push m1.length w1.heap.size 0 false) (m1 ++ [.loop {fn:=fn,n:=nn,env:=env,params:=ps.toList,assign:=a,body:=b,state:=0,pending:=none}])
          (.yield m1.length::caps) (#[Value.func (.yield w1.heap.size) #[] #[]]++vs).toList:=bL.2 ⟨.func (.yield w1.heap.size) #[] #[],vs.toList,by simp,W4,hvs.mono s12.out⟩
        have⟨hfr,hbody,hnh'⟩:=kM hGf hen hargs;have hcall:=oJ (ρ:=fr.eval) (x:=x) (args:=#[.const<|.func (.yield w1.heap.size) #[] #[]]) (ats:=#[]) (t:=0) hxe hGf hGn hbody<|w1.alloc<|.loop {state:=.ready,pending:=none,fn:=fr.fn,tmps:=fr.tmps,params:=ps,assign:=a,body:=b,defers:=dv};have hcall':(#[]:Array Value) ++ #[Operand.const<|.func (.yield w1.heap.size) #[] #[]].map fr.eval++vs=#[Value.func (.yield w1.heap.size) #[] #[]]++vs:=by simp[Frame.eval]
        rw[hcall'] at hcall;have hstep:=awx (P:=P) (cs:=frs++cs) hf.mode ht he hcall;have hf2:=hf.mono s12.out;have hlast:Mem.at (m1 ++ [.loop {fn:=fn,n:=nn,env:=env,params:=ps.toList,assign:=a,body:=b,state:=0,pending:=none}]) m1.length=.loop {fn:=fn,n:=nn,env:=env,params:=ps.toList,assign:=a,body:=b,state:=0,pending:=none}:=Mem.fK;have hσ:(S1.push m1.length w1.heap.size 0 false).σ m1.length=w1.heap.size:=by simp[St.push,if_pos]
        refine .step (frs2:={fr with todo:=.inRangeFunc w1.heap.size::kc,defers:=mark++fr.defers}::frs) hstep<|ih _ h (gP λa ha=>?_) _ _ _ cs _ s12.wr (λb hb=>(s12.grows b hb).elim (hI b) .inr) ⟨_,_,rfl,hfr,_,_,rfl,?_,hfs.mono s12.out⟩<|zV.swap (g:=⟨fn,nn,env,.oY m1.length::k,marks1,gB⟩) hB rfl
        .simp_all
        .have hf3:=hf2.next hnh (k:=.oY m1.length::k) (kc:=.inRangeFunc w1.heap.size::kc) (.mk (a:=.oY m1.length) (by show _=_;grind)<|fY.mono s12.out hf.live.tail h2) (.mk (by show(Mem.at _ _).kq=true;rw[hlast];rfl) hf2.live.tail) hf.cu;refine⟨hf3.fn,hf3.n,hf3.small,hf3.env,hf3.todo,hf3.live,hf3.cu,?_,λd hd=>s2.out.ctl d<|hmc d hd,hf3.mode,hf3.kind,hf3.gB,hf3.uH⟩;rw[hmk];exact fj λd hd=>by rw[A9 s2.out<|hmc d hd]
   cases gB with
   | none=>
     have s1:Step w0 w S m (w.alloc<|.deferred<|some []) (S.push m.length w.heap.size 0 false)<|m ++ [.Jq]:=PE hW rfl rfl λ_=>by
      show(w.alloc<|.deferred<|some []).heap[(S.push m.length w.heap.size 0 false).σ m.length]? = _
      grind [heap_alloc_new,St.push]
     have hσ:(S.push m.length w.heap.size 0 false).σ m.length=w.heap.size:=by simp[St.push,if_pos]
     refine main (marks1:=m.length::marks) (mark:=[{target:=.collected w.heap.size,args:=#[]}]) (dv:=w.heap.size) s1 ?_ ?_ ?_ h
     .rw[hf.gB];rfl
     .rw[eB,hσ,hf.defers,lf];congr 1;exact fj λd hd=>by rw[A9 s1.out<|hf.marks d hd]
     .intro d hd;rcases aF.1 hd with rfl|hd
      .rw[Mem.fK];rfl
      .exact s1.out.ctl d<|hf.marks d hd
   | some l0=>
     simp only at h;cases hm0:m.at l0<;>rw[hm0] at h<;>(try simp only at h)<;>try exact h.elim
     have hb:=hW.box l0;rw[hm0] at hb;have⟨lp,g1,_⟩:=hb;refine main (marks1:=marks) (mark:=[]) (dv:=lp.defers) (.refl hW) ?_ (by rw[iR];exact hf.defers) hf.marks h;rw[hf.gB]
     simp_all [run_getLoop,Instr.enterLoop]
end
end Go.Ev
namespace Go.Ev
variable{a:Array Value}{o p:Oper}
section
variable {P:Program} {R:Type} {E:kD R} {w0:nN} {I0:Nat->Prop} {f0:FuncId} {Fin:R->Value->World->Prop} {Q:R->Prop}
variable {w:World} {S:St} {m:Mem} {fr:Frame} {fs:List dK} {frs cs:List Frame}
variable {fn:FuncId} {nn:Nat} {env:Env} {marks:List Nat} {gB:Option Nat} {k:List dX} {n:Nat}
def N6{all:Array Oper}{j d:Nat}{v:Bool}(g:all[j]? = some p)(e:p.dst=some d)(h:a.getD d undef=.bool v):yielded all a j=some v:=by
 have c:d<a.size:=by
  rcases Nat.lt_or_ge d a.size with b|b
  .omega
  .rw[d_,Array.getElem?_eq_none b] at h;cases h
 simp_all [yielded]
def Qu{all:Array Oper}{j d:Nat}(c:all[j]? = some p)(b:p.dst=some d)(h:a.getD d undef=.tuple #[]):yielded all a j=none:=by
 cases hx:a[d]? with
 | none=>grind [yielded]
 | some u=>
   simp_all [yielded]
def tJ{all:Array Oper}{t:Bool}{b:Array Value}(h:jH all env o t)(e:∀d∈iH all o,CR w S m (env.at d)<|b.getD d undef):Region.wanted o (yielded all b)=t:=by
 unfold jH at h;unfold iH at e;cases hg:o.guard with
 | none=>grind [Region.wanted]
 | some q=>
   rw[hg] at h e;simp only at h e;have⟨p,d,l,j,h⟩:=h;rw[l] at e;simp only[j] at e;have a:=e d aJ;rcases h with ⟨c,v,i,rfl⟩|⟨i,rfl⟩
   .rw[i] at a;simp only[Region.wanted,hg,N6 l j<|iD.1 a];rfl
   .rw[i] at a;have⟨r,s,g⟩:=kC.1 a;have:r=#[]:=eG.1<|bw.1 g
    simp_all [Qu,Region.wanted]
def G7{G:gY->Prop}{all:Array Oper}{r t:Env->Tr R}(h:Tr.Ok Q G<|E_ all env o r t)(i:∀d∈iH all o,∀c v,env.at d=.bool c v->d<=65535):
  ∃a:Env,(∀x,a.at x=env.at x\/(x∈iH all o/\∃v,env.at x=.bool false v/\a.at x=.bool true v))/\((jH all a o true/\Tr.Ok Q G (r a))\/(jH all a o false/\Tr.Ok Q G (t a))):=by
 unfold E_ at h;unfold iH at i ⊢;unfold jH;cases hg:o.guard with
 | none=>grind
 | some q=>
   have⟨j,l⟩:=q;rw[hg] at h i;simp only at h i ⊢;cases hp:all[j]? with
   | none=>rw[hp] at h;exact h.elim
   | some p=>
     rw[hp] at h i;simp only at h i ⊢;cases hd:p.dst with
     | none=>rw[hd] at h;exact h.elim
     | some d=>
       rw[hd] at h i;simp only at h i ⊢;cases he:env.at d<;>rw[he] at h<;>(try simp only at h)<;>try exact h.elim
       case bool c v=>
        have s:=i d aJ c v he;have e:∀b:Bool,b=v->c=false->∀x,(env.put d<|.bool true b).at x=env.at x\/(x∈ [d]/\∃v,env.at x=.bool false v/\(env.put d<|.bool true b).at x=.bool true v):=by grind [Env.z7]
        have g:∀b:Bool,(env.put d<|.bool true b).at d=.bool true b:=λb=>by rw[Env.z7 s,if_pos rfl]
        cases c with
        | true=>
          cases v<;>cases l<;>simp only at h
          all_goals grind
        | false=>
          cases l with
          | true=>
            cases v with
            | true=>exact⟨_,e true rfl rfl,.inl ⟨⟨p,d,rfl,hd,.inl ⟨true,true,g true,rfl⟩⟩,h.1 rfl⟩⟩
            | false=>exact⟨_,e false rfl rfl,.inr ⟨⟨p,d,rfl,hd,.inl ⟨true,false,g false,rfl⟩⟩,h.2 rfl⟩⟩
          | false=>
            cases v with
            | true=>exact⟨_,e true rfl rfl,.inr ⟨⟨p,d,rfl,hd,.inl ⟨true,true,g true,rfl⟩⟩,h.1 rfl⟩⟩
            | false=>exact⟨_,e false rfl rfl,.inl ⟨⟨p,d,rfl,hd,.inl ⟨true,false,g false,rfl⟩⟩,h.2 rfl⟩⟩
       case yV vs=>
        cases vs with
        | nil=>grind
        | cons _ _=>exact h.elim
end
end Go.Ev
namespace Go.Ev
variable{I:Nat->Prop}{a:List Ty}{cs:List AV}{g:FuncId}{t:Ty}{v:Value}
section
variable {P:Program} {w0:nN} {w:World} {S:St} {m:Mem}
theorem xN{A:aS}:∀{cs:List AV} {m:Mem},sJ cs=true->gi A m cs=some (m,cs)
 | [],m,_=>rfl
 | v::vs,m,h=>by
   cases v<;>simp only[sJ] at h<;>(try cases h;done)<;>simp only[gi,xN h]
def g_{w0:nN}{w:World}{u:List Ty}{m b:Mem}{a:List AV}{S:St}{g:List Value}(p:WR w0 w S m)(h:fL af u m cs=some (b,a))(r:eH w S m cs g):∃c,Step w0 w S m w c b/\eH w c b a g:=by
 unfold fL at h;split at h
 simp_all
 rename_i q s;have⟨v,e,j⟩:=x9 p s r;have⟨i,t,l⟩:=jU e.wr h j;exact⟨i,e.trans t,l⟩
theorem Er{A:aS}:∀{a:List<|Option Ty} {cs:List AV} {m:Mem},sJ cs=true->H6 A a m cs=some (m,cs)
 | [],cs,m,_=>rfl
 | _::_,[],m,_=>rfl
 | k::a,v::vs,m,h=>by
   cases v<;>simp only[sJ] at h<;>(try cases h;done)<;>simp only[H6,BR,Er h]
def G2{A:aS}{m:Mem}(h:sJ cs=true):fL A a m cs=some (m,cs):=by grind [Er,xN,fL]
def Step.extend{e:World}(a:WR w0 w S m)(r:e.os=w.os)(s:e.tape=w.tape)(q:w0.D->w.drawn<=e.drawn)(l:e.output=w.output)(c:w.heap.size<=e.heap.size)(p:∀b,b<w.heap.size->e.heap[b]? = w.heap[b]?)
  {I':Nat->Prop} (g:∀b,I' b->S.I b\/(w.heap.size<=b/\b<e.heap.size)):Step w0 w S m e {S with I:=λb=>S.I b\/I' b} m:=by
 have v:dT w S m e {S with I:=λb=>S.I b\/I' b} m:=by
  refine⟨λb h=>⟨.inl h,p b<|a.nQ b h⟩,λid j=>⟨fU j,λ_=>⟨rfl,rfl,rfl,λ_ t T fr h=>⟨t,T,fr,?_,rfl⟩⟩⟩,λ_ h=>h⟩
  grind
 refine⟨⟨r.trans a.os,a.tape.on s q,l.trans a.output,bd a.size c,λb h=>?_,λb h=>?_,λid=>?_,a.inj,λid h=>?_,λid h u=>?_,λid h=>.inl<|a.Js id h,a.root,λb t T fr h=>by
  have⟨F,z,G,B,C⟩:=a.cells b t T fr h
  grind⟩,v,λb h=>?_⟩
 .rw[p b<|bC (nN.old h) a.size];exact a.base b h
 .rcases h with h|h
  .exact bC (a.nQ b h) c
  .rcases g b h with h|h
   .exact bC (a.nQ b h) c
   omega
 .exact(a.box id).mono v rfl rfl rfl λy=>p _ (a.lo id y).2
 .exact⟨(a.lo id h).1.imp .inl<|λx=>x,bC (a.lo id h).2 c⟩
 .rintro (i|i)
  .exact a.qT id h u i
  .rcases g _ i with i|i
   .exact a.qT id h u i
   .have:=(a.lo id h).2
    grind
 .rcases h with h|h
  .grind
  .rcases g b h with h|h
   .grind
   .exact .inr<|.inl<|bd a.size h.1
def mU.weaken{a:Nat->Prop}(e:∀b,I b->a b){x:t.T}(h:mU w I t v x):mU w a t v x:=by
 unfold mU at h ⊢;split
 .rename_i c
  grind [bT.mono]
 .rename_i c
  grind [bT.mono]
def Ty.acs(h:t.isAgg=false):t.size=1:=by cases t<;>first|rfl|cases h
def Tp{v:AV}{u:Value}(h:(match t.isAgg,v with|true,.agg cs=>Nat.beq cs.length t.size|true,_=>false|false,.agg _=>false|false,_=>true)=true)(c:CR w S m v u):
  ∃L:List Value,eH w S m v.cells L/\L.length=t.size/\∀(I:Nat->Prop) (x:t.T),bT w I t L x->mU w I t u x:=by
 cases ht:t.isAgg with
 | true=>
   rw[ht] at h;cases v<;>simp only at h<;>try (cases h;done)
   obtain⟨g,rfl,b⟩:=uN.1 c;refine⟨g.toList,b,by rw[b.length];simp_all,λI x e=>?_⟩
   simp_all [mU]
 | false=>
   have a:v.cells=[v]:=by cases v<;>first|rfl|grind
   refine⟨[u],by rw[a];exact bL.2 ⟨u,[],rfl,c,bw.2 rfl⟩,(Ty.acs ht).symm,λI x e=>?_⟩
   simp_all [mU]
theorem ox:∀{g:List Ty} {i:List AV} {c:List Value},kE g i=true->eH w S m i c->
  ∃L:List Value,eH w S m (i.flatMap AV.cells) L/\∀(I:Nat->Prop) (x:Ty.Ts g),gp w I g L x->lg w I g c x
 | [],[],c,_,hc=>⟨[],bw.2 rfl,λI x _=>by rw[lg];exact bw.1 hc⟩
 | [],_::_,c,h,_=>by cases h
 | [t],[v],c,h,hc=>by
   obtain⟨u,r,rfl,j,l⟩:=bL.1 hc;have:=bw.1 l;subst this;simp[kE,Bool.and_true] at h;have⟨L,y,z,B⟩:=Tp h j;exact⟨L,by simp_all,λI x q=>by rw[lg];exact⟨u,rfl,B I x q⟩⟩
 | [t],[],c,h,_=>by cases h
 | [t],_::_::_,c,h,_=>by simp_all [kE]
 | t::C::g,[],c,h,_=>by cases h
 | t::C::g,v::i,c,h,hc=>by
   obtain⟨u,r,rfl,j,l⟩:=bL.1 hc;have h:=(fZ _ _).mp (show((match (generalizing:=false) t.isAgg,v with|true,.agg cs=>Nat.beq cs.length t.size|true,_=>false|false,.agg _=>false|false,_=>true)&&kE (C::g) i)=true from h);have⟨L,y,z,B⟩:=Tp h.1 j;have⟨F,H,J⟩:=ox h.2 l;refine⟨L++F,by rw[List.flatMap_cons];exact y.append H,λI x q=>?_⟩;have⟨a,b,e,s,G⟩:=q;have p:a.length=L.length:=by rw[s.length,z]
   obtain⟨rfl,rfl⟩:=List.append_inj e.symm p
   grind [lg]
theorem oA{I:Nat->Prop}(g:∀b,I b->S.I b):∀{c:List Ty} {a:List Value} {y:Ty.Ts c},lg w I c a y->eH w S m (ir af c y) a
 | [],a,y,h=>by rw[lg] at h;exact bw.2 h
 | [t],a,y,h=>by
   obtain⟨v,rfl,e⟩:=h;exact bL.2 ⟨v,[],rfl,Bb<|mU.weaken g e,bw.2 rfl⟩
 | t::t2::c,a,y,h=>by
   obtain⟨v,r,rfl,e,i⟩:=h;exact bL.2 ⟨v,r,rfl,Bb<|mU.weaken g e,oA g i⟩
def Ix(c:∀b,I b->S.I b){y:Ty.Ts a}(h:rL w I a v y):CR w S m (gU<|ir af a y) v:=by
 match a,y,h with
 | [],y,h=>rw[rL] at h;exact kC.2 ⟨#[],h,bw.2 rfl⟩
 | [t],y,h=>rw[rL] at h;exact Bb<|mU.weaken c h
 | t::t2::ts,y,hh=>
   have⟨j,i,g⟩:=hh;have:=oA (m:=m) c g;have e:gU (ir af (t::t2::ts) y)=.yV (ir af (t::t2::ts) y):=by
    cases ts<;>rfl
   rw[e];exact kC.2 ⟨j,i,this⟩
def Po{α:Type}{a b:Bool}{t:TV α}{x:α}(h:(aa9 a b t).Is x)(k:a=true->b=true):b=true/\t.Is x:=by
 cases a
 .exact h
 .exact⟨k rfl,h⟩
def Bd{s:aK}(X:s.bI P g)(hd:w0.D->s.oT P g)(hW:WR w0 w S m){F:List AV}{a:Array Value}{v:AV}{O:Mem}(ha:eH w S m F a.toList)(h:(vS af s m F).Is (v,O))(cs:List Frame):
  ∃c V z B,Step w0 w S m c V O/\CR c V O v z/\Steps P (lone (Frame.enter P g a .normal) cs w) (lone B cs c)/\B.leaving P c (.returned z):=by
 unfold vS at h;split at h;exact h.elim;rename_i J;have⟨L,hL,p⟩:=ox J ha;cases hf:fL af s.args m (F.flatMap AV.cells) with
 | none=>rw[hf] at h;exact h.elim
 | some q=>
   have⟨m1,G⟩:=q;rw[hf] at h;simp only at h;have⟨u,C,H⟩:=g_ hW hf hL;cases htd:q9 s.args G with
   | none=>rw[htd] at h;exact h.elim
   | some q=>
     have⟨x,r⟩:=q;rw[htd] at h;cases r with
     | cons _ _=>exact h.elim
     | nil=>
       have⟨l,h⟩:=Po h λk=>X.all k x;cases h;have⟨u1,u2,e,N,hr⟩:=nM s.args htd H;have K:=bw.1 hr;rw[K,aL] at e;rw[<-e] at N
       have y:Calls P g a w λe c=>(w0.D->w.drawn<=c.drawn)/\∃v,e=.returned v/\c.os=w.os/\c.tape=w.tape/\c.output=w.output/\w.heap.size<=c.heap.size/\(∀b,b<w.heap.size->c.heap[b]? = w.heap[b]?)/\
         ∃t,(∀b,t b->u.I b\/(w.heap.size<=b/\b<c.heap.size))/\rL c t s.res v (s.fn x):=by
        by_cases W:w0.D
        .exact(hd W w u.I x a C.wr.nQ (p _ x N) l).mono λ_ _ k=>⟨λ_=>k.1,k.2⟩
        .exact(X.calls w u.I x a C.wr.nQ (p _ x N) l).mono λ_ _ k=>⟨λd=>absurd d W,k⟩
       have⟨e',c,B,⟨Y,z,he,Z,g2,g3,g4,g5,t,g6,g7⟩,i,_,j⟩:=y cs;subst he;have s2:=Step.extend C.wr Z g2 Y g3 g4 g5 g6;exact⟨c,{u with I:=λb=>u.I b\/t b},z,B,C.trans s2,Ix (I:=t) (λb hb=>Or.inr hb) g7,i,j⟩
def JK{s:qG}(hs:s.bI P g)(N:¬w0.D)(Z:WR w0 w S m){H:List AV}{c:Array Value}{v:AV}{V:Mem}(ha:eH w S m H c.toList)(h:(LX af s m H).Is (v,V))(cs:List Frame):
  ∃l W z F,Step w0 w S m l W V/\CR l W V v z/\Steps P (lone (Frame.enter P g c .normal) cs w) (lone F cs l)/\F.leaving P l (.returned z):=by
 unfold LX at h;cases H with
 | nil=>exact h.elim
 | cons a rest=>
   cases a<;>(try simp only at h)<;>try exact h.elim
   case ptr id off=>
    cases off with
    | succ _=>exact h.elim
    | zero=>
      simp only at h;have⟨u,B,e,hu,j⟩:=bL.1 ha;rw[CR] at hu;cases hm:m.at id<;>rw[hm] at h hu<;>(try simp only at h)<;>try exact h.elim
      case cu fz cells=>
       have C:=Z.box id;rw[hm] at C;have⟨us,T,fr,k1,k2,k3⟩:=C;cases htd:yk s.view cells with
       | none=>rw[htd] at h;exact h.elim
       | some q=>
         have⟨x,r⟩:=q;rw[htd] at h;cases r with
         | cons _ _=>exact h.elim
         | nil=>
           have⟨u1,u2,X,hx,hr⟩:=nq s.view htd k3;rw[bw.1 hr,aL] at X;rw[<-X] at hx;cases hok:kE s.args rest with
           | false=>rw[hok] at h;exact h.elim
           | true=>
             rw[hok] at h;have⟨L,hL,t⟩:=ox hok j;cases hf:fL af s.args m (rest.flatMap AV.cells) with
             | none=>rw[hf] at h;exact h.elim
             | some q=>
               have⟨m1,J⟩:=q;rw[hf] at h;simp only at h;have⟨S1,G,K⟩:=g_ Z hf hL;cases htd2:q9 s.args J with
               | none=>rw[htd2] at h;exact h.elim
               | some q=>
                 have⟨y,r⟩:=q;rw[htd2] at h;cases r with
                 | cons _ _=>exact h.elim
                 | nil=>
                   cases hsc:Ty.np s.res with
                   | false=>rw[hsc] at h;exact h.elim
                   | true=>
                     rw[hsc] at h;have⟨p,h⟩:=h;cases h;have⟨v1,v2,Y,hy,O⟩:=nM s.args htd2 K;rw[bw.1 O,aL] at Y;rw[<-Y] at hy;have⟨e',l,F,⟨z,he,g1,g2,g3,g4,g5,g7⟩,b,_,i⟩:=hs.calls w S1.I x y (S.σ id) us T fr B G.wr.nQ k1 (bT.mono G.out.nQ _ hx) (t _ y hy) p cs;subst he;have ea:c=(Value.pointer (some ⟨S.σ id,0,none⟩)::B).toArray:=by grind
                     rw[<-ea] at b;have s2:=Step.extend G.wr g1 g2 (λk=>absurd k N) g3 g4 g5 (I':=λ_=>False)<|λ_ h=>h.elim;exact⟨l,_,z,F,G.trans s2,Ix (I:=λ_=>False) (λ_ C=>C.elim) g7,b,i⟩
end
end Go.Ev
namespace Go.Ev
theorem jW:∀{l:List Nat} {n:Nat},tL l n=true↔n∈l
 | [],n=>by simp[tL]
 | i::l,n=>by
   rw[tL];by_cases h:i=n
   .simp_all
   .rw[gJ.2 h,jW,aF]
    grind
variable{B:List Nat}{a c:List Value}{f:VF}{fs:List VF}{h:List Value}{t:Ty}
section
variable {w:World} {I:Nat->Prop} {D:Nat->Nat×Nat}
def aj7{x:t.T}:VR w I D (.d t) a x B↔bT w I t a x/\B=[]:=fH
def ob{x:List t.T}:VR w I D (.own t) h x B↔(x=[]/\B=[]/\∃a,h=[.slice a 0 0])\/
   (∃b g c,B=[b]/\h=[.slice (some ⟨b,g,none⟩) x.length c]/\x.length<=c/\x.length<=fX/\
     ∃(e:Array Value) (T:TypeId) (fr:Nat×Nat),w.heap[b]? = some (.cells e T fr)/\gS fr e.size/\g+c*t.size<=e.size/\
      ∀(i:Nat) (y:t.T),x[i]? = some y->bT w I t ((e.toList.drop<|g+i*t.size).take t.size) y):=fH
def vP{k:Nat}{x:List t.T}:VR w I D (.fix k t) c x B↔B=[]/\∃a,c=[.slice (some ⟨(D k).1,(D k).2,none⟩) x.length a]/\x.length<=a/\x.length<=fX/\
    ∃(b:Array Value) (T:TypeId) (fr:Nat×Nat),w.heap[(D k).1]? = some (.cells b T fr)/\gS fr b.size/\(D k).2+a*t.size<=b.size/\
     ∀(i:Nat) (y:t.T),x[i]? = some y->bT w I t ((b.toList.drop<|(D k).2+i*t.size).take t.size) y:=fH
def FM{e:List Value}{x:Ty.Ts<|VF.iq fs}:VR w I D (.ptr fs) e x B↔∃b c,B=b::c/\e=[.pointer<|some ⟨b,0,none⟩]/\
    ∃(a:Array Value) (T:TypeId) (fr:Nat×Nat),w.heap[b]? = some (.cells a T fr)/\gS fr a.size/\ru w I D fs a.toList x c:=fH
def vO{x:Ty.Ts<|VF.iq fs}:VR w I D (.od fs) c x B↔∃b,c=[.pointer<|some ⟨b,0,none⟩]/\I b/\
    ∃(a:Array Value) (T:TypeId) (fr:Nat×Nat),w.heap[b]? = some (.cells a T fr)/\gS fr a.size/\ru w I D fs a.toList x B:=fH
def LA{x:Ty.Ts<|VF.iq []}:ru w I D [] a x B↔a=[]/\B=[]:=fH
def uj{x:f.ty.T}:ru w I D [f] a x B↔VR w I D f a x B:=fH
def AY{g:VF}{x:Ty.Ts<|VF.iq<|f::g::fs}:ru w I D (f::g::fs) h x B↔∃c e a b,h=c++e/\B=a++b/\VR w I D f c (Prod.fst (α:=f.ty.T) (β:=Ty.Ts<|VF.iq<|g::fs) x) a/\ru w I D (g::fs) e (Prod.snd (α:=f.ty.T) (β:=Ty.Ts<|VF.iq<|g::fs) x) b:=fH
end
mutual
theorem VR.length{w:World}{I:Nat->Prop}{D:Nat->Nat×Nat}:∀(f:VF) {c:List Value} {x:f.ty.T} {B:List Nat},VR w I D f c x B->c.length=f.size
 | .d t,c,x,B,h=>(aj7.1 h).1.length
 | .own t,c,x,B,h=>by
   rcases h with ⟨_,_,a,rfl⟩|⟨b,i,e,_,rfl,_⟩<;>rfl
 | .fix k t,c,x,B,h=>by
   obtain⟨_,e,rfl,_⟩:=h;rfl
 | .ptr fs,c,x,B,h=>by
   obtain⟨b,g,_,rfl,_⟩:=h;rfl
 | .od fs,c,x,B,h=>by
   obtain⟨b,rfl,_⟩:=vO.1 h;rfl
theorem ru.length{w:World}{I:Nat->Prop}{D:Nat->Nat×Nat}:∀(fs:List VF) {a:List Value} {x:Ty.Ts<|VF.iq fs} {B:List Nat},ru w I D fs a x B->a.length=VF.mP fs
 | [],a,x,B,h=>by rw[(LA.1 h).1];rfl
 | [f],a,x,B,h=>by simp only[VF.mP];exact VR.length f<|uj.1 h
 | f::g::fs,a,x,B,h=>by
   obtain⟨j,l,e,i,rfl,_,b,c⟩:=h;rw[t_,VR.length f b,ru.length (g::fs) c];rfl
end
variable{C:Array Value}{I:Nat->Prop}{aa:List AV}{b:Nat}{cs:List AV}{g:Nat->AV}{i:Nat}{l:List Nat}{m':Mem}{q:World}{r:List AV}{v:AV}{α:Type}
section
variable {P:Program} {w0:nN} {w:World} {S:St} {m:Mem} {D:Nat->Nat×Nat}
def Ll(m:Mem)(i:Nat):Prop:=(∃t x,m.at i=.arr false t x)\/∃cs,m.at i=.cu false cs
def yu(S:St)(m:Mem)(j:Nat):Prop:=S.lv j (m.at j)=true/\S.fz j (m.at j)=false
def nV(a:List Nat)(fx:List<|Nat×Nat)(ids:List Nat):Prop:=(∀j∈a++fx.map Prod.snd,j∈ids)/\(ids.Nodup->(a++fx.map Prod.snd).Nodup)
def nV.same:nV l [] l:=⟨by simp,by simp⟩
def nV.one{k:Nat}:nV [] [(k,i)] [i]:=⟨by simp,by simp⟩
def nV.nil:nV [] [] l:=⟨by simp,by simp⟩
def nV.cons{b ids:List Nat}{fx:List<|Nat×Nat}(h:nV b fx ids)(i:Nat):nV (i::b) fx<|i::ids:=
 ⟨λj a=>by rcases aF.1 a with rfl|a;exact aJ;exact aD _<|h.1 j a,λc=>by
  have⟨n1,e⟩:=bR.1 c;exact bR.2 ⟨λk=>n1<|h.1 i k,h.2 e⟩⟩
def nV.append{c e is1 a:List Nat}{fx b:List<|Nat×Nat}(h:nV c fx is1)(i:nV e b a):nV (c++e) (fx++b)<|is1++a:=by
 have⟨a1,a2⟩:=h;have⟨g,p⟩:=i;refine⟨λj q=>?_,λl=>?_⟩
 .grind
 .have⟨n1,r,s⟩:=dY.1 l;simp only[pP] at a1 g
  grind
def ayg:VF.fx m (.d t) cs=[]:=by rfl
def Rf:VF.fx m (.own t) cs=[]:=by rfl
mutual
theorem VF.wv(O:WR w0 w S m):∀(f:VF) {cs:List AV} {x:f.ty.T} {ids:List Nat} {r:List AV} {V:List Value},VF.read m f cs=some (x,ids,r)->(∀p∈VF.fx m f cs,D p.1=(S.σ p.2,S.δ p.2)/\S.vd p.2=false)->eH w S m cs V->
  ∃Y Z H,V=Y++Z/\eH w S m r Z/\nV H (VF.fx m f cs) ids/\(∀j∈H++(VF.fx m f cs).map Prod.snd,yu S m j)/\(∀i∈ids,Ll m i)/\VR w S.I D f Y x (H.map S.σ)
 | .d t,cs,x,ids,r,V,h,hD,hc=>by
   simp only[VF.read] at h;split at h
   rotate_left
   simp_all
   rename_i p h1;cases h;have⟨Y,Z,e,B,s⟩:=nq t h1 hc;exact⟨Y,Z,[],e,s,nV.nil,λj g=>absurd g aC,λj g=>absurd g aC,aj7.2<|⟨B,rfl⟩⟩
 | .own t,cs,x,ids,r,V,h,hD,hc=>by
   simp only[VF.read] at h;cases cs with
   | nil=>cases h
   | cons v cs=>
     obtain⟨u,F,rfl,z,C⟩:=hc.cons_inv;cases v<;>(try simp only at h)<;>try (cases h;done)
     case own id=>
      cases hm:m.at id<;>rw[hm] at h<;>(try simp only at h)<;>try (cases h;done)
      case arr fz t' y=>
       cases fz with
       | true=>cases h
       | false=>
         simp only at h;by_cases hb:t'.beq t=true
         .rw[dif_pos hb] at h;have:=Ty.eq_of_beq hb;subst this;cases h;have c:=O.box id;rw[hm] at c;rw[CR,hm] at z;have G:∀i∈ [id],Ll m i:=λi X=>by rw[aO.1 X];exact .inl ⟨_,_,hm⟩
          rcases z with ⟨_,hx,a,e⟩|⟨a6,J,e,B,W,T1,N,s,h4⟩
          .refine⟨[u],F,[],rfl,C,nV.nil,λj g=>absurd g aC,G,?_⟩;exact ob.2<|.inl ⟨hx,rfl,a,by rw[e]⟩
          .have⟨ag,T2,a9,g1,g2,g3,g4⟩:=c.2.2 a6;rw[s] at g1;cases g1;refine⟨[u],F,[id],rfl,C,nV.same,λj g=>?_,G,?_⟩
           .rw[aO.1 g];exact⟨by rw[hm,rP,a6];rfl,by rw[hm];rfl⟩
           .exact ob.2<|.inr ⟨S.σ id,S.δ id,J,rfl,by rw[e],B,c.1,W,T1,N,s,g2,h4,g4⟩
         grind
     case fG b=>
      cases h;have⟨a,e,_⟩:=nA.1 z;exact⟨[u],F,[],rfl,C,nV.nil,λj g=>absurd g aC,λj g=>absurd g aC,ob.2<|.inl ⟨rfl,rfl,a,by rw[e]⟩⟩
 | .fix k t,cs,x,ids,r,V,h,hD,hc=>by
   simp only[VF.read] at h;cases cs with
   | nil=>cases h
   | cons v cs=>
     obtain⟨u,F,rfl,z,C⟩:=hc.cons_inv;cases v<;>(try simp only at h)<;>try (cases h;done)
     case own id=>
      have⟨d1,d2⟩:=hD (k,id) aJ;cases hm:m.at id<;>rw[hm] at h<;>(try simp only at h)<;>try (cases h;done)
      case arr fz t' y=>
       cases fz with
       | true=>cases h
       | false=>
         simp only at h;by_cases hb:t'.beq t=true
         .rw[dif_pos hb] at h;have:=Ty.eq_of_beq hb;subst this;cases h;have c:=O.box id;rw[hm] at c;rw[CR,hm] at z;rcases z with ⟨hn,_⟩|⟨_,J,e,B,W,T1,N,s,h4⟩
          .simp_all
          .have⟨ag,T2,a9,g1,g2,g3,g4⟩:=c.2.2 d2;rw[s] at g1;cases g1;refine⟨[u],F,[],rfl,C,nV.one,λj g=>?_,λi X=>by rw[aO.1 X];exact .inl ⟨_,_,hm⟩,vP.2 ⟨rfl,J,by rw[e,d1],B,c.1,W,T1,N,by simp_all,g2,by simp_all,by simp_all⟩⟩;rw[aO.1<|show j∈ [id] from g];exact⟨by rw[hm,rP,d2];rfl,by rw[hm];rfl⟩
         simp_all
 | .ptr fs,cs,x,ids,r,V,h,hD,hc=>by
   simp only[VF.read] at h;cases cs with
   | nil=>cases h
   | cons v cs=>
     obtain⟨u,F,rfl,z,C⟩:=hc.cons_inv;cases v<;>(try simp only at h)<;>try (cases h;done)
     case ptr id off=>
      cases off with
      | succ _=>cases h
      | zero=>
        cases hm:m.at id<;>rw[hm] at h<;>(try simp only at h)<;>try (cases h;done)
        case cu fz l=>
         cases fz with
         | true=>cases h
         | false=>
           simp only at h;cases hrd:VF.reads m fs l with
           | none=>grind
           | some q=>
             have⟨y,is,r1⟩:=q;rw[hrd] at h;cases r1 with
             | cons _ _=>cases h
             | nil=>
               cases h;have c:=O.box id;rw[hm] at c;have⟨vs,T,fr,k1,k2,k3⟩:=c;rw[CR,hm] at z;have K:∀r',VF.fx m (.ptr fs) (.ptr id 0::r')=VF.yz m fs l:=λr'=>by simp[VF.fx,hm]
               rw[K] at hD ⊢;have⟨Y,Z,H,e,B,s,h4,h5,h6⟩:=VF.pK O fs hrd hD k3;rw[bw.1 B,aL] at e;rw[<-e] at h6;refine⟨[u],F,id::H,rfl,C,s.cons id,λj g=>?_,λi X=>?_,?_⟩
               .rcases aF.1 g with rfl|g
                .exact⟨by rw[hm];rfl,by rw[hm];rfl⟩
                simp_all
               .rcases aF.1 X with rfl|X
                .exact .inr ⟨_,hm⟩
                grind
               .exact FM.2<|⟨S.σ id,H.map S.σ,rfl,by grind,vs,T,fr,k1,k2,h6⟩
 | .od fs,cs,x,ids,r,V,h,hD,hc=>by
   simp only[VF.read] at h;cases cs with
   | nil=>cases h
   | cons v cs=>
     obtain⟨u,F,rfl,z,C⟩:=hc.cons_inv;cases v<;>(try simp only at h)<;>try (cases h;done)
     case ptr id off=>
      cases off with
      | succ _=>cases h
      | zero=>
        cases hm:m.at id<;>rw[hm] at h<;>(try simp only at h)<;>try (cases h;done)
        case cu fz l=>
         cases fz with
         | false=>cases h
         | true=>
           simp only at h;cases hrd:VF.reads m fs l with
           | none=>grind
           | some q=>
             have⟨y,is,r1⟩:=q;rw[hrd] at h;cases r1 with
             | cons _ _=>cases h
             | nil=>
               cases h;have c:=O.box id;rw[hm] at c;have⟨vs,T,fr,k1,k2,k3⟩:=c;rw[CR,hm] at z;have K:∀r',VF.fx m (.od fs) (.ptr id 0::r')=VF.yz m fs l:=λr'=>by simp only[VF.fx,hm]
               rw[K] at hD ⊢;have⟨Y,Z,H,e,B,s,h4,h5,h6⟩:=VF.pK O fs hrd hD k3;rw[bw.1 B,aL] at e;rw[<-e] at h6;exact⟨[u],F,H,rfl,C,s,h4,h5,vO.2 ⟨S.σ id,by grind,O.Js id (by rw[hm];rfl),vs,T,fr,k1,k2,h6⟩⟩
theorem VF.pK(y:WR w0 w S m):∀(fs:List VF) {cs:List AV} {x:Ty.Ts<|VF.iq fs} {ids:List Nat} {r:List AV} {s:List Value},VF.reads m fs cs=some (x,ids,r)->(∀p∈VF.yz m fs cs,D p.1=(S.σ p.2,S.δ p.2)/\S.vd p.2=false)->eH w S m cs s->
  ∃l u c,s=l++u/\eH w S m r u/\nV c (VF.yz m fs cs) ids/\(∀j∈c++(VF.yz m fs cs).map Prod.snd,yu S m j)/\(∀i∈ids,Ll m i)/\ru w S.I D fs l x (c.map S.σ)
 | [],cs,x,ids,r,s,h,hD,hc=>by
   cases h;rw[VF.yz];exact⟨[],s,[],rfl,hc,nV.nil,λj e=>absurd e aC,λj e=>absurd e aC,LA.2<|⟨rfl,rfl⟩⟩
 | [f],cs,x,ids,r,s,h,hD,hc=>by
   have b:VF.yz m [f] cs=VF.fx m f cs:=by
    have B:VF.read m f cs=some (x,ids,r):=h;rw[VF.yz,B];simp only[VF.yz,aL]
   rw[b] at hD ⊢;have⟨l,u,c,t,v,C,F,G,H⟩:=VF.wv y f h hD hc;exact⟨l,u,c,t,v,C,F,G,uj.2<|H⟩
 | f::g::fs,cs,x,ids,r,s,h,hD,hc=>by
   simp only[VF.reads] at h;cases t:VF.read m f cs with
   | none=>grind
   | some p=>
     have⟨a,Z,O⟩:=p;rw[t] at h;simp only at h;split at h
     simp_all
     rename_i q v;cases h;have b:VF.yz m (f::g::fs) cs=VF.fx m f cs++VF.yz m (g::fs) O:=by rw[VF.yz,t]
     rw[b] at hD ⊢;obtain⟨l,u,c,rfl,c1,V,l1,K,v1⟩:=VF.wv y f t (λp z=>hD p<|pP.2<|.inl z) hc;obtain⟨X,Y,J,rfl,c2,W,l2,N,v2⟩:=VF.pK y (g::fs) v (λp z=>hD p<|pP.2<|.inr z) c1;refine⟨l++X,Y,c++J,(fe _ _ _).symm,c2,V.append W,λj e=>?_,λj e=>(pP.1 e).elim (K j)<|N j,?_⟩
     .grind
     refine AY.2 ?_
     grind
end
def Kl(w0:nN)(S:St)(m:Mem)(b:Nat):Prop:=w0.free b/\¬S.I b/\∀j,S.lv j (m.at j)=true->S.σ j≠b
def Step.Kv(i:WR w0 w S m){d:Nat}(a:Kl w0 S m b)(g:b<w.heap.size){bx:iN}(e:bx.Uj=false)
  (c:dT w S m w (S.push m.length b d false) (m ++ [bx])->sr w (S.push m.length b d false) (m ++ [bx]) m.length bx):Step w0 w S m w (S.push m.length b d false)<|m ++ [bx]:=
 ⟨i.Kv ⟨a.1,g⟩ a.2.2 a.2.1 (rX.none w b) e<|c<|pU a.2.1 (rX.none w b) bx,pU a.2.1 (rX.none w b) bx,λb c=>c.elim .inl λh=>absurd h.1<|by decide⟩
structure Wrote(S:St)(m:Mem)(B:List Nat)(S':St)(m':Mem):Prop where
 nQ:∀b,S'.I b->S.I b
 len:m.length<=m'.length
 old:∀j,j<m.length->m'.at j=m.at j/\S'.σ j=S.σ j/\S'.vd j=S.vd j
 new:∀j,m.length<=j->S'.lv j (m'.at j)=true->S'.σ j∈B
theorem Wrote.fresh{e:St}{l:Mem}{C:List Nat}(h:Wrote S m B e l)(a:Kl w0 S m b)(t:b ∉ B):Kl w0 e l b:=by
 refine⟨a.1,λs=>a.2.1 (h.nQ b s),λj c g=>?_⟩;by_cases i:j<m.length
 .obtain⟨p,q,r⟩:=h.old j i;rw[p,aaV r] at c;exact a.2.2 j c (q.symm.trans g)
 .exact t (g▸h.new j (Nat.le_of_not_lt i) c)
def wu{d:Nat}{g:iN}{v:Bool}(i:(S.push m.length b d false v).lv m.length g=true->b∈B):Wrote S m B (S.push m.length b d false v)<|m ++ [g]:=by
 refine⟨λb h=>h.elim id λh=>absurd h.1<|by decide,by simp_all,λj a=>⟨Mem.mg a,if_neg<|e_ a,if_neg<|e_ a⟩,λj a e=>?_⟩;rw[Mem.nh] at e;by_cases c:j=m.length
 .subst c;show(if m.length=m.length then b else S.σ m.length)∈B
  grind
 .rw[if_neg c,nS c] at e;exact absurd (Mem.jV e)<|gz a
def Wrote.trans{t u:St}{q z:Mem}{r s:List Nat}(a:Wrote S m r t q)(c:Wrote t q s u z)(i:∀b∈r,b∈B)(l:∀b∈s,b∈B):Wrote S m B u z:=by
 refine⟨λb h=>a.nQ b<|c.nQ b h,bd a.len c.len,λj g=>?_,λj g p=>?_⟩
 .have⟨a1,a2,C⟩:=a.old j g;have⟨v,x,y⟩:=c.old j<|bC g a.len
  grind
 .by_cases e:j<q.length
  .have⟨v,x,y⟩:=c.old j e;rw[v,aaV y] at p;rw[x];exact i _<|a.new j g p
  .exact l _<|c.new j (Nat.le_of_not_lt e) p
def yD{o:Obj}(h:w.heap[b]? = some o):b<w.heap.size:=(dy.1 h).1
def pT(w:World)(I:Nat->Prop)(D:Nat->Nat×Nat)(S:St)(m:Mem)(g:Nat->AV)(rows:List<|Nat×iN):Prop:=
 ∀(k:Nat) (t:Ty) (y:List t.T) (a:List Value),(k,iN.arr false t y)∈rows->VR w I D (.fix k t) a y []->eH w S m [g k] a
theorem pT.mono{rows:List<|Nat×iN}{S':St}(h:pT w I D S m g rows)(a:dT w S m w S' m'):pT w I D S' m' g rows:=
 λk t y e b c=>(h k t y e b c).mono a
def pT.left{a c:List<|Nat×iN}(h:pT w I D S m g<|a++c):pT w I D S m g a:=λk t y e b=>h k t y e<|pP.2<|.inl b
def pT.right{c a:List<|Nat×iN}(h:pT w I D S m g<|c++a):pT w I D S m g a:=λk t y e b=>h k t y e<|pP.2<|.inr b
mutual
theorem VF.yt{I:Nat->Prop}{g:Nat->AV}:∀(f:VF) {S:St} {m:Mem} {x:f.ty.T} {e:List Value} {B:List Nat},WR w0 w S m->(∀b,I b->S.I b)->VR w I D f e x B->B.Nodup->(∀b∈B,Kl w0 S m b)->pT w I D S m g (VF.rows f x)->
  ∃u,Step w0 w S m w u (VF.write af g f x m).1/\eH w u (VF.write af g f x m).1 (VF.write af g f x m).2 e/\Wrote S m B u (VF.write af g f x m).1
 | .d t,S,m,x,e,B,hW,hI,h,hn,hf,hg=>by
   exact⟨S,.refl hW,lN t<|bT.mono (λb c=>⟨hI b c,rfl⟩) t h.1,λ_ h=>h,ai _,λ_ _=>⟨rfl,rfl,rfl⟩,λj p q=>absurd (Mem.jV q)<|gz p⟩
 | .own t,S,m,x,e,B,hW,hI,h,hn,hf,hg=>by
   rw[VF.write];rcases h with ⟨K,rfl,a,rfl⟩|⟨b,l,v,rfl,rfl,s,z,r,T,fr,F,X,Y,Z⟩
   .have K:x=([]:List t.T):=K;subst K;refine⟨_,Step.aph hW t,bL.2 ⟨_,[],rfl,?_,bw.2 rfl⟩,wu λh=>by simp[St.lv,St.push] at h⟩;rw[CR,Mem.fK];exact .inl ⟨wq,rfl,a,rfl⟩
   .refine⟨_,Step.Kv hW (d:=l) (hf b<|aO.2 rfl) (yD F) rfl λO=>⟨z,yO,λ_=>⟨r,T,fr,?_,X,?_,λi y hy=>?_⟩⟩,bL.2 ⟨_,[],rfl,?_,bw.2 rfl⟩,wu λ_=>aO.2 rfl⟩
    .show w.heap[if m.length=m.length then b else S.σ m.length]? = _
     grind
    .show(if m.length=m.length then l else S.δ m.length)+_<=_;rw[if_pos rfl];exact bd (fN (aI _ s) _) Y
    .show bT w _ t ((r.toList.drop<|(if m.length=m.length then l else S.δ m.length)+_).take _) y;rw[if_pos rfl];exact bT.mono (λb c=>⟨.inl<|hI b c,rfl⟩) t<|Z i y hy
    .rw[CR,Mem.fK];refine .inr ⟨wq,v,?_,s,r,T,fr,?_,?_⟩
     .show Value.slice _ _ _=.slice (some ⟨if m.length=m.length then b else S.σ m.length,if m.length=m.length then l else S.δ m.length,none⟩) _ _
      grind
     .show w.heap[if m.length=m.length then b else S.σ m.length]? = _
      grind
     .show(if m.length=m.length then l else S.δ m.length)+_<=_
      grind
 | .fix k t,S,m,x,e,B,hW,hI,h,hn,hf,hg=>by
   obtain⟨rfl,h'⟩:=vP.1 h;exact⟨S,.refl hW,hg k t x e aJ h,λ_ h=>h,ai _,λ_ _=>⟨rfl,rfl,rfl⟩,λj p q=>absurd (Mem.jV q)<|gz p⟩
 | .ptr fs,S,m,x,e,B,hW,hI,h,hn,hf,hg=>by
   obtain⟨b,B',rfl,rfl,r,T,fr,s,z,F⟩:=h;have⟨J,H⟩:=bR.1 hn;have⟨N,V,c1,W⟩:=VF.sR fs hW hI F H (λb c=>hf b<|aD _ c) hg;rw[VF.write];have G:=W.fresh (C:=[]) (hf b aJ) J;refine⟨_,V.trans<|Step.Kv V.wr (d:=0) G (yD s) rfl λO=>⟨r,T,fr,?_,z,c1.mono O⟩,bL.2 ⟨_,[],rfl,?_,bw.2 rfl⟩,W.trans (wu (B:=[b]) λ_=>aO.2 rfl) (λb c=>aD _ c) λb' c=>by grind⟩
   .show w.heap[if (VF.writes af g fs x m).1.length=(VF.writes af g fs x m).1.length then b else N.σ _]? = _
    grind
   .rw[CR,Mem.fK];show Value.pointer _=.pointer (some ⟨if (VF.writes af g fs x m).1.length=(VF.writes af g fs x m).1.length then b else N.σ _,0,none⟩)
    grind
 | .od fs,S,m,x,e,B,hW,hI,h,hn,hf,hg=>by
   obtain⟨b,rfl,_⟩:=vO.1 h;exact⟨S,.refl hW,bL.2 ⟨_,[],rfl,gQ,bw.2 rfl⟩,λ_ h=>h,ai _,λ_ _=>⟨rfl,rfl,rfl⟩,λj p q=>absurd (Mem.jV q)<|gz p⟩
theorem VF.sR{I:Nat->Prop}{g:Nat->AV}:∀(fs:List VF) {S:St} {m:Mem} {x:Ty.Ts<|VF.iq fs} {c:List Value} {B:List Nat},WR w0 w S m->(∀b,I b->S.I b)->ru w I D fs c x B->B.Nodup->(∀b∈B,Kl w0 S m b)->pT w I D S m g (VF.gF fs x)->
  ∃i,Step w0 w S m w i (VF.writes af g fs x m).1/\eH w i (VF.writes af g fs x m).1 (VF.writes af g fs x m).2 c/\Wrote S m B i (VF.writes af g fs x m).1
 | [],S,m,x,c,B,hW,hI,h,hn,hf,hg=>by
   exact⟨S,.refl hW,bw.2 h.1,λ_ h=>h,ai _,λ_ _=>⟨rfl,rfl,rfl⟩,λj v y=>absurd (Mem.jV y)<|gz v⟩
 | [f],S,m,x,c,B,hW,hI,h,hn,hf,hg=>by
   exact VF.yt f hW hI h hn hf (by rw[VF.gF] at hg;omega)
 | f::s::fs,S,m,x,c,B,hW,hI,h,hn,hf,hg=>by
   obtain⟨N,O,H,J,rfl,rfl,t,u⟩:=h;have⟨n1,z,F⟩:=dY.1 hn;have⟨K,e,c1,q⟩:=VF.yt f hW hI t n1 (λb a=>hf b<|pP.2<|.inl a) hg.left;have⟨r,p,c2,G⟩:=VF.sR (s::fs) e.wr (λb a=>(e.out.nQ b<|hI b a).1) u z (λb a=>q.fresh (C:=[]) (hf b<|pP.2<|.inr a) λl=>F b l b a rfl)<|hg.right.mono e.out;exact⟨r,e.trans p,(c1.mono p.out).append c2,q.trans G (λb a=>pP.2<|.inl a) λb a=>pP.2<|.inr a⟩
end
def oS(S:St)(m:Mem):List VF->List AV->List Nat->Prop
 | [],vs,rs=>vs=[]/\rs=[]
 | f::fs,vs,rs=>∃id off b a cs,(f=.ptr f.sub\/f=.od f.sub)/\vs=.ptr id off::b/\rs=S.σ id::a/\m.at id=.cu f.fz cs/\cs.length=VF.mP f.sub/\oS S m fs b a
theorem oS.congr{i:St}{l:Mem}:∀{fs:List VF} {b:List AV} {c:List Nat},(∀j∈gb b,∀fz cs,m.at j=.cu fz cs->i.σ j=S.σ j/\∃a,l.at j=.cu fz a/\a.length=cs.length)->oS S m fs b c->oS i l fs b c
 | [],b,c,_,h=>h
 | f::fs,b,c,hk,h=>by
   obtain⟨id,off,g,e,cs,t,rfl,rfl,p,q,r⟩:=h;have⟨u,a,v,x⟩:=hk id (by simp_all;exact aJ) _ cs p;exact⟨id,off,g,e,a,t,rfl,by rw[u],v,x.trans q,r.congr λj s=>hk j (by simp_all;exact aD _ s)⟩
theorem oS.ids:∀{fs:List VF} {b:List AV} {a:List Nat},oS S m fs b a->a=(gb b).map S.σ
 | [],b,a,h=>by rw[h.1,h.2];rfl
 | f::fs,b,a,h=>by
   obtain⟨id,off,g,e,cs,i,rfl,rfl,_,_,c⟩:=h;rw[gb,eB,c.ids]
def VR.blk{p:List Value}{x:f.ty.T}(l:f=.ptr f.sub\/f=.od f.sub)(h:VR w I D f (.pointer (some ⟨b,0,none⟩)::p) x B):
  p=[]/\(f.fz=false->b∈B)/\(f.fz=true->I b)/\∃a T fr,w.heap[b]? = some (.cells a T fr)/\gS fr a.size/\a.size=VF.mP f.sub:=by
 generalize s:f.sub=gs at l;rcases l with rfl|rfl
 .obtain⟨c,r,rfl,e,a,T,fr,g,i,j⟩:=FM.1 h;simp at e;rw[e.1];exact⟨e.2,λ_=>aJ,λh=>(by cases h),a,T,fr,g,i,by rw[<-j.length,bF]⟩
 .obtain⟨c,e,q,a,T,fr,g,i,j⟩:=vO.1 h;simp at e;rw[e.1];exact⟨e.2,λh=>(by cases h),λ_=>q,a,T,fr,g,i,by rw[<-j.length,bF]⟩
def ru.head{g:VF}{p:List Nat}{x:Ty.Ts<|VF.iq<|f::g::fs}(t:f=.ptr f.sub\/f=.od f.sub)(h:ru w I D (f::g::fs) (nk<|b::p) x B):
  ∃c i,B=c++i/\VR w I D f [.pointer<|some ⟨b,0,none⟩] (Prod.fst (α:=f.ty.T) (β:=Ty.Ts<|VF.iq<|g::fs) x) c/\ru w I D (g::fs) (nk p) (Prod.snd (α:=f.ty.T) (β:=Ty.Ts<|VF.iq<|g::fs) x) i:=by
 obtain⟨q,v,c,i,e,rfl,j,l⟩:=AY.1 h;have r:=VR.length _ j;have s:f.size=1:=by rcases t with h|h<;>rw[h]<;>rfl
 rw[s] at r;cases q with
 | nil=>grind
 | cons a q=>
   have u:q=[]:=df.1<|Nat.succ.inj r;subst u;simp[nk,eB,oh,List.cons.injEq] at e;obtain⟨rfl,e⟩:=e;rw[<-show nk p=v from e] at l
   grind
theorem ru.roots{I:Nat->Prop}:∀{fs:List VF} {e:List AV} {b:List Nat} {x:Ty.Ts<|VF.iq fs} {B:List Nat},oS S m fs e b->ru w I D fs (nk b) x B->∀r∈b,r∈B\/I r
 | [],e,b,x,B,h,_,r,a=>by rw[h.2] at a;grind
 | [f],e,b,x,B,h,hv,r,a=>by
   obtain⟨id,off,q,p,cs,c,rfl,rfl,_,_,i⟩:=h;rw[i.2] at a;have⟨_,s,t,_⟩:=VR.blk c<|uj.1 hv
   grind
 | f::g::fs,e,b,x,B,h,hv,r,a=>by
   obtain⟨id,off,q,p,cs,c,rfl,rfl,_,_,i⟩:=h;obtain⟨u,v,rfl,j,l⟩:=ru.head c hv;have⟨_,s,t,_⟩:=VR.blk c j;rcases aF.1 a with rfl|a
   .grind
   .exact(ru.roots i l r a).imp (λh=>pP.2<|.inr h) λh=>h
def VF.FP{id off:Nat}{x:f.ty.T}{V:Mem}(hp:f=.ptr f.sub\/f=.od f.sub)(hW:WR w0 w S m)(hI:∀b,I b->S.I b)(hv:VR w I D f [.pointer<|some ⟨S.σ id,0,none⟩] x B)(hn:B.Nodup)
  (hB:∀b∈B,w0.free b/\¬S.I b/\∀j,S.lv j (m.at j)=true->S.σ j=b->j=id) (hm:m.at id=.cu f.fz r) (H:r.length=VF.mP f.sub) (hr:pT w I D S m g<|VF.rows f x) (h:VF.back af g f (.ptr id off) x m=some V) :
  ∃v,Step w0 w S m w v V/\(∀b,v.I b->S.I b)/\v.σ id=S.σ id/\(∀j,j<m.length->j≠id->V.at j=m.at j/\v.σ j=S.σ j/\v.vd j=S.vd j)/\∀j,m.length<=j->v.lv j (V.at j)=true->v.σ j∈B:=by
 have l:id<m.length:=Mem.pG λe=>by grind
 generalize hg:f.sub=gs at hp H;rcases hp with rfl|rfl
 .obtain⟨b,B',rfl,e,vs,T,fr,h1,Y,F⟩:=FM.1 hv;have⟨a3,a0⟩:=bR.1 hn;have⟨t,u,c1,s⟩:=VF.sR gs hW hI F a0 (λX z=>by
   have⟨k1,O,k3⟩:=hB X<|aD _ z;exact⟨k1,O,λj H he=>a3<|by grind⟩) hr
  simp[VF.back,Option.some.injEq] at h;subst h;have⟨o1,W,_⟩:=s.old id l;have a:(VF.writes af g gs x m).1.at id=.cu false r:=o1.trans hm;have q:t.lv id ((VF.writes af g gs x m).1.at id)=true:=by rw[a];rfl
  have G:t.fz id ((VF.writes af g gs x m).1.at id)=false:=by rw[a];rfl
  have c:id<(VF.writes af g gs x m).1.length:=bC l s.len;have hk:i6 ((VF.writes af g gs x m).1.at id)<|.cu false (VF.writes af g gs x m).2:=by
   rw[a];show _=_;rw[H,<-ru.length gs F,c1.length]
  have N:=kV u.wr (w':=w) (bx:=.cu false (VF.writes af g gs x m).2) q G hk (λh=>by rw[a] at h;cases h)<|rX.none _ _;have y:=u.wr.set (w':=w) (bx:=.cu false (VF.writes af g gs x m).2) q G hk (λh=>by rw[a] at h;cases h) rfl (rX.none _ _) ⟨vs,T,fr,by grind,Y,c1.mono N⟩;refine⟨t,u.trans ⟨y,N,.refl⟩,s.nQ,W,λj C i=>?_,λj C p=>?_⟩
  .rw[Mem.fV c,if_neg i];exact s.old j C
  .have i:j≠id:=λe=>by omega
   rw[Mem.fV c,if_neg i] at p;exact aD _<|s.new j C p
 .have⟨b,e,an,vs,T,fr,h1,Y,F⟩:=vO.1 hv;simp at e;have⟨t,u,c1,s⟩:=VF.sR gs hW hI F hn (λX z=>by
   have⟨k1,O,k3⟩:=hB X z;exact⟨k1,O,λj H he=>O<|by grind⟩) hr
  simp[VF.back,Option.some.injEq] at h;subst h;have⟨o1,W,_⟩:=s.old id l;have a:(VF.writes af g gs x m).1.at id=.cu true r:=o1.trans hm;have c:id<(VF.writes af g gs x m).1.length:=bC l s.len;have J:(VF.writes af g gs x m).2.length=r.length:=by rw[H,<-ru.length gs F,c1.length]
  have N:=lF u.wr a J;have y:=u.wr.Ai a J (by rw[W,e];omega) Y c1;have K:t.I<|t.σ id:=u.wr.Js id (by rw[a];rfl);refine⟨t.Js<|t.σ id,u.trans ⟨y,N,λb Z=>.inl<|Z.elim (λh=>h) λh=>h▸K⟩,λb Z=>s.nQ b<|Z.elim (λh=>h) λh=>h▸K,W,λj C i=>?_,λj C p=>?_⟩
  .rw[Mem.fV c,if_neg i];exact s.old j C
  .have i:j≠id:=λe=>by omega
   rw[Mem.fV c,if_neg i] at p;exact s.new j C p
theorem VF.xq{I:Nat->Prop}{g:Nat->AV}:∀(fs:List VF) {S:St} {m u:Mem} {l:List AV} {v:List Nat} {x:Ty.Ts<|VF.iq fs} {B:List Nat},WR w0 w S m->(∀b,I b->S.I b)->ru w I D fs (nk v) x B->B.Nodup->(∀b∈B,w0.free b/\¬S.I b)->
  oS S m fs l v->(gb l).Nodup->(∀b∈B,∀j,S.lv j (m.at j)=true->S.σ j=b->j∈gb l)->pT w I D S m g (VF.gF fs x)->VF.Kq af g fs l x m=some u->∃C,Step w0 w S m w C u/\∀b,C.I b->S.I b
 | [],S,m,u,l,v,x,B,hW,hI,hv,hn,hB,hr,hp,q,hrow,h=>by
   cases h;exact⟨S,.refl hW,λ_ h=>h⟩
 | [f],S,m,u,l,v,x,B,hW,hI,hv,hn,hB,hr,hp,q,hrow,h=>by
   obtain⟨id,off,p,y,cs,r,rfl,rfl,J,K,i⟩:=hr;obtain⟨rfl,rfl⟩:=i;have⟨C,z,s2,_⟩:=VF.FP r hW hI (uj.1 hv) hn (λb c=>⟨(hB b c).1,(hB b c).2,λj W V=>by have:=q b c j W V;rw[gb] at this;exact aO.1 this⟩) J K (by rw[VF.gF] at hrow;omega) h
   grind
 | f::O::fs,S,m,u,l,v,x,B,hW,hI,hv,hn,hB,hr,hp,q,hrow,h=>by
   obtain⟨id,off,p,y,cs,r,rfl,rfl,J,K,i⟩:=hr;simp only[VF.Kq] at h;obtain⟨B1,B2,rfl,s,t⟩:=ru.head r hv;have⟨n1,n2,n3⟩:=dY.1 hn;rw[gb] at hp q;have⟨p1,p2⟩:=bR.1 hp;have H:=ru.roots i t;have a6:∀j∈gb p,S.σ j∈B2\/I (S.σ j):=λj q=>H _ (by rw[i.ids];grind);split at h
   rotate_left
   simp_all
   rename_i Y c;have⟨N,z,X,q1,Z,q4⟩:=VF.FP r hW hI s n1 (λb c=>by grind) J K hrow.left c;have q5:∀j,j<m.length->j≠id->N.lv j (Y.at j)=S.lv j (m.at j):=λj a b=>by rw[(Z j a b).1,aaV (Z j a b).2.2]
   have⟨_,d1,d2,_⟩:=VR.blk r s;have G:oS N Y (O::fs) p y:=i.congr λj q fz cs hc=>by
    have a7:j<m.length:=Mem.pG λe=>by grind
    grind
   have⟨S2,s2,i2⟩:=VF.xq (O::fs) z.wr (λb c=>(z.out.nQ b<|hI b c).1) t n2 (λb c=>⟨(hB b<|pP.2<|.inr c).1,λF=>(hB b<|pP.2<|.inr c).2<|X b F⟩) G p2 (λb a5 j W V=>by grind) (hrow.right.mono z.out) h;exact⟨S2,z.trans s2,λb c=>X b<|i2 b c⟩
theorem zJ:∀{fs:List VF} {vs:List AV} {S:St} {m:Mem},WR w0 w S m->∃c,Step w0 w S m w c<|yA fs vs m
 | [],vs,S,m,hW=>⟨S,.refl hW⟩
 | f::fs,[],S,m,hW=>⟨S,.refl hW⟩
 | f::fs,v::vs,S,m,hW=>by
   have one:∃c,Step w0 w S m w c<|Rh f v m:=by
    cases f<;>(try exact⟨S,.refl hW⟩);cases v<;>(try exact⟨S,.refl hW⟩);rename_i r id off;simp only[Rh];cases hm:m.at id<;>(try exact⟨S,.refl hW⟩);have a:=hW.box id;rw[hm] at a;have⟨s,T,fr,i,j,l⟩:=a;refine⟨_,⟨hW.Ai hm rfl i j l,lF hW hm rfl,λb e=>?_⟩⟩;rcases e with e|rfl
    .grind
    .exact(hW.lo id (by rw[hm];rfl)).1
   have⟨q,g⟩:=one;have⟨h,p⟩:=zJ (fs:=fs) (vs:=vs) g.wr;exact⟨h,g.trans p⟩
def S_{rows:Nat->Option iN}{roots:List Nat}{fz:Bool}(a:rows i=none)(h:tL roots i=true):yr rows roots i (.cu fz cs)=.cu false (List.replicate cs.length .undef):=by unfold yr;rw[a,h]
def y5{rows:Nat->Option iN}{roots:List Nat}{b a:iN}(h:rows i=some a):yr rows roots i b=a:=by unfold yr;rw[h]
theorem EK{rows:Nat->Option iN}{roots:List Nat}:∀{ids:List Nat} {m:Mem},(Cq rows roots ids m).length=m.length
 | [],m=>rfl
 | i::ids,m=>by rw[Cq,EK,bW]
theorem N5{rows:Nat->Option iN}{roots:List Nat}:∀{ids:List Nat} {m:Mem} {j:Nat},ids.Nodup->(∀i∈ids,i<m.length)->(Cq rows roots ids m).at j=if j∈ids then yr rows roots j (m.at j) else m.at j
 | [],m,j,_,_=>by rfl
 | i::ids,m,j,hn,hl=>by
   have⟨n1,c⟩:=bR.1 hn;have a:=hl i aJ;rw[Cq,N5 c λk b=>by rw[bW];exact hl k<|aD _ b,Mem.fV a]
   grind
theorem DY:∀{n:Nat} {a:List Value},a.length=n->eH w S m (List.replicate n .undef) a
 | 0,a,h=>bw.2<|df.1 h
 | n+1,[],h=>by cases h
 | n+1,u::a,h=>bL.2 ⟨u,a,rfl,gQ,DY<|Nat.succ.inj h⟩
def Vw(l:WR w0 w S m){rows:Nat->Option iN}{roots ids:List Nat}(hn:ids.Nodup)(q:∀i∈ids,Ll m i)(hB:∀b∈B,∃j∈ids,yu S m j/\S.σ j=b){F:World}(an:F.os=w.os)(aq:F.tape=w.tape)(ae:w0.D->w.drawn<=F.drawn)(a3:F.output=w.output)
  (V:w.heap.size<=F.heap.size) (hh:∀b,b<w.heap.size->b ∉ B->F.heap[b]? = w.heap[b]?) {W:Nat->Prop} (N:∀b,W b->(S.I b\/b∈B\/w.heap.size<=b)/\b<F.heap.size) (ad:∀(b:Nat) (s:Array Value) (T:TypeId) (fr:Nat×Nat),w.heap[b]? = some (.cells s T fr)->∃(iM:Array Value) (T':TypeId) (iV:Nat×Nat),F.heap[b]? = some (.cells iM T' iV)/\iM.size=s.size)
  (v:∀i∈ids,∀C,rows i=some C->∃(t:Ty) (x H:List t.T),m.at i=.arr false t x/\C=.arr false t H/\H.length=x.length/\H.length<=fX/\S.vd i=false/\¬W (S.σ i)/\
    ∃(s:Array Value) (T:TypeId) (fr:Nat×Nat),F.heap[S.σ i]? = some (.cells s T fr)/\gS fr s.size/\S.δ i+H.length*t.size<=s.size/\∀(n:Nat) (y:t.T),H[n]? = some y->bT F W t ((s.toList.drop<|S.δ i+n*t.size).take t.size) y)
  (O:∀i∈ids,rows i=none->i∈roots->∀cs,m.at i=.cu false cs->¬W (S.σ i)/\∃s T fr,F.heap[S.σ i]? = some (.cells s T fr)/\gS fr s.size/\s.size=cs.length) :
  Step w0 w S m F {S with I:=λb=>S.I b\/W b} (Cq rows roots ids m):=by
 have am:∀i∈ids,i<m.length:=λi c=>Mem.pG λe=>by
  rcases q i c with ⟨t,x,h⟩|⟨cs,h⟩<;>rw[e] at h<;>cases h
 have r:=λj=>N5 (rows:=rows) (roots:=roots) (m:=m) (j:=j) hn am;have ac:∀b∈B,¬S.I b:=λb a=>by
  obtain⟨j,_,⟨g,J⟩,rfl⟩:=hB b a;exact l.qT j g J
 have Z:∀b∈B,w0.free b:=λb a=>by
  obtain⟨j,_,⟨g,J⟩,rfl⟩:=hB b a;exact l.lof g J
 have G:∀j,j ∉ ids->S.lv j (m.at j)=true->S.σ j ∉ B:=λj K hl a=>by
  have⟨k,hk,⟨g,J⟩,h3⟩:=hB _ a;exact K<|l.inj j k hl g h3.symm▸hk
 have z:∀j,S.lv j ((Cq rows roots ids m).at j)=true->S.lv j (m.at j)=true/\(j∈ids->(∃C,rows j=some C)\/rows j=none/\j∈roots/\∃cs,m.at j=.cu false cs/\(Cq rows roots ids m).at j=.cu false (List.replicate cs.length .undef)):=λj h=>by
  rw[r j] at h ⊢;by_cases K:j∈ids
  .rw[if_pos K] at h ⊢;cases u:rows j with
   | some C=>
     have⟨t,x,H,X,Y,_,_,e3,_⟩:=v j K C u;exact⟨by rw[X,rP,e3];rfl,λ_=>.inl ⟨C,rfl⟩⟩
   | none=>
   unfold yr at h ⊢;rw[u] at h ⊢;cases hr:tL roots j with
   | false=>rw[hr] at h;cases h
   | true=>
     rcases q j K with ⟨t,x,p⟩|⟨cs,p⟩
     .rw[hr,p] at h;cases h
     .rw[p];exact⟨rfl,λ_=>.inr ⟨rfl,jW.1 hr,cs,rfl,rfl⟩⟩
  grind
 have hO:dT w S m F {S with I:=λb=>S.I b\/W b} (Cq rows roots ids m):=by
  refine⟨λb a=>⟨.inl a,hh b (l.nQ b a) λh=>ac b h a⟩,λj K=>?_,λj hc=>?_⟩
  .by_cases c:j∈ids
   .by_cases hd:(Cq rows roots ids m).at j=.a_
    .refine⟨?_,λh=>absurd hd h⟩;rw[hd];cases p:m.at j<;>first|exact absurd p K|trivial
    .have g:=r j;rw[if_pos c] at g;cases u:rows j with
     | some C=>
       have⟨t,x,H,X,Y,e3,_⟩:=v j c C u;rw[g,y5 u,X,Y];exact⟨⟨rfl,e3,rfl⟩,λ_=>⟨rfl,rfl,rfl,λ_ s T fr h=>ad _ s T fr h⟩⟩
     | none=>
     unfold yr at g;rw[u] at g;cases hr:tL roots j with
     | false=>grind
     | true=>
       rw[hr] at g;rcases q j c with ⟨t,x,p⟩|⟨cs,p⟩
       .grind
       .rw[p] at g;rw[g,p];refine⟨by show _=_;grind,λ_=>⟨rfl,rfl,rfl,λ_ s T fr h=>?_⟩⟩
        grind
   .have g:=r j;rw[if_neg c] at g;rw[g];refine⟨fU K,λ_=>⟨rfl,rfl,rfl,λu s T fr h=>?_⟩⟩
    grind
  .by_cases c:j∈ids
   .rcases q j c with ⟨t,x,p⟩|⟨cs,p⟩<;>rw[p] at hc<;>cases hc
   grind
 refine⟨⟨an.trans l.os,l.tape.on aq ae,a3.trans l.output,bd l.size V,λb a=>?_,λb a=>?_,λj=>?_,λi j g J he=>l.inj i j (z i g).1 (z j J).1 he,λj h=>?_,λj h h'=>?_,λj h=>?_,λi b h=>⟨by rw[EK];exact(l.root i b h).1,(l.root i b h).2⟩,λb s T fr h=>by
  have⟨b9,T1,b2,g,J⟩:=l.cells b s T fr h
  grind⟩,hO,λb a=>?_⟩
 .rw[hh b (bC (nN.old a) l.size) λh=>a<|Z b h];exact l.base b a
 .rcases a with a|a
  .exact bC (l.nQ b a) V
  .exact(N b a).2
 .by_cases c:j∈ids
  .have g:=r j;rw[if_pos c] at g;rw[g];cases u:rows j with
   | some C=>
     have⟨t,x,H,X,Y,e3,e4,e5,_,s,T,fr,g1,g2,g3,g4⟩:=v j c C u;rw[y5 u,Y];exact⟨e4,λk=>by grind,λ_=>⟨s,T,fr,g1,g2,g3,λn y hy=>bT.mono (λb a=>⟨.inr a,rfl⟩) t<|g4 n y hy⟩⟩
   | none=>
   unfold yr;rw[u];cases hr:tL roots j with
   | false=>trivial
   | true=>
     rcases q j c with ⟨t,x,p⟩|⟨cs,p⟩
     .rw[p];trivial
     .rw[p];have⟨_,iM,T',iV,g1,g2,g3⟩:=O j c u (jW.1 hr) cs p;exact⟨iM,T',iV,g1,g2,DY<|by omega⟩
  .have g:=r j;rw[if_neg c] at g;rw[g];exact(l.box j).mono hO rfl rfl rfl λhl=>hh _ (l.lo j hl).2<|G j c hl
 .exact⟨(l.lo j (z j h).1).1.imp .inl<|λx=>x,bC (l.lo j (z j h).1).2 V⟩
 .have⟨l1,l2⟩:=z j h
  rintro (hI|hI)
  .by_cases c:j∈ids
   .rcases l2 c with ⟨C,u⟩|⟨_,_,cs,p,_⟩
    .have⟨t,x,H,X,_⟩:=v j c C u;exact l.qT j l1 (by rw[X];rfl) hI
    .exact l.qT j l1 (by rw[p];rfl) hI
   .rw[r j,if_neg c] at h';exact l.qT j l1 h' hI
  .by_cases c:j∈ids
   .grind
   .rw[r j,if_neg c] at h';rcases (N _ hI).1 with k|k|k
    .exact l.qT j l1 h' k
    .exact G j c l1 k
    .have g:=(l.lo j l1).2;have J:w.heap.size<=S.σ j:=k;omega
 .by_cases c:j∈ids
  .rw[r j,if_pos c] at h;cases u:rows j with
   | some C=>
     have⟨t,x,H,_,Y,_⟩:=v j c C u;rw[y5 u,Y,vV] at h;cases h
   | none=>
   unfold yr at h;rw[u] at h;cases hr:tL roots j with
   | false=>rw[hr] at h;cases h
   | true=>
     rcases q j c with ⟨t,x,p⟩|⟨cs,p⟩<;>rw[hr,p] at h<;>cases h
  .rw[r j,if_neg c] at h;exact .inl<|l.Js j h
 .rcases a with a|a
  .exact .inl a
  .rcases (N b a).1 with k|k|k
   .exact .inl k
   .exact .inr<|Z b k
   .exact .inr<|.inl<|bd l.size k
def PD(J:WR w0 w S m){x:f.ty.T}{ids:List Nat}{i:List Value}(K:f=.ptr f.sub\/f=.od f.sub)(h:VF.read m f cs=some (x,ids,r))(B:∀p∈VF.fx m f cs,D p.1=(S.σ p.2,S.δ p.2)/\S.vd p.2=false)(C:eH w S m cs i):
  ∃id b t,cs=.ptr id 0::r/\i=.pointer (some ⟨S.σ id,0,none⟩)::b/\eH w S m r b/\(f.fz=false->id∈ids)/\m.at id=.cu f.fz t/\t.length=VF.mP f.sub:=by
 generalize hg:f.sub=g at K
 have s:∀{fz:Bool} {v:AV} {cs:List AV} {i:List Value},eH w S m (v::cs) i->∀{y:Ty.Ts (VF.iq g)} {G:List Nat} {id:Nat} {l:List AV},v=.ptr id 0->m.at id=.cu fz l->VF.reads m g l=some (y,G,[])->(∀p∈VF.yz m g l,D p.1=(S.σ p.2,S.δ p.2)/\S.vd p.2=false)->
   ∃b,i=.pointer (some ⟨S.σ id,0,none⟩)::b/\eH w S m cs b/\l.length=VF.mP g:=by
  intro fz v cs i C y G id l F c a B;subst F;obtain⟨u,b,rfl,F,W⟩:=C.cons_inv;have j:=J.box id;rw[c] at j;obtain⟨vs,T,fr,N,O,z⟩:=j;rw[CR,c] at F;obtain⟨u1,u2,js,e,V,Y,Z,h5,H⟩:=VF.pK J g a B z;rw[bw.1 V,aL] at e;rw[<-e] at H;exact⟨b,by grind,W,by rw[<-H.length,z.length]⟩
 rcases K with rfl|rfl
 all_goals
  simp only[VF.read] at h;cases cs with
  | nil=>cases h
  | cons v cs=>
    cases v<;>(try simp only at h)<;>try (cases h;done)
    case ptr id off=>
     cases off with
     | succ _=>cases h
     | zero=>
       cases c:m.at id<;>rw[c] at h<;>(try simp only at h)<;>try (cases h;done)
       case cu fz l=>
        cases fz<;>(try (cases h;done));simp only at h;cases a:VF.reads m g l with
        | none=>grind
        | some q=>
          obtain⟨y,G,X⟩:=q;rw[a] at h;cases X with
          | cons _ _=>cases h
          | nil=>
            cases h;obtain⟨b,N,O,z⟩:=s C rfl c a (by simp only[VF.fx,c] at B;omega);exact⟨id,b,l,rfl,N,O,λh=>(by first|exact aJ|cases h),c,z⟩
def h_(h:iF (f::fs)=true):(f=.ptr f.sub\/f=.od f.sub)/\iF fs=true:=by
 cases f<;>simp only[iF] at h<;>first|(cases h;done)|exact⟨.inl rfl,h⟩|exact⟨.inr rfl,h⟩
theorem Et(v:WR w0 w S m):∀{fs:List VF} {c:List AV} {r:List Value} {x:Ty.Ts<|VF.iq fs} {ids:List Nat},iF fs=true->VF.reads m fs c=some (x,ids,[])->(∀p∈VF.yz m fs c,D p.1=(S.σ p.2,S.δ p.2)/\S.vd p.2=false)->eH w S m c r->
  oS S m fs c ((gb c).map S.σ)/\r=nk ((gb c).map S.σ)/\∀i∈gb c,∃fz cs,m.at i=.cu fz cs/\(fz=false->i∈ids)
 | [],c,r,x,ids,_,h,_,hc=>by
   obtain⟨_,_,rfl⟩:=h;exact⟨⟨rfl,rfl⟩,bw.1 hc,λi l=>absurd l aC⟩
 | [f],c,r,x,ids,e,h,hD,hc=>by
   have⟨q,_⟩:=h_ e;obtain⟨id,C,j,rfl,rfl,s,B,t,u⟩:=PD v q h (λp e=>hD p (by simp_all;exact pP.2<|.inl e)) hc;rw[bw.1 s];exact⟨⟨id,0,[],[],j,q,rfl,rfl,t,u,rfl,rfl⟩,rfl,λi l=>by rw[gb] at l;rw[aO.1 l];grind⟩
 | f::g::fs,c,r,x,ids,e,h,hD,hc=>by
   simp only[VF.reads] at h;cases h1:VF.read m f c with
   | none=>grind
   | some p=>
     have⟨a,H,G⟩:=p;rw[h1] at h;simp only at h;split at h
     simp_all
     rename_i b J N z;cases h;have⟨q,y⟩:=h_ e;obtain⟨id,C,j,rfl,rfl,s,B,t,u⟩:=PD v q h1 (λp e=>hD p (by simp_all;exact pP.2<|.inl e)) hc;obtain⟨F,rfl,K⟩:=Et v (fs:=g::fs) y z (λp e=>hD p (by rw[VF.yz,h1];simp_all)) s;refine⟨⟨id,0,G,_,j,q,rfl,rfl,t,u,F⟩,rfl,λi l=>?_⟩;rw[gb] at l
     grind
def ru.blocks:∀{fs:List VF} {p:List AV} {l:List Nat} {x:Ty.Ts<|VF.iq fs} {B:List Nat},oS S m fs p l->ru q I D fs (nk l) x B->
  ∀i∈gb p,∀cs,m.at i=.cu false cs->S.σ i∈B/\∃b T fr,q.heap[S.σ i]? = some (.cells b T fr)/\gS fr b.size/\b.size=cs.length:=by
 have one:∀{f:VF} {id:Nat} {x:f.ty.T} {B:List Nat} {a cs:List AV},(f=.ptr f.sub\/f=.od f.sub)->VR q I D f [.pointer<|some ⟨S.σ id,0,none⟩] x B->m.at id=.cu f.fz a->a.length=VF.mP f.sub->m.at id=.cu false cs->
   S.σ id∈B/\∃b T fr,q.heap[S.σ id]? = some (.cells b T fr)/\gS fr b.size/\b.size=cs.length:=by
  intro f id x B a cs e j s t r;have⟨_,H,_,b,T,fr,J,K,N⟩:=VR.blk e j
  grind
 intro fs
 induction fs with
 | nil=>intro p l x B h _ i c;rw[h.1] at c;exact absurd c aC
 | cons f fs ih=>
   intro p l x B h j i c cs r;obtain⟨id,off,C,z,a,e,rfl,rfl,s,t,u⟩:=h;rw[gb] at c;cases fs with
   | nil=>
     obtain⟨rfl,rfl⟩:=u;rcases aF.1 c with rfl|c
     .exact one e (uj.1 j) s t r
     .exact absurd c aC
   | cons g fs=>
     obtain⟨F,G,rfl,v,y⟩:=ru.head e j
     grind
theorem pI:∀{l:List Nat},og l=true->l.Nodup
 | [],_=>qj
 | i::l,h=>by
   rw[og,fZ,fM] at h;refine bR.2 ⟨λa=>?_,pI h.2⟩;rw[jW.2 a] at h
   grind
theorem wi{α β:Type}{f:α->β}:∀{l:List α},l.Nodup->(∀a∈l,∀b∈l,f a=f b->a=b)->(l.map f).Nodup
 | [],_,_=>qj
 | a::l,hn,h=>by
   have⟨i,c⟩:=bR.1 hn;refine bR.2 ⟨λj=>?_,wi c λx e y g=>h x (aD _ e) y<|aD _ g⟩
   grind
def wj(l:WR w0 w S m){ids c:List Nat}(q:c.Nodup)(r:∀j∈c,j∈ids)(g:∀j∈c,yu S m j):(c.map S.σ).Nodup/\(∀b∈c.map S.σ,¬S.I b)/\(∀b∈c.map S.σ,w0.free b)/\∀b∈c.map S.σ,∃j∈ids,yu S m j/\S.σ j=b:=by
 refine⟨wi q λa p b h e=>l.inj a b (g a p).1 (g b h).1 e,λb h=>?_,λb h=>?_,λb h=>?_⟩<;>obtain⟨j,i,rfl⟩:=dG.1 h
 .exact l.qT j (g j i).1 (g j i).2
 .exact l.lof (g j i).1 (g j i).2
 grind
theorem O7{α:Type}:∀{l:List<|Nat×α} {k:Nat} {a:α},look l k=some a->(k,a)∈l
 | [],k,a,h=>by cases h
 | (i,b)::l,k,a,h=>by
   rw[look] at h;cases hb:Nat.beq i k with
   | true=>simp_all
   | false=>rw[hb] at h;exact aD _<|O7 h
theorem BG{α:Type}:∀{l:List<|Nat×α} {k:Nat} {a:α},(l.map Prod.fst).Nodup->(k,a)∈l->look l k=some a
 | [],k,a,_,h=>absurd h aC
 | (i,b)::l,k,a,hn,h=>by
   have⟨n1,g⟩:=bR.1 hn;rw[look];rcases aF.1 h with h|h
   .simp_all
   .have c:i≠k:=λe=>n1<|e▸dG.2 ⟨(k,a),h,rfl⟩;rw[gJ.2 c];exact BG g h
theorem vU{rows:List<|Nat×iN}:∀{fx:List<|Nat×Nat} {i:Nat} {b:iN},G4 fx rows i=some b->∃k,(k,i)∈fx/\look rows k=some b
 | [],i,b,h=>by cases h
 | (k,id)::fx,i,b,h=>by
   rw[G4] at h;cases hb:Nat.beq id i with
   | true=>simp_all
   | false=>
     rw[hb] at h;have⟨e,a,c⟩:=vU h
     grind
theorem KL{rows:List<|Nat×iN}:∀{fx:List<|Nat×Nat} {k i:Nat},(fx.map Prod.snd).Nodup->(k,i)∈fx->G4 fx rows i=look rows k
 | [],k,i,_,h=>absurd h aC
 | (k',id)::fx,k,i,hn,h=>by
   have⟨n1,b⟩:=bR.1 hn;rw[G4];rcases aF.1 h with h|h
   .simp_all
   .have a:id≠i:=λe=>n1<|e▸dG.2 ⟨(k,i),h,rfl⟩;rw[gJ.2 a];exact KL b h
mutual
theorem Mi:∀(f:VF) {cs:List AV} {x:f.ty.T} {ids:List Nat} {r:List AV},VF.read m f cs=some (x,ids,r)->(VF.fx m f cs).map Prod.fst=f.Hl/\∀p∈VF.fx m f cs,∃(t:Ty) (y:List t.T),(p.1,iN.arr false t y)∈VF.rows f x/\m.at p.2=.arr false t y
 | .d t,cs,x,ids,r,h=>by rw[ayg];exact⟨by rfl,λp a=>absurd a aC⟩
 | .own t,cs,x,ids,r,h=>by rw[Rf];exact⟨by rfl,λp a=>absurd a aC⟩
 | .fix k t,cs,x,ids,r,h=>by
   simp only[VF.read] at h;cases cs with
   | nil=>cases h
   | cons v cs=>
     cases v<;>(try simp only at h)<;>try (cases h;done)
     case own id=>
      rw[VF.fx,VF.Hl,VF.rows]
      grind
 | .ptr fs,cs,x,ids,r,h=>by
   simp only[VF.read] at h;cases cs with
   | nil=>cases h
   | cons v cs=>
     cases v<;>(try simp only at h)<;>try (cases h;done)
     case ptr id off=>
      cases off with
      | succ _=>cases h
      | zero=>
        cases hm:m.at id<;>rw[hm] at h<;>(try simp only at h)<;>try (cases h;done)
        case cu fz l=>
         cases fz with
         | true=>cases h
         | false=>
           simp only at h;cases hrd:VF.reads m fs l with
           | none=>grind
           | some q=>
             have⟨y,c,b⟩:=q;rw[hrd] at h;cases b with
             | cons _ _=>cases h
             | nil=>
               cases h;simp only[VF.fx,hm];exact xO fs hrd
 | .od fs,cs,x,ids,r,h=>by
   simp only[VF.read] at h;cases cs with
   | nil=>cases h
   | cons v cs=>
     cases v<;>(try simp only at h)<;>try (cases h;done)
     case ptr id off=>
      cases off with
      | succ _=>cases h
      | zero=>
        cases hm:m.at id<;>rw[hm] at h<;>(try simp only at h)<;>try (cases h;done)
        case cu fz l=>
         cases fz with
         | false=>cases h
         | true=>
           simp only at h;cases hrd:VF.reads m fs l with
           | none=>grind
           | some q=>
             have⟨y,c,b⟩:=q;rw[hrd] at h;cases b with
             | cons _ _=>cases h
             | nil=>
               cases h;simp only[VF.fx,hm];exact xO fs hrd
theorem xO:∀(fs:List VF) {cs:List AV} {x:Ty.Ts<|VF.iq fs} {ids:List Nat} {r:List AV},VF.reads m fs cs=some (x,ids,r)->(VF.yz m fs cs).map Prod.fst=VF.i7 fs/\∀p∈VF.yz m fs cs,∃(t:Ty) (y:List t.T),(p.1,iN.arr false t y)∈VF.gF fs x/\m.at p.2=.arr false t y
 | [],cs,x,ids,r,h=>by rw[VF.yz,VF.i7];simp_all
 | [f],cs,x,ids,r,h=>by
   have c:VF.read m f cs=some (x,ids,r):=h;have b:VF.yz m [f] cs=VF.fx m f cs:=by
    rw[VF.yz,c];simp[VF.yz,aL]
   rw[b,VF.gF];simp only[VF.i7,aL];exact Mi f c
 | f::g::fs,cs,x,ids,r,h=>by
   simp only[VF.reads] at h;cases h1:VF.read m f cs with
   | none=>grind
   | some p=>
     have⟨a,s,e⟩:=p;rw[h1] at h;simp only at h;cases h2:VF.reads m (g::fs) e with
     | none=>grind
     | some q=>
       rw[h2] at h;cases h;have b:VF.yz m (f::g::fs) cs=VF.fx m f cs++VF.yz m (g::fs) e:=by rw[VF.yz,h1]
       have⟨a1,a2⟩:=Mi f h1;have⟨i,j⟩:=xO (g::fs) h2;rw[b,gk,a1,i];refine⟨by rfl,λp l=>?_⟩;rw[show VF.gF (f::g::fs) (a,q.1)=VF.rows f a++VF.gF (g::fs) q.1 from rfl]
       grind
end
def Wn(p:Nat×iN):Nat×Ty:=(p.1,match p.2 with | .arr _ t _=>t|_=>.bool)
mutual
theorem K5:∀(f:VF) (x a:f.ty.T),(VF.rows f x).map Wn=(VF.rows f a).map Wn/\(VF.rows f x).map Prod.fst=f.Hl/\∀p∈VF.rows f x,∃(t:Ty) (y:List t.T),p.2=.arr false t y
 | .d t,x,a=>by simp[VF.rows,VF.Hl]
 | .own t,x,a=>by simp[VF.rows,VF.Hl]
 | .fix k t,x,a=>by
   simp only[VF.rows];exact⟨rfl,rfl,λp b=>by grind⟩
 | .ptr fs,x,a=>by simp only[VF.Hl];exact nK fs x a
 | .od fs,x,a=>by simp only[VF.Hl];exact nK fs x a
theorem nK:∀(fs:List VF) (x a:Ty.Ts<|VF.iq fs),(VF.gF fs x).map Wn=(VF.gF fs a).map Wn/\(VF.gF fs x).map Prod.fst=VF.i7 fs/\∀p∈VF.gF fs x,∃(t:Ty) (y:List t.T),p.2=.arr false t y
 | [],x,a=>by simp[VF.gF,VF.i7]
 | [f],x,a=>by
   simp only[VF.i7,aL];exact K5 f x a
 | f::g::fs,x,a=>by
   have⟨a1,a2,b⟩:=K5 f (Prod.fst (α:=f.ty.T) (β:=Ty.Ts<|VF.iq<|g::fs) x)<|Prod.fst (α:=f.ty.T) (β:=Ty.Ts<|VF.iq<|g::fs) a;have⟨c,h,i⟩:=nK (g::fs) (Prod.snd (α:=f.ty.T) (β:=Ty.Ts<|VF.iq<|g::fs) x)<|Prod.snd (α:=f.ty.T) (β:=Ty.Ts<|VF.iq<|g::fs) a;have e:∀z,VF.gF (f::g::fs) z=VF.rows f (Prod.fst (α:=f.ty.T) (β:=Ty.Ts<|VF.iq<|g::fs) z)++VF.gF (g::fs) (Prod.snd (α:=f.ty.T) (β:=Ty.Ts<|VF.iq<|g::fs) z):=λz=>rfl;rw[e,e,gk,gk,gk,a1,c,a2,h];refine⟨rfl,by rfl,λp j=>(pP.1 j).elim (b p)<|i p⟩
end
def Wo{x a:Ty.Ts<|VF.iq fs}(v:(VF.i7 fs).Nodup)(N:VF.lens fs a=VF.lens fs x){k:Nat}{c:Ty}{y:List t.T}{j:List c.T}(h:(k,iN.arr false t y)∈VF.gF fs x)(u:(k,iN.arr false c j)∈VF.gF fs a):
  c=t/\j.length=y.length:=by
 have⟨C,F,_⟩:=nK fs x a;have⟨_,s,_⟩:=nK fs a x;have⟨i,p,e⟩:=jk.1 h;have⟨r,b,l⟩:=jk.1 u;have q:(VF.i7 fs)[i]? = some k:=by grind
 have B:(VF.i7 fs)[r]? = some k:=by grind
 have g:i=r:=by
  have⟨l1,l2⟩:=aU.1 q;have⟨l3,z⟩:=aU.1 B;exact(r_ v).1 (l2.trans z.symm)
 subst g;have G:((VF.gF fs x).map Wn)[i]? = some (k,t):=by rw[c_,KN p,e];rfl
 have H:((VF.gF fs a).map Wn)[i]? = some (k,c):=by rw[c_,KN b,l];rfl
 have J:(VF.lens fs x)[i]? = some y.length:=by rw[VF.lens,c_,KN p,e];rfl
 have K:(VF.lens fs a)[i]? = some j.length:=by rw[VF.lens,c_,KN b,l];rfl
 simp_all
mutual
theorem VR.row{w:World}{I:Nat->Prop}{k:Nat}{t:Ty}{y:List t.T}:∀(f:VF) {a:List Value} {x:f.ty.T} {B:List Nat},VR w I D f a x B->(k,iN.arr false t y)∈VF.rows f x->∃g,VR w I D (.fix k t) g y []
 | .d t,a,x,B,h,hm=>by simp[VF.rows] at hm
 | .own t,a,x,B,h,hm=>by simp[VF.rows] at hm
 | .fix k' t',a,x,B,h,hm=>by
   have e:=aO.1 hm;obtain⟨rfl,l⟩:=vP.1 h
   grind
 | .ptr fs,a,x,B,h,hm=>by
   have⟨b,j,_,_,i,T,fr,_,_,c⟩:=FM.1 h;exact ru.row fs c hm
 | .od fs,a,x,B,h,hm=>by
   have⟨b,_,_,i,T,fr,_,_,c⟩:=vO.1 h;exact ru.row fs c hm
theorem ru.row{w:World}{I:Nat->Prop}{k:Nat}{t:Ty}{y:List t.T}:∀(fs:List VF) {b:List Value} {x:Ty.Ts<|VF.iq fs} {B:List Nat},ru w I D fs b x B->(k,iN.arr false t y)∈VF.gF fs x->∃i,VR w I D (.fix k t) i y []
 | [],b,x,B,h,a=>by simp[VF.gF] at a
 | [f],b,x,B,h,a=>VR.row f (uj.1 h) a
 | f::g::fs,b,x,B,h,a=>by
   have⟨p,q,j,l,_,_,c,e⟩:=AY.1 h;rcases pP.1 (show _∈VF.rows f (Prod.fst (α:=f.ty.T) (β:=Ty.Ts<|VF.iq<|g::fs) x)++VF.gF (g::fs) (Prod.snd (α:=f.ty.T) (β:=Ty.Ts<|VF.iq<|g::fs) x) from a) with a|a
   .exact VR.row f c a
   .exact ru.row (g::fs) e a
end
mutual
theorem aa7{α:Type}{a:α}:∀(f:VF) {x:f.ty.T} {k:TV α},(VF.neT af f x k).Is a->k.Is a/\∀(l:Nat) (t:Ty) (y:List t.T),(l,iN.arr false t y)∈VF.rows f x->y≠ []
 | .d t,x,k,h=>⟨by simpa only[VF.neT] using h,λl t y b=>by simp[VF.rows] at b⟩
 | .own t,x,k,h=>⟨by simpa only[VF.neT] using h,λl t y b=>by simp[VF.rows] at b⟩
 | .fix k' t',x,k,h=>by
   have⟨c,g⟩:=h;refine⟨g,λl t y b=>?_⟩;have e:=aO.1 b;cases e
   rintro rfl
   cases c
 | .ptr fs,x,k,h=>by simp only[VF.neT] at h;simp only[VF.rows];exact Fg fs h
 | .od fs,x,k,h=>by simp only[VF.neT] at h;simp only[VF.rows];exact Fg fs h
theorem Fg{α:Type}{a:α}:∀(fs:List VF) {x:Ty.Ts<|VF.iq fs} {k:TV α},(VF.aa8 af fs x k).Is a->k.Is a/\∀(l:Nat) (t:Ty) (y:List t.T),(l,iN.arr false t y)∈VF.gF fs x->y≠ []
 | [],x,k,h=>⟨h,λl t y b=>by simp[VF.gF] at b⟩
 | [f],x,k,h=>aa7 f h
 | f::g::fs,x,k,h=>by
   have⟨c,e⟩:=aa7 f (x:=Prod.fst (α:=f.ty.T) (β:=Ty.Ts<|VF.iq<|g::fs) x) h;have⟨i,j⟩:=Fg (g::fs) c;exact⟨i,λl t y b=>(pP.1<|show _∈VF.rows f (Prod.fst (α:=f.ty.T) (β:=Ty.Ts<|VF.iq<|g::fs) x)++VF.gF (g::fs) (Prod.snd (α:=f.ty.T) (β:=Ty.Ts<|VF.iq<|g::fs) x) from b).elim (e l t y)<|j l t y⟩
end
def JI{g:FuncId}{s:cH}(hs:s.bI P g)(di:¬w0.D)(hW:WR w0 w S m)(ha:eH w S m aa C.toList)(h:(LV af s m aa).Is (v,m'))(cs:List Frame):
  ∃w' S' z iV,Step w0 w S m w' S' m'/\CR w' S' m' v z/\Steps P (lone (Frame.enter P g C .normal) cs w) (lone iV cs w')/\iV.leaving P w' (.returned z):=by
 unfold LV at h;split at h;exact h.elim;rename_i dj;have⟨L,hL,bj⟩:=ox dj<|ha.drop s.aN.length;cases hf:fL af s.args m ((aa.drop s.aN.length).flatMap AV.cells) with
 | none=>rw[hf] at h;exact h.elim
 | some q=>
   have⟨m1,cx⟩:=q;rw[hf] at h;simp only at h;have⟨S1,s1,d7⟩:=g_ hW hf hL;cases htd:q9 s.args cx with
   | none=>rw[htd] at h;exact h.elim
   | some q=>
     have⟨y,r⟩:=q;rw[htd] at h;cases r with
     | cons _ _=>exact h.elim
     | nil=>
       have⟨v1,v2,e2,hy,dl⟩:=nM s.args htd d7;rw[bw.1 dl,aL] at e2;rw[<-e2] at hy;have⟨c,G⟩:=zJ (fs:=s.aN) (vs:=aa.take s.aN.length) s1.wr;have a3:=(ha.take s.aN.length).mono (s1.trans G).out;have dt:=gp.mono G.out.nQ _ hy;generalize yA s.aN (aa.take s.aN.length) m1=mz at h G a3;generalize fk:aa.take s.aN.length=B at h a3;cases hrd:VF.reads mz s.aN B with
       | none=>rw[hrd] at h;exact h.elim
       | some q=>
         have⟨x,ids,r⟩:=q;rw[hrd] at h;cases r with
         | cons _ _=>exact h.elim
         | nil=>
           simp only at h;cases hck:og ids&&(og (gb B)&&(iF s.aN&&og (VF.i7 s.aN))) with
           | false=>rw[hck] at h;exact h.elim
           | true=>
             rw[hck] at h;rw[fZ,fZ,fZ] at hck;have⟨b6,b7,b8,b9⟩:=hck;have hn:=pI b6;have bh:=pI b7;generalize ae:VF.yz mz s.aN B=fx at h;have⟨W,H⟩:=xO s.aN hrd;rw[ae] at W H;have bc:=pI b9;have ba:(fx.map Prod.fst).Nodup:=by simp_all
             cases hbk:YM af s fx B (af.k s.fn (x,y)).1 ids mz with
             | none=>rw[hbk] at h;exact h.elim
             | some m2=>
             rw[hbk] at h;have⟨ab,h⟩:=Po h λk=>hs.all k (x,y);have⟨h,dg⟩:=Fg s.aN h;cases h;generalize d5:(λk=>match look fx k with|some id=>(c.σ id,c.δ id)|none=>(0,0))=D;have hD:∀p∈fx,D p.1=(c.σ p.2,c.δ p.2)/\c.vd p.2=false:=λp hp=>by
              have⟨t,l,r1,r2⟩:=H p hp;refine⟨by rw[<-d5];simp[BG ba<|show(p.1,p.2)∈fx from hp],?_⟩;have b5:=G.wr.box p.2;rw[r2] at b5;cases hv:c.vd p.2 with
              | false=>rfl
              | true=>exact absurd (b5.2.1 hv)<|dg _ t l r1
             have⟨u1,u2,js,e3,dm,F,be,am,c8⟩:=VF.pK (D:=D) G.wr s.aN hrd (by grind) a3;rw[ae] at F be;have a8:oW D s.aN=(fx.map Prod.snd).map c.σ:=by
              rw[oW,<-W,gn,gn];exact fj λp hp=>by grind
             have d4:(js++fx.map Prod.snd).map c.σ=js.map c.σ++oW D s.aN:=by simp_all
             rw[bw.1 dm,aL] at e3;have⟨K,e4,bt⟩:=Et G.wr b8 hrd (by rw[ae];omega) a3;rw[<-e3,e4] at c8;have⟨b1,b2,b3,b4⟩:=wj G.wr (F.2 hn) F.1 be;rw[d4] at b1 b2 b3 b4;have bk:∀i∈gb B,c.lv i (mz.at i)=true:=λi N=>by
              have⟨fz,cs,e1,_⟩:=bt i N;rw[e1];rfl
             have dn:((gb B).map c.σ).Nodup:=wi bh λa ha b hb e=>G.wr.inj a b (bk a ha) (bk b hb) e
             .have⟨e',w',iV,⟨z,he,g1,g2,g3,g4,g5,I',B',g6,gc,g7,g8,g9,O⟩,J,_,a4⟩:=hs.calls w c.I D x y _ _ _ G.wr.nQ c8 dn b1 b2 (bj _ y dt) ab cs;subst he;have ea:C=(nk ((gb B).map c.σ)++C.toList.drop s.aN.length).toArray:=by
               rw[<-e4,fu,lV]
              rw[<-ea] at J;have b0:=ru.blocks K g7;generalize Y:G4 fx (VF.gF s.aN (s.fn (x,y)).1)=rows;have bm:∀i∈gb B,rows i=none:=λi N=>by
               cases X:rows i with
               | none=>rfl
               | some bx=>
                 rw[<-Y] at X;have⟨k,Z,_⟩:=vU X
                 grind
              have bz:(fx.map Prod.snd).Nodup:=(dY.1<|F.2 hn).2.1;have ag:=hs.keep x y ab
              have bn:∀i∈ids,∀bx,rows i=some bx->∃(t:Ty) (x x':List t.T),mz.at i=.arr false t x/\bx=.arr false t x'/\x'.length=x.length/\x'.length<=fX/\c.vd i=false/\¬I' (c.σ i)/\
                ∃(us:Array Value) (T:TypeId) (fr:Nat×Nat),w'.heap[c.σ i]? = some (.cells us T fr)/\gS fr us.size/\c.δ i+x'.length*t.size<=us.size/\∀(n:Nat) (y:t.T),x'[n]? = some y->bT w' I' t ((us.toList.drop<|c.δ i+n*t.size).take t.size) y:=λi N bx X=>by
               rw[<-Y] at X;have⟨k,Z,q2⟩:=vU X;have⟨t,l,r1,r2⟩:=H _ Z;have q3:=O7 q2;have⟨_,_,q4⟩:=nK s.aN (s.fn (x,y)).1 (s.fn (x,y)).1;have⟨t',l',e⟩:=q4 _ q3;subst e;obtain⟨rfl,bb⟩:=Wo bc ag r1 q3;have⟨iM,hv⟩:=ru.row s.aN g7 q3;have⟨_,az,_,k1,k2,an,T,fr,k3,k4,k5,k6⟩:=vP.1 hv;have⟨d1,d2⟩:=hD _ Z;rw[d1] at k3 k5 k6;refine⟨t',l,l',r2,rfl,bb,k2,d2,?_,an,T,fr,k3,k4,bd (fN (aI _ k1) _) k5,k6⟩;exact(g9 _<|pP.2<|.inr (by rw[a8];exact dG.2 ⟨i,dG.2 ⟨_,Z,rfl⟩,rfl⟩)).2
              have s3:=Vw (rows:=rows) (roots:=gb B) G.wr hn am b4 g1 g2 (λk=>absurd k di) g3 g4 g5 g6 gc bn λi N _ db cs hm=>by have:=b0 i db cs hm;exact⟨(g9 _<|pP.2<|.inl this.1).2,this.2⟩
              have de:∀i∈ids,i<mz.length:=λi N=>Mem.pG λe=>by
               rcases am i N with ⟨t,x,h⟩|⟨cs,h⟩<;>rw[e] at h<;>cases h
              have V:=λj=>N5 (rows:=rows) (roots:=gb B) (m:=mz) (j:=j) hn de;have hA:∀b∈B',w0.free b/\¬(c.I b\/I' b):=λb hb=>by
               have⟨k1,k2⟩:=g9 b<|pP.2<|.inl hb;refine⟨k1.elim (b3 b) λk=>.inl<|bd G.wr.size k,λhI=>hI.elim (λhI=>?_) k2⟩;rcases k1 with k1|k1
               .grind
               .have:=G.wr.nQ b hI;omega
              have hR:oS {c with I:=λb=>c.I b\/I' b} (Cq rows (gb B) ids mz) s.aN B ((gb B).map c.σ):=K.congr λj hj fz cs hm=>by
               have⟨ew,es,e1,e2⟩:=bt j hj;rw[hm] at e1;cases e1;cases fz with
               | false=>
                 refine⟨rfl,List.replicate cs.length .undef,?_,Ht⟩;rw[V j,if_pos<|e2 rfl,hm,S_ (bm j hj)<|jW.2 hj]
               | true=>
                 refine⟨rfl,cs,?_,rfl⟩;rw[V j,if_neg λN=>by rcases am j N with ⟨t,x,h⟩|⟨cs,h⟩<;>rw[h] at hm<;>cases hm];omega
              have hC:∀b∈B',∀j,c.lv j ((Cq rows (gb B) ids mz).at j)=true->c.σ j=b->j∈gb B:=λb hb j hl he=>by
               by_cases N:j∈ids
               .rw[V j,if_pos N] at hl;cases X:rows j with
                | some bx=>
                  rw[<-Y] at X;have⟨k,Z,_⟩:=vU X;have⟨_,_,n3⟩:=dY.1 g8;exact absurd (by rw[a8,<-he];exact dG.2 ⟨j,dG.2 ⟨_,Z,rfl⟩,rfl⟩) λk=>n3 b hb b k rfl
                | none=>
                unfold yr at hl;rw[X] at hl;cases hr:tL (gb B) j with
                | false=>rw[hr] at hl;cases hl
                | true=>exact jW.1 hr
               .rw[V j,if_neg N] at hl;rcases (g9 b (pP.2 (.inl hb))).1 with k|k
                .have⟨i,d8,⟨l1,_⟩,l3⟩:=b4 b k;exact absurd (G.wr.inj j i hl l1 (he.trans l3.symm)▸d8) N
                .have h1:=(G.wr.lo j hl).2;omega
              have dr:pT w' I' D {c with I:=λb=>c.I b\/I' b} (Cq rows (gb B) ids mz) (al7 fx) (VF.gF s.aN (s.fn (x,y)).1):=λk t l us hm hv=>by
               have⟨_,f2,_⟩:=nK s.aN (s.fn (x,y)).1 (s.fn (x,y)).1;have hk:k∈fx.map Prod.fst:=by rw[W,<-f2];exact dG.2 ⟨_,hm,rfl⟩
               obtain⟨⟨k',id⟩,Z,rfl⟩:=dG.1 hk;have⟨d1,d2⟩:=hD _ Z;have d9:id∈ids:=F.1 id<|pP.2<|.inr<|dG.2 ⟨_,Z,rfl⟩;have X:rows id=some (.arr false t l):=by rw[<-Y,KL bz Z];exact BG (by rw[f2];exact bc) hm
               obtain⟨_,az,rfl,k1,k2,an,T,fr,k3,k4,k5,k6⟩:=vP.1 hv;rw[d1] at k3 k5 ⊢;rw[al7,BG ba Z];refine bL.2 ⟨_,[],rfl,?_,bw.2 rfl⟩;rw[CR,V id,if_pos d9,y5 X];exact .inr ⟨d2,az,rfl,k1,an,T,fr,k3,k5⟩
              rw[YM,show(af.k s.fn (x,y))=s.fn (x,y) from rfl,Y] at hbk;have⟨S3,s4,_⟩:=VF.xq (I:=I') (D:=D) s.aN s3.wr (λb hb=>.inr hb) g7 (dY.1 g8).1 hA hR bh hC dr hbk;refine⟨w',S3,z,iV,(s1.trans G).trans<|s3.trans s4,?_,J,a4⟩;cases hrp:s.rp with
              | false=>
                rw[hrp] at O;exact Ix (I:=I') (λb hb=>(s4.out.nQ b<|.inr hb).1) O
              | true=>
                rw[hrp] at O;have O:(nk<|(gb B).map c.σ).head? = some z:=O;have e5:C.toList.head? = some z:=by grind
                have hc:=ha.mono ((s1.trans G).trans<|s3.trans s4).out;cases aa with
                | nil=>rw[bw.1 ha] at e5;cases e5
                | cons a as=>
                  have⟨u,us,e6,hu,_⟩:=bL.1 hc;rw[e6] at e5;cases e5;exact hu
theorem GY:∀{fs:List FuncId} {b:List AV} {i:List Value},GX fs b=true->eH w S m b i->i=fnV fs
 | [],b,i,h,hc=>by
   cases b with
   | nil=>exact bw.1 hc
   | cons _ _=>cases h
 | f::fs,b,i,h,hc=>by
   cases b with
   | nil=>cases h
   | cons v b=>
     obtain⟨u,r,rfl,q,p⟩:=bL.1 hc;cases v<;>(try (cases h;done));rename_i g a c;cases a<;>(try (cases h;done));cases c<;>(try (cases h;done));have h:=(fZ _ _).mp (show(Nat.beq g f&&GX fs b)=true from h);have⟨x,y,e,j,l⟩:=vo.1 q;rw[GY h.2 p,e,eG.1<|bw.1 j,eG.1<|bw.1 l,vH h.1];rfl
def SL(a:WR w0 w S m){id:Nat}{x F:List t.T}(J:m.at id=.arr false t x)(r:F.length=x.length){N:Nat->Prop}(a3:q.os=w.os)(a4:q.tape=w.tape)(Z:w0.D->w.drawn<=q.drawn)(K:q.output=w.output)(C:w.heap.size<=q.heap.size)
  (hh:∀b,b<w.heap.size->(S.vd id=false->b≠S.σ id)->q.heap[b]? = w.heap[b]?) (G:∀b,N b->(S.I b\/w.heap.size<=b)/\b<q.heap.size) (Y:∀(b:Nat) (u:Array Value) (T:TypeId) (fr:Nat×Nat),w.heap[b]? = some (.cells u T fr)->∃(iM:Array Value) (T':TypeId) (iV:Nat×Nat),q.heap[b]? = some (.cells iM T' iV)/\iM.size=u.size)
  (g:S.vd id=false->F.length<=fX/\∃(u:Array Value) (T:TypeId) (fr:Nat×Nat),q.heap[S.σ id]? = some (.cells u T fr)/\gS fr u.size/\S.δ id+F.length*t.size<=u.size/\∀(i:Nat) (y:t.T),F[i]? = some y->bT q N t ((u.toList.drop<|S.δ id+i*t.size).take t.size) y) :
  Step w0 w S m q {S with I:=λb=>S.I b\/N b} (m.set id<|.arr false t F):=by
 have p:id<m.length:=Mem.pG λe=>by simp_all
 have s:S.vd id=false->S.lv id (m.at id)=true/\S.fz id (m.at id)=false:=λh=>by grind [rP,vV]
 have c:∀j,S.lv j (Mem.at (m.set id<|.arr false t F) j)=true->S.lv j (m.at j)=true/\(j=id->S.vd id=false):=λj h=>by
  rw[Mem.fV p] at h;by_cases l:j=id
  .subst l;rw[if_pos rfl] at h;rw[J];exact⟨h,λ_=>by have e:(!S.vd j)=true:=h;simpa using e⟩
  grind
 have B:∀j,S.lv j (m.at j)=true->j≠id->q.heap[S.σ j]? = w.heap[S.σ j]? :=λj O hj=>hh _ (a.lo j O).2 λv e=>hj<|a.inj j id O (s v).1 e;have hO:dT w S m q {S with I:=λb=>S.I b\/N b} (m.set id<|.arr false t F):=by
  refine⟨λb g=>⟨.inl g,hh b (a.nQ b g) λv e=>a.qT id (s v).1 (s v).2<|e▸g⟩,λj hj=>?_,λj hc=>?_⟩
  .rw[Mem.fV p];by_cases l:j=id
   .subst l;rw[if_pos rfl,J];exact⟨⟨rfl,r,rfl⟩,λ_=>⟨rfl,rfl,rfl,λ_ u T fr h=>Y _ u T fr h⟩⟩
   .rw[if_neg l]
    grind [fU]
  .rw[Mem.fV p];by_cases l:j=id
   .subst l;rw[J] at hc;cases hc
   grind
 refine⟨⟨a3.trans a.os,a.tape.on a4 Z,K.trans a.output,bd a.size C,λb g=>?_,λb g=>?_,λj=>?_,λi j W h2 l=>a.inj i j (c i W).1 (c j h2).1 l,λj h=>?_,λj h V=>?_,λj h=>?_,λi b h=>⟨by rw[bW];exact(a.root i b h).1,(a.root i b h).2⟩,λb u T fr h=>by
  have⟨ad,T1,ab,W,h2⟩:=a.cells b u T fr h
  grind⟩,hO,λb g=>?_⟩
 .rw[hh b (bC (nN.old g) a.size) λv e=>g<|e▸a.lof (s v).1 (s v).2];exact a.base b g
 .rcases g with g|g
  .exact bC (a.nQ b g) C
  grind
 .rw[Mem.fV p];by_cases l:j=id
  .subst l;rw[if_pos rfl];have z:=a.box j;rw[J] at z;refine⟨by rw[r];exact z.1,λe=>df.1 (by rw[r,z.2.1 e];rfl),λv=>?_⟩
   grind [bT.mono]
  .rw[if_neg l];exact(a.box j).mono hO rfl rfl rfl λO=>B j O l
 .exact⟨(a.lo j (c j h).1).1.imp .inl<|λx=>x,bC (a.lo j (c j h).1).2 C⟩
 .have H:S.fz j (m.at j)=false:=by
   rw[Mem.fV p] at V;by_cases l:j=id
   .subst l;rw[J];rfl
   .rw[if_neg l] at V;exact V
  rintro (X|X)
  .exact a.qT j (c j h).1 H X
  .rcases (G _ X).1 with k|k
   .exact a.qT j (c j h).1 H k
   .have W:=(a.lo j (c j h).1).2
    grind
 .rw[Mem.fV p] at h;by_cases l:j=id
  .subst l;rw[if_pos rfl,vV] at h;cases h
  .rw[if_neg l] at h;exact .inl<|a.Js j h
 .rcases g with g|g
  .exact .inl g
  .rcases (G b g).1 with k|k
   .exact .inl k
   .exact .inr<|.inl<|bd a.size k
def Xh{b:Bool}{a:List AV}(h:eH w S m a c):eH w S m (Qg b a)<|Qg b c:=by
 cases b
 .exact h
 .show eH w S m (a.drop (a.length-1)++a.take (a.length-1))<|c.drop (c.length-1)++c.take (c.length-1);rw[h.length];exact(h.drop _).append (h.take _)
def WX{b:Bool}{l:List α}{a:α}{r:List α}(h:Qg b l=a::r):l=zv b a r:=by
 cases b
 .exact h
 .have h:l.drop (l.length-1)++l.take (l.length-1)=a::r:=h;show l=r ++ [a];cases e:l.drop (l.length-1) with
  | nil=>
    rw[List.drop_eq_nil_iff] at e;have:l=[]:=aY (by omega);subst this;cases h
  | cons x t=>
    have i:t=[]:=by
     have:=congrArg List.length e;rw[dQ,bp] at this;exact aY (by omega)
    subst i;rw[e,lf] at h;injection h with c g;rw[<-g,<-c,<-e,fu]
def Vt{b:Bool}{a:α}{l:List α}:(zv b a l).length=l.length+1:=by
 cases b
 .rfl
 .exact t_
def Xg{b:Bool}{a:AV}{v:Value}{L:List AV}(h:CR w S m a v)(g:eH w S m L c):eH w S m (zv b a L)<|zv b v c:=by
 cases b
 .exact bL.2 ⟨v,_,rfl,h,g⟩
 .exact g.append<|bL.2 ⟨v,[],rfl,h,bw.2 rfl⟩
def JH{g:FuncId}{s:gg}(hs:s.bI P g)(ab:¬w0.D)(hW:WR w0 w S m)(ha:eH w S m aa C.toList)(h:(LU af s m aa).Is (v,m'))(cs:List Frame):
  ∃O S' z iV,Step w0 w S m O S' m'/\CR O S' m' v z/\Steps P (lone (Frame.enter P g C .normal) cs w) (lone iV cs O)/\iV.leaving P O (.returned z):=by
 unfold LU at h;have a8:=Xh (b:=s.xh) ha;cases hsw:Qg s.xh aa with
 | nil=>rw[hsw] at h;exact h.elim
 | cons a rest=>
   rw[hsw] at h a8;simp only at h;have⟨u,bx,e,hu,G⟩:=bL.1 a8;cases hok:kE s.args (rest.take s.args.length)&&GX s.l_ (rest.drop s.args.length) with
   | false=>rw[hok] at h;exact h.elim
   | true=>
     rw[hok] at h;rw[fZ] at hok;have⟨L,hL,N⟩:=ox hok.1<|G.take s.args.length;have ba:=GY hok.2<|G.drop s.args.length;cases hf:fL af s.args m ((rest.take s.args.length).flatMap AV.cells) with
     | none=>rw[hf] at h;exact h.elim
     | some q=>
       have⟨m1,aw⟩:=q;rw[hf] at h;simp only at h;have⟨K,J,b8⟩:=g_ hW hf hL;cases htd:q9 s.args aw with
       | none=>rw[htd] at h;exact h.elim
       | some q=>
         have⟨y,r⟩:=q;rw[htd] at h;cases r with
         | cons _ _=>exact h.elim
         | nil=>
           have⟨v1,v2,e2,hy,be⟩:=nM s.args htd b8;rw[bw.1 be,aL] at e2;rw[<-e2] at hy;have ac:=hu.mono J.out;have ea:C=(zv s.xh u<|bx.take s.args.length++fnV s.l_).toArray:=by
            rw[<-ba,fu,<-WX e,lV]
           have read:∀{x:List s.elem.T} {ids:List Nat},VF.read m1 (.own s.elem) [a]=some (x,ids,[])->∃H:List Nat,(ids.Nodup->H.Nodup)/\(∀j∈H,j∈ids)/\(∀j∈H,yu K m1 j)/\VR w K.I (λ_=>(0,0)) (.own s.elem) [u] x (H.map K.σ):=by
            intro x ids bh;have⟨u1,u2,H,e3,h2,h3,h4,_,h6⟩:=VF.wv (D:=λ_=>(0,0)) J.wr (.own s.elem) bh (by rw[Rf];exact λp hp=>absurd hp aC)<|bL.2 ⟨u,[],rfl,ac,bw.2 rfl⟩;rw[Rf] at h3 h4;rw[nV,mK,aL] at h3;rw[mK,aL] at h4;rw[bw.1 h2,aL] at e3;rw[<-e3] at h6;exact⟨H,h3.2,h3.1,h4,h6⟩
           cases a<;>(try simp only at h)<;>(try exact h.elim)
           case own id=>
            cases hm:m1.at id<;>rw[hm] at h<;>(try simp only at h)<;>(try exact h.elim);rename_i fz t x;cases fz with
            | true=>exact h.elim
            | false=>
              simp only at h;by_cases l:t.beq s.elem=true
              .rw[dif_pos l] at h;have ht:=Ty.eq_of_beq l;have⟨el,as,cc,d0,cx,a5,ct⟩:=s;subst ht;have⟨F,h⟩:=h;cases h;have⟨H,j0,j1,j2,Y⟩:=read (x:=x) (ids:=[id]) (by simp only[VF.read,hm];rw[dif_pos l];rfl);have⟨b1,b2,b3,b4⟩:=wj J.wr (j0<|by simp) j1 j2;have⟨e',O,iV,⟨z,he,Z,g2,g3,g4,g5,I',g6,gc,g7,g8⟩,c,_,B⟩:=hs.calls w K.I x y u _ _ J.wr.nQ Y b2 (N _ y hy) F cs;subst he;rw[<-ea] at c;have X:=ac;rw[CR,hm] at X;have hB:∀b∈H.map K.σ,K.vd id=false/\b=K.σ id:=λb l=>by
                have⟨j,hj,l1,l2⟩:=b4 b l;rw[aO.1 hj] at l1 l2;exact⟨by have:=l1.1;rw[hm,rP] at this;simpa using this,l2.symm⟩
               have W:(a5 (x,y)).1.length=x.length:=by
                rcases ob.1 g7 with ⟨k1,_,a,k3⟩|⟨b,dl,av,k2,k3,_⟩<;>rcases X with ⟨_,l1,a',l2⟩|⟨l1,a4,l2,_⟩
                all_goals grind
               have s2:=SL J.wr hm W Z g2 (λk=>absurd k ab) g3 g4 (λb l hx=>g5 b l λa9=>hx (hB b a9).1 (hB b a9).2) g6 gc λhx=>by
                rcases X with ⟨l1,_⟩|⟨l1,a4,l2,_⟩
                .grind
                .rcases ob.1 g7 with ⟨k1,kB,a,k3⟩|⟨b,dl,av,k2,k3,k4,k5,us,T,fr,k6,k7,k8,k9⟩
                 .have V:=J.wr.box id;rw[hm] at V;have⟨bz,T2,az,Z,g2,g3,g4⟩:=V.2.2 hx;exact⟨by rw[W];exact V.1,bz,T2,az,by rw[g5 _ (yD Z) (by rw[kB];exact aC)];exact Z,g2,by rw[W];exact g3,λi z hz=>by rw[show(a5 (x,y)).1=[] from k1] at hz;cases hz⟩
                 .rw[l2] at k3;simp at k3;have⟨⟨q1,q2⟩,_,q4⟩:=k3;refine⟨k5,us,T,fr,by rw[q1];exact k6,k7,?_,by rw[q2];exact k9⟩;rw[q2];exact bd (fN (aI _ k4) _) k8
               exact⟨O,_,z,iV,J.trans s2,Ix (I:=I') (λb l=>Or.inr l) g8,c,B⟩
              .rw[dif_neg l] at h;exact h.elim
           case fG b0=>
            have⟨F,h⟩:=h;cases h;have⟨H,j0,j1,j2,Y⟩:=read (x:=[]) (ids:=[]) (by rfl);have bc:H=[]:=List.eq_nil_iff_forall_not_mem.2 λj hj=>absurd (j1 j hj) aC;subst bc;have⟨e',O,iV,⟨z,he,Z,g2,g3,g4,g5,I',g6,gc,g7,g8⟩,c,_,B⟩:=hs.calls w K.I [] y u _ _ J.wr.nQ Y (λb l=>absurd l aC) (N _ y hy) F cs;subst he;rw[<-ea] at c;have s2:=Step.extend J.wr Z g2 (λk=>absurd k ab) g3 g4 (λb l=>g5 b l aC) λb l=>(g6 b l).1.imp (λh=>h) λk=>⟨k,(g6 b l).2⟩;exact⟨O,_,z,iV,J.trans s2,Ix (I:=I') (λb l=>Or.inr l) g8,c,B⟩
def UT{e:List AV}(h:eH w S m e c):CR w S m (gU e)<|anr c:=by
 match e,c,h with
 | [],c,h=>rw[bw.1 h];exact kC.2 ⟨#[],rfl,bw.2 rfl⟩
 | [a],c,h=>
   obtain⟨u,q,rfl,j,g⟩:=bL.1 h;rw[bw.1 g];exact j
 | a::b::e,c,h=>
   obtain⟨u,q,rfl,j,g⟩:=bL.1 h;obtain⟨r,i,rfl,p,l⟩:=bL.1 g;exact kC.2 ⟨(u::r::i).toArray,rfl,h⟩
def JJ{g:FuncId}{s:pn}(hs:s.bI P g)(Z:¬w0.D)(hW:WR w0 w S m){V:List AV}{c:Array Value}{C:Mem}(ha:eH w S m V c.toList)(h:(LW af s m V).Is (v,C))(cs:List Frame):
  ∃a F z u,Step w0 w S m a F C/\CR a F C v z/\Steps P (lone (Frame.enter P g c .normal) cs w) (lone u cs a)/\u.leaving P a (.returned z):=by
 unfold LW at h;split at h;exact h.elim;rename_i a0;obtain⟨L,hL,K⟩:=ox a0 ha;cases hf:fL af s.args m (V.flatMap AV.cells) with
 | none=>rw[hf] at h;exact h.elim
 | some q=>
   obtain⟨m1,W⟩:=q;rw[hf] at h;simp only at h;obtain⟨S1,G,Y⟩:=g_ hW hf hL;cases htd:q9 s.args W with
   | none=>rw[htd] at h;exact h.elim
   | some q=>
     obtain⟨x,r⟩:=q;rw[htd] at h;cases r with
     | cons _ _=>exact h.elim
     | nil=>
       simp only at h;obtain⟨u1,u2,e,hx,hr⟩:=nM s.args htd Y;have a3:=bw.1 hr;rw[a3,aL] at e;rw[<-e] at hx;cases hwr:VF.write af (λ_=>.undef) s.out (af.k s.fn x).2.1 m1 with
       | mk m2 vs=>
         rw[hwr] at h
         match vs,h,hwr with
         | [],h,_=>exact h.elim
         | _::_::_,h,_=>exact h.elim
         | [v2],h,hwr=>
           obtain⟨J,h⟩:=h;obtain⟨e',a,u,⟨z,he,g1,g2,g3,g4,g5,H,D,B,z1,zs,hz,g6,X,g8⟩,l,_,p⟩:=hs.calls w S1.I x c G.wr.nQ (K _ x hx) J cs;subst he;have s2:=Step.extend G.wr g1 g2 (λk=>absurd k Z) g3 g4 g5 g6;have no:(s.opt=true/\(s.fn x).1=false/\z1=.pointer none)->C=m1/\v=gU (.jX::ir af s.res (s.fn x).2.2)->∃a F z u,Step w0 w S m a F C/\CR a F C v z/\Steps P (lone (Frame.enter P g c .normal) cs w) (lone u cs a)/\u.leaving P a (.returned z):=by
            rintro ⟨_,_,rfl⟩ ⟨rfl,rfl⟩
            exact⟨a,_,z,u,G.trans s2,by rw[hz];exact UT<|bL.2 ⟨_,zs,rfl,by rw[CR],oA (I:=H) (λb i=>Or.inr i) g8⟩,l,p⟩
           have N:((s.opt=true->(s.fn x).1=true)/\VR a H D s.out [z1] (s.fn x).2.1 B/\B.Nodup/\∀b∈B,w.heap.size<=b/\¬H b)->C=m2/\v=gU (v2::ir af s.res (s.fn x).2.2)->∃a F z u,Step w0 w S m a F C/\CR a F C v z/\Steps P (lone (Frame.enter P g c .normal) cs w) (lone u cs a)/\u.leaving P a (.returned z):=by
            rintro ⟨_,k7,k8,O⟩ ⟨rfl,rfl⟩
            obtain⟨S3,s3,c3,_⟩:=VF.yt (I:=H) s.out s2.wr (λb i=>.inr i) k7 k8 (λb i=>⟨.inl<|bd G.wr.size (O b i).1,λk=>k.elim (λk=>absurd (G.wr.nQ b k)<|gz (O b i).1) (O b i).2,λj hj e=>absurd (e▸(G.wr.lo j hj).2)<|gz (O b i).1⟩) λk t y us hm hv=>by obtain⟨_,am,rfl,_⟩:=vP.1 hv;exact bL.2 ⟨_,[],rfl,gQ,bw.2 rfl⟩
            rw[show VF.write af (λ_=>.undef) s.out (s.fn x).2.1 m1=(C,[v2]) from hwr] at s3 c3;obtain⟨z',iM,e3,a4,hn⟩:=bL.1 c3;cases e3;refine⟨a,S3,z,u,(G.trans s2).trans s3,?_,l,p⟩;rw[hz];exact UT<|bL.2 ⟨_,zs,rfl,a4,oA (I:=H) (λb i=>(s3.out.nQ b<|.inr i).1) g8⟩
           cases ho:s.opt with
           | false=>
             rw[ho] at h;cases h;exact N (X.resolve_left λk=>by grind) ⟨rfl,rfl⟩
           | true=>
             rw[ho] at h;rcases h with ⟨i,h⟩|⟨i,h⟩
             .cases h;refine N (X.resolve_left λk=>?_) ⟨rfl,rfl⟩;have i:(s.fn x).1=true:=i
              grind
             .cases h;refine no (X.resolve_right λk=>?_) ⟨rfl,rfl⟩;have i:(s.fn x).1=false:=i
              grind
def Gu{R:Type}{E:kD R}{Fin:R->Value->World->Prop}{I0:Nat->Prop}(a:Fits P E Fin w0 I0){g:FuncId}{q:List AV}{t:TV<|AV×Mem}(h:tx af E g m q=some t):
  (∃F,P.funcs[g]? = some F/\F.body.isSome=true/\(F.name == "runtime.NumGoroutine")=false)/\
  ∀{w:World} {S:St} {b:Array Value} {v:AV} {l:Mem},WR w0 w S m->eH w S m q b.toList->t.Is (v,l)->∀cs:List Frame,
   ∃j p z r,Step w0 w S m j p l/\CR j p l v z/\Steps P (lone (Frame.enter P g b .normal) cs w) (lone r cs j)/\r.leaving P j (.returned z):=by
 unfold tx at h;cases hp:look E.u6 g with
 | some s=>
   rw[hp] at h;cases h;exact⟨(a.u6 g s hp).body,λc e h cs=>JK (a.u6 g s hp) (λd=>by rw[(a.zM d).2.1] at hp;cases hp) c e h cs⟩
 | none=>
   rw[hp] at h;cases hq:look E.u5 g with
   | none=>
     rw[hq] at h;cases hr:look E.uY g with
     | none=>
       rw[hr] at h;simp only at h;split at h
       rotate_left
       cases h;rename_i s i;cases h;exact⟨(a.ops g s i).body,λc e h cs=>JJ (a.ops g s i) (λd=>by rw[(a.zM d).2.2.2.2] at i;cases i) c e h cs⟩
     | some s=>
       rw[hr] at h;cases h;exact⟨(a.uY g s hr).body,λc e h cs=>JH (a.uY g s hr) (λd=>by rw[(a.zM d).2.2.2.1] at hr;cases hr) c e h cs⟩
   | some s=>
     rw[hq] at h;cases h;exact⟨(a.u5 g s hq).body,λc e h cs=>JI (a.u5 g s hq) (λd=>by rw[(a.zM d).2.2.1] at hq;cases hq) c e h cs⟩
end
end Go.Ev
