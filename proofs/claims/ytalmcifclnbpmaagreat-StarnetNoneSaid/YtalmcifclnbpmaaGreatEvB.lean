/- PROVED: an evaluator is right, operations on memory, calls. Conditions: tables and contracts fit. -/
import Derived.Test.YtalmcifclnbpmaaGreatEvA
import Derived.Laws.CopyRow
import Derived.Laws.MakeOwn
import Derived.Laws.Append
import Derived.Laws.NewBlocks
import Derived.Laws.BytesString
import Derived.RangeFuncRecord
set_option linter.unusedVariables false
set_option linter.defProp false
set_option linter.unusedSimpArgs false
set_option linter.unusedSectionVars false
namespace Go.Ev
variable{i:Nat}
theorem Mem.lW{m:Mem}{b:iM}(h:i<m.length):Mem.at (m ++ [b]) i=m.at i:=by
 simp[Mem.at,GB,cN h]
theorem Mem.fI{m:Mem}{b:iM}:Mem.at (m ++ [b]) m.length=b:=by
 simp[Mem.at,GB]
theorem Mem.agU{m:Mem}(h:m.length<=i):m.at i=.bU:=by
 simp[Mem.at,GB,kU h]
def Mem.pL{m:Mem}(h:m.at i≠.bU):i<m.length:=by grind [Mem.agU]
variable{S:St}
def Mem.jO{m:Mem}(h:S.lv i (m.at i)=true):i<m.length:=
 Mem.pL λe=>by rw[e] at h;cases h
def Mem.mX{m:Mem}{b:iM}:Mem.at (m ++ [b]) i=if i=m.length then b else m.at i:=by
 by_cases h:i=m.length
 .simp_all [Mem.fI]
 .rw[if_neg h]
  grind [Mem.lW,Mem.agU]
theorem Mem.fU{m:Mem}{b:iM}{j:Nat}(c:i<m.length):Mem.at (m.set i b) j=if j=i then b else m.at j:=by grind [Mem.at]
theorem fS{b:iM}(h:b≠.bU):iX b b:=by
 cases b<;>first|exact absurd rfl h|trivial|rfl|exact⟨rfl,rfl,rfl⟩
variable{c:iM}
def FL{a b:iM}(g:iX a b)(h:iX b c):iX a c:=by
 cases a<;>cases b<;>cases c<;>first|exact g.elim|exact h.elim|trivial|skip
 .exact Eq.trans h g
 .obtain⟨rfl,i,_⟩:=g;obtain⟨rfl,j,_⟩:=h;exact⟨rfl,j.trans i,rfl⟩
def Lg{a:iM}(h:iX a .bU):False:=by cases a<;>exact h.elim
theorem Qg{c:St}{id:Nat}{a b:iM}(h:iX a b)(i:b≠.aU)(j:c.vd id=S.vd id)(g:S.fl id a=true):c.fl id b=true:=by
 cases a<;>cases b<;>first|exact h.elim|(cases g;done)|exact absurd rfl i|rfl|(simp only[St.fl] at g ⊢;simp_all)
def dM.refl{w:World}{m:Mem}:dM w S m w S m:=
 ⟨λ_ h=>⟨h,rfl⟩,λ_ c=>⟨fS c,λ_=>⟨rfl,rfl,rfl,λ_ g T fr h=>⟨g,T,fr,h,rfl⟩⟩⟩,λ_ h=>h⟩
def dM.trans{w x y:World}{t u:St}{m l p:Mem}(g:dM w S m x t l)(i:dM x t l y u p):dM w S m y u p:=by
 refine⟨λb j=>?_,λid j=>?_,λid h=>i.ctl id<|g.ctl id h⟩
 .have⟨a1,a2⟩:=g.nH b j;have⟨F,G⟩:=i.nH b a1
  simp_all
 .have⟨v,c1⟩:=g.box id j;have⟨c,c2⟩:=i.box id<|λe=>Lg<|e▸v;refine⟨FL v c,λB=>?_⟩;have C:l.at id≠.aU:=λe=>by
   rw[e] at c;cases hm:p.at id<;>rw[hm] at c B<;>first|exact c.elim|simp_all
  grind [Qg]
variable{S':St}{m':Mem}{w':World}
theorem NF.mono{w:World}{m:Mem}(h:dM w S m w' S' m'){r:ND}{l:Loop}(y:NF w S m r l):NF w' S' m' r l:=by
 have⟨c,g,j,p,t,u,v,x⟩:=y;exact⟨c,g,j,p,t,u,v,λi=>(x i).mono h⟩
theorem r8.mono{w:World}{m:Mem}(h:dM w S m w' S' m'){id:Nat}(v:S'.σ id=S.σ id)(K:S'.δ id=S.δ id)(G:S'.vd id=S.vd id){b:iM}(g:S.lv id b=true->w'.heap[S.σ id]? = w.heap[S.σ id]?)(c:r8 w S m id b):r8 w' S' m' id b:=
 match b,g,c with
 | .bU,_,_=>trivial
 | .aU,_,_=>trivial
 | .UE,_,_=>trivial
 | .cH fz cs,g,c=>by
   have⟨B,T,fr,C,p,F⟩:=c;exact⟨B,T,fr,by rw[v,g rfl];omega,p,F.mono h⟩
 | .arr fz t x,g,c=>by
   have⟨H,u,c⟩:=c;refine⟨H,λe=>u<|G.symm.trans e,λj=>?_⟩;have j:=G.symm.trans j;have⟨B,T,fr,C,p,F,J⟩:=c j;exact⟨B,T,fr,by grind [rP],p,by omega,λi y N=>by rw[K];exact(J i y N).mono h.nH⟩
 | .loop r,g,c=>by
   have⟨l,C,p⟩:=c;exact⟨l,by rw[v,g rfl];omega,p.mono h⟩
 | .FU,g,c=>by
   have c:w.heap[S.σ id]? = some (.deferred<|some []):=c;show w'.heap[S'.σ id]? = _;rw[v,g rfl];omega
theorem Ft.mono{w:World}{m:Mem}(h:dM w S m w' S' m'){n:Nat}{a:dT}{j:Item}(p:match a with | .oA id=>(m.at id).jY=true | .pJ id=>(m.at id).jY=true|_=>True)
  (i:Ft n S a j):Ft n S' a j:=by
 have l:∀id,(m.at id).jY=true->S'.σ id=S.σ id:=λid c=>by
  have g:=h.ctl id c;refine((h.box id λe=>by rw[e] at c;cases c).2 λe=>by rw[e] at g;cases g).1
 cases a<;>first|exact i|(rw[Ft] at i ⊢;grind)
theorem fV.mono{w:World}{S:St}{m:Mem}{w':World}{S':St}{m':Mem}(h:dM w S m w' S' m'):∀{n:Nat} {l:List dT} {k:List Item},eF m l->fV n S l k->fV n S' l k
 | _,[],k,_,ht=>ht
 | _,a::l,k,hl,ht=>by
   have⟨j,k',e,c,g⟩:=ht;exact⟨j,k',e,c.mono h<|hl a aM,fV.mono h (λb i=>hl b<|aB _ i) g⟩
theorem eF.mono{w:World}{m:Mem}(h:dM w S m w' S' m'){l:List dT}(g:eF m l):eF m' l:=by
 intro a c;have:=g a c;cases a<;>first|exact h.ctl _ this|trivial
def Bd{w:World}{m:Mem}{l:World}{g:St}{j:Mem}(h:dM w S m l g j){id:Nat}(c:(m.at id).jY=true):g.σ id=S.σ id:=by
 have i:=h.ctl id c;exact((h.box id λe=>by rw[e] at c;cases c).2 λe=>by rw[e] at i;cases i).1
theorem FR.mono{w:World}{m:Mem}(h:dM w S m w' S' m'){f:dI}{fr:Frame}(c:FR w S m f fr):FR w' S' m' f fr:=by
 refine⟨c.fn,c.n,c.small,λi j=>(c.env i j).mono h,c.todo.mono h c.live,c.live.mono h,c.cH,?_,λd g=>h.ctl d<|c.marks d g,c.mode,c.kind,?_,λl p=>h.ctl l<|c.uH l p⟩
 .rw[c.defers];exact fh λd g=>by rw[Bd h<|c.marks d g]
 .rw[c.gy];cases hr:f.gy with
  | none=>rfl
  | some l=>simp[Bd h<|c.uH l hr]
theorem Fs.mono{w:World}{S:St}{m:Mem}{w':World}{S':St}{m':Mem}(h:dM w S m w' S' m'):∀{fs:List dI} {l:List Frame},Fs w S m fs l->Fs w' S' m' fs l
 | [],l,hf=>hf
 | f::fs,l,hf=>by
   have⟨fr,r,e,c,g⟩:=hf;exact⟨fr,r,e,c.mono h,Fs.mono h g⟩
def St.push(S:St)(id b d:Nat)(fz:Bool)(v:Bool:=false):St:=
 {σ:=λi=>if i=id then b else S.σ i,δ:=λi=>if i=id then d else S.δ i,vd:=λi=>if i=id then v else S.vd i,I:=λx=>S.I x\/(fz=true/\x=b)}
variable{d:Nat}
theorem wA{id b:Nat}{fz v:Bool}:(S.push id b d fz v).vd id=v:=if_pos rfl
def yW{id b:Nat}{fz:Bool}{p:Prop}(h:(S.push id b d fz).vd id=true):p:=by grind [wA]
def nJ{id b:Nat}{fz v:Bool}(h:i≠id):(S.push id b d fz v).lv i c=S.lv i c:=by simp_all [St.lv,St.push]
def yV{id b:Nat}{fz v:Bool}(h:i≠id):(S.push id b d fz v).fz i c=S.fz i c:=by simp_all [St.fz,St.push]
def D5{id b:Nat}{fz:Bool}:(S.push id b d fz).fz id c=c.S9:=by simp_all [St.fz,St.push,iM.S9]
variable{w0:nE}
theorem mM{w:World}{m:Mem}(p:WR w0 w S m)(o:Obj)(l:iM)(d:Nat)(fz:Bool):dM w S m (w.alloc o) (S.push m.length w.heap.size d fz)<|m ++ [l]:=by
 have g:∀b,b<w.heap.size->(w.alloc o).heap[b]? = w.heap[b]? :=λb c=>heap_alloc_old w o b c;refine⟨λb c=>⟨.inl c,g b<|p.nH b c⟩,λid c=>?_,λid j=>?_⟩
 .have i:=Mem.pL c;rw[Mem.lW i];refine⟨fS c,λu=>?_⟩;refine⟨if_neg<|by omega,if_neg<|by omega,if_neg<|by omega,λ_ t T fr h=>⟨t,T,fr,?_,rfl⟩⟩
  grind
 .have i:id<m.length:=Mem.pL λe=>by rw[e] at j;cases j
  grind [Mem.lW]
variable{bx:iM}
theorem WR.push{w:World}{m:Mem}(g:WR w0 w S m){o:Obj}
  (p:r8 (w.alloc o) (S.push m.length w.heap.size d bx.S9) (m ++ [bx]) m.length bx):WR w0 (w.alloc o) (S.push m.length w.heap.size d bx.S9)<|m ++ [bx]:=by
 have G:=mM g o bx d bx.S9;have l:∀b,b<w.heap.size->(w.alloc o).heap[b]? = w.heap[b]? :=λb p=>heap_alloc_old w o b p;refine⟨g.os,g.tape,g.output,by rw[nZ];have:=g.size;omega,λb p=>?_,λb p=>?_,λid=>?_,λid t u v x=>?_,λid h=>?_,λid h y=>?_,λid h=>?_,λi b h=>⟨bD (g.root i b h).1<|by simp_all,(if_neg<|eY (g.root i b h).1).trans (g.root i b h).2.1,λd C=>⟨(if_neg<|eY (g.root i b h).1).trans ((g.root i b h).2.2 d C).1,(if_neg<|eY (g.root i b h).1).trans ((g.root i b h).2.2 d C).2⟩⟩,λb J T fr h=>by
  have⟨O,K,V,u,v⟩:=g.cells b J T fr h
  grind⟩
 .rw[l b (by have:=g.size;have:=nE.old p;omega)];exact g.base b p
 .rw[nZ];rcases p with p|⟨_,rfl⟩
  .have:=g.nH b p;omega
  omega
 .by_cases c:id=m.length
  .grind [Mem.fI]
  .have F:=g.box id;rw[Mem.mX,if_neg c];exact F.mono G (if_neg c) (if_neg c) (if_neg c) λH=>l _ (g.lo id H).2
 .rw[Mem.mX] at u v;simp only[St.push] at x;by_cases c:id=m.length<;>by_cases j:t=m.length
  .omega
  .rw[if_pos c,if_neg j] at x;rw[if_neg j,nJ j] at v;have:=(g.lo t v).2;omega
  .rw[if_neg c,if_pos j] at x;rw[if_neg c,nJ c] at u;have:=(g.lo id u).2;omega
  .rw[if_neg c,if_neg j] at x;rw[if_neg c,nJ c] at u;rw[if_neg j,nJ j] at v;exact g.inj id t u v x
 .rw[Mem.mX] at h;by_cases c:id=m.length
  .simp[St.push,nZ,c];exact .inr<|.inl g.size
  .rw[if_neg c,nJ c] at h;have:=g.lo id h
   grind [St.push]
 .rw[Mem.mX] at h y;by_cases c:id=m.length
  .subst c;rw[if_pos rfl,D5] at y;simp only[St.push,if_pos]
   rintro (B|⟨N,_⟩)
   .have:=g.nH _ B;omega
   simp_all
  .rw[if_neg c,nJ c] at h;rw[if_neg c,yV c] at y;simp only[St.push,if_neg c]
   rintro (B|⟨_,x⟩)
   .exact g.qV id h y B
   .have:=(g.lo id h).2;omega
 .rw[Mem.mX] at h;by_cases c:id=m.length
  .subst c;rw[if_pos rfl,D5] at h
   grind [St.push]
  .rw[if_neg c,yV c] at h;simp only[St.push,if_neg c];exact .inl<|g.Ju id h
structure rU(w w':World)(b:Nat):Prop where
 os:w'.os=w.os
 tape:w'.tape=w.tape
 drawn:w'.drawn=w.drawn
 output:w'.output=w.output
 size:w'.heap.size=w.heap.size
 other:∀b',b'≠b->w'.heap[b']? = w.heap[b']?
 cells:∀us T fr,w.heap[b]? = some (.cells us T fr)->∃iH T' iU,w'.heap[b]? = some (.cells iH T' iU)/\iH.size=us.size
def kN{w:World}{m:Mem}(x:WR w0 w S m){id:Nat}(u:S.lv id (m.at id)=true)(B:S.fz id (m.at id)=false)(y:iX (m.at id) bx)
  (C:(m.at id).jY=true->bx.jY=true) (g:rU w w'<|S.σ id):dM w S m w' S<|m.set id bx:=by
 have i:=Mem.jO u;refine⟨λb l=>⟨l,g.other b λe=>x.qV id u B<|e▸l⟩,λj t=>?_,λj t=>?_⟩
 .rw[Mem.fU i];by_cases p:j=id
  .subst p;rw[if_pos rfl];exact⟨y,λ_=>⟨rfl,rfl,rfl,λ_=>g.cells⟩⟩
  .rw[if_neg p];refine⟨fS t,λF=>⟨rfl,rfl,rfl,λ_ v T fr h=>?_⟩⟩;by_cases c:S.σ j=S.σ id
   .rw[c] at h ⊢;exact g.cells v T fr h
   .exact⟨v,T,fr,by rw[g.other _ c];exact h,rfl⟩
 grind [Mem.fU]
def WR.set{w:World}{m:Mem}(g:WR w0 w S m){id:Nat}(x:S.lv id (m.at id)=true)(G:S.fz id (m.at id)=false)(X:iX (m.at id) bx)
  (W:(m.at id).jY=true->bx.jY=true) (hf:bx.S9=false) (l:rU w w'<|S.σ id) (v:r8 w' S (m.set id bx) id bx):WR w0 w' S<|m.set id bx:=by
 have V:=kN g x G X W l;have u:=Mem.jO x;have p:∀j,S.lv j (Mem.at (m.set id bx) j)=true->S.lv j (m.at j)=true:=λj h=>by grind [Mem.fU]
 refine⟨l.os.trans g.os,g.tape.on l.tape λ_=>iC l.drawn.symm,l.output.trans g.output,by rw[l.size];exact g.size,λb v=>?_,λb v=>by rw[l.size];exact g.nH b v,λj=>?_,λi j y C t=>g.inj i j (p i y) (p j C) t,
  λj h=>by rw[l.size];exact g.lo j<|p j h,λj h B=>?_,λj h=>?_,λi b h=>⟨by rw[cd];exact(g.root i b h).1,(g.root i b h).2⟩,λc Y T fr h=>by
  have⟨J,H,K,y,C⟩:=g.cells c Y T fr h;by_cases e:c=S.σ id
  .rw[e] at y ⊢;have⟨Z,T2,N,k1,k2⟩:=l.cells J H K y;simp_all
  .exact⟨J,H,K,by rw[l.other c e];omega,C⟩⟩
 .rw[l.other b λe=>v (by rw[e];exact g.lof x G)];exact g.base b v
 .by_cases t:j=id
  .simp_all [Mem.fU]
  .have O:=g.box j;rw[Mem.fU u,if_neg t];exact O.mono V rfl rfl rfl λF=>l.other _ λe=>t<|g.inj j id F x e
 .rw[Mem.fU u] at h B;by_cases t:j=id
  .subst t;exact g.qV j x G
  .rw[if_neg t] at h B;exact g.qV j h B
 .rw[Mem.fU u] at h;by_cases t:j=id
  .simp_all [aha]
  .rw[if_neg t] at h;exact g.Ju j h
def rU.none(w:World)(b:Nat):rU w w b:=⟨rfl,rfl,rfl,rfl,rfl,λ_ _=>rfl,λc T fr h=>⟨c,T,fr,h,rfl⟩⟩
def St.Ju(S:St)(b:Nat):St:={S with I:=λx=>S.I x\/x=b}
def St.UL(S:St)(p:Prop)(b:Nat):St:={S with I:=λx=>S.I x\/(p/\x=b)}
variable{t:Ty}{x:List t.T}
def w7{w:World}{m:Mem}(v:WR w0 w S m){id:Nat}{fz:Bool}(p:m.at id=.arr fz t x):dM w S m w (S.UL (S.vd id=false)<|S.σ id)<|m.set id<|.arr true t x:=by
 have c:id<m.length:=Mem.pL λe=>by grind
 refine⟨λb u=>⟨.inl u,rfl⟩,λj i=>?_,λj i=>?_⟩
 .rw[Mem.fU c];by_cases g:j=id
  .subst g;rw[if_pos rfl,p];exact⟨⟨rfl,rfl,rfl⟩,λ_=>⟨rfl,rfl,rfl,λ_ l T fr h=>⟨l,T,fr,h,rfl⟩⟩⟩
  .rw[if_neg g];exact⟨fS i,λ_=>⟨rfl,rfl,rfl,λ_ l T fr h=>⟨l,T,fr,h,rfl⟩⟩⟩
 .rw[Mem.fU c];by_cases g:j=id
  .subst g;rw[p] at i;cases i
  grind
def WR.freeze{w:World}{m:Mem}(c:WR w0 w S m){id:Nat}{fz:Bool}(C:m.at id=.arr fz t x):WR w0 w (S.UL (S.vd id=false)<|S.σ id)<|m.set id<|.arr true t x:=by
 have G:=w7 c C;have p:id<m.length:=Mem.pL λe=>by simp_all
 have H:S.vd id=false->S.lv id (m.at id)=true:=λh=>by grind [rP]
 have g:∀j,S.lv j (Mem.at (m.set id<|.arr true t x) j)=true->S.lv j (m.at j)=true:=λj h=>by
  rw[Mem.fU p] at h;by_cases l:j=id
  .subst l;rw[if_pos rfl] at h;rw[C];exact h
  simp_all
 refine⟨c.os,c.tape,c.output,c.size,c.base,λb y=>?_,λj=>?_,λi j J K l=>c.inj i j (g i J) (g j K) l,λj h=>⟨(c.lo j<|g j h).1.imp .inl<|λx=>x,(c.lo j<|g j h).2⟩,λj h u=>?_,λj h=>?_,λi b h=>⟨by rw[cd];exact(c.root i b h).1,(c.root i b h).2⟩,c.cells⟩
 .rcases y with y|⟨F,rfl⟩
  .exact c.nH b y
  .exact(c.lo id<|H F).2
 .have v:=c.box j;rw[Mem.fU p];by_cases l:j=id
  .subst l;rw[if_pos rfl];rw[C] at v;exact(r8.mono G (id:=j) (b:=.arr fz t x) rfl rfl rfl (λ_=>rfl) v:r8 w (S.UL (S.vd j=false)<|S.σ j) (m.set j<|.arr true t x) j<|.arr fz t x)
  .rw[if_neg l];exact v.mono G rfl rfl rfl λ_=>rfl
 .rw[Mem.fU p] at h u;by_cases l:j=id
  .subst l;rw[if_pos rfl] at h u;exact absurd (show(!S.vd j)=true from h) (by rw[show(!S.vd j)=false from u];decide)
  .rw[if_neg l] at h u
   rintro (N|⟨F,B⟩)
   .exact c.qV j h u N
   .exact l<|c.inj j id h (H F) B
 .rw[Mem.fU p] at h;by_cases l:j=id
  .subst l;rw[if_pos rfl] at h;exact .inr ⟨by have e:(!S.vd j)=true:=h;simpa using e,rfl⟩
  .rw[if_neg l] at h;exact .inl<|c.Ju j h
def lq{w:World}{m:Mem}(x:WR w0 w S m){id:Nat}{fz:Bool}{cs c:List AV}(t:m.at id=.cH fz cs)(v:c.length=cs.length):dM w S m w (S.Ju<|S.σ id)<|m.set id<|.cH true c:=by
 have g:id<m.length:=Mem.pL λe=>by grind
 refine⟨λb u=>⟨.inl u,rfl⟩,λj l=>?_,λj l=>?_⟩
 .rw[Mem.fU g];by_cases i:j=id
  .subst i;rw[if_pos rfl,t];exact⟨v,λ_=>⟨rfl,rfl,rfl,λ_ p T fr h=>⟨p,T,fr,h,rfl⟩⟩⟩
  .rw[if_neg i];exact⟨fS l,λ_=>⟨rfl,rfl,rfl,λ_ p T fr h=>⟨p,T,fr,h,rfl⟩⟩⟩
 .rw[Mem.fU g];by_cases i:j=id
  .subst i;rw[t] at l;cases l
  grind
def WR.Af{w:World}{m:Mem}(c:WR w0 w S m){id:Nat}{fz:Bool}{cs p:List AV}(G:m.at id=.cH fz cs)(C:p.length=cs.length){v:Array Value}{T:TypeId}{fr:Nat×Nat}(V:w.heap[S.σ id]? = some (.cells v T fr))(X:gU fr v.size)(O:eD w S m p v.toList):
  WR w0 w (S.Ju<|S.σ id) (m.set id<|.cH true p):=by
 have F:=lq c G C;have t:id<m.length:=Mem.pL λe=>by simp_all
 have W:S.lv id (m.at id)=true:=by rw[G];rfl
 have g:∀j,S.lv j (Mem.at (m.set id<|.cH true p) j)=true->S.lv j (m.at j)=true:=λj h=>by grind [Mem.fU]
 refine⟨c.os,c.tape,c.output,c.size,c.base,λb y=>?_,λj=>?_,λi j J K l=>c.inj i j (g i J) (g j K) l,λj h=>⟨(c.lo j<|g j h).1.imp .inl<|λx=>x,(c.lo j<|g j h).2⟩,λj h u=>?_,λj h=>?_,λi b h=>⟨by rw[cd];exact(c.root i b h).1,(c.root i b h).2⟩,c.cells⟩
 .rcases y with y|rfl
  .exact c.nH b y
  grind
 .have H:=c.box j;rw[Mem.fU t];by_cases l:j=id
  .subst l;rw[if_pos rfl];exact⟨v,T,fr,V,X,O.mono F⟩
  .rw[if_neg l];exact H.mono F rfl rfl rfl λ_=>rfl
 .rw[Mem.fU t] at h u;by_cases l:j=id
  .subst l;rw[if_pos rfl] at u;cases u
  .rw[if_neg l] at h u
   rintro (N|B)
   .exact c.qV j h u N
   .exact l<|c.inj j id h W B
 .rw[Mem.fU t] at h;by_cases l:j=id
  .subst l;exact .inr rfl
  .rw[if_neg l] at h;exact .inl<|c.Ju j h
end Go.Ev
namespace Go.Ev
def zU(w0:nE)(S c:St):Prop:=∀b,c.I b->S.I b\/w0.free b
variable{S:St}{w0:nE}
def zU.refl:zU w0 S S:=λ_ h=>.inl h
def zU.trans{c g:St}(i:zU w0 S c)(j:zU w0 c g):zU w0 S g:=λb h=>(j b h).elim (i b) .inr
structure Step(w0:nE)(w:World)(S:St)(m:Mem)(w':World)(S':St)(m':Mem):Prop where
 wr:WR w0 w' S' m'
 out:dM w S m w' S' m'
 grows:zU w0 S S'
def Step.trans{w p t:World}{g h:St}{m j l:Mem}(i:Step w0 w S m p g j)(c:Step w0 p g j t h l):Step w0 w S m t h l:=
 ⟨c.wr,i.out.trans c.out,i.grows.trans c.grows⟩
def Step.refl{w:World}{m:Mem}(h:WR w0 w S m):Step w0 w S m w S m:=⟨h,.refl,.refl⟩
theorem Step.push{w:World}{m:Mem}(c:WR w0 w S m){o:Obj}{bx:iM}{d:Nat}
  (g:r8 (w.alloc o) (S.push m.length w.heap.size d bx.S9) (m ++ [bx]) m.length bx):Step w0 w S m (w.alloc o) (S.push m.length w.heap.size d bx.S9)<|m ++ [bx]:=
 ⟨c.push g,mM c o bx d _,λ_ h=>by
  rename_i b;rcases h with h|⟨_,rfl⟩
  .grind
  .exact .inr<|.inl c.size⟩
def Step.an0{w:World}{m:Mem}(c:WR w0 w S m)(t:Ty):Step w0 w S m w (S.push m.length 0 0 false true)<|m ++ [.arr false t []]:=by
 have v:∀b,(S.push m.length 0 0 false true).I b->S.I b:=λb h=>h.elim id λh=>absurd h.1 (by decide);have B:dM w S m w (S.push m.length 0 0 false true)<|m ++ [.arr false t []]:=by
  refine⟨λb l=>⟨.inl l,rfl⟩,λj g=>?_,λj C=>?_⟩
  .have u:=Mem.pL g;rw[Mem.lW u];exact⟨fS g,λ_=>⟨if_neg<|by omega,if_neg<|by omega,if_neg<|by omega,λ_ N T fr h=>⟨N,T,fr,h,rfl⟩⟩⟩
  .have u:j<m.length:=Mem.pL λe=>by rw[e] at C;cases C
   grind [Mem.lW]
 have old:∀j,(S.push m.length 0 0 false true).lv j (Mem.at (m ++ [.arr false t []]) j)=true->S.lv j (m.at j)=true/\(S.push m.length 0 0 false true).σ j=S.σ j/\Mem.at (m ++ [.arr false t []]) j=m.at j:=λj h=>by
  rw[Mem.mX] at h ⊢;by_cases g:j=m.length
  all_goals simp_all [St.lv,St.push]
 refine⟨⟨c.os,c.tape,c.output,c.size,c.base,λb l=>c.nH b<|v b l,λj=>?_,λi j J K G=>?_,λj h=>?_,λj h y l=>?_,λj h=>?_,λi b h=>⟨bD (c.root i b h).1<|by simp_all,(if_neg<|eY (c.root i b h).1).trans (c.root i b h).2.1,λd F=>⟨(if_neg<|eY (c.root i b h).1).trans ((c.root i b h).2.2 d F).1,(if_neg<|eY (c.root i b h).1).trans ((c.root i b h).2.2 d F).2⟩⟩,c.cells⟩,B,λb l=>.inl<|v b l⟩
 .by_cases g:j=m.length
  .subst g;rw[Mem.fI];exact⟨aQ _,λ_=>rfl,λh=>by grind [St.push]⟩
  .rw[Mem.mX,if_neg g];exact(c.box j).mono B (if_neg g) (if_neg g) (if_neg g) λ_=>rfl
 .have⟨a1,p,_⟩:=old i J;have⟨a2,H,_⟩:=old j K;rw[p,H] at G;exact c.inj i j a1 a2 G
 .have⟨a1,p,_⟩:=old j h;rw[p];exact⟨(c.lo j a1).1.imp .inl<|λx=>x,(c.lo j a1).2⟩
 .have⟨a1,p,c1⟩:=old j h;have g:j≠m.length:=eY<|Mem.jO a1;rw[c1,yV g] at y;rw[p] at l;exact c.qV j a1 y<|v _ l
 .rw[Mem.mX] at h;by_cases g:j=m.length
  .simp_all [St.fz]
  .rw[if_neg g,yV g] at h;show(S.push m.length 0 0 false true).I (if j=m.length then 0 else S.σ j);rw[if_neg g];exact .inl<|c.Ju j h
def WR.drew{w:World}{m:Mem}(h:WR w0 w S m):WR w0 w.drew S m:=
 ⟨h.os,h.tape.on rfl λ_=>iq _,h.output,h.size,h.base,h.nH,λid=>by
  have:=h.box id;exact r8.mono (w:=w) (w':=w.drew) (S:=S) (S':=S) (m:=m) (m':=m) ⟨λb c=>⟨c,rfl⟩,λ_ c=>⟨fS c,λ_=>⟨rfl,rfl,rfl,λ_ g T fr h=>⟨g,T,fr,h,rfl⟩⟩⟩,λ_ h=>h⟩ rfl rfl rfl (λ_=>rfl) this,
  h.inj,h.lo,h.qV,h.Ju,h.root,h.cells⟩
def Step.drew{w:World}{m:Mem}(h:WR w0 w S m):Step w0 w S m w.drew S m:=
 ⟨h.drew,⟨λ_ c=>⟨c,rfl⟩,λ_ c=>⟨fS c,λ_=>⟨rfl,rfl,rfl,λ_ g T fr h=>⟨g,T,fr,h,rfl⟩⟩⟩,λ_ h=>h⟩,.refl⟩
variable{t:Ty}
section
variable {P:Program} {w0:nE} {w:World} {S:St} {m:Mem}
def qY(u:WR w0 w S m){id:Nat}{fz:Bool}{x:List t.T}(B:m.at id=.arr fz t x){I:Nat->Prop}(G:S.vd id=false->I (S.σ id))(g:∀b,S.I b->I b)
  {l n cap:Nat} {a:Option Addr} (W:l+n<=x.length) (X:n<=cap) (H:a=none->cap=0) (h:n≠0->a=some ⟨S.σ id,S.δ id+l*t.size,none⟩) :
  bW w I (.slice t) [.slice a n cap] ((x.take<|l+n).drop l):=by
 have c:=u.box id;rw[B] at c;have J:=c.1;have v:((x.take<|l+n).drop l).length=n:=by simp_all
 refine eP.2 ⟨a,cap,by grind,by omega,by omega,H,λi y j=>?_⟩;rw[dh,cX] at j;split at j
 .rename_i K;have C:x≠ []:=λe=>by simp_all
  have⟨Y,T,fr,N,O,V,F⟩:=r8.blk c C;have p:=F _ _ j;refine⟨_,_,_,h<|by omega,G<|u.vd B C,p.length,?_,bW.mono (λb c=>⟨g b c,rfl⟩) t p⟩
  grind [jm]
 simp_all
def Az{α:Type}{x:List α}{l n:Nat}:af.s x l ((l+n:Nat):Int)=(x.take<|l+n).drop l:=by rfl
theorem jM:∀{cs:List AV} {m p:Mem} {g:List AV} {S:St} {K:List Value},WR w0 w S m->gf af m cs=some (p,g)->eD w S m cs K->
  ∃y,Step w0 w S m w y p/\eD w y p g K
 | [],m,p,g,S,K,hW,h,i=>by
   cases h;exact⟨S,.refl hW,i⟩
 | v::vs,m,p,g,S,K,hW,h,i=>by
   obtain⟨u,r,rfl,X,hr⟩:=i.cons_inv
   have C:∀{J:Mem} {Z:AV} {N:St},Step w0 w S m w N J->CR w N J Z u->(match gf af J vs with|none=>none|some (m,vs)=>some (m,Z::vs))=some (p,g)->
     ∃y,Step w0 w S m w y p/\eD w y p g (u::r):=by
    intro J Z N W Y h;split at h;cases h;rename_i m3 a9 hf;cases h;have⟨S3,H,h2⟩:=jM W.wr hf<|hr.mono W.out;exact⟨S3,W.trans H,bL.2 ⟨u,r,rfl,Y.mono H.out,h2⟩⟩
   have same:(match gf af m vs with|none=>none|some (m,vs)=>some (m,v::vs))=some (p,g)->∃y,Step w0 w S m w y p/\eD w y p g (u::r):=C (.refl hW) X;have nC:∀{id:Nat} {fz:Bool} {t:Ty} {x:List t.T},m.at id=.arr fz t x->Step w0 w S m w (S.UL (S.vd id=false)<|S.σ id) (m.set id<|.arr true t x):=by
    intro id fz t x j;refine⟨hW.freeze j,w7 hW j,λb B=>?_⟩;rcases B with B|⟨G,rfl⟩
    .grind
    .exact(hW.lo id (by rw[j,rP,G];rfl)).1
   unfold gf at h;cases v<;>(try exact same h)
   case own id=>
    simp only at h;have i:=X;rw[CR] at i;cases j:m.at id<;>rw[j] at h i<;>(try simp only at i h)<;>try (cases h;done)
    rename_i fz t x;obtain⟨a,F,rfl,H,O,h8⟩:=CP i;refine C (nC j) (sO.2 ?_) h;have B:=qY hW j (I:=(S.UL (S.vd id=false)<|S.σ id).I) (λG=>.inr ⟨G,rfl⟩) (λb B=>.inl B) (l:=0) (n:=x.length) (cap:=F) (a:=a) (by omega) H O (λh=>by grind)
    grind
   case wq id sz c lo len=>
    simp only at h;have i:=X;rw[CR] at i;cases j:m.at id<;>rw[j] at h i<;>(try simp only at i h)<;>try (cases h;done)
    rename_i fz t x;obtain⟨l,n,F,a,rfl,rfl,rfl,h4,h5,O,rfl,h8,_⟩:=i;have V:x.length<=gg:=by have:=hW.box id;rw[j] at this;exact this.1
    rw[jb] at V;refine C (nC j) (sO.2 ?_) h;have B:=qY hW j (I:=(S.UL (S.vd id=false)<|S.σ id).I) (λG=>.inr ⟨G,rfl⟩) (λb B=>.inl B) h4 h5 O h8;have e:af.b .add .i64 (l:Int) (n:Int)=((l+n:Nat):Int):=by
     show IntKind.i64.wrap _=_;rw[wrap_small (by omega)<|by omega];omega
    rw[e,Az];omega
def w_(F:WR w0 w S m){v:AV}{u:Value}{y:List t.T}{m1:Mem}(G:CR w S m v u)(h:pT af t m v=some y)(C:pU af t m v=some m1):
  ∃O,Step w0 w S m w O m1/\I_ w O.I t u y:=by
 unfold pT at h;unfold pU at C;cases v<;>simp only at h C<;>try (cases h;done)
 case sl g x=>
  cases C;by_cases H:g.beq t=true
  .rw[dif_pos H] at h;have:=Ty.eq_of_beq H;subst this;cases h;exact⟨S,.refl F,I_.Qx (sO.1 G)⟩
  grind
 case eT b=>
  cases C;cases h;obtain⟨a,rfl,_⟩:=m_.1 G;exact⟨S,.refl F,a,0,[],rfl,aQ _,by simp,λh=>absurd rfl h,λ_=>rfl,ah _,λi z V=>by grind⟩
 case own id=>
  cases C;rw[CR] at G;cases hm:m.at id<;>rw[hm] at h G<;>(try simp only at G h)<;>try (cases h;done)
  rename_i fz g x;by_cases H:g.beq t=true
  .rw[dif_pos H] at h;have:=Ty.eq_of_beq H;subst this;cases h;by_cases K:x=[]
   .subst K;rcases G with ⟨_,_,a,rfl⟩|⟨_,B,rfl,_⟩
    .exact⟨S,.refl F,I_.none λ_=>rfl⟩
    .exact⟨S,.refl F,I_.none λh=>by cases h⟩
   obtain⟨B,rfl,W,_⟩:=own_ne G (F.vd hm K);have H:=qY F hm (I:=λb=>S.I b\/b=S.σ id) (λ_=>.inr rfl) (λb H=>.inl H) (l:=0) (n:=x.length) (cap:=B) (a:=some ⟨S.σ id,S.δ id,none⟩) (by omega) W (λh=>by cases h) (λ_=>by simp);have a4:I_ w (λb=>S.I b\/b=S.σ id) g (.slice (some ⟨S.σ id,S.δ id,none⟩) x.length B) x:=I_.Qx (by grind);refine⟨S,.refl F,?_⟩;obtain⟨a,ad,us,e,g1,g2,g3,g4,g5,g6⟩:=a4;have j:=F.box id;rw[hm] at j;obtain⟨N,T,fr,Y,_,k3,Z⟩:=r8.blk j K;refine⟨_,_,(N.toList.drop (S.δ id)).take (x.length*g.size),rfl,g1,by grind,λ_=>⟨_,_,rfl,jm Y _ _⟩,(λh=>by cases h),W,λi z V=>?_⟩;have:=Z i z V;have a6:i<x.length:=(aR.1 V).1;have X:i*g.size+g.size<=x.length*g.size:=by
    have:=aH g.size (show i+1<=x.length by omega)
    grind
   rw[kH,fe,kK,jT (by omega)];omega
  grind
 case wq id sz c lo len=>
  rw[CR] at G;cases hm:m.at id<;>rw[hm] at h C G<;>(try simp only at G h C)<;>try (cases h;done)
  case arr fz g x=>
   cases C;by_cases H:g.beq t=true
   .rw[dif_pos H] at h;have:=Ty.eq_of_beq H;subst this;cases h;obtain⟨l,n,B,a,rfl,rfl,rfl,h4,h5,h6,rfl,h8,_⟩:=G;have j:=F.box id;rw[hm] at j;have a5:=j.1;rw[jb] at a5;have e:af.b .add .i64 (l:Int) (n:Int)=((l+n:Nat):Int):=by
     show IntKind.i64.wrap _=_;rw[wrap_small (by omega) (by omega)];omega
    show ∃O:St,Step w0 w S m w O m/\I_ w O.I g (.slice a n B) (af.s x (l:Int) (af.b .add .i64 (l:Int) (n:Int)));rw[e,Az];have J:((x.take (l+n)).drop l).length=n:=by grind
    by_cases a7:n=0
    .subst a7;rw[bg J];exact⟨S,.refl F,I_.none h6⟩
    obtain⟨N,T,fr,Y,_,k3,Z⟩:=r8.blk j λe=>by grind
    have X:(l+n)*g.size<=x.length*g.size:=aH _ h4;rw[fD] at X
    refine⟨S,.refl F,a,B,(N.toList.drop (S.δ id+l*g.size)).take (n*g.size),by grind,by rw[J,jb];omega,by have:=bC (xs:=N);rw[J,c_,dR];omega,
     λK=>⟨_,_,h8 (by omega),jm Y _ _⟩,h6,by omega,λi z V=>?_⟩
    rw[dh,cX] at V;split at V
    .rename_i a6;have am:i*g.size+g.size<=n*g.size:=by
      have:=aH g.size (show i+1<=n by omega)
      grind
     rw[kH,fe,kK,jT (by omega)]
     grind
    grind
   grind
  case cH fz cs=>
   cases hcc:c&&Nat.beq sz t.size with
   | false=>simp_all
   | true=>
     rw[hcc] at h;simp only[eH] at hcc;have a8:=vL hcc.2;subst a8;simp only at h C;cases ht:eZ (lo.toNat*t.size) (len.toNat*t.size) cs with
     | none=>simp_all
     | some l=>
       rw[ht] at h C;simp only at h C;cases hfz:gf af m l with
       | none=>simp_all
       | some p=>
         obtain⟨m',l'⟩:=p;rw[hfz] at h C;simp at h C;subst C;split at h
         rotate_left
         cases h;rename_i x rr hd;cases h;obtain⟨l0,n0,B,a,rfl,rfl,h4,h5,h6,h7,rfl,h8⟩:=G;have j:=F.box id;rw[hm] at j;obtain⟨N,T,fr,Y,_,k3⟩:=j;obtain⟨Z,k5⟩:=eD.eZ ht k3;obtain⟨O,s1,s2⟩:=jM F hfz k5;simp only[y7] at hd ht Z k5 s2;obtain⟨u1,u2,e,l1,l2,pr,_⟩:=rL (zo t) t.size (λu y=>bW w O.I t u y) (λcs x r us h hc=>by
          obtain⟨u1,u2,e,W,h2⟩:=nL t h hc;exact⟨u1,u2,e,W.length,W,h2⟩) n0 l' y rr _ hd s2
         have a9:u2=[]:=by simp_all
         rw[a9,aJ] at e;refine⟨O,s1,a,B,u1,by rw[l2],by omega,by simp_all,λK=>⟨_,_,h8 (by omega),?_⟩,h7,by omega,pr⟩;rw[<-e];exact jm Y _ _
end
end Go.Ev
namespace Go.Ev
variable{p:Nat}{α:Type}
def qZ{L c:List α}(h:p+c.length<=L.length)(j:Nat):
  (L.take p++c++L.drop (p+c.length))[j]? = if j<p then L[j]? else if j<p+c.length then c[j-p]? else L[j]? :=by grind
def sj{L new:List α}(h:p+new.length<=L.length){a s:Nat}(g:a+s<=p\/p+new.length<=a):
  ((L.take p++new++L.drop (p+new.length)).drop a).take s=(L.drop a).take s:=by
 apply dL;intro j;rw[cX,cX];by_cases c:j<s
 .rw[if_pos c,if_pos c,dh,dh,qZ h]
  grind
 grind
def VC{L c:List α}(h:p+c.length<=L.length){a s:Nat}(i:a<=p)(l:p+c.length<=a+s)(t:a+s<=L.length):
  ((L.take p++c++L.drop (p+c.length)).drop a).take s=((L.drop a).take s).take (p-a)++c++((L.drop a).take s).drop (p-a+c.length):=by
 have u:((L.drop a).take s).length=s:=by grind
 apply dL;intro j;rw[qZ<|by omega,cX];by_cases g:j<s
 .rw[if_pos g,dh,qZ h]
  grind
 grind
def qw{w:World}{g:Nat}{i c:Array Value}{T:TypeId}(p:w.heap[g]? = some (.cells i T (0,0)))(v:c.size=i.size):rU w (w.setRow g c) g:=
 ⟨rfl,rfl,rfl,rfl,size_setRow _ _ _,λb l=>setRow_other w g b c l,λt u j h=>⟨c,T,(0,0),setRow_heap w g i c T _ p,by grind⟩⟩
section
variable {P:Program} {w0:nE} {w:World} {S:St} {m:Mem}
theorem QA{v:AV}{u:Value}(i:v.known m=true)(g:v.Zt=true)(h:CR w S m v u):u.oneCell'=true:=by
 cases v
 case undef=>cases i
 case agg=>cases g
 case xb=>cases g
 case int=>rw[(fu.1 h).1];rfl
 case bool=>rw[iE.1 h];rfl
 case str=>rw[(vO.1 h).1];rfl
 case sl=>have⟨a,c,e,_⟩:=eP.1<|sO.1 h;obtain rfl:=List.head_eq_of_cons_eq e;rfl
 case eT=>obtain⟨a,rfl,_⟩:=m_.1 h;rfl
 case nI=>obtain⟨b,o,j,rfl,_⟩:=rf.1 h;rfl
 case gN=>rw[qN.1 h];rfl
 case fn=>obtain⟨j,p,rfl,_⟩:=vk.1 h;rfl
 case tC=>rw[sN.1 h];rfl
 case own id=>
  rw[CR] at h;cases hm:m.at id<;>rw[hm] at h<;>simp_all
  case aU=>grind [AV.known,iM.lN]
  case arr=>obtain⟨a,c,rfl,_⟩:=CP h;rfl
 case wq id _ _ _ _=>
  rw[CR] at h;cases hm:m.at id<;>rw[hm] at h<;>simp_all
  case aU=>grind [AV.known,iM.lN]
  case arr=>obtain⟨_,_,c,a,_,_,_,_,_,_,rfl,_⟩:=h;rfl
  case cH=>obtain⟨_,_,c,a,_,_,_,_,_,_,rfl,_⟩:=h;rfl
 case ptr id _=>
  rw[CR] at h;cases hm:m.at id<;>rw[hm] at h<;>simp only at h
  case aU=>grind [AV.known,iM.lN]
  case cH=>rw[h];rfl
 case kR id _ _=>
  rw[CR] at h;cases hm:m.at id<;>rw[hm] at h<;>simp_all
  case aU=>simp[AV.known,hm,iM.lN] at i
  case arr=>obtain⟨_,_,_,rfl⟩:=h;rfl
 case zp id _ _ _ _=>
  rw[CR] at h;cases hm:m.at id<;>rw[hm] at h<;>simp_all
  case aU=>grind [AV.known,iM.lN]
  case cH=>obtain⟨_,_,_,rfl⟩:=h;rfl
 case yield l=>
  rw[CR] at h;cases hm:m.at l<;>rw[hm] at h<;>simp only at h
  case aU=>grind [AV.known,iM.lN]
  case loop=>rw[h];rfl
theorem D3:∀{cs:List AV} {g:List Value},Ba m cs=true->eD w S m cs g->∀u∈g,u.oneCell'=true
 | [],g,_,h=>by rw[bA.1 h];simp_all
 | v::cs,g,hk,h=>by
   simp[Ba,eH] at hk;obtain⟨u,r,rfl,l,i⟩:=h.cons_inv;intro j c;rcases aC.1 c with rfl|c
   .grind [QA]
   .exact D3 hk.2.2 i j c
def af0{g c:List α}{off a s n:Nat}(h:off+n<=g.length)(i:a+s<=n)(j:c.length=s):
  g.take off++(((g.drop off).take n).take a++c++((g.drop off).take n).drop (a+s))++g.drop (off+n)=g.take (off+a)++c++g.drop (off+a+s):=by
 apply dL;simp[List.getElem?_append]
 grind
def JQ(hW:WR w0 w S m){p:AV}{v:Value}{a3:List AV}{B:List Value}{m':Mem}(hp:CR w S m p v)(hn:eD w S m a3 B)(bc:Ba m a3=true)(h:MZ af m p a3=some m'):
  ∃b off w' S',v=.pointer (some ⟨b,off,none⟩)/\(storeCells ⟨b,off,none⟩ B).run P w=.ok () w'/\Step w0 w S m w' S' m':=by
 have ab:=D3 bc hn;unfold MZ at h;cases p<;>simp only at h<;>try (cases h;done)
 case ptr id off=>
  have hb:=hW.box id;rw[CR] at hp;cases hm:m.at id<;>rw[hm] at h hp hb<;>(try simp only at hp h)<;>try (cases h;done)
  rename_i fz cs;cases fz<;>(try simp only at h)<;>try (cases h;done)
  split at h
  rotate_left
  cases h;rename_i N F;cases h;have⟨C,T,fr,V,h2,h3⟩:=hb;subst h2;have⟨h4,h5⟩:=qm F hn h3;have O:=run_storeCells_at P (S.σ id) off T B 0 C w V (by omega) ab;have Z:((C.toList.take off++B++C.toList.drop (off+B.length)).toArray).size=C.size:=by grind
  have ht:=qw V Z;have g:S.lv id (m.at id)=true:=by rw[hm];rfl
  have J:S.fz id (m.at id)=false:=by rw[hm];rfl
  have c:iX (m.at id)<|.cH false N:=by
   rw[hm];show N.length=cs.length;rw[<-h5.length,<-h3.length,uy,uy,c_,dR];omega
  have hO:=kN hW g J c (λh=>by rw[hm] at h;cases h) ht;refine⟨_,_,_,S,hp,O,⟨hW.set g J c (λh=>by rw[hm] at h;cases h) rfl ht ?_,hO,.refl⟩⟩;exact⟨_,T,(0,0),setRow_heap w _ C _ T _ V,rfl,h5.mono hO⟩
 case kR id i off=>
  cases J:gf af m a3 with
  | none=>simp_all
  | some q=>
    have⟨m1,Z2⟩:=q;rw[J] at h;simp only at h;have⟨H,W,c1⟩:=jM hW J hn;have G:=hp.mono W.out;have hb:=W.wr.box id;rw[CR] at G;cases hm:m1.at id<;>rw[hm] at h G hb<;>(try simp only at G h)<;>try (cases h;done)
    rename_i fz t x;cases fz<;>(try simp only at h)<;>try (cases h;done)
    obtain⟨k,rfl,hk,rfl⟩:=G;have az:x≠ []:=ne_of_lt hk;have bx:=hb.1;have bh:=W.wr.vd hm az;have⟨C,T,fr,V,h2,h3,h4⟩:=r8.blk hb az;have h2:fr=(0,0):=h2;subst h2;have he:=h4 k _<|q8 hk;have b6:=lI (m:=m1) t he;cases F:iJ off Z2 (lH af t<|af.n t x k) with
    | none=>simp_all
    | some N=>
      rw[F] at h;simp only at h;cases htd:zo t N with
      | none=>simp_all
      | some q=>
        have⟨y,r⟩:=q;rw[htd] at h;cases r with
        | cons _ _=>cases h
        | nil=>
          cases h;have⟨h5,h6⟩:=qm F c1 b6;have aw:k*t.size+t.size<=x.length*t.size:=by
           have:=aH t.size (show k+1<=x.length by omega)
           grind
          have ba:C.toList.length=C.size:=bC;have b7:((C.toList.drop<|H.δ id+k*t.size).take t.size).length=t.size:=by grind
          rw[b7] at h5;have O:=run_storeCells_at P (H.σ id) (H.δ id+k*t.size+off) T B 0 C w V (by omega) ab;simp only[kv] at O;have Z:((C.toList.take (H.δ id+k*t.size+off)++B++C.toList.drop (H.δ id+k*t.size+off+B.length)).toArray).size=C.size:=by grind
          have ht:=qw V Z;have g:H.lv id (m1.at id)=true:=by grind [rP]
          have K:H.fz id (m1.at id)=false:=by rw[hm];rfl
          have c:iX (m1.at id)<|.arr false t<|af.set x k y:=by
           rw[hm];exact⟨rfl,by show(x.set (k:Int).toNat y).length=_;simp,rfl⟩
          have hO:=kN W.wr g K c (λh=>by rw[hm] at h;cases h) ht;have⟨u1,u2,e,X,ae⟩:=nL t htd h6;rw[bA.1 ae,aJ] at e;refine⟨_,_,_,H,rfl,O,W.trans ⟨W.wr.set g K c (λh=>by rw[hm] at h;cases h) rfl ht ?_,hO,.refl⟩⟩;have Y:af.set x k y=x.set k y:=by rfl
          rw[Y];refine⟨by simp_all,λe=>absurd (bh.symm.trans e)<|by decide,λ_=>⟨_,T,(0,0),setRow_heap w _ C _ T _ V,rfl,by simp_all,λi z hz=>?_⟩⟩;rw[nq] at hz;by_cases ac:k=i
          .subst ac;rw[if_pos rfl,if_pos hk] at hz;cases hz;rw[VC (by omega) (by omega) (by omega)<|by omega,show H.δ id+k*t.size+off-(H.δ id+k*t.size)=off from by omega,e];exact X.mono hO.nH
          .rw[if_neg ac] at hz;have h7:=h4 i z hz;rw[sj (by omega) (by
            rcases Nat.lt_or_gt_of_ne ac with ad|ad
            .have:=aH t.size (show k+1<=i by omega)
             grind
            .have:=aH t.size (show i+1<=k by omega)
             grind)]
           exact h7.mono hO.nH
 case zp id off k t i=>
  cases J:gf af m a3 with
  | none=>simp_all
  | some q=>
    have⟨m1,Z2⟩:=q;rw[J] at h;simp only at h;have⟨H,W,c1⟩:=jM hW J hn;have G:=hp.mono W.out;have hb:=W.wr.box id;rw[CR] at G;cases hm:m1.at id<;>rw[hm] at h G hb<;>(try simp only at G h)<;>try (cases h;done)
    rename_i fz cs;cases fz<;>(try simp only at h)<;>try (cases h;done)
    obtain⟨j,rfl,hj,rfl⟩:=G;have⟨C,T,fr,V,h2,h3⟩:=hb;subst h2;cases ht:eZ off (k*t.size) cs with
    | none=>simp_all
    | some l=>
      rw[ht] at h;simp only at h;have⟨h4,h5⟩:=eD.eZ ht h3;cases hd:Dc (zo t) k l with
      | none=>simp_all
      | some q=>
        have⟨x,r⟩:=q;rw[hd] at h;cases htd:zo t Z2 with
        | none=>simp_all
        | some q=>
          have⟨y,r2⟩:=q;rw[htd] at h;cases r2 with
          | cons _ _=>cases h
          | nil=>
            simp only at h;split at h
            rotate_left
            cases h;rename_i N F;cases h;have⟨u1,u2,e,l1,l2,pr,_⟩:=rL (zo t) t.size (λu y=>bW w H.I t u y) (λcs x r C h hc=>by
             have⟨u1,u2,e,V,h2⟩:=nL t h hc;exact⟨u1,u2,e,V.length,V,h2⟩) k l x r _ hd h5
            have ae:u2=[]:=by simp_all
            rw[ae,aJ] at e;have⟨n1,n2,en,X,bb⟩:=nL t htd c1;rw[bA.1 bb,aJ] at en;have b0:B.length=t.size:=by rw[en];exact X.length
            have aw:j*t.size+t.size<=k*t.size:=by
             have:=aH t.size (show j+1<=k by omega)
             grind
            have ba:C.toList.length=C.size:=bC;have b8:off+k*t.size<=C.toList.length:=by
             have:=h4;rw[c_,dR] at this;by_cases hz:k*t.size=0
             .have:=h3.length;unfold eZ at ht;cases hbb:Nat.ble (off+k*t.size) cs.length with
              | false=>grind
              | true=>simp_all
             .omega
            have Y:af.set x j y=x.set j y:=by rfl
            rw[Y] at F;have b1:bW w H.I (.arr k t) (u1.take (j*t.size)++B++u1.drop (j*t.size+t.size))<|x.set j y:=by
             refine AY.2 ⟨by simp_all,by grind,λi z hz=>?_⟩;rw[nq] at hz;by_cases av:j=i
             .grind
             .rw[if_neg av] at hz;have hi:i<x.length:=(aR.1 hz).1;have bz:=sj (L:=u1) (new:=B) (p:=j*t.size) (a:=i*t.size) (s:=t.size) (by omega) (by
               rcases Nat.lt_or_gt_of_ne av with ad|ad
               .have:=aH t.size (show j+1<=i by omega)
                grind
               .have:=aH t.size (show i+1<=j by omega)
                grind)
              grind
            have be:(u1.take (j*t.size)++B++u1.drop (j*t.size+t.size)).length=k*t.size:=by grind
            have⟨h6,h7⟩:=qm F (lI (m:=m1) (.arr k t) b1) h3;rw[be,<-e,af0 b8 aw b0] at h7;have O:=run_storeCells_at P (H.σ id) (off+j*t.size) T B 0 C w V (by omega) ab;simp only[kv] at O;have Z:((C.toList.take (off+j*t.size)++B++C.toList.drop (off+j*t.size+B.length)).toArray).size=C.size:=by grind
            have b2:=qw V Z;have g:H.lv id (m1.at id)=true:=by rw[hm];rfl
            have K:H.fz id (m1.at id)=false:=by rw[hm];rfl
            have b5:N.length=cs.length:=by
             have a1:=h7.length;have a2:=h3.length
             simp_all
            have c:iX (m1.at id)<|.cH false N:=by
             rw[hm];exact b5
            have hO:=kN W.wr g K c (λh=>by rw[hm] at h;cases h) b2;refine⟨_,_,_,H,rfl,O,W.trans ⟨W.wr.set g K c (λh=>by rw[hm] at h;cases h) rfl b2 ?_,hO,.refl⟩⟩;rw[show off+j*t.size+t.size=off+j*t.size+B.length from by rw[b0]] at h7;exact⟨_,T,(0,0),setRow_heap w _ C _ T _ V,rfl,h7.mono hO⟩
end
end Go.Ev
namespace Go.Ev
variable{I:Nat->Prop}{X:Mem}{bx:iM}{cap:Nat}{g:List Value}{i:TypeInfo}{t:Ty}{u v x:Value}{α:Type}{y:List t.T}
section
variable {P:Program} {w0:nE} {w:World} {S:St} {m:Mem}
def oB{id:Nat}(c:id<m.length)(p:(m.at id).jY=false):dM w S m w S<|m.set id .aU:=by
 refine⟨λb i=>⟨i,rfl⟩,λj g=>?_,λj g=>?_⟩
 .rw[Mem.fU c];by_cases l:j=id
  .subst l;rw[if_pos rfl];refine⟨?_,λh=>absurd rfl h⟩;cases hm:m.at j<;>first|exact absurd hm g|trivial
  simp_all [fS]
 grind [Mem.fU]
def sH{id j:Nat}(c:id<m.length)(h:S.lv j (Mem.at (m.set id .aU) j)=true):j≠id/\S.lv j (m.at j)=true:=by
 rw[Mem.fU c] at h;by_cases g:j=id
 .rw[if_pos g] at h;cases h
 grind
def WR.kill(g:WR w0 w S m){id:Nat}(c:id<m.length)(y:(m.at id).jY=false):WR w0 w S<|m.set id .aU:=by
 have x:dM w S m w S<|m.set id .aU:=oB c y;refine⟨g.os,g.tape,g.output,g.size,g.base,g.nH,λj=>?_,λi j p t l=>g.inj i j (sH c p).2 (sH c t).2 l,λj h=>g.lo j (sH c h).2,λj h u=>?_,λj h=>?_,λi b h=>⟨by rw[cd];exact(g.root i b h).1,(g.root i b h).2⟩,g.cells⟩
 .have v:=g.box j;rw[Mem.fU c];by_cases l:j=id
  .rw[if_pos l];trivial
  .rw[if_neg l];exact v.mono x rfl rfl rfl λ_=>rfl
 .have⟨p,t⟩:=sH c h;rw[Mem.fU c,if_neg p] at u;exact g.qV j t u
 .rw[Mem.fU c] at h;by_cases l:j=id
  .rw[if_pos l] at h;cases h
  .rw[if_neg l] at h;exact g.Ju j h
def p9{v:World}{b d:Nat}(y:¬S.I b)(i:rU w v b)(x:iM):dM w S m v (S.push m.length b d false)<|m ++ [x]:=by
 refine⟨λB l=>⟨.inl l,i.other _ λe=>y<|e▸l⟩,λj t=>?_,λj p=>?_⟩
 .have g:=Mem.pL t;rw[Mem.lW g];refine⟨fS t,λC=>⟨if_neg<|by omega,if_neg<|by omega,if_neg<|by omega,λ_ u T fr h=>?_⟩⟩;by_cases c:S.σ j=b
  .rw[c] at h ⊢;exact i.cells u T fr h
  .exact⟨u,T,fr,by rw[i.other _ c];exact h,rfl⟩
 .have g:j<m.length:=Mem.pL λe=>by rw[e] at p;cases p
  grind [Mem.lW]
def WR.J7{K:World}(l:WR w0 w S m){b d:Nat}(a5:w0.free b/\b<w.heap.size)(v:∀j,S.lv j (m.at j)=true->S.σ j≠b)(Z:¬S.I b)(p:rU w K b)(a3:bx.S9=false)
  (hb:r8 K (S.push m.length b d false) (m ++ [bx]) m.length bx):WR w0 K (S.push m.length b d false)<|m ++ [bx]:=by
 have hO:=p9 (m:=m) (d:=d) Z p bx;have u:∀x,(S.push m.length b d false).I x->S.I x:=λx y=>y.elim id λh=>absurd h.1 (by decide);refine⟨p.os.trans l.os,l.tape.on p.tape λ_=>iC p.drawn.symm,p.output.trans l.output,by rw[p.size];exact l.size,λF t=>?_,λF t=>by rw[p.size];exact l.nH _<|u _ t,λj=>?_,λi j C B H=>?_,λj h=>?_,λj h G=>?_,λj h=>?_,λi b h=>⟨bD (l.root i b h).1<|by simp_all,(if_neg<|eY (l.root i b h).1).trans (l.root i b h).2.1,λd O=>⟨(if_neg<|eY (l.root i b h).1).trans ((l.root i b h).2.2 d O).1,(if_neg<|eY (l.root i b h).1).trans ((l.root i b h).2.2 d O).2⟩⟩,λc us T fr h=>by
  have⟨V,N,W,C,B⟩:=l.cells c us T fr h;by_cases e:c=b
  .subst e;have⟨a7,T2,X,k1,k2⟩:=p.cells V N W C;simp_all
  .exact⟨V,N,W,by rw[p.other c e];omega,B⟩⟩
 .rw[p.other F λe=>t<|by simp_all];exact l.base F t
 .by_cases g:j=m.length
  .grind [Mem.fI]
  .have Y:=l.box j;rw[Mem.mX,if_neg g];exact Y.mono hO (if_neg g) (if_neg g) (if_neg g) λhl=>p.other _<|v j hl
 .rw[Mem.mX] at C B;simp only[St.push] at H;by_cases J:i=m.length<;>by_cases g:j=m.length
  .omega
  .rw[if_neg g,nJ g] at B;grind
  .simp_all [nJ]
  .rw[if_neg J,if_neg g] at H;rw[if_neg J,nJ J] at C;rw[if_neg g,nJ g] at B;exact l.inj i j C B H
 .rw[Mem.mX] at h;rw[p.size];by_cases g:j=m.length
  .simp_all [St.push]
  .rw[if_neg g,nJ g] at h;simp only[St.push,if_neg g];exact⟨(l.lo j h).1.imp .inl<|λx=>x,(l.lo j h).2⟩
 .intro y;have y:=u _ y;rw[Mem.mX] at h G;simp only[St.push] at y;by_cases g:j=m.length
  .grind
  .rw[if_neg g,nJ g] at h;rw[if_neg g,yV g] at G;rw[if_neg g] at y;exact l.qV j h G y
 .rw[Mem.mX] at h;by_cases g:j=m.length
  .simp_all [aha]
  .rw[if_neg g,yV g] at h;show(S.push m.length b d false).I (if j=m.length then b else S.σ j);rw[if_neg g];exact .inl<|l.Ju j h
def Step.aaz{t:World}(i:WR w0 w S m){id d:Nat}(l:S.lv id (m.at id)=true)(B:(m.at id).jY=false)(F:S.fz id (m.at id)=false)(G:rU w t<|S.σ id)(u:bx.S9=false)
  (y:dM w S m t (S.push m.length (S.σ id) d false) (m.set id .aU ++ [bx])->r8 t (S.push m.length (S.σ id) d false) (m.set id .aU ++ [bx]) m.length bx) :
  Step w0 w S m t (S.push m.length (S.σ id) d false) (m.set id .aU ++ [bx]):=by
 have c:=Mem.jO l;have H:=i.kill c B;have p:(m.set id .aU).length=m.length:=cd ..;have g:∀j,S.lv j (Mem.at (m.set id .aU) j)=true->S.σ j≠S.σ id:=λj C e=>(sH c C).1<|i.inj j id (sH c C).2 l e;have v:=i.qV id l F;have x:=(oB (w:=w) (S:=S) c B).trans<|p9 (d:=d) v G bx;have:=H.J7 (d:=d) ⟨i.lof l F,(i.lo id l).2⟩ g v G u (by grind);rw[p] at this x;exact⟨this,x,λb y=>y.elim .inl λh=>absurd h.1<|by decide⟩
theorem uW{A:aS}:∀{cs g:List AV} {m i:Mem} {id:Nat} {fz:Bool} {c:List AV},gf A m cs=some (i,g)->m.at id=.cH fz c->i.at id=.cH fz c
 | [],g,m,i,id,fz,c,h,hm=>by cases h;omega
 | v::vs,g,m,i,id,fz,c,h,hm=>by
   have p:∀{B:Mem} {C:AV},B.at id=.cH fz c->(match gf A B vs with|none=>none|some (m,vs)=>some (m,C::vs))=some (i,g)->i.at id=.cH fz c:=by
    intro B C F h;split at h;cases h;rename_i q G;cases h;exact uW G F
   have set:∀{j:Nat} {u:Bool} {t:Ty} {x:List t.T},m.at j=.arr u t x->Mem.at (m.set j<|.arr true t x) id=.cH fz c:=by
    intro j u t x l;have y:j<m.length:=Mem.pL λe=>by grind
    rw[Mem.fU y,if_neg λe=>by rw[e,l] at hm;cases hm];omega
   have same:(match gf A m vs with|none=>none|some (m,vs)=>some (m,v::vs))=some (i,g)->i.at id=.cH fz c:=p hm;unfold gf at h;cases v<;>(try exact same h)
   case own j=>
    simp only at h;cases l:m.at j<;>rw[l] at h<;>(try simp only at h)<;>try (cases h;done)
    exact p (set l) h
   case wq j _ _ lo len=>
    simp only at h;cases l:m.at j<;>rw[l] at h<;>(try simp only at h)<;>try (cases h;done)
    exact p (set l) h
theorem I_.mono{w':World}{j:Nat->Prop}(G:∀b,I b->j b/\w'.heap[b]? = w.heap[b]?)(l:∀b off c,lV w b off c->lV w' b off c)(h:I_ w I t v y):I_ w' j t v y:=by
 have⟨a,g,c,p,u,x,K,B,C,F⟩:=h;exact⟨a,g,c,p,u,x,λH=>by grind,B,C,λi z J=>(F i z J).mono G⟩
def Jq(F:WR w0 w S m){q:Bool}{v K:AV}{j:Mem}(Z:CR w S m v u)(h:LA af q m v=(K,j)):∃p,Step w0 w S m w p j/\CR w p j K u:=by
 have same:(v,m)=(K,j)->∃p,Step w0 w S m w p j/\CR w p j K u:=λh=>by cases h;exact⟨S,.refl F,Z⟩
 cases q
 .exact same h
 cases v<;>try exact same h
 rename_i id sz c lo n;unfold LA at h;simp only at h;cases hm:m.at id<;>rw[hm] at h<;>try exact same h
 rename_i fz t x;cases fz<;>try exact same h
 simp only at h;split at h
 rotate_left
 .simp_all
 rename_i W;have W:=of_decide_eq_true W;cases h;have Y:=Z;rw[CR,hm] at Y;obtain⟨l,k,N,a,e1,rfl,rfl,X,h5,h6,rfl,h8,h9⟩:=Y;have hl:l=0:=by omega
 subst hl;rw[gJ] at X;have G:=F.box id;rw[hm] at G;have es:af.s x 0 (k:Int)=x.take k:=by rfl
 rw[es];have C:id<m.length:=Mem.pL λe=>by simp_all
 have O:(m.set id .aU).length=m.length:=cd ..;have B:(x.take k).length=k:=by simp_all
 cases hvd:S.vd id
 .obtain⟨rfl,us,T,fr,H,k2⟩:=(h9 rfl).2 hvd;have⟨ab,T2,a4,V,g2,g3,g4⟩:=G.2.2 hvd;rw[H] at V;cases V;have J:=Step.aaz (d:=S.δ id) (bx:=.arr false t<|x.take k) F (id:=id) (by rw[hm];simp[St.lv,hvd]) (by rw[hm];rfl) (by rw[hm];rfl) (rU.none w _) rfl (λhO=>by
   refine⟨by rw[B];exact aV X G.1,yW,λ_=>⟨us,T,fr,?_,g2,?_,λi y hy=>?_⟩⟩
   .simp only[St.push];grind
   .simp only[St.push];have:=aH t.size h5
    grind
   .have aa:x[i]? = some y:=by grind
    simp only[St.push]
    simp_all)
  refine⟨_,J,?_⟩;have g:Mem.at (m.set id .aU ++ [.arr false t<|x.take k]) m.length=.arr false t (x.take k):=by
   have:=Mem.fI (m:=m.set id .aU) (b:=.arr false t<|x.take k);simp_all
  rw[CR,g];refine .inr ⟨by simp[St.push],N,?_,by omega,us,T,fr,?_,?_⟩
  .simp only[St.push];grind
  .simp[St.push,if_pos];omega
  .simp[St.push,if_pos];omega
 .have hx:=G.2.1 hvd;have hk:k=0:=by simp_all
  subst hk;have H:=F.kill C (by rw[hm];rfl);have J:=Step.an0 H t;rw[O] at J;refine⟨_,Step.trans ⟨H,oB C (by rw[hm];rfl),λb h=>.inl h⟩ J,?_⟩;have g:Mem.at (m.set id .aU ++ [.arr false t []]) m.length=.arr false t []:=by
   have:=Mem.fI (m:=m.set id .aU) (b:=.arr false t []);simp_all
  show CR w _ (m.set id .aU ++ [.arr false t []]) _ _;rw[CR,g];exact .inl ⟨wA,rfl,a,by simp_all⟩
def G9(K:WR w0 w S m){v v1:AV}(hv:CR w S m v u)(h:BM af t m v=some (v1,X)):∃S1,Step w0 w S m w S1 X/\CR w S1 X v1 u:=by
 unfold BM at h;split at h
 .rename_i id sz lo n;split at h
  rotate_left
  cases h;rename_i cs V;split at h
  rotate_left
  cases h;rename_i g;simp only[eH,tP] at g;obtain⟨rfl,F,G,h3⟩:=g;have G:=vL G;subst G;have h3:t.size≠0:=λe=>by simp_all
  have N:=hv;rw[CR,V] at N;obtain⟨l,k,c,a,e1,e2,h4,h5,h6,h7,rfl,h8⟩:=N;have hl:l=0:=by omega
  subst hl;subst e2;simp at F h4 h5;have a3:c<=k:=rI (by rw[<-F];omega) (by omega);have j:c=k:=by omega
  subst j;split at h
  .rename_i J;have J:=vL J;cases h;subst J;exact⟨S,.refl K,m_.2 ⟨a,rfl,λh=>by cases h⟩⟩
  .rename_i J;have J:c≠0:=λe=>by simp_all
   cases hf:gf af m cs with
   | none=>simp_all
   | some q=>
     have⟨m2,C⟩:=q;rw[hf] at h;simp at h;cases htd:Dc (zo t) c C with
     | none=>simp_all
     | some q=>
       have⟨x,r⟩:=q;rw[htd] at h;cases r with
       | cons _ _=>cases h
       | nil=>
         cases h;have H:=K.box id;rw[V] at H;have⟨Z,T,fr,k1,k2,k3⟩:=H;have⟨O,Y,s2⟩:=jM K hf k3;have B:m2.at id=.cH false cs:=uW hf V;have⟨u1,u2,e,l1,l2,pr,hr⟩:=rL (zo t) t.size (λu y=>bW w O.I t u y) (λcs x r Z h N=>by
          have⟨u1,u2,e,F,G⟩:=nL t h N;exact⟨u1,u2,e,F.length,F,G⟩) c C x [] _ htd s2
         rw[bA.1 hr,aJ] at e;have hσ:O.σ id=S.σ id:=((Y.out.box id<|by simp_all).2<|by simp_all).1;have p:O.lv id (m2.at id)=true:=by rw[B];rfl
         have a4:Z.size=c*t.size:=by grind
         have W:=Step.aaz (d:=0) (bx:=.arr false t x) Y.wr p (by rw[B];rfl) (by rw[B];rfl) (rU.none w _) rfl (λhO=>by
          refine⟨by omega,yW,λ_=>⟨Z,T,fr,?_,k2,?_,λi y hy=>?_⟩⟩
          all_goals grind [St.push])
         refine⟨_,Y.trans W,?_⟩
         simp_all [CR,Mem.at,St.push]
 .cases h;exact⟨S,.refl K,hv⟩
def Ez{us:Array Value}{T:TypeId}{fr:Nat×Nat}{b:Nat}{x:List t.T}(C:w.heap[b]? = some (.cells us T fr))(v:I b)(p:∀(i:Nat) (y:t.T),x[i]? = some y->bW w I t ((us.toList.drop<|i*t.size).take t.size) y)
  {l n cap:Nat} {a:Option Addr} (H:n<=gg) (F:l+n<=x.length) (G:n<=cap) (u:a=none->cap=0) (c:n≠0->a=some ⟨b,l*t.size,none⟩) :
  bW w I (.slice t) [.slice a n cap] ((x.take<|l+n).drop l):=by
 have j:((x.take<|l+n).drop l).length=n:=by simp_all
 refine eP.2 ⟨a,cap,by grind,by omega,by omega,u,λi y g=>?_⟩;rw[dh,cX] at g;split at g
 .rename_i B;have h:=p _ _ g;refine⟨_,_,_,c<|by omega,v,h.length,?_,h⟩;have e:l*t.size+i*t.size=(l+i)*t.size:=by grind
  grind [jm]
 simp_all
theorem En(hW:WR w0 w S m){v v1:AV}(hv:CR w S m v u)(h:Cs af t m v=some (v1,X)):∃Z,Step w0 w S m w Z X/\CR w Z X v1 u:=by
 unfold Cs at h;split at h
 .rename_i id sz c lo n;split at h
  rotate_left
  cases h;rename_i fz cs V;split at h
  rotate_left
  cases h;rename_i g;simp only[eH] at g;have⟨B,h2,h3⟩:=g;have B:=vL B;have h3:=vL h3;have K:=hv;rw[CR,V] at K;obtain⟨l,k,N,a,rfl,rfl,h4,h5,h6,h7,rfl,h8⟩:=K;cases hf:gf af m cs with
  | none=>grind
  | some q=>
    have⟨m2,j⟩:=q;rw[hf] at h;simp only at h;cases htd:Dc (zo t) (cs.length/t.size) j with
    | none=>grind
    | some q=>
      have⟨x,r⟩:=q;rw[htd] at h;cases r with
      | cons _ _=>cases h
      | nil=>
        cases h;have C:=hW.box id;rw[V] at C;have⟨us,T,fr,k1,k2,k3⟩:=C;have⟨H,G,Y⟩:=jM hW hf k3;have p:m2.at id=.cH fz cs:=uW hf V;have⟨u1,u2,e,l1,l2,pr,hr⟩:=rL (zo t) t.size (λu y=>bW w H.I t u y) (λcs x r us h K=>by
         have⟨u1,u2,e,B,h2⟩:=nL t h K;exact⟨u1,u2,e,B.length,B,h2⟩) (cs.length/t.size) j x [] _ htd Y
        rw[bA.1 hr,aJ] at e;have hσ:H.σ id=S.σ id:=((G.out.box id<|by grind).2<|by grind).1;have F:j.length=cs.length:=by rw[<-Y.length,k3.length]
        have O:=G.wr.Af p F (by rw[hσ];omega) k2 Y;have am:=G.wr.lo id (by rw[p];rfl);refine⟨_,G.trans ⟨O,lq G.wr p F,λb J=>?_⟩,sO.2 ?_⟩
        .rcases J with J|rfl
         all_goals grind
        have W:l+k<=x.length:=by grind [Nat.mul_le_mul_right,Nat.le_of_mul_le_mul_right]
        have a5:=Ez (w:=w) (I:=(H.Ju<|H.σ id).I) (t:=t) (x:=x) (us:=us) (l:=l) (n:=k) (cap:=N) (a:=a) (by rw[hσ];omega) (.inr rfl) (λi y hy=>by
         rw[e];exact bW.mono (λb J=>⟨.inl J,rfl⟩) t<|pr i y hy) (by omega) W h6 h7 (by grind)
        have ag:=jb;have e2:af.b .add .i64 (l:Int) (k:Int)=((l+k:Nat):Int):=by
         show IntKind.i64.wrap _=_
         grind [wrap_small]
        split
        .grind [List.take_of_length_le]
        .rw[e2,Az];omega
 simp_all
theorem Em(j:WR w0 w S m){v i:AV}{c:Mem}(l:CR w S m v u)(h:Cr af t m v=some (i,c)):∃g,Step w0 w S m w g c/\CR w g c i u:=by grind [En,Cr]
structure Src(P:Program)(w:World)(sz:Nat)(x:Value)(k:Nat)(news:List Value):Prop where
 len:∀w',(Builtin.lenOf x).run P w'=.ok k w'
 cells:∀w',w'.heap=w.heap->(Builtin.firstCells sz k x).run P w'=.ok news.toArray w'
 size:news.length=k*sz
def I_.src(h:I_ w I t v y):∃c,Src P w t.size v y.length c/\∀(i:Nat) (z:t.T),y[i]? = some z->bW w I t ((c.drop<|i*t.size).take t.size) z:=by
 obtain⟨a,l,c,rfl,B,g,p,C,F,u⟩:=h;exact⟨c,⟨λj=>rfl,λj x=>sW g p j x,g⟩,u⟩
def qX{T j ty e:TypeId}{y:TypeDesc}(v:P.underlying T=some (.slice e))(h:P.underlying j=some y)(B:∀k,y≠.int k)(p:P.info? e=some i){a:Option Addr}{n k:Nat}(u:Src P w i.size x k g)
  (c:n+k<=cap):(Builtin.append_ #[T,j] ty #[.slice a n cap,x]).run P w =
    ((match a with|some a=>storeCells (a.add<|n*i.size) g|none=>pure ()).run P w).andThen λ_ w=>.ok (.slice a (n+k) cap) w:=by
 have t:=u.len w;have l:=u.cells w rfl;cases a with
 | none=>simp[Builtin.append_,run_underlying v,run_underlying h,sizeOf,typeInfo,p,t,c,l]
 | some a=>simp[Builtin.append_,run_underlying v,run_underlying h,sizeOf,typeInfo,p,t,c,l]
def C8{T u ty e:TypeId}{z:Value}{B:TypeDesc}(J:P.underlying T=some (.slice e))(p:P.underlying u=some B)(K:∀k,B≠.int k)(F:P.info? e=some i)(N:i.zero=some z){a:Option Addr}{n k:Nat}{olds c:List Value}(y:Src P w i.size x k c)
  (l:∀t,t.heap=w.heap->(Builtin.firstCells i.size n<|.slice a n cap).run P t=.ok olds.toArray t)
  (O:cap<n+k) (j:n+k<=gg) (v:Builtin.nextslicecap (n+k) cap*i.bytes<=281474976710656) :
  (Builtin.append_ #[T,u] ty #[.slice a n cap,x]).run P w=.ok (.slice (some ⟨w.heap.size,0,none⟩) (n+k)<|grownCap w (n+k) cap e)
    (w.drew.alloc<|.cells ((olds++c).toArray++Builtin.zeroCells z.cells (grownCap w (n+k) cap e-(n+k))) e):=by
 have G:=y.len w;have C:=y.cells w.drew rfl;have l:=l w.drew rfl;rw[jb] at j;have H:¬(n+k<=cap):=by omega
 have h:¬(9223372036854775807<((n:Int)+(k:Int))):=by omega
 have g:¬(281474976710656<Builtin.nextslicecap (n+k) cap*i.bytes):=by omega
 simp[Builtin.append_,run_underlying J,run_underlying p,sizeOf,typeInfo,zeroValue,F,N,G,H,h,g,Question.forced,C,l,newRow,grownCap]
 grind
def uK{a b:Int}:af.c .leq a b=true↔a<=b:=by
 show decide (a<=b)=true↔_
 grind
def Uc{a b:Int}:af.c .eql a b=true↔a=b:=by
 show(a==b)=true↔_
 grind
def su(x:List α):af.l x=(x.length:Int):=rfl
def wL(x y:List α):af.p x y=x++y:=rfl
def Mt{n c:Nat}(h:(n:Int)<=140737488355328/((c.max 1:Nat):Int)):n<=gg/\n*c<=140737488355328:=by
 have g:1<=c.max 1/\c<=c.max 1:=⟨Nat.le_max_right ..,Nat.le_max_left ..⟩;have i:n<=140737488355328/(c.max 1):=by grind
 have j:n*(c.max 1)<=140737488355328:=(Nat.le_div_iff_mul_le<|by omega).1 i;have l:n*c<=n*c.max 1:=Nat.mul_le_mul_left _ g.2;have p:n*1<=n*c.max 1:=Nat.mul_le_mul_left _ g.1
 grind [jb]
def yP{c:List α}{n s:Nat}(v:c.length=n*s){u:α}(h:u∈c):∃i,i<n/\u∈(c.drop<|i*s).take s:=by
 obtain⟨j,t,rfl⟩:=List.getElem_of_mem h;have g:0<s:=Nat.pos_of_ne_zero λe=>by grind
 refine⟨j/s,(Nat.div_lt_iff_lt_mul g).2<|by omega,?_⟩;have l:=Nat.div_add_mod j s;have p:=Nat.mod_lt j g;refine jf (i:=j%s) ?_
 grind
mutual
theorem bW.oneCell{I:Nat->Prop}:∀(t:Ty) {cs:List Value} {x:t.T},t.r7=true->bW w I t cs x->∀u∈cs,u.oneCell'=true
 | .any n,cs,x,ht,h=>by cases ht
 | .int k,cs,x,_,h=>by rw[bW] at h;intro u c;rw[h.1] at c;rcases aG.1 c with rfl;rfl
 | .bool,cs,x,_,h=>by rw[bW] at h;intro u c;rw[h] at c;rcases aG.1 c with rfl;rfl
 | .str,cs,x,_,h=>by rw[bW] at h;intro u c;rw[h.1] at c;rcases aG.1 c with rfl;rfl
 | .slice t,cs,x,_,h=>by rw[bW] at h;have⟨a,g,h,_⟩:=h;intro u c;rw[h] at c;rcases aG.1 c with rfl;rfl
 | .arr n t,cs,x,ht,h=>by
   rw[bW] at h;intro u c;have⟨i,j,c⟩:=yP h.2.1 c;exact bW.oneCell t (by grind [Ty.r7]) (h.2.2 i _<|Jv<|by omega) u c
 | .struct ts,cs,x,ht,h=>by rw[bW] at h;exact gk.oneCell ts (by grind [Ty.r7]) h
theorem gk.oneCell{I:Nat->Prop}:∀(g:List Ty) {cs:List Value} {x:Ty.Ts g},Ty.H9 g=true->gk w I g cs x->∀u∈cs,u.oneCell'=true
 | [],cs,x,_,h=>by grind [gk]
 | [t],cs,x,ht,h=>by rw[gk] at h;exact bW.oneCell t (by grind [Ty.H9]) h
 | t::l::g,cs,x,ht,h=>by
   rw[Ty.H9,eH] at ht;obtain⟨p,v,rfl,i,j⟩:=h;intro u c;rcases oJ.1 c with c|c
   .exact bW.oneCell t ht.1 i u c
   .exact gk.oneCell (l::g) ht.2 j u c
end
def OO(g:WR w0 w S m){e:TypeId}{xs:List t.T}{us:List Value}{zs:Array Value}(G:us.length=xs.length*t.size)(C:us.length+zs.size=cap*t.size)(x:xs.length<=cap)(v:xs.length<=gg)
  (B:∀(i:Nat) (y:t.T),xs[i]? = some y->bW w S.I t ((us.drop<|i*t.size).take t.size) y) :
  ∃c,Step w0 w S m (w.alloc<|.cells (us.toArray++zs) e) c (m ++ [.arr false t xs])/\CR (w.alloc<|.cells (us.toArray++zs) e) c (m ++ [.arr false t xs]) (.own m.length) (.slice (some ⟨w.heap.size,0,none⟩) xs.length cap):=by
 have u:=mM g (.cells (us.toArray++zs) e) (.arr false t xs) 0 false;have j:(w.alloc<|.cells (us.toArray++zs) e).heap[w.heap.size]? = some (.cells (us.toArray++zs) e (0,0)):=heap_alloc_new w _;refine⟨S.push m.length w.heap.size 0 false,Step.push g (bx:=.arr false t xs) ⟨v,yW,λ_=>⟨us.toArray++zs,e,(0,0),?_,rfl,?_,λi y l=>?_⟩⟩,?_⟩
 .simp only[St.push,if_pos];omega
 .simp[St.push,if_pos];omega
 .simp[St.push,if_pos,gJ,gp];have F:i<xs.length:=(aR.1 l).1;have h:i*t.size+t.size<=xs.length*t.size:=by
   have:=aH t.size (show i+1<=xs.length by omega)
   grind
  have p:((us++zs.toList).drop<|i*t.size).take t.size=(us.drop<|i*t.size).take t.size:=by grind
  rw[p];exact(B i y l).mono u.nH
 .rw[CR,Mem.fI];refine .inr ⟨wA,cap,?_,x,us.toArray++zs,e,(0,0),?_,?_⟩
  .simp[St.push,if_pos]
  .simp only[St.push,if_pos];omega
  .simp[St.push,if_pos];omega
def OW{c p:List t.T}{l:List Value}(v:g.length=c.length*t.size)
  (x:∀(i:Nat) (y:t.T),c[i]? = some y->bW w I t ((g.drop<|i*t.size).take t.size) y) (B:∀(i:Nat) (y:t.T),p[i]? = some y->bW w I t ((l.drop<|i*t.size).take t.size) y) :
  ∀(i:Nat) (y:t.T),(c++p)[i]? = some y->bW w I t (((g++l).drop<|i*t.size).take t.size) y:=by
 intro i y j;by_cases u:i<c.length
 .rw[cN u] at j;have h:i*t.size+t.size<=c.length*t.size:=by
   have:=aH t.size (show i+1<=c.length by omega)
   grind
  grind
 .rw[dz<|by omega] at j;have e:i*t.size=g.length+(i-c.length)*t.size:=by
   rw[v,<-fD];simp_all
  grind [List.drop_drop,List.drop_left]
theorem Er(hW:WR w0 w S m){T T' ty e:TypeId}{u':TypeDesc}(ht:P.underlying T=some (.slice e))(ht':P.underlying T'=some u')(hu':∀k,u'≠.int k){te:TI}(hte:Cn P e te)(hty:te.ty=some t)
  {dst:AV} {u x:Value} {y:List t.T} {news:List Value} {lit:Option Bool} {v:AV} {m':Mem} (hd:CR w S m dst u) (hs:Src P w t.size x y.length news) (hr:∀(i:Nat) (z:t.T),y[i]? = some z->bW w S.I t ((news.drop (i*t.size)).take t.size) z)
  (hlit:∀b,lit=some b->decide (y.length=0)=b) (h:(Cx af t te.bytes m dst y lit).Is (v,m')) :
  ∃z w' S',(Builtin.append_ #[T,T'] ty #[u,x]).run P w=.ok z w'/\Step w0 w S m w' S' m'/\CR w' S' m' v z:=by
 obtain⟨i,z0,hi,his,hib,hiz,hzc,hzr⟩:=hte.info;have hts:t.size=te.size:=(hte.ty t hty).1;have hz0:z0.cells.size=t.size:=by
  have:=(hzr t hty w S.I).length;omega
 rw[hts,<-his] at hs;have hts':t.size=i.size:=by omega
 unfold Cx at h;cases ho:BM af t m dst with
 | none=>rw[ho] at h;exact h.elim
 | some q=>
   obtain⟨d1,m1⟩:=q;rw[ho] at h;obtain⟨S1,s1,hd1⟩:=G9 hW hd ho;have hr1:∀(i:Nat) (z:t.T),y[i]? = some z->bW w S1.I t ((news.drop (i*t.size)).take t.size) z:=λi z hz=>(hr i z hz).mono s1.out.nH
   have grow:∀{a:Option Addr} {n cap:Nat} {xs:List t.T} {olds:List Value} {S2:St} {m2:Mem},Step w0 w S m w S2 m2->u=.slice a n cap->n=xs.length->olds.length=n*t.size->(n≠0->∃b off,a=some ⟨b,off,none⟩/\lV w b off olds)->
     (∀(i:Nat) (y:t.T),xs[i]? = some y->bW w S2.I t ((olds.drop (i*t.size)).take t.size) y)->cap<n+y.length->((n+y.length:Nat):Int)<=140737488355328/((te.bytes.max 1:Nat):Int)->
     ∃z w' S',(Builtin.append_ #[T,T'] ty #[u,x]).run P w=.ok z w'/\Step w0 w S m w' S' (m2 ++ [.arr false t (xs++y)])/\CR w' S' (m2 ++ [.arr false t (xs++y)]) (.own m2.length) z:=by
    intro a n cap xs olds S2 m2 s2 hu hn hl hrow hre hg hfit;obtain⟨f1,f2⟩:=Mt hfit;subst hu;have hrun:=C8 (ty:=ty) ht ht' hu' hi hiz hs (a:=a) (n:=n) (cap:=cap) (olds:=olds) (λw' hh=>by rw[<-hts'];exact sW hl hrow w' hh) hg f1 (growslice_fits hg (by grind));have hcap:n+y.length<=grownCap w (n+y.length) cap e:=grownCap_ge ..;have hlen:(olds++news).length=(xs++y).length*t.size:=by rw[uy,uy,hl,hs.size,fD,hn,hts']
    obtain⟨S3,s3,c3⟩:=OO (w:=w.drew) s2.wr.drew (e:=e) (xs:=xs++y) (us:=olds++news) (zs:=Builtin.zeroCells z0.cells (grownCap w (n+y.length) cap e-(n+y.length))) (cap:=grownCap w (n+y.length) cap e) hlen
     (by rw[hlen,size_zeroCells,hz0,uy,<-fD];grind) (by grind) (by grind) (OW (by grind) (λi z hz=>bW.mono (w:=w) (w':=w.drew) (λ_ hb=>⟨hb,rfl⟩) t (hre i z hz)) λi z hz=>bW.mono (w:=w) (w':=w.drew) (λb hb=>⟨(s2.out.nH b hb).1,rfl⟩) t (hr i z hz))
    refine⟨_,_,S3,hrun,(s2.trans (.drew s2.wr)).trans s3,?_⟩
    simp_all
   cases d1<;>simp only at h<;>try exact h.elim
   case eT b=>
    obtain⟨a,rfl,hb⟩:=m_.1 hd1;have none_:y.length=0->∃z w' S',(Builtin.append_ #[T,T'] ty #[.slice a 0 0,x]).run P w=.ok z w'/\Step w0 w S m w' S' m1/\CR w' S' m1 (.eT b) z:=by
     intro hy;have hnil:news=[]:=bg (by rw[hs.size,hy];omega);have hrun:=qX (ty:=ty) ht ht' hu' hi (a:=a) (n:=0) (cap:=0) hs (by omega);refine⟨.slice a 0 0,w,S1,?_,s1,m_.2 ⟨a,rfl,hb⟩⟩;rw[hrun,hnil,hy];cases a<;>rfl
    have some_:y.length≠0->(y.length:Int)<=140737488355328/((te.bytes.max 1:Nat):Int)->∃z w' S',(Builtin.append_ #[T,T'] ty #[.slice a 0 0,x]).run P w=.ok z w'/\Step w0 w S m w' S' (m1 ++ [.arr false t y])/\CR w' S' (m1 ++ [.arr false t y]) (.own m1.length) z:=by
     intro hy hfit;have:=grow (a:=a) (n:=0) (cap:=0) (xs:=[]) (olds:=[]) s1 rfl rfl (by simp) (λh=>absurd rfl h) (λi y hy=>by grind) (by omega) (by omega)
     grind
    cases lit with
    | none=>
      rcases h with ⟨hb,h⟩|⟨hb,hn,h⟩
      .cases h;rw[Uc,su] at hb
       grind
      .cases h;rw[uK,su] at hn;refine some_ (λh0=>?_) hn
       simp_all
       cases hb
    | some b'=>
      cases b' with
      | true=>cases h;grind
      | false=>
        obtain⟨hn,h⟩:=h;cases h;rw[uK,su] at hn
        grind
   case own id=>
    have hb:=s1.wr.box id;rw[CR] at hd1;cases hm:m1.at id<;>rw[hm] at h hd1 hb<;>(try simp only at hd1 h)<;>try (exact h.elim)
    rename_i fz t' xs;cases fz<;>(try simp only at h)<;>try (exact h.elim)
    by_cases hbq:t'.beq t=true
    .rw[dif_pos hbq] at h;have:=Ty.eq_of_beq hbq;subst this;obtain⟨hn,h⟩:=h;cases h;rw[uK,su] at hn;replace hn:((xs++y).length:Int)<=140737488355328/((te.bytes.max 1:Nat):Int):=hn;rw[uy] at hn;cases hvd:S1.vd id with
     | true=>
       have hxs:=hb.2.1 hvd;subst hxs;obtain⟨a,rfl⟩:∃a,u=.slice a 0 0:=hd1.elim (·.2.2) λh=>by simp_all
       have hlt1:id<m1.length:=Mem.pL λe=>by simp_all
       have hctl:(m1.at id).jY=false:=by rw[hm];rfl
       have hlenm:(m1.set id .aU).length=m1.length:=cd ..;have sk:Step w0 w S1 m1 w S1 (m1.set id .aU):=⟨s1.wr.kill hlt1 hctl,oB hlt1 hctl,λb hb=>.inl hb⟩;by_cases hy:y.length=0
       .have hy0:y=[]:=bg hy;have hnil:news=[]:=bg (by rw[hs.size,hy];omega);have hrun:=qX (ty:=ty) ht ht' hu' hi (a:=a) (n:=0) (cap:=0) hs (by omega);have sv:=Step.an0 sk.wr t';rw[hlenm] at sv;refine⟨.slice a 0 0,w,S1.push m1.length 0 0 false true,?_,?_,?_⟩
        .rw[hrun,hnil,hy];cases a<;>rfl
        .rw[hy0];exact(s1.trans sk).trans sv
        .rw[hy0,CR,show Mem.at (m1.set id .aU ++ [.arr false t' (af.p [] [])]) m1.length=.arr false t' [] from by rw[<-hlenm];exact Mem.fI];exact .inl ⟨wA,rfl,a,rfl⟩
       .have:=grow (a:=a) (n:=0) (cap:=0) (xs:=[]) (olds:=[]) (s1.trans sk) rfl rfl (by simp) (λh=>absurd rfl h) (λi y hy=>by grind) (by omega) (by omega);rw[hlenm] at this;exact this
     | false=>
       obtain⟨cap,rfl,hcap,us0,T0,fr0,g1,g2⟩:=own_ne hd1 hvd;obtain⟨us,T1,fr,k1,k2,k3,k4⟩:=hb.2.2 hvd;have hlm:=hb.1;rw[k1] at g1;obtain⟨rfl,_⟩:=Obj.cells.inj (Option.some.inj g1);have k2:fr=(0,0):=k2;subst k2;have hlive:S1.lv id (m1.at id)=true:=by rw[hm,rP,hvd];rfl
       have hctl:(m1.at id).jY=false:=by rw[hm];rfl
       have hfz1:S1.fz id (m1.at id)=false:=by rw[hm];rfl
       have hltm:=Mem.jO hlive;have hlenm:(m1.set id .aU).length=m1.length:=cd ..;have hlu:us.toList.length=us.size:=bC;by_cases hroom:xs.length+y.length<=cap
       .-- in place
        obtain⟨f1,_⟩:=Mt hn;have hle:(xs.length+y.length)*t'.size<=cap*t'.size:=aH _ hroom;rw[fD] at hle;have hnl:news.length=y.length*t'.size:=by rw[hs.size,hts']
        have h1c:∀v∈news,v.oneCell'=true:=λu hu=>by
         obtain⟨i,hi,hu⟩:=yP hnl hu;exact bW.oneCell t' (hte.r7 _ hty) (hr i _ (Jv hi)) u hu
        have hst:=run_storeCells_at P (S1.σ id) (S1.δ id+xs.length*t'.size) T1 news 0 us w k1 (by omega) h1c;simp only[kv] at hst;have hrun:=qX (ty:=ty) ht ht' hu' hi (a:=some ⟨S1.σ id,S1.δ id,none⟩) (n:=xs.length) (cap:=cap) hs hroom;simp only[kl,<-hts',hst,dF] at hrun;have hsz:((us.toList.take (S1.δ id+xs.length*t'.size)++news++us.toList.drop (S1.δ id+xs.length*t'.size+news.length)).toArray).size=us.size:=by
         rw[List.size_toArray,uy,uy,c_,dR];omega
        have hturn:=qw k1 hsz;have hstep:=Step.aaz (d:=S1.δ id) (bx:=.arr false t' (af.p xs y)) s1.wr hlive hctl hfz1 hturn rfl (λhO=>by
         refine⟨by rw[wL,uy];omega,yW,λ_=>⟨(us.toList.take (S1.δ id+xs.length*t'.size)++news++us.toList.drop (S1.δ id+xs.length*t'.size+news.length)).toArray,T1,(0,0),?_,rfl,?_,λi z hz=>?_⟩⟩
         .simp only[St.push,if_pos];exact setRow_heap w _ us _ T1 _ k1
         .simp only[St.push,if_pos];rw[hsz,wL,uy,fD];omega
         .simp only[St.push,if_pos];rw[wL] at hz;by_cases hi:i<xs.length
          .rw[cN hi] at hz;have hle2:i*t'.size+t'.size<=xs.length*t'.size:=by
            have:=aH t'.size (show i+1<=xs.length by omega)
            grind
           rw[sj (by omega) (by omega)];exact(k4 i z hz).mono hO.nH
          .rw[dz (by omega)] at hz;have hi2:i-xs.length<y.length:=(aR.1 hz).1;have hle2:(i-xs.length)*t'.size+t'.size<=y.length*t'.size:=by
            have:=aH t'.size (show i-xs.length+1<=y.length by omega)
            grind
           have e1:i*t'.size=xs.length*t'.size+(i-xs.length)*t'.size:=by rw[<-fD];grind
           have e2:((us.toList.take (S1.δ id+xs.length*t'.size)++news++us.toList.drop (S1.δ id+xs.length*t'.size+news.length)).drop (S1.δ id+i*t'.size)).take t'.size=(news.drop ((i-xs.length)*t'.size)).take t'.size:=by
            apply dL;intro j;rw[cX,cX];by_cases hj:j<t'.size
            .rw[if_pos hj,if_pos hj,dh,dh,qZ (by omega),if_neg (by omega),if_pos (by omega)];congr 1;omega
            grind
           rw[e2];exact((hr1 _ z hz).mono hO.nH))
        refine⟨_,_,_,hrun,s1.trans hstep,?_⟩;rw[CR,show Mem.at (m1.set id .aU ++ [.arr false t' (af.p xs y)]) m1.length=.arr false t' (af.p xs y) from by
         have:=Mem.fI (m:=m1.set id .aU) (b:=.arr false t' (af.p xs y));grind]
        refine .inr ⟨wA,cap,?_,by rw[wL,uy];omega,(us.toList.take (S1.δ id+xs.length*t'.size)++news++us.toList.drop (S1.δ id+xs.length*t'.size+news.length)).toArray,T1,(0,0),?_,?_⟩
        .simp only[St.push,if_pos];rw[wL,uy]
        .simp only[St.push,if_pos];exact setRow_heap w _ us _ T1 _ k1
        .simp only[St.push,if_pos];omega
       .-- grows
        have s2:Step w0 w S m w S1 (m1.set id .aU):=s1.trans ⟨s1.wr.kill hltm hctl,oB hltm hctl,.refl⟩
        have:=grow (a:=some ⟨S1.σ id,S1.δ id,none⟩) (n:=xs.length) (cap:=cap) (xs:=xs) (olds:=(us.toList.drop (S1.δ id)).take (xs.length*t'.size)) s2 rfl rfl
         (by grind) (λ_=>⟨_,_,rfl,jm k1 _ _⟩) (λi z hz=>by
           have hi:i<xs.length:=(aR.1 hz).1;have hle2:i*t'.size+t'.size<=xs.length*t'.size:=by
            have:=aH t'.size (show i+1<=xs.length by omega)
            grind
           rw[kH,fe,kK,jT (by omega)]
           grind) (by omega) hn
        rw[hlenm] at this;exact this
    .rw[dif_neg hbq] at h;exact h.elim
def Jy{w0:nE}{w:World}{S:St}{m c:Mem}(i:WR w0 w S m){k:Option Ty}{v l:AV}(j:CR w S m v u)(h:BL af k m v=some (l,c)):∃g,Step w0 w S m w g c/\CR w g c l u:=by
 unfold BL at h;split at h
 .split at h
  .grind [Em]
  .cases h;exact⟨S,.refl i,j⟩
 .cases h;exact⟨S,.refl i,j⟩
theorem x8{w0:nE}{w:World}:∀{t:List<|Option Ty} {cs:List AV} {m g:Mem} {c:List AV} {S:St} {i:List Value},WR w0 w S m->G7 af t m cs=some (g,c)->eD w S m cs i->∃p,Step w0 w S m w p g/\eD w p g c i
 | [],cs,m,g,c,S,i,hW,h,hc=>by cases h;exact⟨S,.refl hW,hc⟩
 | _::_,[],m,g,c,S,i,hW,h,hc=>by cases h;exact⟨S,.refl hW,hc⟩
 | k::t,v::vs,m,g,c,S,i,hW,h,hc=>by
   rw[G7] at h;obtain⟨u,r,rfl,B,C⟩:=bL.1 hc;cases ho:BL af k m v with
   | none=>grind
   | some q=>
     rw[ho] at h;simp only at h;have⟨J,l,j⟩:=Jy hW B ho;split at h;cases h;rename_i K H G;cases h;have⟨y,x,F⟩:=x8 l.wr G<|C.mono l.out;exact⟨y,l.trans x,bL.2 ⟨u,r,rfl,j.mono x.out,F⟩⟩
def L4(j:WR w0 w S m){t:Option Ty}{n:Nat}{cs c:List AV}{g:Mem}{p:List Value}(h:QB af t n m cs=some (g,c))(l:eD w S m cs p):∃i,Step w0 w S m w i g/\eD w i g c p:=by
 cases t with
 | none=>cases h;exact⟨S,.refl j,l⟩
 | some t=>exact x8 j h l
end
end Go.Ev
namespace Go.Ev
variable{I:Nat->Prop}{cs:List AV}{t:Ty}{te:TI}{y:List t.T}
section
variable {P:Program} {w0:nE} {w:World} {S:St} {m:Mem}
theorem qp{α:Type}[Inhabited α](l:List α):∀n:Nat,(List.range<|n*l.length).map (λi=>l[i%l.length]!)=(List.replicate n l).flatten
 | 0=>by simp
 | n+1=>by
   have c:(List.range l.length).map (λi=>l[(n*l.length+i)%l.length]!)=l:=by
    apply dL
    grind [List.getElem?_range,Nat.mul_comm,Nat.mul_add_mod,Nat.mod_eq_of_lt]
   rw[kC,List.range_add,fN,qp l n,gj,List.replicate_succ',List.flatten_append];congr 1;rw[List.flatten_cons,List.flatten_nil,aJ];exact c
def vE(z:Array Value)(n:Nat):(madeCells z<|n*z.size).toList=(List.replicate n z.toList).flatten:=by
 have:=qp z.toList n;rw[<-this,madeCells,rY,Array.toList_range]
 grind
theorem qJ{cs:List AV}{c:List Value}(h:eD w S m cs c):∀n:Nat,eD w S m (List.replicate n cs).flatten (List.replicate n c).flatten
 | 0=>bA.2 rfl
 | n+1=>by
   exact h.append<|qJ h n
theorem oI{α:Type}{l:List α}{s:Nat}(c:l.length=s):∀{n i:Nat},i<n->(((List.replicate n l).flatten).drop<|i*s).take s=l
 | n+1,0,_=>by grind
 | n+1,i+1,h=>by
   rw[List.replicate_succ,List.flatten_cons,kC,ko,<-fe,o7 c];exact oI c (by omega)
def an_(P:Program)(w0:nE)(w:World)(S:St)(m:Mem)(s:Sem Next)(v:AV)(i:Mem):Prop:=
 ∃c z g h,s.run P w=.ok c g/\(c=.value z\/(c=.skip/\v=.undef))/\Step w0 w S m g h i/\CR g h i v z
def CZ(g:WR w0 w S m){c:Array Value}{e:TypeId}(fz:Bool)(i:eD w S m cs c.toList):
  Step w0 w S m (w.alloc<|.cells c e) (S.push m.length w.heap.size 0 fz) (m ++ [.cH fz cs]):=by
 have h:=mM g (.cells c e) (.cH fz cs) 0 fz;refine Step.push g (bx:=.cH fz cs) ⟨c,e,(0,0),?_,rfl,i.mono h⟩
 grind [heap_alloc_new,St.push]
def TF(fz:Bool){c:World}{b d:Nat}:CR c (S.push m.length b d fz) (m ++ [.cH fz cs]) (.ptr m.length 0)<|.pointer<|some ⟨b,0,none⟩:=by simp_all [Mem.fI,CR,St.push]
def Jp{E:PT TI}(B:og P E)(C:WR w0 w S m){T:TypeId}{p v:AV}{u x:Value}{y:Mem}(F:CR w S m p u)(H:CR w S m v x)(h:(Ly af (E.get T) m p v).Is y):
  ∃j l,(Instr.storeAt T u x).run P w=.ok () j/\Step w0 w S m j l y:=by
 unfold Ly at h;cases ht:E.get T with
 | none=>rw[ht] at h;exact h.elim
 | some ti=>
   rw[ht] at h;simp only at h;split at h;exact h.elim;rename_i i;simp only[eH] at i;have h:=xZ h;have c:=Cq i.1 H;obtain⟨b,off,j,l,rfl,t,G⟩:=JQ (P:=P) C F c i.2.2 h;have g:=c.length;rw[vL i.2.1,bC] at g;refine⟨j,l,?_,G⟩;simp[Instr.storeAt,Instr.sureAddr,storeVar,(B T ti ht).rJ w,g,t]
def GR{v:AV}{u:Value}(h:CR w S m v u)(i:I_ w I t u y)(l:pT af t m v=some y):∀b,GQ v=some b->decide (y.length=0)=b:=by
 have⟨a,g,p,e,_⟩:=i;intro b c;cases v<;>simp only[GQ] at c<;>try (cases c;done)
 case eT b'=>
  obtain⟨j,rfl,_⟩:=m_.1 h
  simp_all
 grind [CR,pT]
def Cn.acQ{T:TypeId}{c:TI}(h:Cn P T c)(g:c.ty=some t):t.size=c.size:=(h.ty t g).1
def Y5{q:Bool}{c:TV<|AV×Mem}{x:AV×Mem}(h:(ag_ af q c).Is x):c.Is x:=by
 cases q with
 | false=>exact h
 | true=>
   cases c with
   | leaf p=>
     have⟨v,m⟩:=p;cases v<;>first|exact h|exact h.elim
   | br b t e=>
     have⟨i,g⟩:=(show af.not b=true/\e.Is x from h);cases b with
     | true=>grind [af]
     | false=>exact .inr ⟨rfl,g⟩
   | _=>exact h
theorem FZ(hW:WR w0 w S m){T T' ty e e':TypeId}(ht:P.underlying T=some (.slice e))(ht':P.underlying T'=some (.slice e')){te:TI}(hte:Cn P e te){t:Ty}(hty:te.ty=some t)
  {dst src:AV} {u x:Value} {v:AV} {m':Mem} (hd:CR w S m dst u) (hx:CR w S m src x) (h:(FY af t te.bytes m dst src).Is (v,m')) :
  ∃z w' S',(Builtin.append_ #[T,T'] ty #[u,x]).run P w=.ok z w'/\Step w0 w S m w' S' m'/\CR w' S' m' v z:=by
 unfold FY at h;cases hsd:pT af t m src with
 | none=>rw[hsd] at h;exact h.elim
 | some y=>
   cases hsf:pU af t m src with
   | none=>rw[hsd,hsf] at h;exact h.elim
   | some m1=>
     rw[hsd,hsf] at h;obtain⟨S1,s1,hy⟩:=w_ hW hx hsd hsf;obtain⟨us,hsrc,hrep⟩:=hy.src;obtain⟨z,w',S',h1,h2,h3⟩:=Er (ty:=ty) s1.wr ht ht' (λk hk=>by grind) hte hty (hd.mono s1.out) hsrc hrep (GR hx hy hsd) h;exact⟨z,w',S',h1,s1.trans h2,h3⟩
def I_.take{v:Value}(h:I_ w I t v y){n:Nat}(V:n<=y.length):(Builtin.lenOf v).run P w=.ok y.length w/\
  ∃c:List Value,c.length=n*t.size/\(Builtin.firstCells t.size n v).run P w=.ok c.toArray w/\∀(i:Nat) (z:t.T),i<n->y[i]? = some z->bW w I t ((c.drop<|i*t.size).take t.size) z:=by
 obtain⟨a,p,c,rfl,F,G,x,H,J,K⟩:=h;have g:(c.take<|n*t.size).length=n*t.size:=by simp_all
 refine⟨rfl,c.take<|n*t.size,g,sW g (λB=>?_) w rfl,λi z N W=>?_⟩
 .have⟨b,off,e,C⟩:=x (by omega);refine⟨b,off,e,λj u O=>C j u ?_⟩
  grind
 .have l:i*t.size+t.size<=n*t.size:=by
   have:=aH t.size (show i+1<=n by omega)
   grind
  grind [List.drop_take]
def Ib(C:WR w0 w S m){id:Nat}{x:List t.T}(H:m.at id=.arr false t x)(Z:t.r7=true){l:Nat}{us:List Value}(hl:us.length=y.length*t.size)(F:l+y.length<=x.length)
  (hr:∀(i:Nat) (z:t.T),y[i]? = some z->bW w S.I t ((us.drop<|i*t.size).take t.size) z) :
  ∃w',(storeCells ⟨S.σ id,S.δ id+l*t.size,none⟩ us).run P w=.ok () w'/\Step w0 w S m w' S (m.set id<|.arr false t<|x.take l++y++x.drop (l+y.length)):=by
 have N:=C.box id;rw[H] at N;have⟨as,N⟩:=N;by_cases J:x=[]
 .subst J;have hy:y=[]:=bg (by simp_all);subst hy;have a5:us=[]:=bg (by simp_all);subst a5;refine⟨w,rfl,?_⟩;have av:id<m.length:=Mem.pL λe=>by simp_all
  have e:m.set id (.arr false t<|List.take l ([]:List t.T) ++ []++List.drop (l+([]:List t.T).length) [])=m:=by
   apply dL
   simp_all [nq,Mem.at]
  rw[e];exact .refl C
 have K:=C.vd H J;have⟨c,T,fr,k1,k2,k3,k4⟩:=N.2 K;subst k2;have aw:c.toList.length=c.size:=bC;have Y:(l+y.length)*t.size<=x.length*t.size:=aH _ F;rw[fD] at Y;have W:∀v∈us,v.oneCell'=true:=λu hu=>by
  have⟨i,hi,hu⟩:=yP hl hu;exact bW.oneCell t Z (hr i _<|Jv hi) u hu
 have a0:=run_storeCells_at P (S.σ id) (S.δ id+l*t.size) T us 0 c w k1 (by omega) W;have a3:((c.toList.take (S.δ id+l*t.size)++us++c.toList.drop (S.δ id+l*t.size+us.length)).toArray).size=c.size:=by grind
 have ht:=qw k1 a3;have p:S.lv id (m.at id)=true:=by grind [rP]
 have G:S.fz id (m.at id)=false:=by rw[H];rfl
 have a6:(x.take l++y++x.drop (l+y.length)).length=x.length:=by grind
 have g:iX (m.at id)<|.arr false t<|x.take l++y++x.drop (l+y.length):=by
  rw[H];exact⟨rfl,a6,rfl⟩
 have hc:(m.at id).jY=true->(iM.arr false t<|x.take l++y++x.drop (l+y.length)).jY=true:=λh=>by rw[H] at h;cases h
 have X:=kN C p G g hc ht;refine⟨_,a0,C.set p G g hc rfl ht ⟨by grind,λe=>absurd (K.symm.trans e)<|by decide,λ_=>⟨(c.toList.take (S.δ id+l*t.size)++us++c.toList.drop (S.δ id+l*t.size+us.length)).toArray,T,(0,0),setRow_heap w _ c _ T _ k1,rfl,by grind,λi z B=>?_⟩⟩,X,.refl⟩;rw[qZ<|by omega] at B
 have a8:∀{i:Nat},x[i]? = some z->(i<l\/l+y.length<=i)->bW (w.setRow (S.σ id) (c.toList.take (S.δ id+l*t.size)++us++c.toList.drop (S.δ id+l*t.size+us.length)).toArray) S.I t
   (((c.toList.take (S.δ id+l*t.size)++us++c.toList.drop (S.δ id+l*t.size+us.length)).drop<|S.δ id+i*t.size).take t.size) z:=by
  intro i B V;rw[sj (by omega) (by
   rcases V with V|V
   .have:=aH t.size (show i+1<=l by omega)
    grind
   .have:=aH t.size V
    grind)]
  exact(k4 i z B).mono X.nH
 by_cases h1:i<l
 .grind
 .rw[if_neg h1] at B;by_cases h2:i<l+y.length
  .rw[if_pos h2] at B;have aa:(i-l)*t.size+t.size<=y.length*t.size:=by
    have:=aH t.size (show i-l+1<=y.length by omega)
    grind
   have e1:i*t.size=l*t.size+(i-l)*t.size:=by rw[<-fD];congr 1;omega
   have e2:((c.toList.take (S.δ id+l*t.size)++us++c.toList.drop (S.δ id+l*t.size+us.length)).drop<|S.δ id+i*t.size).take t.size=(us.drop<|(i-l)*t.size).take t.size:=by
    apply dL;intro j;rw[cX,cX];by_cases O:j<t.size
    .rw[if_pos O,if_pos O,dh,dh,qZ<|by omega,if_neg<|by omega,if_pos<|by omega];congr 1;omega
    .rw[if_neg O,if_neg O]
   rw[e2];exact(hr _ z B).mono X.nH
  grind
theorem Lt(hW:WR w0 w S m){T T' ty e:TypeId}(ht:P.underlying T=some (.slice e))(O:Cn P e te)(Y:te.ty=some t)
  {K src:AV} {u x:Value} {v:AV} {m':Mem} (hd:CR w S m K u) (hx:CR w S m src x) (h:(PX af t m K src).Is (v,m')) :
  ∃z C H,(Builtin.copy_ #[T,T'] ty #[u,x]).run P w=.ok z C/\Step w0 w S m C H m'/\CR C H m' v z:=by
 obtain⟨i,z0,hi,a8,_⟩:=O.info;have V:i.size=t.size:=by rw[a8,O.acQ Y]
 unfold PX at h;cases hsd:pT af t m src with
 | none=>rw[hsd] at h;exact h.elim
 | some y=>
   cases hsf:pU af t m src with
   | none=>rw[hsd,hsf] at h;exact h.elim
   | some m1=>
     rw[hsd,hsf] at h;obtain⟨W,s1,hy⟩:=w_ hW hx hsd hsf;have p:=hd.mono s1.out;have Z:y.length<=gg:=by obtain⟨_,_,_,_,h2,_⟩:=hy;omega
     have core:∀{id l g G:Nat} {a:Option Addr} {j:List t.T},m1.at id=.arr false t j->u=.slice a g G->l+g<=j.length->(g≠0->a=some ⟨W.σ id,W.δ id+l*t.size,none⟩)->
       ∃C H,(Builtin.copy_ #[T,T'] ty #[u,x]).run P w=.ok (.int .i64 (Nat.min y.length g:Nat)) C/\Step w0 w S m C H (m1.set id (.arr false t (j.take l++y.take (Nat.min y.length g)++j.drop (l+(y.take (Nat.min y.length g)).length)))):=by
      intro id l g G a j N hu av ha;subst hu;have X:Nat.min y.length g<=y.length:=Nat.min_le_left ..;have a9:Nat.min y.length g<=g:=Nat.min_le_right ..;obtain⟨F,us,g1,g2,g3⟩:=hy.take (P:=P) X;have b6:(y.take (Nat.min y.length g)).length=Nat.min y.length g:=by grind
      obtain⟨C,aa,hs⟩:=Ib (P:=P) s1.wr N (O.r7 _ Y) (l:=l) (y:=y.take (Nat.min y.length g)) (us:=us) (by grind) (by omega) (λi z hz=>by grind);by_cases h0:g=0
      .have ac:us=[]:=bg (by grind);subst ac;have ad:C=w:=by
        have:(storeCells ⟨W.σ id,W.δ id+l*t.size,none⟩ []).run P w=.ok () w:=rfl
        grind
       subst ad;refine⟨_,W,?_,s1.trans hs⟩;cases a with
       | none=>simp[Builtin.copy_,run_underlying ht,F,sizeOf,typeInfo,hi,V,g2,goInt]
       | some a=>simp[Builtin.copy_,run_underlying ht,F,sizeOf,typeInfo,hi,V,g2,goInt,storeCells]
      .have ha:=ha h0;subst ha;refine⟨_,W,?_,s1.trans hs⟩;simp[Builtin.copy_,run_underlying ht,F,sizeOf,typeInfo,hi,V,g2,goInt,aa]
     have mn:∀g:Nat,af.mn (af.l y) (g:Int)=((Nat.min y.length g:Nat):Int):=by
      intro g;show(if (g:Int)<(y.length:Int) then(g:Int) else(y.length:Int))=_
      grind
     have aq:∀g:Nat,IntKind.i64.has ((Nat.min y.length g:Nat):Int):=λg=>rq (aV (Nat.min_le_left ..) Z);have J:∀n:Nat,af.s y 0 (n:Int)=y.take n:=λn=>by rfl
     cases K<;>(try simp only at h)<;>try exact h.elim
     case own id=>
      rw[CR] at p;cases N:m1.at id<;>rw[N] at h p<;>(try simp only at p h)<;>try (exact h.elim)
      rename_i fz t' j;cases fz<;>(try simp only at h)<;>try (exact h.elim)
      by_cases B:t'.beq t=true
      .rw[dif_pos B] at h;have:=Ty.eq_of_beq B;subst this;cases h;obtain⟨a,G,rfl,as,_,h8⟩:=CP p;obtain⟨C,H,h1,h2⟩:=core (l:=0) N rfl (by omega) (λhn=>by grind);refine⟨_,C,H,h1,?_,fu.2 ⟨?_,?_⟩⟩
       .have e:af.spl j 0 (af.s y 0 (af.mn (af.l y) (af.l j)))=j.take 0++y.take (Nat.min y.length j.length)++j.drop (0+(y.take (Nat.min y.length j.length)).length):=by
         rw[su j,mn,J];rfl
        grind
       .show _=Value.int .i64 (af.mn (af.l y) (af.l j));rw[su j,mn]
       .show IntKind.i64.has (af.mn (af.l y) (af.l j));rw[su j,mn];simp_all
      .rw[dif_neg B] at h;exact h.elim
     case wq id sz c lo len=>
      cases c<;>(try simp only at h)<;>try exact h.elim
      rw[CR] at p;cases N:m1.at id<;>rw[N] at h p<;>(try simp only at p h)<;>try (exact h.elim)
      rename_i fz t' j;cases fz<;>(try simp only at h)<;>try (exact h.elim)
      by_cases B:t'.beq t=true
      .rw[dif_pos B] at h;have:=Ty.eq_of_beq B;subst this;cases h;obtain⟨l,n,G,a,rfl,rfl,rfl,h4,h5,h6,rfl,h8,_⟩:=p;obtain⟨C,H,h1,h2⟩:=core (l:=l) N rfl h4 h8;refine⟨_,C,H,h1,?_,fu.2 ⟨?_,?_⟩⟩
       .have e:af.spl j (l:Int) (af.s y 0 (af.mn (af.l y) (n:Int)))=j.take l++y.take (Nat.min y.length n)++j.drop (l+(y.take (Nat.min y.length n)).length):=by
         rw[mn,J];rfl
        simp_all
       all_goals grind
      .rw[dif_neg B] at h;exact h.elim
def Dr(z:Array Value)(n:Nat):(Builtin.zeroCells z n).toList=(List.replicate n z.toList).flatten:=by
 unfold Builtin.zeroCells;rw[rY,Array.toList_range,<-qp,bC]
 grind
theorem Jm(hW:WR w0 w S m){T ty e:TypeId}{r:List TypeId}(ht:P.underlying T=some (.slice e))(F:Cn P e te)(G:te.ty=some t)
  {p:AV} {u:Value} {v:AV} {X:Mem} (H:CR w S m p u) (h:(Lr af t m p).Is (v,X)) :
  ∃z B Y,(Builtin.clear_ (T::r).toArray ty #[u]).run P w=.ok z B/\Step w0 w S m B Y X/\CR B Y X v z:=by
 obtain⟨i,z,h1,h2,h3,h4,_,h6⟩:=F.info;unfold Lr at h;cases p<;>(try simp only at h)<;>try exact h.elim
 case wq id sz c lo len=>
  cases c<;>(try simp only at h)<;>try exact h.elim
  rw[CR] at H;cases hm:m.at id<;>rw[hm] at h H<;>(try simp only at H h)<;>try (exact h.elim)
  rename_i fz g J;cases fz<;>(try simp only at h)<;>try (exact h.elim)
  by_cases x:g.beq t=true
  .rw[dif_pos x] at h;have:=Ty.eq_of_beq x;subst this;cases h;obtain⟨l,n,a6,a,rfl,rfl,rfl,k4,k5,k6,rfl,k8,_⟩:=H;have W:=h6 g G w S.I;have V:z.cells.toList.length=g.size:=W.length;have K:((List.replicate n z.cells.toList).flatten).length=(List.replicate n g.gH).length*g.size:=by simp_all
   obtain⟨B,N,hs⟩:=Ib (P:=P) hW hm (F.r7 _ G) (l:=l) (y:=List.replicate n g.gH) (us:=(List.replicate n z.cells.toList).flatten) K (by grind) (λj y hy=>by
    have hj:j<n:=by grind
    rw[List.getElem?_replicate,if_pos hj] at hy;cases hy;rw[oI V hj];omega)
   have e:af.spl J (l:Int) (af.r (n:Int) g.gH)=J.take l++List.replicate n g.gH++J.drop (l+(List.replicate n g.gH).length):=by rfl
   have C:Step w0 w S m B S (m.set id (.arr false g (af.spl J (l:Int) (af.r (n:Int) g.gH)))):=by grind
   by_cases Z:n=0
   .subst Z;have O:B=w:=by
     have:(storeCells ⟨S.σ id,S.δ id+l*g.size,none⟩ []).run P w=.ok () w:=rfl
     grind
    subst O;refine⟨.tuple #[],_,S,?_,C,jZ.2 ⟨#[],rfl,bA.2 rfl⟩⟩;cases a<;>simp[Builtin.clear_,run_underlying ht]
   .have ha:=k8 Z;subst ha;refine⟨.tuple #[],_,S,?_,C,jZ.2 ⟨#[],rfl,bA.2 rfl⟩⟩;simp[Builtin.clear_,run_underlying ht,zeroValue,typeInfo,h1,h4,Dr,N]
  .rw[dif_neg x] at h;exact h.elim
end
end Go.Ev
namespace Go.Ev
section
variable {P:Program} {w0:nE} {w:World} {S:St} {m:Mem}
theorem NN{R:Type}{E:kD R}(hE:og P E.ti)(hW:WR w0 w S m){ρa:Operand->AV}{ρc:Operand->Value}(hρ:∀x,CR w S m (ρa x) (ρc x)){fn:FuncId}{o:Oper}{v:AV}{m':Mem}
  (h:(xE af E fn ρa m o).Is (v,m')):an_ P w0 w S m (execOp ρc o) v m':=by
 obtain⟨dst,op,ty,pos,after,guard⟩:=o;unfold xE at h;cases op<;>simp only at h<;>try exact h.elim
 case alloc t=>
  cases ht:E.ti.get t with
  | none=>rw[ht] at h;exact h.elim
  | some ti=>
    rw[ht] at h;cases h;obtain⟨i,z,h1,h2,h3,h4,h5,_⟩:=(hE t ti ht).info;exact⟨.value (.pointer (some ⟨w.heap.size,0,none⟩)),_,_,_,by simp[execOp,Instr.alloc,zeroValue,typeInfo,h1,h4,newVar,newRow];rfl,.inl rfl,CZ hW false (h5 w S m),TF false⟩
 case box t x=>
  cases hk:(ρa x).known m with
  | false=>rw[hk] at h;exact h.elim
  | true=>
    rw[hk] at h;cases h;exact⟨.value (.pointer (some ⟨w.heap.size,0,none⟩)),_,_,_,by simp[execOp,Instr.box,newVar,newRow];rfl,.inl rfl,CZ hW _ (Cq hk (hρ x)),TF _⟩
 case buildSlice t n ps=>
  cases ht:E.ti.get t with
  | none=>rw[ht] at h;exact h.elim
  | some ti=>
    obtain⟨kind,size,bytes,agg,zero,tyy,eq⟩:=ti;have hT:=hE t _ ht;rw[ht] at h;cases kind<;>simp only at h<;>try exact h.elim
    rename_i e;have hTu:P.underlying t=some (.slice e):=hT.i6 (k:=.slice e) rfl;cases he:E.ti.get e with
    | none=>rw[he] at h;exact h.elim
    | some te=>
      rw[he] at h;simp only at h;have hte:=hE e te he;obtain⟨i,z,h1,h2,h3,h4,h5,_⟩:=hte.info;cases hf:F9 m te.size (ps.toList.map λp=>(p.1,ρa p.2)) ((List.replicate n te.zero).flatten) with
      | none=>rw[hf] at h;exact h.elim
      | some cs=>
        rw[hf] at h;simp only at h;cases hc:(Nat.ble (n*te.size) 16777216&&Nat.ble n 140737488355328) with
        | false=>rw[hc] at h;exact h.elim
        | true=>
          rw[hc] at h;simp only at h;simp only[eH] at hc;have hc1:=KE hc.1;have hc2:=KE hc.2;have hzs:z.cells.size=te.size:=by
           have:=(h5 w S m).length;rw[bC,hte.ayo] at this;exact this
          have hz:eD w S m (List.replicate n te.zero).flatten (madeCells z.cells (n*te.size)).toList:=by
           rw[<-hzs,vE];exact qJ (h5 w S m) n
          obtain⟨iH,g1,g2,g3⟩:=xI hρ ps.toList _ cs (madeCells z.cells (n*te.size)) hf hz;cases hlit:QB af te.ty n m cs with
          | none=>rw[hlit] at h;exact h.elim
          | some q=>
          obtain⟨m1,cs1⟩:=q;rw[hlit] at h;cases h;obtain⟨S1,s1,g2⟩:=L4 hW hlit g2;have hW1:=s1.wr;have e0:(ps.map λ(i,x)=>(i,ρc x)).toList=ps.toList.map λp=>(p.1,ρc p.2):=by simp
          have hO:=mM hW1 (.cells iH e) (.cH false cs1) 0 false;have hul:iH.size=n*te.size:=by rw[g3,size_madeCells]
          refine⟨.value (.slice (some ⟨w.heap.size,0,none⟩) n n),.slice (some ⟨w.heap.size,0,none⟩) n n,w.alloc (.cells iH e),_,?_,.inl rfl,s1.trans (CZ hW1 false g2),?_⟩
          .by_cases hn:n*te.size=0
           .have hm0:madeCells z.cells (n*te.size)=#[]:=by
             rw[hn];exact Array.eq_empty_of_size_eq_zero (size_madeCells _ _)
            rw[hm0] at g1;simp only[execOp,Instr.buildSlice,dN,run_underlying hTu,dF,sizeOf,typeInfo,run_program,h1,iD];rw[h2,hn];simp[g1,newRow,Array.range_zero']
           .have hc1':¬(16777216<n*te.size):=by omega
            simp only[execOp,Instr.buildSlice,dN,run_underlying hTu,dF,sizeOf,typeInfo,run_program,h1,iD];rw[h2];rw[madeCells] at g1;simp[hn,hc1',zeroValue,typeInfo,h1,h4,g1,newRow]
          .rw[CR,Mem.fI];refine⟨0,n,n,some ⟨w.heap.size,0,none⟩,rfl,rfl,by rw[jb];omega,?_,ah _,(λh=>by cases h),rfl,λ_=>?_⟩
           .rw[gJ,<-hul,<-bC,g2.length];exact ah _
           .simp only[St.push,if_pos,Nat.zero_mul]
 case makeSlice t l c=>
  cases ht:E.ti.get t with
  | none=>rw[ht] at h;exact h.elim
  | some ti=>
    obtain⟨kind,size,bytes,agg,zero,tyy,eq⟩:=ti;have hT:=hE t _ ht;rw[ht] at h;cases kind<;>simp only at h<;>try exact h.elim
    rename_i e;have hTu:P.underlying t=some (.slice e):=hT.i6 (k:=.slice e) rfl;cases he:E.ti.get e with
    | none=>rw[he] at h;exact h.elim
    | some te=>
      obtain⟨tkind,tsize,tbytes,tagg,tzero,tty,teq⟩:=te;rw[he] at h;cases tty with
      | none=>exact h.elim
      | some d=>
        simp only at h;have hte:=hE e _ he;have hl:=hρ l;have hcc:=hρ c;cases hla:ρa l<;>rw[hla] at h hl<;>(try simp only at h)<;>try exact h.elim
        cases hca:ρa c<;>rw[hca] at h hcc<;>(try simp only at h)<;>try exact h.elim
        rename_i k1 c1 n k2 c2 n';obtain⟨hb,h⟩:=h;cases h;obtain⟨hv1,_⟩:=fu.1 hl;obtain⟨hv2,_⟩:=fu.1 hcc;obtain⟨hle,h0,hfit⟩:n<=n'/\0<=n/\n'<=140737488355328/(tbytes.max 1:Nat):=by
         split at hb
         .have hb:(af.c .leq n n'&&(af.c .leq 0 n&&af.c .leq n' (140737488355328/(tbytes.max 1:Nat))))=true:=hb;rw[eH,eH,uK,uK,uK] at hb;exact hb
         .have hb:(af.c .eql n n'&&(af.c .leq 0 n&&af.c .leq n (140737488355328/(tbytes.max 1:Nat))))=true:=hb;rw[eH,eH,Uc,uK,uK] at hb;exact⟨oO hb.1,hb.2.1,hb.1▸hb.2.2⟩
        obtain⟨k,rfl⟩:∃k:Nat,n=(k:Int):=⟨n.toNat,by omega⟩;obtain⟨k',rfl⟩:∃k':Nat,n'=(k':Int):=⟨n'.toNat,by omega⟩;have hle:k<=k':=by omega
        obtain⟨f1,f2⟩:=Mt hfit;rw[jb] at f1;obtain⟨i,z,h1,h2,h3,h4,_,h6⟩:=hte.info;have hrun:=run_make (P:=P) w t e i z hTu h1 h4 k1 k2 k k' h0 (by omega) (by
         rw[h3];have:((k'*tbytes:Nat):Int)<=140737488355328:=by generalize k'*tbytes=q at f2 ⊢;omega
         rw[Int.natCast_mul,Int.mul_comm] at this;show(tbytes:Int)*_<=_;omega) (by omega)
        rw[y7,y7,h2] at hrun;have hzr:=h6 d rfl w S.I;have hds:d.size=tsize:=hte.acQ rfl;have hzl:z.cells.size=d.size:=by rw[<-bC];exact hzr.length
        have hmade:madeCells z.cells (k'*tsize)=(List.replicate k z.cells.toList).flatten.toArray++(List.replicate (k'-k) z.cells.toList).flatten.toArray:=by
         apply Array.ext';rw[<-hds,<-hzl,vE,gp,<-List.flatten_append,gP,show k+(k'-k)=k' from by omega]
        have hxl:(List.replicate k d.gH).length=k:=GU;have hfl:((List.replicate k z.cells.toList).flatten).length=k*d.size:=by
         rw[mm,mT,kj,bC,hzl]
        rw[hmade] at hrun;obtain⟨S',s',c'⟩:=OO hW (t:=d) (e:=e) (xs:=List.replicate k d.gH) (us:=(List.replicate k z.cells.toList).flatten) (zs:=(List.replicate (k'-k) z.cells.toList).flatten.toArray) (cap:=k') (by rw[hxl,hfl]) (by
         rw[hfl,List.size_toArray,mm,mT,kj,bC,hzl,<-fD,show k+(k'-k)=k' from by omega]) (by rw[hxl];exact hle) (by rw[hxl,jb];omega) (λj y hy=>by
         have hj:j<k:=by have:=(aR.1 hy).1;rwa [hxl] at this
         rw[List.getElem?_replicate,if_pos hj] at hy;cases hy;rw[oI (by rw[bC,hzl]) hj];exact hzr)
        have erep:af.r (k:Int) d.gH=List.replicate k d.gH:=by show List.replicate (k:Int).toNat _=_;rw[y7]
        rw[erep];refine⟨.value (.slice (some ⟨w.heap.size,0,none⟩) k k'),_,_,S',by simp only[execOp,hv1,hv2,dN,hrun,dF,iD],.inl rfl,s',?_⟩;rw[hxl] at c';exact c'
 case store t p x=>
  obtain⟨S1,s1,h1⟩:=Jq hW (hρ x) rfl;obtain⟨m1,hm,e⟩:=TV.GX h;cases e;obtain⟨w',S',h1,h2⟩:=Jp hE s1.wr ((hρ p).mono s1.out) h1 hm;exact⟨.skip,.bool true,w',S',by simp[execOp,h1],.inr ⟨rfl,rfl⟩,s1.trans h2,gT⟩
 case call c=>
  obtain⟨callee,args,argTypes⟩:=c;cases callee<;>(try simp only at h)<;>try exact h.elim
  rename_i b;cases b<;>(try simp only at h)<;>try exact h.elim
  case append=>
   obtain⟨l⟩:=args;obtain⟨tl⟩:=argTypes;simp only at h
   match l,tl,h with
   | [d,s],t::t'::ts,h=>
     simp only at h;cases ht:E.ti.get t with
     | none=>rw[ht] at h;exact h.elim
     | some ti=>
       obtain⟨kind,size,bytes,agg,zero,tyy,eq⟩:=ti;have hT:=hE t _ ht;rw[ht] at h;cases kind<;>(try simp only at h)<;>try exact h.elim
       rename_i e;cases ht':E.ti.get t' with
       | none=>rw[ht'] at h;exact h.elim
       | some ti'=>
         obtain⟨kind',size',bytes',agg',zero',tyy',eq'⟩:=ti';have hT':=hE t' _ ht';rw[ht'] at h;cases kind'<;>(try simp only at h)<;>try exact h.elim
         rename_i e';cases he:E.ti.get e with
         | none=>rw[he] at h;exact h.elim
         | some te=>
           obtain⟨tkind,tsize,tbytes,tagg,tzero,tty,teq⟩:=te;rw[he] at h;cases tty with
           | none=>exact h.elim
           | some dt=>
             simp only at h;obtain⟨z,w',S',h1,h2,h3⟩:=FZ (P:=P) (ty:=ty) hW (hT.i6 (k:=.slice e) rfl) (hT'.i6 (k:=.slice e') rfl) (hE e _ he) rfl (hρ d) (hρ s) (Y5 h);refine⟨.value z,z,w',S',?_,.inl rfl,h2,h3⟩;have:(Builtin.append_ (t::t'::ts).toArray ty #[ρc d,ρc s]).run P w=.ok z w':=by
              rw[<-h1];rfl
             simp[execOp,resolve,invoke,builtin,this]
  case copy=>
   obtain⟨l⟩:=args;obtain⟨tl⟩:=argTypes;simp only at h
   match l,tl,h with
   | [d,s],t::t'::ts,h=>
     simp only at h;cases ht:E.ti.get t with
     | none=>rw[ht] at h;exact h.elim
     | some ti=>
       obtain⟨kind,size,bytes,agg,zero,tyy,eq⟩:=ti;have hT:=hE t _ ht;rw[ht] at h;cases kind<;>(try simp only at h)<;>try exact h.elim
       rename_i e;cases ht':E.ti.get t' with
       | none=>rw[ht'] at h;exact h.elim
       | some ti'=>
         obtain⟨kind',size',bytes',agg',zero',tyy',eq'⟩:=ti';rw[ht'] at h;cases kind'<;>(try simp only at h)<;>try exact h.elim
         cases he:E.ti.get e with
         | none=>rw[he] at h;exact h.elim
         | some te=>
           obtain⟨tkind,tsize,tbytes,tagg,tzero,tty,teq⟩:=te;rw[he] at h;cases tty with
           | none=>exact h.elim
           | some dt=>
             simp only at h;obtain⟨z,w',S',h1,h2,h3⟩:=Lt (P:=P) (ty:=ty) (T':=t') hW (hT.i6 (k:=.slice e) rfl) (hE e _ he) rfl (hρ d) (hρ s) h;refine⟨.value z,z,w',S',?_,.inl rfl,h2,h3⟩;have:(Builtin.copy_ (t::t'::ts).toArray ty #[ρc d,ρc s]).run P w=.ok z w':=by
              rw[<-h1];rfl
             simp[execOp,resolve,invoke,builtin,this]
  case clear=>
   obtain⟨l⟩:=args;obtain⟨tl⟩:=argTypes;simp only at h
   match l,tl,h with
   | [d],t::ts,h=>
     simp only at h;cases ht:E.ti.get t with
     | none=>rw[ht] at h;exact h.elim
     | some ti=>
       obtain⟨kind,size,bytes,agg,zero,tyy,eq⟩:=ti;have hT:=hE t _ ht;rw[ht] at h;cases kind<;>(try simp only at h)<;>try exact h.elim
       rename_i e;cases he:E.ti.get e with
       | none=>rw[he] at h;exact h.elim
       | some te=>
         obtain⟨tkind,tsize,tbytes,tagg,tzero,tty,teq⟩:=te;rw[he] at h;cases tty with
         | none=>exact h.elim
         | some dt=>
           simp only at h;obtain⟨z,w',S',h1,h2,h3⟩:=Jm (P:=P) (ty:=ty) (r:=ts) hW (hT.i6 (k:=.slice e) rfl) (hE e _ he) rfl (hρ d) h;refine⟨.value z,z,w',S',?_,.inl rfl,h2,h3⟩;have:(Builtin.clear_ (t::ts).toArray ty #[ρc d]).run P w=.ok z w':=h1;simp[execOp,resolve,invoke,builtin,this]
end
end Go.Ev
namespace Go.Ev
def tA{a b:Nat}:Nat.beq a b=true↔a=b:=⟨vL,λh=>by simp_all⟩
def gI{a b:Nat}:Nat.beq a b=false↔a≠b:=by
 constructor
 .intro h e;simp_all
 .intro h;cases hb:Nat.beq a b with
  | false=>rfl
  | true=>simp_all
section
variable {α:Type}
def PT.qd(l:PT α)(v:Option α)(r:PT α)(n:Nat):(PT.node l v r).get n=if n=0 then v else if n%2=1 then l.get (n/2) else r.get (n/2-1):=by
 rw[PT.get];by_cases c:n=0
 .simp_all
 .rw[gI.2 c,if_neg c];by_cases g:n%2=1
  all_goals simp_all
theorem PT.GD(n:Nat):(PT.leaf:PT α).get n=none:=by rfl
def PT.aaw(f n:Nat)(a:α):PT.put (f+1) .leaf n a=if n=0 then .node .leaf (some a) .leaf else if n%2=1 then .node (PT.put f .leaf (n/2) a) none .leaf else .node .leaf none (PT.put f .leaf (n/2-1) a):=by
 rw[PT.put];by_cases c:n=0
 .simp_all
 .rw[gI.2 c,if_neg c];by_cases g:n%2=1
  all_goals simp_all
theorem PT.aax(f n:Nat)(l:PT α)(v:Option α)(r:PT α)(a:α):PT.put (f+1) (.node l v r) n a=if n=0 then .node l (some a) r else if n%2=1 then .node (PT.put f l (n/2) a) v r else .node l v (PT.put f r (n/2-1) a):=by
 rw[PT.put];by_cases c:n=0
 .simp_all
 .rw[gI.2 c,if_neg c];by_cases g:n%2=1
  all_goals simp_all
theorem PT.get_put:∀(f:Nat) (t:PT α) (n m:Nat) (a:α),n+1<2^f->(PT.put f t n a).get m=if m=n then some a else t.get m
 | 0,t,n,m,a,h=>by omega
 | f+1,t,n,m,a,h=>by
   have split:∀(l:PT α) (v:Option α) (r:PT α),t.get m=(PT.node l v r).get m->
     (if n=0 then PT.node l (some a) r else if n%2=1 then .node (PT.put f l (n/2) a) v r else .node l v (PT.put f r (n/2-1) a)).get m=if m=n then some a else t.get m:=by
    intro l v r e;rw[e];by_cases j:n=0
    .simp_all [PT.qd]
    .rw[if_neg j];by_cases i:n%2=1
     .rw[if_pos i,PT.qd,PT.qd];by_cases g:m=0
      .grind
      .rw[if_neg g,if_neg g];by_cases c:m%2=1
       .rw[if_pos c,if_pos c,PT.get_put f l (n/2) (m/2) a<|by omega]
        grind
       grind
     .rw[if_neg i,PT.qd,PT.qd];by_cases g:m=0
      .grind
      .rw[if_neg g,if_neg g];by_cases c:m%2=1
       .grind
       .rw[if_neg c,if_neg c,PT.get_put f r (n/2-1) (m/2-1) a<|by omega]
        grind
   cases t with
   | leaf=>
     simp_all [PT.aaw,PT.GD,PT.qd]
   | node l v r=>
     grind [PT.aax]
end
theorem Env.zY{e:Env}{n m:Nat}{v:AV}(h:n<=65535):(e.put n v).at m=if m=n then v else e.at m:=by grind [PT.get_put,Env.put,Env.at]
theorem Env.Ld{e:Env}{d:Option Nat}{m:Nat}{v:AV}{n:Nat}(c:sU n d=true)(g:n<=65535):(e.oE d v).at m=if d=some m then v else e.at m:=by
 cases d with
 | none=>rfl
 | some d=>
   have:d<n:=by have:=c;simp only[sU] at this;simp_all
   grind [Env.zY,Env.oE]
theorem Env.Se(m:Nat):Env.at .leaf m=.undef:=by rfl
theorem Env.agV:∀{c:List AV} {k m:Nat} {e:Env},k+c.length<=65535->(Env.of k c e).at m=if k<=m/\m<k+c.length then c.getD (m-k) .undef else e.at m
 | [],k,m,e,_=>by simp_all [if_neg,Env.of]
 | v::c,k,m,e,h=>by
   rw[bd] at h;rw[Env.of,Env.agV<|by omega,Env.zY<|by omega,bd]
   grind
def vo{α:Type}{ρ ρ':Operand->α}{l:List Operand}(h:∀x∈l,ρ x=ρ' x):l.map ρ=l.map ρ':=fh h
section
variable {A:aS} {R:Type} {E:kD R} {ρ ρ':Operand->AV} {m:Mem} {fn:FuncId} {o:Oper}
theorem DC(h:∀x∈o.op.operands.toList,ρ x=ρ' x):ub A E ρ m o=ub A E ρ' m o:=by
 have⟨G,B,ty,J,u,v⟩:=o;unfold ub;cases B<;>simp only[Op.operands,aC,aF,or_false,forall_eq] at h ⊢
 case move x=>rw[h]
 case assign x=>rw[h]
 case pick c a b=>simp_all
 case load t p=>rw[h]
 case nilCheck x=>rw[h]
 case binOp B t x y t2=>simp_all
 case unOp B t x=>rw[h]
 case convert s d x=>rw[h]
 case fieldAddr t x i=>rw[h]
 case indexAddr t x i=>simp_all
 case index t x i=>simp_all
 case extract t i=>rw[h]
 case makeFunc f a c=>
  have K:a.toList.map ρ=a.toList.map ρ':=vo λx F=>h x (by simp_all);have N:c.toList.map ρ=c.toList.map ρ':=vo λx F=>h x (by simp_all)
  grind
 case slice t x lo hi mx=>
  have C:∀(y:Option Operand),(∀z,y=some z->ρ z=ρ' z)->y.map ρ=y.map ρ':=λy O=>by
   cases y with
   | none=>rfl
   | some z=>simp_all
  simp_all
 case build t ps=>
  grind [List.map_congr_left]
 case call c=>
  have⟨j,g,l⟩:=c;have H:∀x∈g.toList,ρ x=ρ' x:=λx F=>h x (by grind [Call.operands]);have C:g.toList.map ρ=g.toList.map ρ':=vo H;cases j<;>(try rfl);rename_i b;cases b<;>(try rfl)<;>(try simp only[C])
  grind
def NM(h:∀x∈o.op.operands.toList,ρ x=ρ' x):xE A E fn ρ m o=xE A E fn ρ' m o:=by
 have⟨F,H,ty,J,y,B⟩:=o;simp only at h;unfold xE;cases H<;>simp only[Op.operands,aC,aF,or_false,forall_eq_or_imp,forall_eq] at h ⊢
 case box t x=>rw[h]
 case store t p x=>rw[h.1,h.2]
 case makeSlice t l c=>rw[h.1,h.2]
 case buildSlice t n ps=>
  have:(ps.toList.map λp=>(p.1,ρ p.2))=ps.toList.map λp=>(p.1,ρ' p.2):=fh λp G=>by
   rw[h p.2 (by simp;exact⟨p.1,by simpa using G⟩)]
  rw[this]
 case call c=>
  have⟨j,i,g⟩:=c;have u:∀x∈i.toList,ρ x=ρ' x:=λx C=>h x (by
   simp only[Call.operands];simp at C ⊢;cases j<;>simp[C])
  cases j<;>(try rfl);rename_i b;cases b<;>(try rfl)
  case append=>
   have⟨l⟩:=i
   match l,u with
   | [],_=>rfl
   | [x],_=>rfl
   | [d,s],u=>
     have⟨v⟩:=g
     match v with
     | []=>rfl
     | [_]=>rfl
     | t::t'::ts=>simp only;rw[u d<|by simp,u s<|by simp]
   | _::_::_::_,_=>rfl
  case clear=>
   have⟨l⟩:=i
   match l,u with
   | [],_=>rfl
   | [d],u=>
     have⟨v⟩:=g
     match v with
     | []=>rfl
     | t::ts=>simp only;rw[u d<|by simp]
   | _::_::_,_=>rfl
  case copy=>
   have⟨l⟩:=i
   match l,u with
   | [],_=>rfl
   | [x],_=>rfl
   | [d,s],u=>
     have⟨v⟩:=g
     match v with
     | []=>rfl
     | [_]=>rfl
     | t::t'::ts=>simp only;rw[u d<|by simp,u s<|by simp]
   | _::_::_::_,_=>rfl
theorem Jl(h:∀x∈o.op.operands.toList,ρ x=ρ' x):Bg A E m ρ o=Bg A E m ρ' o:=by
 have⟨t,B,ty,C,l,p⟩:=o;unfold Bg;cases B<;>(try rfl);rename_i c;have⟨g,i,j⟩:=c;simp only[Op.operands,Call.operands] at h;cases g<;>(try rfl);rename_i x;have v:ρ x=ρ' x:=h x (by simp);have u:i.toList.map ρ=i.toList.map ρ':=vo λy F=>h y (by grind);simp only[v,u]
theorem Cz(h:∀x∈o.op.operands.toList,ρ x=ρ' x):evV A E m ρ o=evV A E m ρ' o:=by grind [DC,Jl,evV]
end
end Go.Ev
namespace Go.Ev
variable{c:Array Oper}{f:FuncId}{g:Array Oper}{h:World}{i:Nat}{j:World}{l:List Nat}
section
variable {P:Program} {fr:Frame} {k:List Item} {cs:List Frame} {w:World}
def af6(c:fr.mode=.run)(g:fr.todo=.code .skip::k):step P (lone fr cs w)=.next (lone {fr with todo:=k} cs w):=
 step_lone_go (by simp_all [stepG,stepG.exec])
def abG{l:Nat}(c:fr.mode=.run)(g:fr.todo=.code (.label l)::k):step P (lone fr cs w)=.next (lone {fr with todo:=k} cs w):=
 step_lone_go (by simp_all [stepG,stepG.exec])
def Rw{id:Nat}(c:fr.mode=.run)(g:fr.todo=.inBlock id::k):step P (lone fr cs w)=.next (lone {fr with todo:=k} cs w):=
 step_lone_go (by simp_all [stepG,stepG.exec])
def Rx{b:Code}(c:fr.mode=.run)(g:fr.todo=.inScope b::k):step P (lone fr cs w)=.next (lone {fr with todo:=k} cs w):=
 step_lone_go (by simp_all [stepG,stepG.exec])
def amz{a b:Code}(c:fr.mode=.run)(g:fr.todo=.code (.seq a b)::k):step P (lone fr cs w)=.next (lone {fr with todo:=.code a :: .code b::k} cs w):=
 step_lone_go (by simp_all [stepG,stepG.exec])
def af1{c:Operand}{a b:Code}{v:Bool}(h:fr.mode=.run)(i:fr.todo=.code (.cond c a b)::k)(g:fr.eval c=.bool v):
  step P (lone fr cs w)=.next (lone {fr with todo:=.code (if v then a else b)::k} cs w):=
 step_lone_go (by simp_all [stepG,stepG.exec])
def abE{id:Nat}{b:Code}(c:fr.mode=.run)(g:fr.todo=.code (.block id b)::k):step P (lone fr cs w)=.next (lone {fr with todo:=.code b :: .inBlock id::k} cs w):=
 step_lone_go (by simp_all [stepG,stepG.exec])
def T9{b:Code}(c:fr.mode=.run)(g:fr.todo=.code (.loop b)::k):step P (lone fr cs w)=.next (lone {fr with todo:=.code b :: .inLoop b::k} cs w):=
 step_lone_go (by simp_all [stepG,stepG.exec])
def KW{b:Code}(c:fr.mode=.run)(g:fr.todo=.inLoop b::k):step P (lone fr cs w)=.next (lone {fr with todo:=.code b :: .inLoop b::k} cs w):=
 step_lone_go (by simp_all [stepG,stepG.exec])
def abH{b:Code}(c:fr.mode=.run)(g:fr.todo=.code (.scope b)::k):step P (lone fr cs w)=.next (lone {fr with todo:=.code b :: .inScope b::k} cs w):=
 step_lone_go (by simp_all [stepG,stepG.exec])
def af3{id:Nat}{c:List Item}(h:fr.mode=.run)(i:fr.todo=.code (.exit id)::k)(g:exitTo id k=some c):step P (lone fr cs w)=.next (lone {fr with todo:=c} cs w):=
 step_lone_go (by simp_all [stepG,stepG.exec])
def af4{l:Nat}{c:List Item}(h:fr.mode=.run)(i:fr.todo=.code (.goto l)::k)(g:gotoIn l k=some c):step P (lone fr cs w)=.next (lone {fr with todo:=c} cs w):=
 step_lone_go (by simp_all [stepG,stepG.exec])
def KX{id:Nat}(g:fr.mode=.run)(h:fr.todo=.code (.region id c false)::k):
  step P (lone fr cs w)=.next (lone {fr with todo:=.inRegion c (List.range c.size)::k} cs w):=
 step_lone_go (by simp_all [stepG,stepG.exec])
def Rz{id:Nat}(g:fr.mode=.run)(h:fr.todo=.code (.region id c true)::k):
  step P (lone fr cs w)=.next (lone {fr with todo:=.inRegion c (Region.schedule (P.follows .mixedOrders) c<|w.tape w.drawn<|.order fr.fn id)::k} cs w.drew):=
 step_lone_go (by simp_all [stepG,stepG.exec,Question.forced,Question.cut])
def Ic(g:fr.mode=.run)(h:fr.todo=.inRegion c []::k):step P (lone fr cs w)=.next (lone {fr with todo:=k} cs w):=
 step_lone_go (by simp_all [stepG,stepG.exec])
def af5(c:fr.mode=.run)(g:fr.roundOf=none)(h:fr.todo=.code .ret::k):step P (lone fr cs w)=.next (lone {fr with mode:=.returning} cs w):=
 step_lone_go (by simp_all [stepG,stepG.exec])
def af2(c:fr.mode=.run)(g:fr.roundOf=none)(h:fr.todo=[]):step P (lone fr cs w)=.next (lone {fr with mode:=.returning} cs w):=
 step_lone_go (by simp_all [stepG,stepG.exec])
def VD{l:Nat}{g:Frame}{c:Option Code}{v:Value}{i:World}(u:fr.mode=.run)(t:fr.kind=.normal)(x:fr.roundOf=some l)
  (h:(fr.todo=[]/\c=none)\/(∃k,fr.todo=.code .ret::k/\c=some .ret)\/(∃id k,fr.todo=.code (.exit id)::k/\exitTo id k=none/\c=some (.exit id))\/(∃id k,fr.todo=.code (.goto id)::k/\gotoIn id k=none/\c=some (.goto id)))
  (p:(Instr.endRound l c).run P w=.ok v i):step P (lone fr (g::cs) w)=.next (lone (g.finish v) cs i):=by
 rcases h with ⟨h,rfl⟩|⟨k,h,rfl⟩|⟨id,k,h,j,rfl⟩|⟨id,k,h,j,rfl⟩
 .exact step_lone_go (by simp_all [stepG,stepG.exec,doReturn])
 .exact step_lone_go (by simp_all [stepG,stepG.exec,doReturn])
 .exact step_lone_go (by simp_all [stepG,stepG.exec,doReturn])
 .exact step_lone_go (by simp_all [stepG,stepG.exec,doReturn])
def KY{o:Oper}(g:fr.mode=.run)(j:fr.todo=.inRegion c (i::l)::k)(h:c[i]? = some o)(p:Region.wanted o (yielded c fr.tmps)=false):
  step P (lone fr cs w)=.next (lone (fr.finish undef) cs w):=
 step_lone_go (by simp_all [stepG,stepG.exec])
def T_{o:Oper}(j:fr.mode=.run)(t:fr.todo=.inRegion g (i::l)::k)(p:g[i]? = some o)(u:Region.wanted o (yielded g fr.tmps)=true)
  (h:∀c,o.op≠.defer c) :
  stepG P true {frame:=fr,callers:=cs,status:=.running,dying:=none} w=stepG.apply P true fr cs none (execOp fr.eval o) w:=by grind [stepG,stepG.oper,stepG.exec,Frame.oper?]
def Ry{o:Oper}{z:Value}(p:fr.mode=.run)(u:fr.todo=.inRegion g (i::l)::k)(t:g[i]? = some o)(v:Region.wanted o (yielded g fr.tmps)=true)
  (j:∀c,o.op≠.defer c) (x:(execOp fr.eval o).run P w=.ok (.value z) h):step P (lone fr cs w)=.next (lone (fr.finish z) cs h):=
 step_lone_go (by rw[T_ p u t v j];simp_all [stepG.apply])
def amy{o:Oper}(p:fr.mode=.run)(u:fr.todo=.inRegion g (i::l)::k)(t:g[i]? = some o)(v:Region.wanted o (yielded g fr.tmps)=true)
  (j:∀c,o.op≠.defer c) (x:(execOp fr.eval o).run P w=.ok .skip h):step P (lone fr cs w)=.next (lone (fr.finish undef) cs h):=
 step_lone_go (by rw[T_ p u t v j];simp_all [stepG.apply])
def MV{o:Oper}{h:Array Value}(t:fr.mode=.run)(v:fr.todo=.inRegion g (i::l)::k)(u:g[i]? = some o)(x:Region.wanted o (yielded g fr.tmps)=true)
  (p:∀c,o.op≠.defer c) (y:(execOp fr.eval o).run P w=.ok (.enter f h) j):step P (lone fr cs w)=.next (lone (Frame.enter P f h .normal) (fr::cs) j):=
 step_lone_go (by rw[T_ t v u x p];simp_all [stepG.apply])
def amx{h:Array Oper}{o:Oper}{n:Nat}{g:Array Value}{a b:Code}(t:fr.mode=.run)(v:fr.todo=.inRegion h (i::l)::k)(u:h[i]? = some o)(x:Region.wanted o (yielded h fr.tmps)=true)
  (p:∀c,o.op≠.defer c) (y:(execOp fr.eval o).run P w=.ok (.round n f g a b) j):step P (lone fr cs w)=.next (lone (Frame.round n f g a b .normal) (fr::cs) j):=
 step_lone_go (by rw[T_ t v u x p];simp_all [stepG.apply])
def abF{l:Nat}{c:Option Code}{g:World}(i:fr.mode=.run)(j:fr.todo=.endRangeFunc l::k)(h:(Instr.endLoop l).run P w=.ok c g):
  step P (lone fr cs w)=.next (lone {fr with todo:=(c.map Item.code).toList++k} cs g):=
 step_lone_go (by simp_all [stepG,stepG.exec])
def abD{l:Nat}{c:World}(h:fr.mode=.run)(i:fr.roundOf=some l)(j:fr.todo=.beginRound::k)(g:(Instr.beginRound l).run P w=.ok () c):
  step P (lone fr cs w)=.next (lone {fr with todo:=k} cs c):=
 step_lone_go (by simp_all [stepG,stepG.exec,stepG.apply,Frame.finish])
def auG{x:Operand}{h:Array Tmp}{a b:Code}{l:Nat}{c:List Deferred}{i:World}{g:Array Value}(u:fr.mode=.run)(v:fr.todo=.code (.rangeFunc x h a b)::k)
  (t:(Instr.enterLoop fr.fn fr.tmps h a b fr.roundOf).run P w=.ok (l,c) i)
  (y:(do let d <-resolve fr.eval {callee:=.value x,args:=#[.const<|.func (.yield l) #[] #[]],argTypes:=#[]} 0;invoke d.target d.args:Sem Next).run P i=.ok (.enter f g) j) :
  step P (lone fr cs w)=.next (lone (Frame.enter P f g .normal) ({fr with todo:=.inRangeFunc l::k,defers:=c++fr.defers}::cs) j):=by
 refine step_lone_go ?_;have p:Frame.eval {fn:=fr.fn,tmps:=fr.tmps,todo:=.inRangeFunc l::k,defers:=c++fr.defers,mode:=.run,kind:=fr.kind,roundOf:=fr.roundOf}=fr.eval:=by rfl
 simp_all [stepG,stepG.exec,stepG.apply]
end
end Go.Ev
namespace Go.Ev
def jw(all:Array Oper)(env:Env)(o:Oper)(t:Bool):Prop:=
 match o.guard with
 | none=>t=true
 | some (j,want)=>∃p d,all[j]? = some p/\p.dst=some d/\((∃c v,env.at d=.bool c v/\t=(v==want))\/(env.at d=.xb []/\t=false))
def Ja{R:Type}(E:kD R)(env:Env)(m:Mem)(all:Array Oper)(b:Nat):Prop:=
 ∃o,all[b]? = some o/\((jw all env o false/\wG env o.dst (.xb []))\/(jw all env o true/\∃c v,evV af E m (mQ env) o=some c/\c.Is v/\wG env o.dst v))
def t6{R:Type}(E:kD R)(c:iF):Prop:=
 match c.bI with
 | f::_=>match f.todo with
   | .jH all _ _ bs::_=>∀b∈bs,Ja E f.env c.mem all b
   | _=>True
 | []=>True
def zT(f0:FuncId):List dI->Prop
 | []=>False
 | [f]=>f.fn=f0
 | _::g::r=>zT f0<|g::r
variable{f0:FuncId}
def zT.swap{f g:dI}{fs:List dI}(h:zT f0<|f::fs)(e:g.fn=f.fn):zT f0<|g::fs:=by
 cases fs with
 | nil=>exact Eq.trans e h
 | cons x r=>exact h
def Ends{R:Type}(P:Program)(f0:FuncId)(Fin:R->Value->World->Prop)(Q:R->Prop)(fr:Frame)(frs cs:List Frame)(w:World):Prop:=
 ∃y v g c,Q y/\Fin y v g/\Steps P (lone fr (frs++cs) w) (lone c cs g)/\c.fn=f0/\c.leaving P g (.returned v)
variable{P:Program}
def Ends.step{R:Type}{Fin:R->Value->World->Prop}{Q:R->Prop}{fr c:Frame}{frs frs2 cs:List Frame}{w g:World}
  (h:step P (lone fr (frs++cs) w)=.next (lone c (frs2++cs) g)) (j:Ends P f0 Fin Q c frs2 cs g):Ends P f0 Fin Q fr frs cs w:=by
 have⟨y,v,x,u,i,l,p,t⟩:=j;exact⟨y,v,x,u,i,l,.head h p,t⟩
def Ends.steps{R:Type}{Fin:R->Value->World->Prop}{Q:R->Prop}{fr g:Frame}{frs c cs:List Frame}{w i:World}
  (h:Steps P (lone fr (frs++cs) w)<|lone g (c++cs) i) (l:Ends P f0 Fin Q g c cs i):Ends P f0 Fin Q fr frs cs w:=by
 have⟨y,v,B,x,j,p,t,u⟩:=l;exact⟨y,v,B,x,j,p,h.trans t,u⟩
def Good{R:Type}(P:Program)(E:kD R)(w0:nE)(I0:Nat->Prop)(f0:FuncId)(Fin:R->Value->World->Prop)(Q:R->Prop)(c:iF):Prop:=
 t6 E c->∀(S:St) (fr:Frame) (frs cs:List Frame) (w:World),WR w0 w S c.mem->(∀b,S.I b->I0 b\/w0.free b)->Fs w S c.mem c.bI (fr::frs)->zT f0 c.bI->
  Ends P f0 Fin Q fr frs cs w
def rO(w:World)(I:Nat->Prop):(c:List Ty)->Value->Ty.Ts c->Prop
 | [],v,_=>v=.tuple #[]
 | [t],v,x=>mO w I t v x
 | t::t2::ts,v,x=>∃g:Array Value,v=.tuple g/\kY w I (t::t2::ts) g.toList x
structure aL.bp(P:Program)(g:FuncId)(s:aL):Prop where
 calls:∀(w:World) (I:Nat->Prop) (x:Ty.Ts s.args) (aa:Array Value),(∀b,I b->b<w.heap.size)->kY w I s.args aa.toList x->s.pre x=true->
  Calls P g aa w λe w'=>∃v,e=.returned v/\w'.os=w.os/\w'.tape=w.tape/\w'.output=w.output/\w.heap.size<=w'.heap.size/\(∀b,b<w.heap.size->w'.heap[b]? = w.heap[b]?)/\
   ∃I',(∀b,I' b->I b\/(w.heap.size<=b/\b<w'.heap.size))/\rO w' I' s.res v (s.fn x)
 all:s.JS=true->∀x,s.pre x=true
 body:∃F,P.funcs[g]? = some F/\F.body.isSome=true/\(F.name == "runtime.NumGoroutine")=false
def aL.oT(P:Program)(g:FuncId)(s:aL):Prop:=
 ∀(w:World) (I:Nat->Prop) (x:Ty.Ts s.args) (i:Array Value),(∀b,I b->b<w.heap.size)->kY w I s.args i.toList x->s.pre x=true->
  Calls P g i w λe c=>w.drawn<=c.drawn/\∃v,e=.returned v/\c.os=w.os/\c.tape=w.tape/\c.output=w.output/\w.heap.size<=c.heap.size/\(∀b,b<w.heap.size->c.heap[b]? = w.heap[b]?)/\
   ∃h,(∀b,h b->I b\/(w.heap.size<=b/\b<c.heap.size))/\rO c h s.res v (s.fn x)
structure lG.bp(P:Program)(g:FuncId)(s:lG):Prop where
 calls:∀(w:World) (I:Nat->Prop) (x:s.view.T) (y:Ty.Ts s.args) (b:Nat) (us:Array Value) (T:TypeId) (fr:Nat×Nat) (aa:List Value),(∀b,I b->b<w.heap.size)->w.heap[b]? = some (.cells us T fr)->bW w I s.view us.toList x->
  kY w I s.args aa y->s.pre (x,y)=true->
  Calls P g (Value.pointer (some ⟨b,0,none⟩)::aa).toArray w λe w'=>∃v,e=.returned v/\w'.os=w.os/\w'.tape=w.tape/\w'.output=w.output/\w.heap.size<=w'.heap.size/\(∀b,b<w.heap.size->w'.heap[b]? = w.heap[b]?)/\
   rO w' (λ_=>False) s.res v (s.fn (x,y))
 body:∃F,P.funcs[g]? = some F/\F.body.isSome=true/\(F.name == "runtime.NumGoroutine")=false
mutual
def VR(w:World)(I:Nat->Prop)(D:Nat->Nat×Nat):(f:VF)->List Value->f.ty.T->List Nat->Prop
 | .d t,us,x,B=>bW w I t us x/\B=[]
 | .own t,us,x,B=>((show List t.T from x)=[]/\B=[]/\∃a,us=[.slice a 0 0])\/
    (∃b h g,B=[b]/\us=[.slice (some ⟨b,h,none⟩) (show List t.T from x).length g]/\(show List t.T from x).length<=g/\(show List t.T from x).length<=gg/\
      ∃(c:Array Value) (T:TypeId) (fr:Nat×Nat),w.heap[b]? = some (.cells c T fr)/\gU fr c.size/\h+g*t.size<=c.size/\
       ∀(i:Nat) (y:t.T),(show List t.T from x)[i]? = some y->bW w I t ((c.toList.drop<|h+i*t.size).take t.size) y)
 | .fix k t,us,x,B=>B=[]/\∃g,us=[.slice (some ⟨(D k).1,(D k).2,none⟩) (show List t.T from x).length g]/\(show List t.T from x).length<=g/\(show List t.T from x).length<=gg/\
     ∃(c:Array Value) (T:TypeId) (fr:Nat×Nat),w.heap[(D k).1]? = some (.cells c T fr)/\gU fr c.size/\(D k).2+g*t.size<=c.size/\
      ∀(i:Nat) (y:t.T),(show List t.T from x)[i]? = some y->bW w I t ((c.toList.drop<|(D k).2+i*t.size).take t.size) y
 | .ptr fs,us,x,B=>∃b j,B=b::j/\us=[.pointer<|some ⟨b,0,none⟩]/\
     ∃(c:Array Value) (T:TypeId) (fr:Nat×Nat),w.heap[b]? = some (.cells c T fr)/\gU fr c.size/\ry w I D fs c.toList x j
 | .nU fs,us,x,B=>∃b,us=[.pointer<|some ⟨b,0,none⟩]/\I b/\
     ∃(c:Array Value) (T:TypeId) (fr:Nat×Nat),w.heap[b]? = some (.cells c T fr)/\gU fr c.size/\ry w I D fs c.toList x B
def ry(w:World)(I:Nat->Prop)(D:Nat->Nat×Nat):(fs:List VF)->List Value->Ty.Ts (VF.iA fs)->List Nat->Prop
 | [],us,_,B=>us=[]/\B=[]
 | [f],us,x,B=>VR w I D f us x B
 | f::g::fs,us,x,B=>∃i j c h,us=i++j/\B=c++h/\VR w I D f i (Prod.fst (α:=f.ty.T) (β:=Ty.Ts<|VF.iA<|g::fs) x) c/\ry w I D (g::fs) j (Prod.snd (α:=f.ty.T) (β:=Ty.Ts<|VF.iA<|g::fs) x) h
end
def mZ(c:List Nat):List Value:=c.map λb=>.pointer<|some ⟨b,0,none⟩
def adn(w:World)(I:Nat->Prop)(g:Bool)(h:List Nat)(c:List Ty)(v:Value)(y:Ty.Ts c):Prop:=
 match g with
 | false=>rO w I c v y
 | true=>(mZ h).head? = some v
def oX(D:Nat->Nat×Nat)(fs:List VF):List Nat:=(VF.i7 fs).map λk=>(D k).1
def VF.lens(fs:List VF)(x:Ty.Ts<|VF.iA fs):List Nat:=(VF.gz fs x).map λp=>match p.2 with | .arr _ _ l=>l.length|_=>0
structure cn.bp(P:Program)(g:FuncId)(s:cn):Prop where
 calls:∀(w:World) (I:Nat->Prop) (D:Nat->Nat×Nat) (x:Ty.Ts (VF.iA s.aK)) (y:Ty.Ts s.args) (rs:List Nat) (aa:List Value) (B:List Nat),(∀b,I b->b<w.heap.size)->ry w I D s.aK (mZ rs) x B->rs.Nodup->(B++oX D s.aK).Nodup->(∀b∈B++oX D s.aK,¬I b)->
  kY w I s.args aa y->s.pre (x,y)=true->
  Calls P g (mZ rs++aa).toArray w λe w'=>∃v,e=.returned v/\w'.os=w.os/\w'.tape=w.tape/\w'.output=w.output/\w.heap.size<=w'.heap.size/\(∀b,b<w.heap.size->b ∉ B++oX D s.aK->w'.heap[b]? = w.heap[b]?)/\
   ∃(I':Nat->Prop) (B':List Nat),(∀b,I' b->(I b\/b∈B++oX D s.aK\/w.heap.size<=b)/\b<w'.heap.size)/\(∀(b:Nat) (us:Array Value) (T:TypeId) (fr:Nat×Nat),w.heap[b]? = some (.cells us T fr)->∃(iH:Array Value) (T':TypeId) (iU:Nat×Nat),w'.heap[b]? = some (.cells iH T' iU)/\iH.size=us.size)/\ry w' I' D s.aK (mZ rs) (s.fn (x,y)).1 B'/\(B'++oX D s.aK).Nodup/\(∀b∈B'++oX D s.aK,(b∈B++oX D s.aK\/w.heap.size<=b)/\¬I' b)/\adn w' I' s.rp rs s.res v (s.fn (x,y)).2
 keep:∀x y,s.pre (x,y)=true->VF.lens s.aK (s.fn (x,y)).1=VF.lens s.aK x
 all:s.JS=true->∀x,s.pre x=true
 body:∃F,P.funcs[g]? = some F/\F.body.isSome=true/\(F.name == "runtime.NumGoroutine")=false
def fnV(fs:List FuncId):List Value:=fs.map λf=>.func (.func f) #[] #[]
structure fH.bp(P:Program)(g:FuncId)(s:fH):Prop where
 calls:∀(w:World) (I:Nat->Prop) (x:List s.elem.T) (y:Ty.Ts s.args) (v:Value) (aa:List Value) (B:List Nat),(∀b,I b->b<w.heap.size)->VR w I (λ_=>(0,0)) (.own s.elem) [v] x B->(∀b∈B,¬I b)->
  kY w I s.args aa y->s.pre (x,y)=true->
  Calls P g (zu s.xk v (aa++fnV s.ll)).toArray w λe w'=>∃r,e=.returned r/\w'.os=w.os/\w'.tape=w.tape/\w'.output=w.output/\w.heap.size<=w'.heap.size/\(∀b,b<w.heap.size->b ∉ B->w'.heap[b]? = w.heap[b]?)/\
   ∃I':Nat->Prop,(∀b,I' b->(I b\/w.heap.size<=b)/\b<w'.heap.size)/\(∀(b:Nat) (us:Array Value) (T:TypeId) (fr:Nat×Nat),w.heap[b]? = some (.cells us T fr)->∃(iH:Array Value) (T':TypeId) (iU:Nat×Nat),w'.heap[b]? = some (.cells iH T' iU)/\iH.size=us.size)/\
    VR w' I' (λ_=>(0,0)) (.own s.elem) [v] (s.fn (x,y)).1 B/\rO w' I' s.res r (s.fn (x,y)).2
 body:∃F,P.funcs[g]? = some F/\F.body.isSome=true/\(F.name == "runtime.NumGoroutine")=false
def al3:List Value->Value
 | [v]=>v
 | vs=>.tuple vs.toArray
def ado(w0 w:World)(I:Nat->Prop)(f:VF)(c:Bool)(g:List Ty)(z:Value)(y:Bool×f.ty.T×Ty.Ts g):Prop:=
 ∃(h:Nat->Prop) (D:Nat->Nat×Nat) (B:List Nat) (v:Value) (i:List Value),z=al3 (v::i)/\(∀b,h b->I b\/(w0.heap.size<=b/\b<w.heap.size))/\
  ((c=true/\y.1=false/\v=.pointer none)\/((c=true->y.1=true)/\VR w h D f [v] y.2.1 B/\B.Nodup/\∀b∈B,w0.heap.size<=b/\¬h b))/\kY w h g i y.2.2
structure pG.bp(P:Program)(g:FuncId)(s:pG):Prop where
 calls:∀(w:World) (I:Nat->Prop) (x:Ty.Ts s.args) (aa:Array Value),(∀b,I b->b<w.heap.size)->kY w I s.args aa.toList x->s.pre x=true->
  Calls P g aa w λe w'=>∃v,e=.returned v/\w'.os=w.os/\w'.tape=w.tape/\w'.output=w.output/\w.heap.size<=w'.heap.size/\(∀b,b<w.heap.size->w'.heap[b]? = w.heap[b]?)/\
   ado w w' I s.out s.opt s.res v (s.fn x)
 body:∃F,P.funcs[g]? = some F/\F.body.isSome=true/\(F.name == "runtime.NumGoroutine")=false
structure Fits{R:Type}(P:Program)(E:kD R)(Fin:R->Value->World->Prop)(w0:nE)(I0:Nat->Prop):Prop where
 ti:og P E.ti
 ll:∀g F,look E.ll g=some F->P.funcs[g]? = some F/\(F.name == "runtime.NumGoroutine")=false
 jK:∀g s,look E.jK g=some s->s.bp P g
 mixed:P.follows .mixedOrders=true
 fin:∀(S:St) (w:World) (m:Mem) (av:AV) (y:R) (v:Value),WR w0 w S m->(∀b,S.I b->I0 b\/w0.free b)->E.fin av m=some y->CR w S m av v->Fin y v w
 tO:∀g s,look E.tO g=some s->s.bp P g
 tN:∀g s,look E.tN g=some s->s.bp P g
 tM:∀g s,look E.tM g=some s->s.bp P g
 ops:∀g s,look E.ops g=some s->s.bp P g
 keep:w0.R.length<=E.keep
 zk:w0.D->(∀g s,look E.jK g=some s->s.oT P g)/\E.tO=[]/\E.tN=[]/\E.tM=[]/\E.ops=[]
variable{l:List Item}
section
variable {P:Program} {R:Type} {E:kD R} {w0:nE} {I0:Nat->Prop} {f0:FuncId} {Fin:R->Value->World->Prop} {Q:R->Prop}
variable {w:World} {S:St} {m:Mem} {f:dI} {fr:Frame} {fs:List dI} {frs cs:List Frame}
def oM{x:Nat}(h:∀a∈f.todo.head?,a.GK=false):¬Hid f fr x:=by
 rintro ⟨all,bs,l,g,b,p,c,_⟩
 cases hh:f.todo.head? with
 | none=>simp_all
 | some a=>
   simp_all [dT.GK]
def FR.next(c:FR w S m f fr)(g:∀x,¬Hid f fr x){k:List dT}{kc:List Item}(l:fV f.n S k kc)(j:eF m k)(h:∀a∈k.tail,a.GK=false):FR w S m {f with todo:=k} {fr with todo:=kc}:=
 ⟨c.fn,c.n,c.small,λi _=>c.env i<|g i,l,j,h,c.defers,c.marks,c.mode,c.kind,c.gy,c.uH⟩
def fV.cons_inv{n:Nat}{a:dT}{k:List dT}(h:fV n S (a::k) l):∃c g,l=c::g/\Ft n S a c/\fV n S k g:=h
def fV.mk{n:Nat}{a:dT}{k:List dT}{c:Item}{g:List Item}(h:Ft n S a c)(i:fV n S k g):fV n S (a::k)<|c::g:=⟨c,g,rfl,h,i⟩
def eF.tail{a:dT}{k:List dT}(h:eF m<|a::k):eF m k:=λb c=>h b<|aB _ c
def eF.mk{a:dT}{k:List dT}(g:match a with | .oA id=>(m.at id).jY=true | .pJ id=>(m.at id).jY=true|_=>True)(h:eF m k):eF m<|a::k:=λb c=>by
 rcases aC.1 c with rfl|c
 .omega
 .exact h b c
def gS(h:∀a∈f.todo.head?,a.GK=false):t6 E {bI:=f::fs,mem:=m}:=by
 unfold t6;simp only;split
 .rename_i all g c bs k i;have:=h (.jH all g c bs) (by grind);cases this
 grind
def jW{k:List dT}(u:WR w0 w S m)(t:∀b,S.I b->I0 b\/w0.free b)(v:FR w S m f fr)(c:Fs w S m fs frs)(p:zT f0<|f::fs)(g:∀x,¬Hid f fr x)
  (h:step P (lone fr (frs++cs) w)=.next (lone {fr with todo:=l} (frs++cs) w)) (C:fV f.n S k l) (B:eF m k) (j:∀a∈k,a.GK=false)
  (y:Good P E w0 I0 f0 Fin Q {bI:={f with todo:=k}::fs,mem:=m}):Ends P f0 Fin Q fr frs cs w:=
 .step h (y (gS λa i=>j a<|by grind) S _ _ cs w u t ⟨_,_,rfl,v.next g C B λa i=>j a<|jg i,c⟩<|p.swap rfl)
end
end Go.Ev
namespace Go.Ev
theorem Bn{n:Nat}{S:St}{m:Mem}{id:Nat}:∀{k u:List dT} {x:List Item},fV n S k x->mJ id k=some u->∃p,exitTo id x=some p/\fV n S u p/\(eF m k->eF m u)/\(∀a∈u,a∈k)
 | [],u,x,ht,h=>by cases h
 | a::k,u,x,ht,h=>by
   obtain⟨t,v,rfl,g,F⟩:=ht.cons_inv;have j (O:exitTo id (t::v)=exitTo id v) (h:mJ id k=some u):∃p,exitTo id (t::v)=some p/\fV n S u p/\(eF m (a::k)->eF m u)/\(∀b∈u,b∈a::k):=by
    have⟨p,N,H,J,K⟩:=Bn (m:=m) F h;exact⟨p,by simp_all,H,λB=>J B.tail,λb y=>aB _<|K b y⟩
   cases a<;>simp[mJ] at h
   case inBlock C=>
    subst g;by_cases G:C=id
    .subst G;rw[tA.2 rfl] at h;cases h;exact⟨v,by simp[exitTo],F,λB=>B.tail,λb y=>aB _ y⟩
    .rw[gI.2 G] at h
     grind [exitTo]
   case code c=>have g:t=.code c:=g;subst g;exact j rfl h
   case inLoop b=>
    rcases g with rfl|rfl<;>exact j rfl h
   case inScope b=>have g:t=.inScope b:=g;subst g;exact j rfl h
   case ops all rest=>obtain⟨l,rfl,_⟩:∃l:List Nat,t=.inRegion all l/\l.map (λi=>all[i]?)=rest.map some:=g;exact j rfl h
   case jH all ms rest bs=>obtain⟨l,rfl,_⟩:∃l:List Nat,t=.inRegion all l/\iW n all ms rest bs l:=g;exact j rfl h
   case sT all ms i rest bs=>obtain⟨l,rfl,_⟩:∃l:List Nat,t=.inRegion all (i::l)/\iW n all ms (i::rest) bs (i::l):=g;exact j rfl h
   case oA l=>have g:t=.inRangeFunc (S.σ l):=g;subst g;exact j rfl h
   case pJ l=>have g:t=.endRangeFunc (S.σ l):=g;subst g;exact j rfl h
   case beginRound=>have g:t=.beginRound:=g;subst g;exact j rfl h
theorem xH{n:Nat}{S:St}{id:Nat}:∀{k:List dT} {u:List Item},fV n S k u->mJ id k=none->exitTo id u=none
 | [],u,ht,h=>by have:u=[]:=ht;subst this;rfl
 | a::k,u,ht,h=>by
   obtain⟨p,t,rfl,g,x⟩:=ht.cons_inv;have j (y:exitTo id (p::t)=exitTo id t) (h:mJ id k=none):exitTo id (p::t)=none:=by
    rw[y];exact xH x h
   cases a<;>simp[mJ] at h
   case inBlock v=>
    subst g;by_cases B:v=id
    .simp_all
    grind [exitTo]
   case code c=>have g:p=.code c:=g;subst g;exact j rfl h
   case inLoop b=>
    rcases g with rfl|rfl<;>exact j rfl h
   case inScope b=>have g:p=.inScope b:=g;subst g;exact j rfl h
   case ops all rest=>obtain⟨l,rfl,_⟩:∃l:List Nat,p=.inRegion all l/\l.map (λi=>all[i]?)=rest.map some:=g;exact j rfl h
   case jH all ms rest bs=>obtain⟨l,rfl,_⟩:∃l:List Nat,p=.inRegion all l/\iW n all ms rest bs l:=g;exact j rfl h
   case sT all ms i rest bs=>obtain⟨l,rfl,_⟩:∃l:List Nat,p=.inRegion all (i::l)/\iW n all ms (i::rest) bs (i::l):=g;exact j rfl h
   case oA l=>have g:p=.inRangeFunc (S.σ l):=g;subst g;exact j rfl h
   case pJ l=>have g:p=.endRangeFunc (S.σ l):=g;subst g;exact j rfl h
   case beginRound=>have g:p=.beginRound:=g;subst g;exact j rfl h
theorem Bt{n:Nat}{S:St}{m:Mem}{l:Nat}:∀{k u:List dT} {y:List Item},fV n S k y->mK l k=some u->∃p,gotoIn l y=some p/\fV n S u p/\(eF m k->eF m u)/\(∀a∈u,a∈k\/a.GK=false)
 | [],u,y,ht,h=>by cases h
 | a::k,u,y,ht,h=>by
   obtain⟨t,v,rfl,g,C⟩:=ht.cons_inv;have j (K:gotoIn l (t::v)=gotoIn l v) (h:mK l k=some u):∃p,gotoIn l (t::v)=some p/\fV n S u p/\(eF m (a::k)->eF m u)/\(∀b∈u,b∈a::k\/b.GK=false):=by
    have⟨p,J,F,G,H⟩:=Bt (m:=m) C h;exact⟨p,by simp_all,F,λB=>G B.tail,λb x=>(H b x).imp (aB _) id⟩
   cases a<;>simp[mK] at h
   case inScope body=>
    subst g;cases hf:findLabel body l with
    | none=>grind [gotoIn]
    | some rest=>
      rw[hf] at h;cases h;refine⟨.code rest :: .inScope body::v,by grind [gotoIn],.mk rfl<|.mk rfl C,λB=>.mk trivial B,λb x=>?_⟩;rcases aC.1 x with rfl|x
      .exact .inr rfl
      simp_all
   case code c=>have g:t=.code c:=g;subst g;exact j rfl h
   case inLoop b=>
    rcases g with rfl|rfl<;>exact j rfl h
   case inBlock b=>have g:t=.inBlock b:=g;subst g;exact j rfl h
   case ops all rest=>obtain⟨l,rfl,_⟩:∃l:List Nat,t=.inRegion all l/\l.map (λi=>all[i]?)=rest.map some:=g;exact j rfl h
   case jH all ms rest bs=>obtain⟨l,rfl,_⟩:∃l:List Nat,t=.inRegion all l/\iW n all ms rest bs l:=g;exact j rfl h
   case sT all ms i rest bs=>obtain⟨l,rfl,_⟩:∃l:List Nat,t=.inRegion all (i::l)/\iW n all ms (i::rest) bs (i::l):=g;exact j rfl h
   case oA l=>have g:t=.inRangeFunc (S.σ l):=g;subst g;exact j rfl h
   case pJ l=>have g:t=.endRangeFunc (S.σ l):=g;subst g;exact j rfl h
   case beginRound=>have g:t=.beginRound:=g;subst g;exact j rfl h
theorem xR{n:Nat}{S:St}{l:Nat}:∀{k:List dT} {u:List Item},fV n S k u->mK l k=none->gotoIn l u=none
 | [],u,ht,h=>by have:u=[]:=ht;subst this;rfl
 | a::k,u,ht,h=>by
   obtain⟨p,t,rfl,g,v⟩:=ht.cons_inv;have j (x:gotoIn l (p::t)=gotoIn l t) (h:mK l k=none):gotoIn l (p::t)=none:=by
    rw[x];exact xR v h
   cases a<;>simp[mK] at h
   case inScope body=>
    subst g
    grind [gotoIn]
   case code c=>have g:p=.code c:=g;subst g;exact j rfl h
   case inLoop b=>
    rcases g with rfl|rfl<;>exact j rfl h
   case inBlock b=>have g:p=.inBlock b:=g;subst g;exact j rfl h
   case ops all rest=>obtain⟨l,rfl,_⟩:∃l:List Nat,p=.inRegion all l/\l.map (λi=>all[i]?)=rest.map some:=g;exact j rfl h
   case jH all ms rest bs=>obtain⟨l,rfl,_⟩:∃l:List Nat,p=.inRegion all l/\iW n all ms rest bs l:=g;exact j rfl h
   case sT all ms i rest bs=>obtain⟨l,rfl,_⟩:∃l:List Nat,p=.inRegion all (i::l)/\iW n all ms (i::rest) bs (i::l):=g;exact j rfl h
   case oA l=>have g:p=.inRangeFunc (S.σ l):=g;subst g;exact j rfl h
   case pJ l=>have g:p=.endRangeFunc (S.σ l):=g;subst g;exact j rfl h
   case beginRound=>have g:p=.beginRound:=g;subst g;exact j rfl h
variable{S:St}{c:Code}{g:List Item}
def fV.code{n:Nat}{k:List dT}(h:fV n S k g):fV n S (.code c::k)<|.code c::g:=.mk (a:=.code c) rfl h
def fV.inLoop{n:Nat}{k:List dT}(h:fV n S k g):fV n S (.inLoop c::k)<|.inLoop c::g:=.mk (a:=.inLoop c) (.inl rfl) h
def fV.loop{n:Nat}{k:List dT}(h:fV n S k g):fV n S (.inLoop c::k)<|.code (.loop c)::g:=.mk (a:=.inLoop c) (.inr rfl) h
def fV.inBlock{n:Nat}{c:Nat}{k:List dT}(h:fV n S k g):fV n S (.inBlock c::k)<|.inBlock c::g:=.mk (a:=.inBlock c) rfl h
def fV.inScope{n:Nat}{k:List dT}(h:fV n S k g):fV n S (.inScope c::k)<|.inScope c::g:=.mk (a:=.inScope c) rfl h
def BK{w:World}{m:Mem}{f:dI}{fr:Frame}(c:FR w S m f fr)(x:Operand)(h:∀t,x=.tmp t->¬Hid f fr t):CR w S m (mQ f.env x)<|fr.eval x:=by
 cases x with
 | tmp t=>exact c.env t<|h t rfl
 | const v=>exact Qw v
 | global g=>exact gT
 | func g=>exact vk.2 ⟨#[],#[],rfl,bA.2 rfl,bA.2 rfl⟩
section
variable {P:Program} {R:Type} {E:kD R} {w0:nE} {I0:Nat->Prop} {f0:FuncId} {Fin:R->Value->World->Prop} {Q:R->Prop}
variable {w:World} {S:St} {m:Mem} {fr:Frame} {fs:List dI} {frs cs:List Frame}
variable {fn:FuncId} {nn:Nat} {env:Env} {marks:List Nat} {gy:Option Nat} {k:List dT} {n:Nat}
def Vi(V:∀ks f fs m,(∀a∈f.todo.head?,a.GK=false)->Good P E w0 I0 f0 Fin Q (canon E.keep ks {bI:=f::fs,mem:=m})->Good P E w0 I0 f0 Fin Q {bI:=f::fs,mem:=m})(H:∀c,Tr.Ok Q (Good P E w0 I0 f0 Fin Q) (run af E n c)->Good P E w0 I0 f0 Fin Q c)
  {i:dT} (hi:match i with | .inBlock _=>True | .inScope _=>True | .inLoop _=>True | .code x=>(match x with | .skip=>True | .label _=>True | .seq _ _=>True | .cond _ _ _=>True | .block _ _=>True | .loop _=>True | .scope _=>True | .region _ _ false=>True|_=>False) | .ops _ []=>True|_=>False)
  (h:Tr.Ok Q (Good P E w0 I0 f0 Fin Q)<|run af E (n+1) {bI:=⟨fn,nn,env,i::k,marks,gy⟩::fs,mem:=m})
  (Y:t6 E {bI:=⟨fn,nn,env,i::k,marks,gy⟩::fs,mem:=m})
  (C:WR w0 w S m) (B:∀b,S.I b->I0 b\/w0.free b) (g:FR w S m ⟨fn,nn,env,i::k,marks,gy⟩ fr) (p:Fs w S m fs frs) (y:zT f0<|⟨fn,nn,env,i::k,marks,gy⟩::fs) :
  Ends P f0 Fin Q fr frs cs w:=by
 have⟨it,kc,J,X,F⟩:=g.todo.cons_inv;have G:eF m k:=g.live.tail;have W:∀a∈k,a.GK=false:=g.cH
 have K:∀{a:dT},a.GK=false->∀b∈a::k,b.GK=false:=λO b hb=>by grind
 have N:∀{a a':dT},a.GK=false->a'.GK=false->∀b∈a::a'::k,b.GK=false:=λO a6 b hb=>by grind
 have j:i.GK=false->∀x,¬Hid ⟨fn,nn,env,i::k,marks,gy⟩ fr x:=λaa x=>oM λa O=>by grind
 cases i<;>simp only at hi
 case inBlock id=>
  subst X;exact jW C B g p y (j rfl) (Rw g.mode J) F G W<|H _ h
 case inScope b=>
  subst X;exact jW C B g p y (j rfl) (Rx g.mode J) F G W<|H _ h
 case inLoop b=>
  simp only[run] at h;cases hs:Db E.stops fn (kF b) with
  | some ks=>rw[hs] at h;exact V ks _ _ _ (λa O=>by cases O;rfl) h Y S fr frs cs w C B ⟨fr,frs,rfl,g,p⟩ y
  | none=>
    rw[hs] at h;have Z:step P (lone fr (frs++cs) w)=.next (lone {fr with todo:=.code b :: .inLoop b::kc} (frs++cs) w):=by
     rcases X with rfl|rfl
     .exact KW g.mode J
     .exact T9 g.mode J
    exact jW C B g p y (j rfl) Z F.inLoop.code (.mk trivial<|.mk trivial G) (N rfl rfl)<|H _ h
 case ops all rest=>
  cases rest with
  | cons o rest=>grind
  | nil=>
    obtain⟨l,rfl,a9⟩:∃l:List Nat,it=.inRegion all l/\l.map (λi=>all[i]?)=([]:List Oper).map some:=X;have:l=[]:=by simp_all
    subst this;exact jW C B g p y (j rfl) (Ic g.mode J) F G W<|H _ h
 case code x=>
  subst X;replace j:=j rfl;cases x<;>(try simp only at hi)
  case skip=>simp only[run] at h;exact jW C B g p y j (af6 g.mode J) F G W<|H _ h
  case label l=>simp only[run] at h;exact jW C B g p y j (abG g.mode J) F G W<|H _ h
  case seq a b=>simp only[run] at h;exact jW C B g p y j (amz g.mode J) F.code.code (.mk trivial<|.mk trivial G) (N rfl rfl)<|H _ h
  case block id b=>simp only[run] at h;exact jW C B g p y j (abE g.mode J) F.inBlock.code (.mk trivial<|.mk trivial G) (N rfl rfl)<|H _ h
  case scope b=>simp only[run] at h;exact jW C B g p y j (abH g.mode J) F.inScope.code (.mk trivial<|.mk trivial G) (N rfl rfl)<|H _ h
  case loop b=>
   have hg:=H _ h;refine hg (gS λa O=>by cases O;rfl) S fr frs cs w C B ⟨fr,frs,rfl,?_,p⟩<|y.swap rfl;exact⟨g.fn,g.n,g.small,λi _=>g.env i<|j i,by
    rw[J];exact F.loop,.mk trivial G,W,g.defers,g.marks,g.mode,g.kind,g.gy,g.uH⟩
  case region id os draw=>
   cases draw with
   | true=>grind
   | false=>
     simp only[run] at h;cases hcut:Db E.oW fn (some id) with
     | some ks=>rw[hcut] at h;exact V ks _ _ _ (λa O=>by cases O;rfl) h Y S fr frs cs w C B ⟨fr,frs,rfl,g,p⟩ y
     | none=>
     rw[hcut] at h;refine jW C B g p y j (KX g.mode J) (.mk (a:=.ops os os.toList) ⟨_,rfl,?_⟩ F) (.mk trivial G) (K rfl)<|H _ h;apply dL
     grind
  case cond x a b=>
   have hx:=BK g x λt _=>j t;simp only[run] at h;cases hv:mQ env x<;>rw[hv] at h hx<;>(try simp only at h)<;>try exact h.elim
   rename_i c1 v;have e:=iE.1 hx;have u:=af1 (P:=P) (cs:=frs++cs) (w:=w) g.mode J e;cases c1 with
   | true=>
     cases v with
     | true=>exact jW C B g p y j u F.code (.mk trivial G) (K rfl)<|H _ h
     | false=>exact jW C B g p y j u F.code (.mk trivial G) (K rfl)<|H _ h
   | false=>
     cases v with
     | true=>exact jW C B g p y j u F.code (.mk trivial G) (K rfl)<|H _<|h.1 rfl
     | false=>exact jW C B g p y j u F.code (.mk trivial G) (K rfl)<|H _<|h.2 rfl
end
end Go.Ev
namespace Go.Ev
variable{c:Array Value}{d:Option Nat}{env:Env}{fn:FuncId}{fr:Frame}{gy:Option Nat}{i:Nat}{l marks:List Nat}{v:AV}
section
variable {P:Program} {w0:nE} {w:World} {S:St} {m:Mem}
def BO{b:Nat}{o o':Obj}(h:w.heap[b]? = some o)(i:∀c T fr,o≠.cells c T fr):rU w (w.putObj b o') b:=by
 refine⟨rfl,rfl,rfl,rfl,by simp_all,λj l=>?_,λc T fr g=>absurd (Option.some.inj<|h.symm.trans g)<|i c T fr⟩
 simp_all [ir,World.putObj]
def U7{b:Nat}{o c:Obj}(h:w.heap[b]? = some o):(w.putObj b c).heap[b]? = some c:=by grind [World.putObj]
def Y4(g:WR w0 w S m){d:Nat}(c:m.at d=.FU):Step w0 w S m (w.putObj (S.σ d)<|.deferred none) S<|m.set d .UE:=by
 have i:=g.box d;rw[c] at i;have p:S.lv d (m.at d)=true:=by rw[c];rfl
 have j:S.fz d (m.at d)=false:=by rw[c];rfl
 have l:iX (m.at d) .UE:=by rw[c];trivial
 have t:=BO (o':=.deferred none) i (λ_ _ _ h=>by cases h);exact⟨g.set p j l (λ_=>rfl) rfl t trivial,kN g p j l (λ_=>rfl) t,.refl⟩
theorem Gw:∀{c:List Nat} {m g:Mem} {w:World} {fr:Frame} {cs:List Frame},sG c m=some g->WR w0 w S m->fr.mode=.returning->
  fr.defers=c.map (λd=>{target:=.collected<|S.σ d,args:=#[]})->∃i,Step w0 w S m i S g/\Steps P (lone fr cs w) (lone {fr with defers:=[]} cs i)
 | [],m,g,w,fr,cs,h,hW,hm,hd=>by
   cases h;have e:{fr with defers:=[]}=fr:=by cases fr;simp_all
   exact⟨w,.refl hW,by rw[e];exact .refl _ _⟩
 | d::c,m,g,w,fr,cs,h,hW,hm,hd=>by
   simp[sG] at h;cases hmd:m.at d<;>rw[hmd] at h<;>(try simp only at h)<;>try (cases h;done)
   have l:=Y4 hW hmd;have j:=hW.box d;rw[hmd] at j;have j:w.heap[S.σ d]? = some (.deferred<|some []):=j;have⟨i,p,t⟩:=Gw (fr:={fr with defers:=c.map<|λd=>{target:=.collected<|S.σ d,args:=#[]}}) (cs:=cs) h l.wr hm rfl;refine⟨i,l.trans p,.head (m₁:=lone {fr with defers:=c.map<|λd=>{target:=.collected<|S.σ d,args:=#[]}} cs (w.putObj (S.σ d)<|.deferred none)) (step_lone_go ?_) t⟩
   simp_all [Instr.takeDeferred,getObj,setObj,Sem.run,World.putObj,stepG,unwind]
def acP{α:Type}{c:TV α}{a:α}(h:acO c=some a):c=.leaf a:=by
 cases c<;>simp[acO] at h;rw[h]
def OV(c:Array Value):ResultVar->Sem Value
 | .tmp t=>pure<|c.getD t undef
 | .cell a t=>do loadVar t (<-asAddr<|c.getD a undef)
def F3{R:Type}{E:kD R}(j:og P E.ti)(l:WR w0 w S m)(g:∀i,CR w S m (env.at i)<|c.getD i undef){r:ResultVar}(h:Bm af E env m r=some v):
  ∃z,(OV c r).run P w=.ok z w/\CR w S m v z:=by
 cases r with
 | tmp t=>simp only[Bm] at h;cases h;exact⟨_,rfl,g t⟩
 | cell a t=>
   have p:(F2 af (E.ti.get t) m<|env.at a).Is v:=by rw[acP h];rfl
   grind [Bl,OV,asAddr]
theorem wV{R:Type}{E:kD R}(u:og P E.ti)(x:WR w0 w S m){env:Env}{g:Array Value}(c:∀i,CR w S m (env.at i)<|g.getD i undef):∀{t:List ResultVar} {l:List AV},qP af E env m t=some l->
  ∃j:List Value,(t.mapM<|OV g).run P w=.ok j w/\eD w S m l j
 | [],l,h=>by cases h;exact⟨[],by simp,bA.2 rfl⟩
 | r::t,l,h=>by
   simp[qP] at h;cases hr:Bm af E env m r with
   | none=>grind
   | some v=>
     rw[hr] at h;simp only at h;split at h;cases h;rename_i C p;cases h;have⟨z,F,y⟩:=F3 u x c hr;have⟨j,G,B⟩:=wV u x c p;exact⟨z::j,by simp_all,bL.2 ⟨z,j,rfl,y,B⟩⟩
def JA{R:Type}{E:kD R}(C:og P E.ti)(G:WR w0 w S m)(p:∀i,CR w S m (env.at i)<|c.getD i undef){F:Func}{j:List AV}(h:qP af E env m F.results.toList=some j):
  ∃z,(results F c).run P w=.ok z w/\CR w S m (gW j) z:=by
 have⟨l,H,g⟩:=wV C G p h;have t:(F.results.mapM<|OV c).run P w=.ok l.toArray w:=by simp_all [mE]
 have x:results F c=(do let j <-F.results.mapM<|OV c;pure (if h:j.size=1 then j[0] else .tuple j)):=by rfl
 match j,l,g with
 | [],l,g=>
   have:=bA.1 g;exact⟨.tuple #[],by simp_all,jZ.2 ⟨_,rfl,bA.2 rfl⟩⟩
 | [v],l,g=>
   obtain⟨u,r,rfl,y,B⟩:=bL.1 g;have:=bA.1 B;exact⟨u,by simp_all,y⟩
 | v::v2::j,l,g=>
   have J:=g.length;refine⟨.tuple l.toArray,?_,jZ.2 ⟨_,rfl,g⟩⟩
   simp_all
def OP(c:Array Value)(d:Option Nat)(z:Value):Array Value:=
 match d with
 | some d=>c.setIfInBounds d z
 | none=>c
def C3{z:Value}:(OP c d z).size=c.size:=by
 cases d<;>simp[OP]
theorem OQ{z:Value}(h:sU c.size d=true)(x:Nat):(OP c d z).getD x undef=if d=some x then z else c.getD x undef:=by
 cases d with
 | none=>rfl
 | some d=>
   have g:d<c.size:=by simp_all [sU]
   simp[OP,dW]
   grind
def Sn{f:dI}{z:Value}(i:c.size=f.n)(j:f.n<=65535)(h:sU f.n d=true)(l:CR w S m v z){H:Nat->Prop}(g:∀x,¬H x->d≠some x->CR w S m (f.env.at x) (c.getD x undef)):
  ∀x,¬H x->CR w S m ((f.env.oE d v).at x) ((OP c d z).getD x undef):=by grind [Env.Ld,OQ]
def uS{c:Array Oper}{g:List Item}{z:Value}{o:Oper}(j:fr.todo=.inRegion c (i::l)::g)(h:c[i]? = some o):
  fr.finish z={fr with tmps:=OP fr.tmps o.dst z,todo:=.inRegion c l::g}:=by
 simp[Frame.finish,j,h];rfl
theorem F_{nn:Nat}{all:Array Oper}{o:Oper}{c:List Oper}{k:List dT}{z:Value}
  (g:FR w S m ⟨fn,nn,env,.ops all (o::c)::k,marks,gy⟩ fr) (y:sU nn o.dst=true) (C:CR w S m v z):FR w S m ⟨fn,nn,env.oE o.dst v,.ops all c::k,marks,gy⟩<|fr.finish z:=by
 have⟨F,G,B,p,t⟩:=g.todo.cons_inv;obtain⟨l,rfl,j⟩:∃l:List Nat,F=.inRegion all l/\l.map (λi=>all[i]?)=(o::c).map some:=p;cases l with
 | nil=>grind
 | cons i l=>
   simp at j;rw[uS B j.1]
   exact⟨g.fn,C3.trans g.n,g.small,λx _=>Sn (f:=⟨fn,nn,env,.ops all (o::c)::k,marks,gy⟩) (H:=λ_=>False) g.n g.small y C (λx _ _=>g.env x (oM λa u=>by cases u;rfl)) x<|λh=>h,
    .mk (a:=.ops all c) ⟨l,rfl,j.2⟩ t,.mk trivial g.live.tail,g.cH,g.defers,g.marks,g.mode,g.kind,g.gy,g.uH⟩
def Wb.tail{all:Array Oper}(h:Wb all<|i::l):Wb all l:=by
 have u:=mU.1 h.pw;have v:=bS.1 h.nodup;refine⟨v.2,λj c=>h.lt j<|aB _ c,u.2,λj c=>h.self j<|aB _ c,λk x t j c g=>?_⟩;by_cases p:k=i
 .grind
 .exact h.closed k x (λy=>(aC.1 y).elim p t) j c<|aB _ g
def Fv.tail{c:List Nat}(h:Fv c<|i::l):Fv c l:=λl1 j l2 e=>h (i::l1) j l2 (by rw[e];rfl)
def iW.take{n:Nat}{all:Array Oper}{t c bs:List Nat}(h:iW n all t (i::c) bs<|i::l):iW n all t c bs l:=by
 have u:i ∉ c++bs/\(c++bs).Nodup:=bS.1 (by have:=h.nodup;grind);have v:=(bS.1 h.lnd).1;refine⟨h.msk.tail,(bS.1 h.lnd).2,u.2,λj g=>?_,λj g=>?_,h.lt,h.read,h.dst,h.own,h.grd,h.dok⟩
 .rcases aC.1 (h.sub j (aB _ g)) with rfl|p
  all_goals grind
 .rcases h.cov j (aB _ g) with p|p
  all_goals grind
theorem DG{nn:Nat}{all:Array Oper}{h:List Nat}{c bs:List Nat}{o:Oper}{k:List dT}{z:Value}
  (g:FR w S m ⟨fn,nn,env,.sT all h i c bs::k,marks,gy⟩ fr) (Z:all[i]? = some o) (X:sU nn o.dst=true) (hv:CR w S m v z):FR w S m ⟨fn,nn,env.oE o.dst v,.jH all h c bs::k,marks,gy⟩<|fr.finish z:=by
 have⟨it,C,B,O,V⟩:=g.todo.cons_inv;obtain⟨l,rfl,W⟩:∃l:List Nat,it=.inRegion all (i::l)/\iW nn all h (i::c) bs (i::l):=O;rw[uS B Z]
 refine⟨g.fn,C3.trans g.n,g.small,λx t=>Sn (f:=⟨fn,nn,env,.sT all h i c bs::k,marks,gy⟩) (H:=λx=>Hid ⟨fn,nn,env.oE o.dst v,.jH all h c bs::k,marks,gy⟩ {fr with tmps:=OP fr.tmps o.dst z,todo:=.inRegion all l::C} x) g.n g.small X hv (λx t _=>g.env x λY=>t ?_) x t,
   .mk (a:=.jH all h c bs) ⟨l,rfl,W.take⟩ V,.mk trivial g.live.tail,g.cH,g.defers,g.marks,g.mode,g.kind,g.gy,g.uH⟩
 have⟨u,F,l',k',b,p,G,y,J,j,K,N⟩:=Y;cases G;rw[B] at y;cases y;rcases aC.1 j with rfl|j
 .grind
 .exact⟨all,bs,l,C,b,p,rfl,rfl,J,j,K,N⟩
def Bo{g p:dI}{z:Value}(c:FR w S m g fr)(C:CR w S m v z)(h:finish g v=some p):FR w S m p (fr.finish z)/\p.fn=g.fn:=by
 have⟨fn,nn,env,j,marks,gy⟩:=g;cases j with
 | nil=>grind [finish]
 | cons a k=>
   cases a<;>simp only[finish] at h<;>simp_all
   case ops all rest=>
    grind [F_]
   case sT all ms i rest bs=>
    grind [DG]
   case oA l=>
    cases h;have⟨F,y,B,t,u⟩:=c.todo.cons_inv;subst t;have e:fr.finish z={fr with todo:=.endRangeFunc (S.σ l)::y}:=by grind [Frame.finish]
    rw[e];refine⟨c.next (λ_=>oM λa x=>by cases x;rfl) (.mk (a:=.pJ l) rfl u) (.mk ?_ c.live.tail) c.cH,rfl⟩;exact c.live (.oA l) aM
end
end Go.Ev
namespace Go.Ev
variable{G:iF->Prop}{f:dI}
section
variable {P:Program} {R:Type} {E:kD R} {w0:nE} {I0:Nat->Prop} {f0:FuncId} {Fin:R->Value->World->Prop} {Q:R->Prop}
variable {w:World} {S:St} {m:Mem} {fr:Frame} {fs:List dI} {frs cs:List Frame}
variable {fn:FuncId} {nn:Nat} {env:Env} {marks:List Nat} {gy:Option Nat} {k:List dT} {n:Nat}
theorem uY{all:Array Oper}{o:Oper}{t:Bool}(h:qR all env o=some t):jw all env o t:=by
 unfold qR at h;unfold jw;cases hg:o.guard with
 | none=>grind
 | some q=>
   have⟨j,g⟩:=q;rw[hg] at h;simp only at h ⊢;cases hp:all[j]? with
   | none=>grind
   | some p=>
     rw[hp] at h;simp only at h;cases hd:p.dst with
     | none=>grind
     | some d=>
       rw[hd] at h;simp only at h;refine⟨p,d,rfl,hd,?_⟩;cases he:env.at d<;>rw[he] at h<;>(try simp only at h)<;>try (cases h;done)
       case bool c v=>
        cases c<;>simp only at h<;>try (cases h;done)
        cases v<;>cases g<;>cases h<;>exact .inl ⟨_,_,rfl,rfl⟩
       grind
theorem O1{v:AV}{t:Tr R}:∀{d:Option Nat},Tr.Ok Q G (aaU env d v t)->wG env d v/\Tr.Ok Q G t
 | none,h=>⟨trivial,h⟩
 | some _,h=>h
theorem BZ{G:iF->Prop}{all:Array Oper}:∀{bs:List Nat} {t:Tr R},Tr.Ok Q G (yg af E env m all bs t)->(∀b∈bs,Ja E env m all b)/\Tr.Ok Q G t
 | [],t,h=>⟨λb B=>absurd B aF,h⟩
 | b::bs,t,h=>by
   simp only[yg] at h;cases ho:all[b]? with
   | none=>rw[ho] at h;exact h.elim
   | some o=>
     rw[ho] at h;simp only at h;cases hk:qR all env o with
     | none=>rw[hk] at h;exact h.elim
     | some g=>
       rw[hk] at h;cases g with
       | false=>
         have⟨i,j⟩:=O1 h;have⟨y,l⟩:=BZ j;refine⟨λx c=>?_,l⟩;rcases aC.1 c with rfl|c
         .exact⟨o,ho,.inl ⟨uY hk,i⟩⟩
         grind
       | true=>
         cases hv:evV af E m (mQ env) o with
         | none=>rw[hv] at h;exact h.elim
         | some C=>
           rw[hv] at h;have⟨v,p,u⟩:=TV.bind_ok h;have⟨i,j⟩:=O1 u;have⟨y,l⟩:=BZ j;refine⟨λx c=>?_,l⟩;rcases aC.1 c with rfl|c
           .exact⟨o,ho,.inr ⟨uY hk,C,v,hv,p,i⟩⟩
           grind
def Ig{t:Tr R}(h:Tr.Ok Q G<|wK af E f m t):t6 E {bI:=f::fs,mem:=m}/\Tr.Ok Q G t:=by grind [BZ,wK,t6]
def Ot(V:Fits P E Fin w0 I0)(ih:∀c,Tr.Ok Q (Good P E w0 I0 f0 Fin Q) (run af E n c)->Good P E w0 I0 f0 Fin Q c)
  (h:Tr.Ok Q (Good P E w0 I0 f0 Fin Q) (match sG f.marks m with
     | none=>.bU 139 ""
     | some m=>match look E.ll f.fn with
       | none=>.bU 141 ""
       | some F=>match qP af E f.env m F.results.toList with
         | none=>.bU 142 ""
         | some vs=>match fs with
           | []=>match E.fin (gW vs) m with
             | some y=>.ret y
             | none=>.bU 143 ""
           | g::gs=>match finish g (gW vs) with
             | some g=>wK af E g m<|run af E n {bI:=g::gs,mem:=m}
             | none=>.bU 144 ""))
  (Z:∀x,¬Hid f fr x) (J:step P (lone fr (frs++cs) w)=.next (lone {fr with mode:=.returning} (frs++cs) w))
  (hW:WR w0 w S m) (hI:∀b,S.I b->I0 b\/w0.free b) (C:FR w S m f fr) (H:Fs w S m fs frs) (hB:zT f0<|f::fs) :
  Ends P f0 Fin Q fr frs cs w:=by
 split at h;exact h.elim;rename_i m1 hm;cases hF:look E.ll f.fn with
 | none=>rw[hF] at h;exact h.elim
 | some F=>
   rw[hF] at h;simp only at h;split at h;exact h.elim;rename_i vs hr;have⟨u,t,p⟩:=Gw (P:=P) (fr:={fr with mode:=.returning}) (cs:=frs++cs) hm hW rfl C.defers;have B:∀i,CR u S m1 (f.env.at i)<|fr.tmps.getD i undef:=λi=>(C.env i<|Z i).mono t.out;have⟨z,hz,N⟩:=JA V.ti t.wr B hr;have j:({fr with mode:=.returning,defers:=[]}:Frame).leaving P u<|.returned z:=⟨rfl,rfl,C.kind,F,by rw[<-(V.ll _ _ hF).1,<-C.fn],hz⟩;have K:Steps P (lone fr (frs++cs) w)<|lone {fr with mode:=.returning,defers:=[]} (frs++cs) u:=.head J p;cases fs with
   | nil=>
     have:frs=[]:=H;subst this;simp only at h;split at h
     rotate_left
     exact h.elim;rename_i y hy;exact⟨y,z,u,_,h,V.fin S u m1 _ y z t.wr hI hy N,K,C.fn.trans hB,j⟩
   | cons g gs=>
     obtain⟨O,v,rfl,hg,Y⟩:=H;simp only at h;split at h
     rotate_left
     exact h.elim;rename_i g' G;have⟨a0,h⟩:=Ig (fs:=gs) h;have⟨W,X⟩:=Bo (hg.mono t.out) N G;have l:=step_leave_returned (P:=P) (c:=O) (cs:=v++cs) j;exact .steps (K.trans<|.one l)<|ih _ h a0 S _ _ cs u t.wr hI ⟨_,_,rfl,W,Y.mono t.out⟩<|zT.swap (f:=g) hB X
end
end Go.Ev
namespace Go.Ev
variable{l:Nat}
section
variable {P:Program} {R:Type} {E:kD R} {w0:nE} {I0:Nat->Prop} {f0:FuncId} {Fin:R->Value->World->Prop} {Q:R->Prop}
variable {w:World} {S:St} {m:Mem} {fr:Frame} {fs:List dI} {frs cs:List Frame}
variable {fn:FuncId} {nn:Nat} {env:Env} {marks:List Nat} {gy:Option Nat} {k:List dT} {n:Nat}
def CL(u:WR w0 w S m){r:ND}(g:m.at l=.loop r)(p:Nat)(j:Option Code):
  ∃c,w.heap[S.σ l]? = some (.loop c)/\NF w S m r c/\Step w0 w S m (w.putObj (S.σ l)<|.loop {c with state:=sr p,pending:=j}) S (m.set l<|.loop {r with state:=p,pending:=j}):=by
 have y:=u.box l;rw[g] at y;have⟨c,t,v⟩:=y;refine⟨c,t,v,?_⟩;have F:S.lv l (m.at l)=true:=by rw[g];rfl
 have B:S.fz l (m.at l)=false:=by rw[g];rfl
 have C:iX (m.at l)<|.loop {r with state:=p,pending:=j}:=by rw[g];trivial
 have G:=BO (o':=.loop {c with state:=sr p,pending:=j}) t (λ_ _ _ h=>by cases h);have x:=kN u F B C (λ_=>rfl) G;have⟨_,_,H,J,K,N,O,V⟩:=v;exact⟨u.set F B C (λ_=>rfl) rfl G ⟨_,U7 t,rfl,rfl,H,J,K,N,O,λi=>(V i).mono x⟩,x,.refl⟩
def xV(X:∀c,Tr.Ok Q (Good P E w0 I0 f0 Fin Q) (run af E n c)->Good P E w0 I0 f0 Fin Q c){f:dI}{jump:Option Code}
  (t:f.gy=some l)
  (h:Tr.Ok Q (Good P E w0 I0 f0 Fin Q) (match m.at l with
     | .loop r=>match fs with
       | g::gs=>match finish g (.bool true (Oo jump)) with
         | some g=>wK af E g (m.set l<|.loop {r with state:=GL jump,pending:=jump})<|run af E n {bI:=g::gs,mem:=m.set l<|.loop {r with state:=GL jump,pending:=jump}}
         | none=>.bU 145 ""
       | []=>.bU 146 ""
     | _=>.bU 147 ""))
  (W:(fr.todo=[]/\jump=none)\/(∃k,fr.todo=.code .ret::k/\jump=some .ret)\/(∃id k,fr.todo=.code (.exit id)::k/\exitTo id k=none/\jump=some (.exit id))\/(∃id k,fr.todo=.code (.goto id)::k/\gotoIn id k=none/\jump=some (.goto id)))
  (N:WR w0 w S m) (K:∀b,S.I b->I0 b\/w0.free b) (v:FR w S m f fr) (B:Fs w S m fs frs) (J:zT f0<|f::fs) :
  Ends P f0 Fin Q fr frs cs w:=by
 cases hm:m.at l<;>rw[hm] at h<;>(try simp only at h)<;>try exact h.elim
 cases fs with
 | nil=>exact h.elim
 | cons g gs=>
   simp only at h;split at h
   rotate_left
   exact h.elim;rename_i Z p;have⟨G,h⟩:=Ig (fs:=gs) h;obtain⟨u,j,rfl,V,C⟩:=B;have⟨Y,H,h2,F⟩:=CL N hm (GL jump) jump;have O:(Instr.endRound (S.σ l) jump).run P w=.ok (.bool<|Oo jump) (w.putObj (S.σ l)<|.loop {Y with state:=sr<|GL jump,pending:=jump}):=by
    rw[run_endRound jump H];cases jump<;>rfl
   have i:=VD (P:=P) (g:=u) (cs:=j++cs) v.mode v.kind (by rw[v.gy,t];rfl) W O;have⟨x,y⟩:=Bo (V.mono F.out) (z:=.bool<|Oo jump) (iE.2 rfl) p;exact .step i<|X _ h G S _ _ cs _ F.wr K ⟨_,_,rfl,x,C.mono F.out⟩<|zT.swap (f:=g) J y
theorem Vf(W:∀c,Tr.Ok Q (Good P E w0 I0 f0 Fin Q) (run af E n c)->Good P E w0 I0 f0 Fin Q c)
  (h:Tr.Ok Q (Good P E w0 I0 f0 Fin Q)<|run af E (n+1) {bI:=⟨fn,nn,env,.beginRound::k,marks,gy⟩::fs,mem:=m})
  (N:WR w0 w S m) (K:∀b,S.I b->I0 b\/w0.free b) (j:FR w S m ⟨fn,nn,env,.beginRound::k,marks,gy⟩ fr) (u:Fs w S m fs frs) (J:zT f0<|⟨fn,nn,env,.beginRound::k,marks,gy⟩::fs) :
  Ends P f0 Fin Q fr frs cs w:=by
 have⟨X,Y,O,G,H⟩:=j.todo.cons_inv;subst G;simp only[run] at h;cases gy with
 | none=>exact h.elim
 | some l=>
   simp only at h;cases hm:m.at l<;>rw[hm] at h<;>(try simp only at h)<;>try exact h.elim
   rename_i r;split at h
   rotate_left
   exact h.elim;rename_i g;have g:=tA.1 g;have⟨y,F,B,v⟩:=CL N hm 1 r.pending;have x:y.state=.ready:=by rw[B.1,g];rfl
   have C:=run_beginRound (P:=P) F x;have V:({y with state:=.busy}:Loop)={y with state:=sr 1,pending:=r.pending}:=by rw[<-B.2.1];rfl
   rw[V] at C;have i:=abD (P:=P) (cs:=frs++cs) j.mode j.gy O C;have t:=j.mono v.out;exact .step i<|W _ h (gS λa p=>j.cH a<|kV p) S _ _ cs _ v.wr K ⟨_,_,rfl,t.next (λ_=>oM λa p=>by cases p;rfl) H t.live.tail<|λa p=>j.cH a<|jg p,u.mono v.out⟩<|J.swap rfl
theorem Vh(ih:∀c,Tr.Ok Q (Good P E w0 I0 f0 Fin Q) (run af E n c)->Good P E w0 I0 f0 Fin Q c)
  (h:Tr.Ok Q (Good P E w0 I0 f0 Fin Q)<|run af E (n+1) {bI:=⟨fn,nn,env,.pJ l::k,marks,gy⟩::fs,mem:=m})
  (X:WR w0 w S m) (V:∀b,S.I b->I0 b\/w0.free b) (t:FR w S m ⟨fn,nn,env,.pJ l::k,marks,gy⟩ fr) (x:Fs w S m fs frs) (O:zT f0<|⟨fn,nn,env,.pJ l::k,marks,gy⟩::fs) :
  Ends P f0 Fin Q fr frs cs w:=by
 have⟨it,kc,Y,K,N⟩:=t.todo.cons_inv;subst K;simp only[run] at h;cases hm:m.at l<;>rw[hm] at h<;>(try simp only at h)<;>try exact h.elim
 rename_i r;split at h;exact h.elim;rename_i i;have i:=gI.1 i;have⟨F,J,v,y⟩:=CL X hm 3 r.pending;have B:F.state≠.busy:=by
  rw[v.1]
  match hr:r.state,i with
  | 0,_=>simp[sr]
  | 1,h=>omega
  | 2,_=>simp[sr]
  | n+3,_=>simp[sr]
 have H:=run_endLoop (P:=P) J B;have Z:({F with state:=.exhausted}:Loop)={F with state:=sr 3,pending:=r.pending}:=by rw[<-v.2.1];rfl
 rw[Z,v.2.1] at H;have p:=abF (P:=P) (cs:=frs++cs) t.mode Y H;have u:=t.mono y.out;refine .step p<|ih _ h (gS λa g=>?_) S _ _ cs _ y.wr V ⟨_,_,rfl,u.next (λ_=>oM λa g=>by cases g;rfl) ?_ ?_<|λa g=>?_,x.mono y.out⟩<|O.swap rfl
 .simp only at g;split at g
  rotate_left
  exact t.cH a<|kV g;cases g;rfl
 .cases hp:r.pending with
  | none=>grind
  | some j=>exact N.code
 .have C:∀(G:Option Code) (M:Mem),eF M k->eF M (match G with|some j=>.code j::k|none=>k):=λG M W=>by
   cases G with
   | none=>omega
   | some j=>exact .mk trivial W
  exact C _ _ u.live.tail
 .cases hp:r.pending with
  | none=>rw[hp] at g;exact t.cH a<|jg g
  | some j=>rw[hp] at g;exact t.cH a g
end
end Go.Ev
namespace Go.Ev
variable{F:Func}{c:Array Value}{g:FuncId}{ps:Array Tmp}{x:Operand}
section
variable {P:Program} {R:Type} {E:kD R} {w0:nE} {I0:Nat->Prop} {f0:FuncId} {Fin:R->Value->World->Prop} {Q:R->Prop}
variable {w:World} {S:St} {m:Mem} {fr:Frame} {fs:List dI} {frs cs:List Frame}
variable {fn:FuncId} {nn:Nat} {env:Env} {marks:List Nat} {gy:Option Nat} {k:List dT} {n:Nat}
def kE{p:List AV}{h:dI}(y:P.funcs[g]? = some F)(u:jj g F p=some h)(j:eD w S m p c.toList):
  FR w S m h (Frame.enter P g c .normal)/\F.body.isSome=true/\∀a∈h.todo.head?,a.GK=false:=by
 unfold jj at u;cases hb:F.body with
 | none=>grind
 | some b=>
   rw[hb] at u;cases x:Nat.ble p.length F.ntmps with
   | false=>grind
   | true=>
     cases t:Nat.ble F.ntmps 65535 with
     | false=>grind
     | true=>
       rw[x,t] at u;cases u;have x:=KE x;have t:=KE t;have C:c.size=p.length:=by rw[<-bC];exact j.length
       refine⟨⟨rfl,?_,t,λi _=>?_,?_,.mk trivial λa j=>absurd j aF,λa j=>absurd j aF,rfl,λd G=>absurd G aF,rfl,rfl,rfl,λl K=>by grind⟩,rfl,λa j=>by cases j;rfl⟩
       .simp[Frame.enter,y,o_,Option.getD_some,Array.size_append,Array.size_replicate];omega
       .rw[Env.agV<|by omega,Env.Se];by_cases B:0<=i/\i<0+p.length
        .rw[if_pos B,Nat.sub_zero];have H:p[i]? = some (p.getD i .undef):=by grind
         have⟨v,N,J⟩:=j.get H;have:(Frame.enter P g c .normal).tmps.getD i undef=v:=by
          simp[Frame.enter,dW]
          grind
         grind
        .rw[if_neg B];exact gT
       .have:(Frame.enter P g c .normal).todo=[.code b]:=by simp[Frame.enter,y,hb]
        rw[this];exact fV.code rfl
def Mx(i:P.funcs[g]? = some F)(l:(F.name == "runtime.NumGoroutine")=false)(j:F.body.isSome=true)(w:World):(callFunc g c).run P w=.ok (.enter g c) w:=by
 have h:F.body≠none:=λe=>by simp_all
 simp_all [callFunc]
def oF{ρ:Operand->Value}{args:Array Operand}{ats:Array TypeId}{t:TypeId}{h:Array Value}(p:ρ x=.func (.func g) c h)(i:P.funcs[g]? = some F)(l:(F.name == "runtime.NumGoroutine")=false)(j:F.body.isSome=true)(w:World):
  (do let d <-resolve ρ {callee:=.value x,args:=args,argTypes:=ats} t;invoke d.target d.args:Sem Next).run P w=.ok (.enter g<|c++args.map ρ++h) w:=by
 simp only[resolve,p];exact Mx i l j w
def ON(g:WR w0 w S m){o:Obj}{c:iM}(j:c.jY=true)(i:c.S9=false)
  (h:dM w S m (w.alloc o) (S.push m.length w.heap.size 0 false) (m ++ [c])->r8 (w.alloc o) (S.push m.length w.heap.size 0 false) (m ++ [c]) m.length c) :
  Step w0 w S m (w.alloc o) (S.push m.length w.heap.size 0 false) (m ++ [c]):=by grind [mM,Step.push]
def U6(l:WR w0 w S m){f:dI}(c:FR w S m f fr)(g:∀x,¬Hid f fr x){a b:Code}(h:Nat):
  Step w0 w S m (w.alloc<|.loop {state:=.ready,pending:=none,fn:=fr.fn,tmps:=fr.tmps,params:=ps,assign:=a,body:=b,defers:=h}) (S.push m.length w.heap.size 0 false)
   (m ++ [.loop {fn:=f.fn,n:=f.n,env:=f.env,params:=ps.toList,assign:=a,body:=b,state:=0,pending:=none}]):=by
 refine ON l rfl rfl λj=>⟨{state:=.ready,pending:=none,fn:=fr.fn,tmps:=fr.tmps,params:=ps,assign:=a,body:=b,defers:=h},?_,rfl,rfl,c.fn,?_,rfl,rfl,⟨c.n,c.small⟩,λi=>(c.env i<|g i).mono j⟩
 all_goals grind [heap_alloc_new,St.push]
def VV{c:World}{b:Nat}{r:ND}:CR c (S.push m.length b 0 false) (m ++ [.loop r]) (.yield m.length)<|.func (.yield b) #[] #[]:=by simp_all [Mem.fI,CR,St.push]
theorem JC(hP:Fits P E Fin w0 I0)(ih:∀c,Tr.Ok Q (Good P E w0 I0 f0 Fin Q) (run af E n c)->Good P E w0 I0 f0 Fin Q c){a b:Code}
  (h:Tr.Ok Q (Good P E w0 I0 f0 Fin Q)<|run af E (n+1) {bI:=⟨fn,nn,env,.code (.rangeFunc x ps a b)::k,marks,gy⟩::fs,mem:=m})
  (hW:WR w0 w S m) (hI:∀b,S.I b->I0 b\/w0.free b) (hf:FR w S m ⟨fn,nn,env,.code (.rangeFunc x ps a b)::k,marks,gy⟩ fr) (hfs:Fs w S m fs frs) (hB:zT f0<|⟨fn,nn,env,.code (.rangeFunc x ps a b)::k,marks,gy⟩::fs) :
  Ends P f0 Fin Q fr frs cs w:=by
 have⟨it,kc,ht,h1,h2⟩:=hf.todo.cons_inv;subst h1;have hnh:∀y,¬Hid ⟨fn,nn,env,.code (.rangeFunc x ps a b)::k,marks,gy⟩ fr y:=λ_=>oM λa ha=>by cases ha;rfl
 have hx:=BK hf x λt _=>hnh t;simp only[run] at h;cases hv:mQ env x<;>rw[hv] at h hx<;>(try simp only at h)<;>try exact h.elim
 rename_i g first caps
 cases first with
 | cons _ _=>exact h.elim
 | nil=>
   have⟨us,vs,hxe,hus,hvs⟩:=vk.1 hx;have hus:us=#[]:=dX.1<|bA.1 hus;subst hus
   have main:∀{S1:St} {m1:Mem} {w1:World} {marks1:List Nat} {mark:List Deferred} {dv:Nat},Step w0 w S m w1 S1 m1->
     (Instr.enterLoop fr.fn fr.tmps ps a b fr.roundOf).run P w=.ok (w1.heap.size,mark) (w1.alloc<|.loop {state:=.ready,pending:=none,fn:=fr.fn,tmps:=fr.tmps,params:=ps,assign:=a,body:=b,defers:=dv})->
     mark++fr.defers=marks1.map (λd=>{target:=.collected<|S1.σ d,args:=#[]})->(∀d∈marks1,(m1.at d).jY=true)->
     Tr.Ok Q (Good P E w0 I0 f0 Fin Q) (match look E.ll g with
         | none=>.bU 159 ""
         | some G=>match jj g G (.yield m1.length::caps) with
           | none=>.bU 160 ""
           | some h=>run af E n {bI:=h::⟨fn,nn,env,.oA m1.length::k,marks1,gy⟩::fs,mem:=m1 ++ [.loop {fn:=fn,n:=nn,env:=env,params:=ps.toList,assign:=a,body:=b,state:=0,pending:=none}]})->
     Ends P f0 Fin Q fr frs cs w:=by
    intro S1 m1 w1 marks1 mark dv s1 he hmk hmc h;cases hG:look E.ll g with
    | none=>rw[hG] at h;exact h.elim
    | some G=>
      rw[hG] at h;simp only at h;cases hen:jj g G (.yield m1.length::caps) with
      | none=>rw[hen] at h;exact h.elim
      | some h'=>
        rw[hen] at h;have s2:=U6 s1.wr (hf.mono s1.out) hnh (ps:=ps) (a:=a) (b:=b) dv;have s12:=s1.trans s2;have⟨hGf,hGn⟩:=hP.ll _ _ hG
        have hargs:eD (w1.alloc<|.loop {state:=.ready,pending:=none,fn:=fr.fn,tmps:=fr.tmps,params:=ps,assign:=a,body:=b,defers:=dv}) (S1.push m1.length w1.heap.size 0 false) (m1 ++ [.loop {fn:=fn,n:=nn,env:=env,params:=ps.toList,assign:=a,body:=b,state:=0,pending:=none}])
          (.yield m1.length::caps) (#[Value.func (.yield w1.heap.size) #[] #[]]++vs).toList:=bL.2 ⟨.func (.yield w1.heap.size) #[] #[],vs.toList,by simp,VV,hvs.mono s12.out⟩
        have⟨hfr,hbody,hnh'⟩:=kE hGf hen hargs;have hcall:=oF (ρ:=fr.eval) (x:=x) (args:=#[.const<|.func (.yield w1.heap.size) #[] #[]]) (ats:=#[]) (t:=0) hxe hGf hGn hbody<|w1.alloc<|.loop {state:=.ready,pending:=none,fn:=fr.fn,tmps:=fr.tmps,params:=ps,assign:=a,body:=b,defers:=dv};have hcall':(#[]:Array Value) ++ #[Operand.const<|.func (.yield w1.heap.size) #[] #[]].map fr.eval++vs=#[Value.func (.yield w1.heap.size) #[] #[]]++vs:=by simp[Frame.eval]
        rw[hcall'] at hcall;have hstep:=auG (P:=P) (cs:=frs++cs) hf.mode ht he hcall;have hf2:=hf.mono s12.out;have hlast:Mem.at (m1 ++ [.loop {fn:=fn,n:=nn,env:=env,params:=ps.toList,assign:=a,body:=b,state:=0,pending:=none}]) m1.length=.loop {fn:=fn,n:=nn,env:=env,params:=ps.toList,assign:=a,body:=b,state:=0,pending:=none}:=Mem.fI;have hσ:(S1.push m1.length w1.heap.size 0 false).σ m1.length=w1.heap.size:=by simp[St.push,if_pos]
        refine .step (frs2:={fr with todo:=.inRangeFunc w1.heap.size::kc,defers:=mark++fr.defers}::frs) hstep<|ih _ h (gS λa ha=>?_) _ _ _ cs _ s12.wr (λb hb=>(s12.grows b hb).elim (hI b) .inr) ⟨_,_,rfl,hfr,_,_,rfl,?_,hfs.mono s12.out⟩<|zT.swap (g:=⟨fn,nn,env,.oA m1.length::k,marks1,gy⟩) hB rfl
        .simp_all
        .have hf3:=hf2.next hnh (k:=.oA m1.length::k) (kc:=.inRangeFunc w1.heap.size::kc) (.mk (a:=.oA m1.length) (by show _=_;grind)<|fV.mono s12.out hf.live.tail h2) (.mk (by show(Mem.at _ _).jY=true;rw[hlast];rfl) hf2.live.tail) hf.cH;refine⟨hf3.fn,hf3.n,hf3.small,hf3.env,hf3.todo,hf3.live,hf3.cH,?_,λd hd=>s2.out.ctl d<|hmc d hd,hf3.mode,hf3.kind,hf3.gy,hf3.uH⟩;rw[hmk];exact fh λd hd=>by rw[Bd s2.out<|hmc d hd]
   cases gy with
   | none=>
     have s1:Step w0 w S m (w.alloc<|.deferred<|some []) (S.push m.length w.heap.size 0 false)<|m ++ [.FU]:=ON hW rfl rfl λ_=>by
      show(w.alloc<|.deferred<|some []).heap[(S.push m.length w.heap.size 0 false).σ m.length]? = _
      grind [heap_alloc_new,St.push]
     have hσ:(S.push m.length w.heap.size 0 false).σ m.length=w.heap.size:=by simp[St.push,if_pos]
     refine main (marks1:=m.length::marks) (mark:=[{target:=.collected w.heap.size,args:=#[]}]) (dv:=w.heap.size) s1 ?_ ?_ ?_ h
     .rw[hf.gy];rfl
     .rw[eX,hσ,hf.defers,kW];congr 1;exact fh λd hd=>by rw[Bd s1.out<|hf.marks d hd]
     .intro d hd;rcases aC.1 hd with rfl|hd
      .rw[Mem.fI];rfl
      .exact s1.out.ctl d<|hf.marks d hd
   | some l0=>
     simp only at h;cases hm0:m.at l0<;>rw[hm0] at h<;>(try simp only at h)<;>try exact h.elim
     have hb:=hW.box l0;rw[hm0] at hb;have⟨lp,g1,_⟩:=hb;refine main (marks1:=marks) (mark:=[]) (dv:=lp.defers) (.refl hW) ?_ (by rw[iQ];exact hf.defers) hf.marks h;rw[hf.gy]
     simp_all [run_getLoop,Instr.enterLoop]
end
end Go.Ev
namespace Go.Ev
variable{c:Array Value}{p:Oper}
section
variable {P:Program} {R:Type} {E:kD R} {w0:nE} {I0:Nat->Prop} {f0:FuncId} {Fin:R->Value->World->Prop} {Q:R->Prop}
variable {w:World} {S:St} {m:Mem} {fr:Frame} {fs:List dI} {frs cs:List Frame}
variable {fn:FuncId} {nn:Nat} {env:Env} {marks:List Nat} {gy:Option Nat} {k:List dT} {n:Nat}
def Nr{all:Array Oper}{j d:Nat}{v:Bool}(t:all[j]? = some p)(l:p.dst=some d)(h:c.getD d undef=.bool v):yielded all c j=some v:=by
 have i:d<c.size:=by
  rcases Nat.lt_or_ge d c.size with g|g
  .omega
  .rw[dW,Array.getElem?_eq_none g] at h;cases h
 simp_all [yielded]
def Pr{all:Array Oper}{j d:Nat}(i:all[j]? = some p)(g:p.dst=some d)(h:c.getD d undef=.tuple #[]):yielded all c j=none:=by
 cases hx:c[d]? with
 | none=>grind [yielded]
 | some u=>
   simp_all [yielded]
def tg{all:Array Oper}{o:Oper}{t:Bool}{i:Array Value}(h:jw all env o t)(j:∀d∈iI all o,CR w S m (env.at d)<|i.getD d undef):Region.wanted o (yielded all i)=t:=by
 unfold jw at h;unfold iI at j;cases hg:o.guard with
 | none=>grind [Region.wanted]
 | some q=>
   rw[hg] at h j;simp only at h j;have⟨p,d,y,x,h⟩:=h;rw[y] at j;simp only[x] at j;have g:=j d aM;rcases h with ⟨c,v,u,rfl⟩|⟨u,rfl⟩
   .rw[u] at g;simp only[Region.wanted,hg,Nr y x<|iE.1 g];rfl
   .rw[u] at g;have⟨B,C,l⟩:=jZ.1 g;have:B=#[]:=dX.1<|bA.1 l
    simp_all [Pr,Region.wanted]
def GF{G:iF->Prop}{all:Array Oper}{o:Oper}{y C:Env->Tr R}(h:Tr.Ok Q G<|E4 all env o y C)(t:∀d∈iI all o,∀c v,env.at d=.bool c v->d<=65535):
  ∃g:Env,(∀x,g.at x=env.at x\/(x∈iI all o/\∃v,env.at x=.bool false v/\g.at x=.bool true v))/\((jw all g o true/\Tr.Ok Q G (y g))\/(jw all g o false/\Tr.Ok Q G (C g))):=by
 unfold E4 at h;unfold iI at t ⊢;unfold jw;cases hg:o.guard with
 | none=>grind
 | some q=>
   have⟨j,u⟩:=q;rw[hg] at h t;simp only at h t ⊢;cases hp:all[j]? with
   | none=>rw[hp] at h;exact h.elim
   | some p=>
     rw[hp] at h t;simp only at h t ⊢;cases hd:p.dst with
     | none=>rw[hd] at h;exact h.elim
     | some d=>
       rw[hd] at h t;simp only at h t ⊢;cases he:env.at d<;>rw[he] at h<;>(try simp only at h)<;>try exact h.elim
       case bool c v=>
        have B:=t d aM c v he;have i:∀b:Bool,b=v->c=false->∀x,(env.put d<|.bool true b).at x=env.at x\/(x∈ [d]/\∃v,env.at x=.bool false v/\(env.put d<|.bool true b).at x=.bool true v):=by grind [Env.zY]
        have l:∀b:Bool,(env.put d<|.bool true b).at d=.bool true b:=λb=>by rw[Env.zY B,if_pos rfl]
        cases c with
        | true=>
          cases v<;>cases u<;>simp only at h
          all_goals grind
        | false=>
          cases u with
          | true=>
            cases v with
            | true=>exact⟨_,i true rfl rfl,.inl ⟨⟨p,d,rfl,hd,.inl ⟨true,true,l true,rfl⟩⟩,h.1 rfl⟩⟩
            | false=>exact⟨_,i false rfl rfl,.inr ⟨⟨p,d,rfl,hd,.inl ⟨true,false,l false,rfl⟩⟩,h.2 rfl⟩⟩
          | false=>
            cases v with
            | true=>exact⟨_,i true rfl rfl,.inr ⟨⟨p,d,rfl,hd,.inl ⟨true,true,l true,rfl⟩⟩,h.1 rfl⟩⟩
            | false=>exact⟨_,i false rfl rfl,.inl ⟨⟨p,d,rfl,hd,.inl ⟨true,false,l false,rfl⟩⟩,h.2 rfl⟩⟩
       case xb vs=>
        cases vs with
        | nil=>grind
        | cons _ _=>exact h.elim
end
end Go.Ev
namespace Go.Ev
variable{I:Nat->Prop}{c:List Ty}{cs:List AV}{g:FuncId}{t:Ty}{v:Value}
section
variable {P:Program} {w0:nE} {w:World} {S:St} {m:Mem}
theorem xP{A:aS}:∀{cs:List AV} {m:Mem},uF cs=true->gf A m cs=some (m,cs)
 | [],m,_=>rfl
 | v::vs,m,h=>by
   cases v<;>simp only[uF] at h<;>(try cases h;done)<;>simp only[gf,xP h]
def ib{w0:nE}{w:World}{C:List Ty}{m g:Mem}{c:List AV}{S:St}{l:List Value}(v:WR w0 w S m)(h:fJ af C m cs=some (g,c))(x:eD w S m cs l):∃i,Step w0 w S m w i g/\eD w i g c l:=by
 unfold fJ at h;split at h
 simp_all
 rename_i q y;have⟨F,j,t⟩:=x8 v y x;have⟨p,B,u⟩:=jM j.wr h t;exact⟨p,j.trans B,u⟩
theorem D4{A:aS}:∀{c:List<|Option Ty} {cs:List AV} {m:Mem},uF cs=true->G7 A c m cs=some (m,cs)
 | [],cs,m,_=>rfl
 | _::_,[],m,_=>rfl
 | k::c,v::vs,m,h=>by
   cases v<;>simp only[uF] at h<;>(try cases h;done)<;>simp only[G7,BL,D4 h]
def Gx{A:aS}{m:Mem}(h:uF cs=true):fJ A c m cs=some (m,cs):=by grind [D4,xP,fJ]
def Step.extend{i:World}(c:WR w0 w S m)(y:i.os=w.os)(B:i.tape=w.tape)(v:w0.D->w.drawn<=i.drawn)(t:i.output=w.output)(g:w.heap.size<=i.heap.size)(u:∀b,b<w.heap.size->i.heap[b]? = w.heap[b]?)
  {I':Nat->Prop} (j:∀b,I' b->S.I b\/(w.heap.size<=b/\b<i.heap.size)):Step w0 w S m i {S with I:=λb=>S.I b\/I' b} m:=by
 have G:dM w S m i {S with I:=λb=>S.I b\/I' b} m:=by
  refine⟨λb h=>⟨.inl h,u b<|c.nH b h⟩,λid p=>⟨fS p,λ_=>⟨rfl,rfl,rfl,λ_ C T fr h=>⟨C,T,fr,?_,rfl⟩⟩⟩,λ_ h=>h⟩
  grind
 refine⟨⟨y.trans c.os,c.tape.on B v,t.trans c.output,aV c.size g,λb h=>?_,λb h=>?_,λid=>?_,c.inj,λid h=>?_,λid h F=>?_,λid h=>.inl<|c.Ju id h,c.root,λb C T fr h=>by
  have⟨O,J,V,K,N⟩:=c.cells b C T fr h
  grind⟩,G,λb h=>?_⟩
 .rw[u b<|bD (nE.old h) c.size];exact c.base b h
 .rcases h with h|h
  .exact bD (c.nH b h) g
  .rcases j b h with h|h
   .exact bD (c.nH b h) g
   omega
 .exact(c.box id).mono G rfl rfl rfl λH=>u _ (c.lo id H).2
 .exact⟨(c.lo id h).1.imp .inl<|λx=>x,bD (c.lo id h).2 g⟩
 .rintro (l|l)
  .exact c.qV id h F l
  .rcases j _ l with l|l
   .exact c.qV id h F l
   .have:=(c.lo id h).2
    grind
 .rcases h with h|h
  .grind
  .rcases j b h with h|h
   .grind
   .exact .inr<|.inl<|aV c.size h.1
def mO.weaken{c:Nat->Prop}(i:∀b,I b->c b){x:t.T}(h:mO w I t v x):mO w c t v x:=by
 unfold mO at h ⊢;split
 .rename_i g
  grind [bW.mono]
 .rename_i g
  grind [bW.mono]
def Ty.aa4(h:t.isAgg=false):t.size=1:=by cases t<;>first|rfl|cases h
def Sb{v:AV}{u:Value}(h:(match t.isAgg,v with|true,.agg cs=>Nat.beq cs.length t.size|true,_=>false|false,.agg _=>false|false,_=>true)=true)(i:CR w S m v u):
  ∃L:List Value,eD w S m v.cells L/\L.length=t.size/\∀(I:Nat->Prop) (x:t.T),bW w I t L x->mO w I t u x:=by
 cases ht:t.isAgg with
 | true=>
   rw[ht] at h;cases v<;>simp only at h<;>try (cases h;done)
   obtain⟨l,rfl,g⟩:=uN.1 i;refine⟨l.toList,g,by rw[g.length];simp_all,λI x j=>?_⟩
   simp_all [mO]
 | false=>
   have c:v.cells=[v]:=by cases v<;>first|rfl|grind
   refine⟨[u],by rw[c];exact bL.2 ⟨u,[],rfl,i,bA.2 rfl⟩,(Ty.aa4 ht).symm,λI x j=>?_⟩
   simp_all [mO]
theorem oh:∀{g:List Ty} {i:List AV} {c:List Value},j6 g i=true->eD w S m i c->
  ∃L:List Value,eD w S m (i.flatMap AV.cells) L/\∀(I:Nat->Prop) (x:Ty.Ts g),gk w I g L x->kY w I g c x
 | [],[],c,_,hc=>⟨[],bA.2 rfl,λI x _=>by rw[kY];exact bA.1 hc⟩
 | [],_::_,c,h,_=>by cases h
 | [t],[v],c,h,hc=>by
   obtain⟨u,r,rfl,j,l⟩:=bL.1 hc;have:=bA.1 l;subst this;simp[j6,nK] at h;have⟨L,C,F,G⟩:=Sb h j;exact⟨L,by simp_all,λI x y=>by rw[kY];exact⟨u,rfl,G I x y⟩⟩
 | [t],[],c,h,_=>by cases h
 | [t],_::_::_,c,h,_=>by simp_all [j6]
 | t::H::g,[],c,h,_=>by cases h
 | t::H::g,v::i,c,h,hc=>by
   obtain⟨u,r,rfl,j,l⟩:=bL.1 hc;have h:=(eH _ _).mp (show((match (generalizing:=false) t.isAgg,v with|true,.agg cs=>Nat.beq cs.length t.size|true,_=>false|false,.agg _=>false|false,_=>true)&&j6 (H::g) i)=true from h);have⟨L,C,F,G⟩:=Sb h.1 j;have⟨J,N,O⟩:=oh h.2 l;refine⟨L++J,by rw[List.flatMap_cons];exact C.append N,λI x y=>?_⟩;have⟨a,b,e,B,K⟩:=y;have p:a.length=L.length:=by rw[B.length,F]
   obtain⟨rfl,rfl⟩:=List.append_inj e.symm p
   grind [kY]
theorem oo{I:Nat->Prop}(j:∀b,I b->S.I b):∀{g:List Ty} {c:List Value} {y:Ty.Ts g},kY w I g c y->eD w S m (gL af g y) c
 | [],c,y,h=>by rw[kY] at h;exact bA.2 h
 | [t],c,y,h=>by
   obtain⟨v,rfl,i⟩:=h;exact bL.2 ⟨v,[],rfl,Bf<|mO.weaken j i,bA.2 rfl⟩
 | t::t2::g,c,y,h=>by
   obtain⟨v,r,rfl,i,l⟩:=h;exact bL.2 ⟨v,r,rfl,Bf<|mO.weaken j i,oo j l⟩
def HE(g:∀b,I b->S.I b){y:Ty.Ts c}(h:rO w I c v y):CR w S m (gW<|gL af c y) v:=by
 match c,y,h with
 | [],y,h=>rw[rO] at h;exact jZ.2 ⟨#[],h,bA.2 rfl⟩
 | [t],y,h=>rw[rO] at h;exact Bf<|mO.weaken g h
 | t::t2::ts,y,hh=>
   have⟨l,j,i⟩:=hh;have:=oo (m:=m) g i;have e:gW (gL af (t::t2::ts) y)=.xb (gL af (t::t2::ts) y):=by
    cases ts<;>rfl
   rw[e];exact jZ.2 ⟨l,j,this⟩
def OB{α:Type}{c b:Bool}{t:TV α}{x:α}(h:(Z1 c b t).Is x)(k:c=true->b=true):b=true/\t.Is x:=by
 cases c
 .exact h
 .exact⟨k rfl,h⟩
def Bh{s:aL}(Y:s.bp P g)(hd:w0.D->s.oT P g)(hW:WR w0 w S m){G:List AV}{c:Array Value}{v:AV}{V:Mem}(ha:eD w S m G c.toList)(h:(vW af s m G).Is (v,V))(cs:List Frame):
  ∃i W z C,Step w0 w S m i W V/\CR i W V v z/\Steps P (lone (Frame.enter P g c .normal) cs w) (lone C cs i)/\C.leaving P i (.returned z):=by
 unfold vW at h;split at h;exact h.elim;rename_i K;have⟨L,hL,t⟩:=oh K ha;cases hf:fJ af s.args m (G.flatMap AV.cells) with
 | none=>rw[hf] at h;exact h.elim
 | some q=>
   have⟨m1,H⟩:=q;rw[hf] at h;simp only at h;have⟨y,F,J⟩:=ib hW hf hL;cases htd:q9 s.args H with
   | none=>rw[htd] at h;exact h.elim
   | some q=>
     have⟨x,r⟩:=q;rw[htd] at h;cases r with
     | cons _ _=>exact h.elim
     | nil=>
       have⟨p,h⟩:=OB h λk=>Y.all k x;cases h;have⟨u1,u2,e,O,hr⟩:=nD s.args htd J;have N:=bA.1 hr;rw[N,aJ] at e;rw[<-e] at O
       have B:Calls P g c w λe i=>(w0.D->w.drawn<=i.drawn)/\∃v,e=.returned v/\i.os=w.os/\i.tape=w.tape/\i.output=w.output/\w.heap.size<=i.heap.size/\(∀b,b<w.heap.size->i.heap[b]? = w.heap[b]?)/\
         ∃u,(∀b,u b->y.I b\/(w.heap.size<=b/\b<i.heap.size))/\rO i u s.res v (s.fn x):=by
        by_cases X:w0.D
        .exact(hd X w y.I x c F.wr.nH (t _ x O) p).mono λ_ _ k=>⟨λ_=>k.1,k.2⟩
        .exact(Y.calls w y.I x c F.wr.nH (t _ x O) p).mono λ_ _ k=>⟨λd=>absurd d X,k⟩
       have⟨e',i,C,⟨Z,z,he,g1,g2,g3,g4,g5,u,g6,g7⟩,j,_,l⟩:=B cs;subst he;have s2:=Step.extend F.wr g1 g2 Z g3 g4 g5 g6;exact⟨i,{y with I:=λb=>y.I b\/u b},z,C,F.trans s2,HE (I:=u) (λb hb=>Or.inr hb) g7,j,l⟩
def Jk{s:lG}(hs:s.bp P g)(O:¬w0.D)(hW:WR w0 w S m){J:List AV}{i:Array Value}{v:AV}{W:Mem}(ha:eD w S m J i.toList)(h:(Lp af s m J).Is (v,W))(cs:List Frame):
  ∃p X z G,Step w0 w S m p X W/\CR p X W v z/\Steps P (lone (Frame.enter P g i .normal) cs w) (lone G cs p)/\G.leaving P p (.returned z):=by
 unfold Lp at h;cases J with
 | nil=>exact h.elim
 | cons a rest=>
   cases a<;>(try simp only at h)<;>try exact h.elim
   case ptr id off=>
    cases off with
    | succ _=>exact h.elim
    | zero=>
      simp only at h;have⟨u,C,e,hu,l⟩:=bL.1 ha;rw[CR] at hu;cases hm:m.at id<;>rw[hm] at h hu<;>(try simp only at h)<;>try exact h.elim
      case cH fz cells=>
       have F:=hW.box id;rw[hm] at F;have⟨us,T,fr,k1,k2,k3⟩:=F;cases htd:zo s.view cells with
       | none=>rw[htd] at h;exact h.elim
       | some q=>
         have⟨x,r⟩:=q;rw[htd] at h;cases r with
         | cons _ _=>exact h.elim
         | nil=>
           have⟨u1,u2,Y,hx,hr⟩:=nL s.view htd k3;rw[bA.1 hr,aJ] at Y;rw[<-Y] at hx;cases hok:j6 s.args rest with
           | false=>rw[hok] at h;exact h.elim
           | true=>
             rw[hok] at h;have⟨L,hL,B⟩:=oh hok l;cases hf:fJ af s.args m (rest.flatMap AV.cells) with
             | none=>rw[hf] at h;exact h.elim
             | some q=>
               have⟨m1,K⟩:=q;rw[hf] at h;simp only at h;have⟨S1,H,N⟩:=ib hW hf hL;cases htd2:q9 s.args K with
               | none=>rw[htd2] at h;exact h.elim
               | some q=>
                 have⟨y,r⟩:=q;rw[htd2] at h;cases r with
                 | cons _ _=>exact h.elim
                 | nil=>
                   cases hsc:Ty.mo s.res with
                   | false=>rw[hsc] at h;exact h.elim
                   | true=>
                     rw[hsc] at h;have⟨t,h⟩:=h;cases h;have⟨v1,v2,Z,hy,V⟩:=nD s.args htd2 N;rw[bA.1 V,aJ] at Z;rw[<-Z] at hy;have⟨e',p,G,⟨z,he,g1,g2,g3,g4,g5,g7⟩,c,_,j⟩:=hs.calls w S1.I x y (S.σ id) us T fr C H.wr.nH k1 (bW.mono H.out.nH _ hx) (B _ y hy) t cs;subst he;have ea:i=(Value.pointer (some ⟨S.σ id,0,none⟩)::C).toArray:=by grind
                     rw[<-ea] at c;have s2:=Step.extend H.wr g1 g2 (λk=>absurd k O) g3 g4 g5 (I':=λ_=>False)<|λ_ h=>h.elim;exact⟨p,_,z,G,H.trans s2,HE (I:=λ_=>False) (λ_ F=>F.elim) g7,c,j⟩
end
end Go.Ev
namespace Go.Ev
theorem jP:∀{l:List Nat} {n:Nat},tx l n=true↔n∈l
 | [],n=>by simp[tx]
 | i::l,n=>by
   rw[tx];by_cases h:i=n
   .simp_all
   .rw[gI.2 h,jP,aC]
    grind
variable{B:List Nat}{c:List Value}{f:VF}{fs:List VF}{h:List Value}{t:Ty}
section
variable {w:World} {I:Nat->Prop} {D:Nat->Nat×Nat}
def ajh{x:t.T}:VR w I D (.d t) c x B↔bW w I t c x/\B=[]:=fM
def nT{j:List Value}{x:List t.T}:VR w I D (.own t) j x B↔(x=[]/\B=[]/\∃a,j=[.slice a 0 0])\/
   (∃b h c,B=[b]/\j=[.slice (some ⟨b,h,none⟩) x.length c]/\x.length<=c/\x.length<=gg/\
     ∃(g:Array Value) (T:TypeId) (fr:Nat×Nat),w.heap[b]? = some (.cells g T fr)/\gU fr g.size/\h+c*t.size<=g.size/\
      ∀(i:Nat) (y:t.T),x[i]? = some y->bW w I t ((g.toList.drop<|h+i*t.size).take t.size) y):=fM
def vS{k:Nat}{x:List t.T}:VR w I D (.fix k t) h x B↔B=[]/\∃c,h=[.slice (some ⟨(D k).1,(D k).2,none⟩) x.length c]/\x.length<=c/\x.length<=gg/\
    ∃(g:Array Value) (T:TypeId) (fr:Nat×Nat),w.heap[(D k).1]? = some (.cells g T fr)/\gU fr g.size/\(D k).2+c*t.size<=g.size/\
     ∀(i:Nat) (y:t.T),x[i]? = some y->bW w I t ((g.toList.drop<|(D k).2+i*t.size).take t.size) y:=fM
def FC{x:Ty.Ts<|VF.iA fs}:VR w I D (.ptr fs) h x B↔∃b g,B=b::g/\h=[.pointer<|some ⟨b,0,none⟩]/\
    ∃(c:Array Value) (T:TypeId) (fr:Nat×Nat),w.heap[b]? = some (.cells c T fr)/\gU fr c.size/\ry w I D fs c.toList x g:=fM
def vR{g:List Value}{x:Ty.Ts<|VF.iA fs}:VR w I D (.nU fs) g x B↔∃b,g=[.pointer<|some ⟨b,0,none⟩]/\I b/\
    ∃(c:Array Value) (T:TypeId) (fr:Nat×Nat),w.heap[b]? = some (.cells c T fr)/\gU fr c.size/\ry w I D fs c.toList x B:=fM
def K_{x:Ty.Ts<|VF.iA []}:ry w I D [] c x B↔c=[]/\B=[]:=fM
def t7{x:f.ty.T}:ry w I D [f] c x B↔VR w I D f c x B:=fM
def A8{g:VF}{l:List Value}{x:Ty.Ts<|VF.iA<|f::g::fs}:ry w I D (f::g::fs) l x B↔∃i j c h,l=i++j/\B=c++h/\VR w I D f i (Prod.fst (α:=f.ty.T) (β:=Ty.Ts<|VF.iA<|g::fs) x) c/\ry w I D (g::fs) j (Prod.snd (α:=f.ty.T) (β:=Ty.Ts<|VF.iA<|g::fs) x) h:=fM
end
mutual
theorem VR.length{w:World}{I:Nat->Prop}{D:Nat->Nat×Nat}:∀(f:VF) {c:List Value} {x:f.ty.T} {B:List Nat},VR w I D f c x B->c.length=f.size
 | .d t,c,x,B,h=>(ajh.1 h).1.length
 | .own t,c,x,B,h=>by
   rcases h with ⟨_,_,a,rfl⟩|⟨b,j,g,_,rfl,_⟩<;>rfl
 | .fix k t,c,x,B,h=>by
   obtain⟨_,g,rfl,_⟩:=h;rfl
 | .ptr fs,c,x,B,h=>by
   obtain⟨b,i,_,rfl,_⟩:=h;rfl
 | .nU fs,c,x,B,h=>by
   obtain⟨b,rfl,_⟩:=vR.1 h;rfl
theorem ry.length{w:World}{I:Nat->Prop}{D:Nat->Nat×Nat}:∀(fs:List VF) {c:List Value} {x:Ty.Ts<|VF.iA fs} {B:List Nat},ry w I D fs c x B->c.length=VF.mI fs
 | [],c,x,B,h=>by rw[(K_.1 h).1];rfl
 | [f],c,x,B,h=>by simp only[VF.mI];exact VR.length f<|t7.1 h
 | f::g::fs,c,x,B,h=>by
   obtain⟨t,u,l,p,rfl,_,i,j⟩:=h;rw[uy,VR.length f i,ry.length (g::fs) j];rfl
end
variable{C:Array Value}{I:Nat->Prop}{aa cs:List AV}{g:Nat->AV}{i:Nat}{l:List Nat}{m':Mem}{v:AV}{α:Type}
section
variable {P:Program} {w0:nE} {w:World} {S:St} {m:Mem} {D:Nat->Nat×Nat}
def K3(m:Mem)(i:Nat):Prop:=(∃t x,m.at i=.arr false t x)\/∃cs,m.at i=.cH false cs
def yC(S:St)(m:Mem)(j:Nat):Prop:=S.lv j (m.at j)=true/\S.fz j (m.at j)=false
def nN(c:List Nat)(fx:List<|Nat×Nat)(ids:List Nat):Prop:=(∀j∈c++fx.map Prod.snd,j∈ids)/\(ids.Nodup->(c++fx.map Prod.snd).Nodup)
def nN.same:nN l [] l:=⟨by simp,by simp⟩
def nN.one{k:Nat}:nN [] [(k,i)] [i]:=⟨by simp,by simp⟩
def nN.nil:nN [] [] l:=⟨by simp,by simp⟩
def nN.cons{g ids:List Nat}{fx:List<|Nat×Nat}(h:nN g fx ids)(i:Nat):nN (i::g) fx<|i::ids:=
 ⟨λj c=>by rcases aC.1 c with rfl|c;exact aM;exact aB _<|h.1 j c,λl=>by
  have⟨n1,p⟩:=bS.1 l;exact bS.2 ⟨λk=>n1<|h.1 i k,h.2 p⟩⟩
def nN.append{i is1 c:List Nat}{fx g:List<|Nat×Nat}(h:nN i fx is1)(t:nN l g c):nN (i++l) (fx++g)<|is1++c:=by
 have⟨a1,a2⟩:=h;have⟨p,v⟩:=t;refine⟨λj x=>?_,λu=>?_⟩
 .grind
 .have⟨n1,y,B⟩:=dV.1 u;simp only[oJ] at a1 p
  grind
def aws:VF.fx m (.d t) cs=[]:=by rfl
def Qh:VF.fx m (.own t) cs=[]:=by rfl
mutual
theorem VF.wD(W:WR w0 w S m):∀(f:VF) {cs:List AV} {x:f.ty.T} {ids:List Nat} {r:List AV} {X:List Value},VF.read m f cs=some (x,ids,r)->(∀p∈VF.fx m f cs,D p.1=(S.σ p.2,S.δ p.2)/\S.vd p.2=false)->eD w S m cs X->
  ∃u1 u2 K,X=u1++u2/\eD w S m r u2/\nN K (VF.fx m f cs) ids/\(∀j∈K++(VF.fx m f cs).map Prod.snd,yC S m j)/\(∀i∈ids,K3 m i)/\VR w S.I D f u1 x (K.map S.σ)
 | .d t,cs,x,ids,r,X,h,hD,hc=>by
   simp only[VF.read] at h;split at h
   rotate_left
   simp_all
   rename_i p h1;cases h;have⟨u1,u2,e,F,B⟩:=nL t h1 hc;exact⟨u1,u2,[],e,B,nN.nil,λj g=>absurd g aF,λj g=>absurd g aF,ajh.2<|⟨F,rfl⟩⟩
 | .own t,cs,x,ids,r,X,h,hD,hc=>by
   simp only[VF.read] at h;cases cs with
   | nil=>cases h
   | cons v cs=>
     obtain⟨u,H,rfl,C,G⟩:=hc.cons_inv;cases v<;>(try simp only at h)<;>try (cases h;done)
     case own id=>
      cases hm:m.at id<;>rw[hm] at h<;>(try simp only at h)<;>try (cases h;done)
      case arr fz t' y=>
       cases fz with
       | true=>cases h
       | false=>
         simp only at h;by_cases hb:t'.beq t=true
         .rw[dif_pos hb] at h;have:=Ty.eq_of_beq hb;subst this;cases h;have c:=W.box id;rw[hm] at c;rw[CR,hm] at C;have J:∀i∈ [id],K3 m i:=λi Z=>by rw[aG.1 Z];exact .inl ⟨_,_,hm⟩
          rcases C with ⟨_,hx,a,e⟩|⟨a8,N,e,F,Y,T1,V,B,h4⟩
          .refine⟨[u],H,[],rfl,G,nN.nil,λj g=>absurd g aF,J,?_⟩;exact nT.2<|.inl ⟨hx,rfl,a,by rw[e]⟩
          .have⟨an,T2,ab,g1,g2,g3,g4⟩:=c.2.2 a8;rw[B] at g1;cases g1;refine⟨[u],H,[id],rfl,G,nN.same,λj g=>?_,J,?_⟩
           .rw[aG.1 g];exact⟨by rw[hm,rP,a8];rfl,by rw[hm];rfl⟩
           .exact nT.2<|.inr ⟨S.σ id,S.δ id,N,rfl,by rw[e],F,c.1,Y,T1,V,B,g2,h4,g4⟩
         grind
     case eT b=>
      cases h;have⟨a,e,_⟩:=m_.1 C;exact⟨[u],H,[],rfl,G,nN.nil,λj g=>absurd g aF,λj g=>absurd g aF,nT.2<|.inl ⟨rfl,rfl,a,by rw[e]⟩⟩
 | .fix k t,cs,x,ids,r,X,h,hD,hc=>by
   simp only[VF.read] at h;cases cs with
   | nil=>cases h
   | cons v cs=>
     obtain⟨u,H,rfl,C,G⟩:=hc.cons_inv;cases v<;>(try simp only at h)<;>try (cases h;done)
     case own id=>
      have⟨d1,d2⟩:=hD (k,id) aM;cases hm:m.at id<;>rw[hm] at h<;>(try simp only at h)<;>try (cases h;done)
      case arr fz t' y=>
       cases fz with
       | true=>cases h
       | false=>
         simp only at h;by_cases hb:t'.beq t=true
         .rw[dif_pos hb] at h;have:=Ty.eq_of_beq hb;subst this;cases h;have c:=W.box id;rw[hm] at c;rw[CR,hm] at C;rcases C with ⟨hn,_⟩|⟨_,N,e,F,Y,T1,V,B,h4⟩
          .simp_all
          .have⟨an,T2,ab,g1,g2,g3,g4⟩:=c.2.2 d2;rw[B] at g1;cases g1;refine⟨[u],H,[],rfl,G,nN.one,λj g=>?_,λi Z=>by rw[aG.1 Z];exact .inl ⟨_,_,hm⟩,vS.2 ⟨rfl,N,by rw[e,d1],F,c.1,Y,T1,V,by simp_all,g2,by simp_all,by simp_all⟩⟩;rw[aG.1<|show j∈ [id] from g];exact⟨by rw[hm,rP,d2];rfl,by rw[hm];rfl⟩
         simp_all
 | .ptr fs,cs,x,ids,r,X,h,hD,hc=>by
   simp only[VF.read] at h;cases cs with
   | nil=>cases h
   | cons v cs=>
     obtain⟨u,H,rfl,C,G⟩:=hc.cons_inv;cases v<;>(try simp only at h)<;>try (cases h;done)
     case ptr id off=>
      cases off with
      | succ _=>cases h
      | zero=>
        cases hm:m.at id<;>rw[hm] at h<;>(try simp only at h)<;>try (cases h;done)
        case cH fz l=>
         cases fz with
         | true=>cases h
         | false=>
           simp only at h;cases hrd:VF.reads m fs l with
           | none=>grind
           | some q=>
             have⟨y,is,r1⟩:=q;rw[hrd] at h;cases r1 with
             | cons _ _=>cases h
             | nil=>
               cases h;have c:=W.box id;rw[hm] at c;have⟨vs,T,fr,k1,k2,k3⟩:=c;rw[CR,hm] at C;have O:∀r',VF.fx m (.ptr fs) (.ptr id 0::r')=VF.yJ m fs l:=λr'=>by simp[VF.fx,hm]
               rw[O] at hD ⊢;have⟨u1,u2,K,e,F,B,h4,h5,h6⟩:=VF.pQ W fs hrd hD k3;rw[bA.1 F,aJ] at e;rw[<-e] at h6;refine⟨[u],H,id::K,rfl,G,B.cons id,λj g=>?_,λi Z=>?_,?_⟩
               .rcases aC.1 g with rfl|g
                .exact⟨by rw[hm];rfl,by rw[hm];rfl⟩
                simp_all
               .rcases aC.1 Z with rfl|Z
                .exact .inr ⟨_,hm⟩
                grind
               .exact FC.2<|⟨S.σ id,K.map S.σ,rfl,by grind,vs,T,fr,k1,k2,h6⟩
 | .nU fs,cs,x,ids,r,X,h,hD,hc=>by
   simp only[VF.read] at h;cases cs with
   | nil=>cases h
   | cons v cs=>
     obtain⟨u,H,rfl,C,G⟩:=hc.cons_inv;cases v<;>(try simp only at h)<;>try (cases h;done)
     case ptr id off=>
      cases off with
      | succ _=>cases h
      | zero=>
        cases hm:m.at id<;>rw[hm] at h<;>(try simp only at h)<;>try (cases h;done)
        case cH fz l=>
         cases fz with
         | false=>cases h
         | true=>
           simp only at h;cases hrd:VF.reads m fs l with
           | none=>grind
           | some q=>
             have⟨y,is,r1⟩:=q;rw[hrd] at h;cases r1 with
             | cons _ _=>cases h
             | nil=>
               cases h;have c:=W.box id;rw[hm] at c;have⟨vs,T,fr,k1,k2,k3⟩:=c;rw[CR,hm] at C;have O:∀r',VF.fx m (.nU fs) (.ptr id 0::r')=VF.yJ m fs l:=λr'=>by simp only[VF.fx,hm]
               rw[O] at hD ⊢;have⟨u1,u2,K,e,F,B,h4,h5,h6⟩:=VF.pQ W fs hrd hD k3;rw[bA.1 F,aJ] at e;rw[<-e] at h6;exact⟨[u],H,K,rfl,G,B,h4,h5,vR.2 ⟨S.σ id,by grind,W.Ju id (by rw[hm];rfl),vs,T,fr,k1,k2,h6⟩⟩
theorem VF.pQ(F:WR w0 w S m):∀(fs:List VF) {cs:List AV} {x:Ty.Ts<|VF.iA fs} {ids:List Nat} {r:List AV} {v:List Value},VF.reads m fs cs=some (x,ids,r)->(∀p∈VF.yJ m fs cs,D p.1=(S.σ p.2,S.δ p.2)/\S.vd p.2=false)->eD w S m cs v->
  ∃u B l,v=u++B/\eD w S m r B/\nN l (VF.yJ m fs cs) ids/\(∀j∈l++(VF.yJ m fs cs).map Prod.snd,yC S m j)/\(∀i∈ids,K3 m i)/\ry w S.I D fs u x (l.map S.σ)
 | [],cs,x,ids,r,v,h,hD,hc=>by
   cases h;rw[VF.yJ];exact⟨[],v,[],rfl,hc,nN.nil,λj t=>absurd t aF,λj t=>absurd t aF,K_.2<|⟨rfl,rfl⟩⟩
 | [f],cs,x,ids,r,v,h,hD,hc=>by
   have c:VF.yJ m [f] cs=VF.fx m f cs:=by
    have H:VF.read m f cs=some (x,ids,r):=h;rw[VF.yJ,H];simp only[VF.yJ,aJ]
   rw[c] at hD ⊢;have⟨u,B,l,y,C,J,K,N,O⟩:=VF.wD F f h hD hc;exact⟨u,B,l,y,C,J,K,N,t7.2<|O⟩
 | f::g::fs,cs,x,ids,r,v,h,hD,hc=>by
   simp only[VF.reads] at h;cases y:VF.read m f cs with
   | none=>grind
   | some p=>
     have⟨a,i1,Y⟩:=p;rw[y] at h;simp only at h;split at h
     simp_all
     rename_i q C;cases h;have c:VF.yJ m (f::g::fs) cs=VF.fx m f cs++VF.yJ m (g::fs) Y:=by rw[VF.yJ,y]
     rw[c] at hD ⊢;obtain⟨u,B,l,rfl,c1,Z,l1,W,v1⟩:=VF.wD F f y (λp G=>hD p<|oJ.2<|.inl G) hc;obtain⟨u3,u4,V,rfl,c2,s2,l2,X,v2⟩:=VF.pQ F (g::fs) C (λp G=>hD p<|oJ.2<|.inr G) c1;refine⟨u++u3,u4,l++V,(e_ _ _ _).symm,c2,Z.append s2,λj t=>?_,λj t=>(oJ.1 t).elim (W j)<|X j,?_⟩
     .grind
     refine A8.2 ?_
     grind
end
def JY(w0:nE)(S:St)(m:Mem)(b:Nat):Prop:=w0.free b/\¬S.I b/\∀j,S.lv j (m.at j)=true->S.σ j≠b
def Step.J7(l:WR w0 w S m){b d:Nat}(c:JY w0 S m b)(j:b<w.heap.size){bx:iM}(i:bx.S9=false)
  (g:dM w S m w (S.push m.length b d false) (m ++ [bx])->r8 w (S.push m.length b d false) (m ++ [bx]) m.length bx):Step w0 w S m w (S.push m.length b d false)<|m ++ [bx]:=
 ⟨l.J7 ⟨c.1,j⟩ c.2.2 c.2.1 (rU.none w b) i<|g<|p9 c.2.1 (rU.none w b) bx,p9 c.2.1 (rU.none w b) bx,λb g=>g.elim .inl λh=>absurd h.1<|by decide⟩
structure Wrote(S:St)(m:Mem)(B:List Nat)(S':St)(m':Mem):Prop where
 nH:∀b,S'.I b->S.I b
 len:m.length<=m'.length
 old:∀j,j<m.length->m'.at j=m.at j/\S'.σ j=S.σ j/\S'.vd j=S.vd j
 new:∀j,m.length<=j->S'.lv j (m'.at j)=true->S'.σ j∈B
theorem Wrote.fresh{i:St}{t:Mem}{C:List Nat}(h:Wrote S m B i t){b:Nat}(c:JY w0 S m b)(F:b ∉ B):JY w0 i t b:=by
 refine⟨c.1,λy=>c.2.1 (h.nH b y),λj g l=>?_⟩;by_cases p:j<m.length
 .obtain⟨u,v,x⟩:=h.old j p;rw[u,ZI x] at g;exact c.2.2 j g (v.symm.trans l)
 .exact F (l▸h.new j (Nat.le_of_not_lt p) g)
def wC{b d:Nat}{l:iM}{v:Bool}(p:(S.push m.length b d false v).lv m.length l=true->b∈B):Wrote S m B (S.push m.length b d false v)<|m ++ [l]:=by
 refine⟨λb h=>h.elim id λh=>absurd h.1<|by decide,by simp_all,λj c=>⟨Mem.lW c,if_neg<|eY c,if_neg<|eY c⟩,λj c i=>?_⟩;rw[Mem.mX] at i;by_cases g:j=m.length
 .subst g;show(if m.length=m.length then b else S.σ m.length)∈B
  grind
 .rw[if_neg g,nJ g] at i;exact absurd (Mem.jO i)<|gx c
def Wrote.trans{C F:St}{v K:Mem}{x y:List Nat}(c:Wrote S m x C v)(g:Wrote C v y F K)(p:∀b∈x,b∈B)(t:∀b∈y,b∈B):Wrote S m B F K:=by
 refine⟨λb h=>c.nH b<|g.nH b h,aV c.len g.len,λj l=>?_,λj l u=>?_⟩
 .have⟨a1,a2,N⟩:=c.old j l;have⟨G,H,J⟩:=g.old j<|bD l c.len
  grind
 .by_cases i:j<v.length
  .have⟨G,H,J⟩:=g.old j i;rw[G,ZI J] at u;rw[H];exact p _<|c.new j l u
  .exact t _<|g.new j (Nat.le_of_not_lt i) u
def yM{b:Nat}{o:Obj}(h:w.heap[b]? = some o):b<w.heap.size:=(dy.1 h).1
def p8(w:World)(I:Nat->Prop)(D:Nat->Nat×Nat)(S:St)(m:Mem)(g:Nat->AV)(rows:List<|Nat×iM):Prop:=
 ∀(k:Nat) (t:Ty) (y:List t.T) (c:List Value),(k,iM.arr false t y)∈rows->VR w I D (.fix k t) c y []->eD w S m [g k] c
theorem p8.mono{rows:List<|Nat×iM}{S':St}(h:p8 w I D S m g rows)(c:dM w S m w S' m'):p8 w I D S' m' g rows:=
 λk t y l i j=>(h k t y l i j).mono c
def p8.left{c j:List<|Nat×iM}(h:p8 w I D S m g<|c++j):p8 w I D S m g c:=λk t y l i=>h k t y l<|oJ.2<|.inl i
def p8.right{j c:List<|Nat×iM}(h:p8 w I D S m g<|j++c):p8 w I D S m g c:=λk t y l i=>h k t y l<|oJ.2<|.inr i
mutual
theorem VF.yz{I:Nat->Prop}{g:Nat->AV}:∀(f:VF) {S:St} {m:Mem} {x:f.ty.T} {l:List Value} {B:List Nat},WR w0 w S m->(∀b,I b->S.I b)->VR w I D f l x B->B.Nodup->(∀b∈B,JY w0 S m b)->p8 w I D S m g (VF.rows f x)->
  ∃H,Step w0 w S m w H (VF.write af g f x m).1/\eD w H (VF.write af g f x m).1 (VF.write af g f x m).2 l/\Wrote S m B H (VF.write af g f x m).1
 | .d t,S,m,x,l,B,hW,hI,h,hn,hf,hg=>by
   exact⟨S,.refl hW,lI t<|bW.mono (λb c=>⟨hI b c,rfl⟩) t h.1,λ_ h=>h,ah _,λ_ _=>⟨rfl,rfl,rfl⟩,λj u v=>absurd (Mem.jO v)<|gx u⟩
 | .own t,S,m,x,l,B,hW,hI,h,hn,hf,hg=>by
   rw[VF.write];rcases h with ⟨X,rfl,a,rfl⟩|⟨b,p,J,rfl,rfl,G,K,F,T,fr,N,h4,h5,h6⟩
   .have X:x=([]:List t.T):=X;subst X;refine⟨_,Step.an0 hW t,bL.2 ⟨_,[],rfl,?_,bA.2 rfl⟩,wC λh=>by simp[St.lv,St.push] at h⟩;rw[CR,Mem.fI];exact .inl ⟨wA,rfl,a,rfl⟩
   .refine⟨_,Step.J7 hW (d:=p) (hf b<|aG.2 rfl) (yM N) rfl λZ=>⟨K,yW,λ_=>⟨F,T,fr,?_,h4,?_,λi y hy=>?_⟩⟩,bL.2 ⟨_,[],rfl,?_,bA.2 rfl⟩,wC λ_=>aG.2 rfl⟩
    .show w.heap[if m.length=m.length then b else S.σ m.length]? = _
     grind
    .show(if m.length=m.length then p else S.δ m.length)+_<=_;rw[if_pos rfl];exact aV (fO (aH _ G) _) h5
    .show bW w _ t ((F.toList.drop<|(if m.length=m.length then p else S.δ m.length)+_).take _) y;rw[if_pos rfl];exact bW.mono (λb c=>⟨.inl<|hI b c,rfl⟩) t<|h6 i y hy
    .rw[CR,Mem.fI];refine .inr ⟨wA,J,?_,G,F,T,fr,?_,?_⟩
     .show Value.slice _ _ _=.slice (some ⟨if m.length=m.length then b else S.σ m.length,if m.length=m.length then p else S.δ m.length,none⟩) _ _
      grind
     .show w.heap[if m.length=m.length then b else S.σ m.length]? = _
      grind
     .show(if m.length=m.length then p else S.δ m.length)+_<=_
      grind
 | .fix k t,S,m,x,l,B,hW,hI,h,hn,hf,hg=>by
   obtain⟨rfl,h'⟩:=vS.1 h;exact⟨S,.refl hW,hg k t x l aM h,λ_ h=>h,ah _,λ_ _=>⟨rfl,rfl,rfl⟩,λj u v=>absurd (Mem.jO v)<|gx u⟩
 | .ptr fs,S,m,x,l,B,hW,hI,h,hn,hf,hg=>by
   obtain⟨b,B',rfl,rfl,F,T,fr,G,K,N⟩:=h;have⟨W,V⟩:=bS.1 hn;have⟨Y,s1,c1,w1⟩:=VF.sF fs hW hI N V (λb c=>hf b<|aB _ c) hg;rw[VF.write];have O:=w1.fresh (C:=[]) (hf b aM) W;refine⟨_,s1.trans<|Step.J7 s1.wr (d:=0) O (yM G) rfl λZ=>⟨F,T,fr,?_,K,c1.mono Z⟩,bL.2 ⟨_,[],rfl,?_,bA.2 rfl⟩,w1.trans (wC (B:=[b]) λ_=>aG.2 rfl) (λb c=>aB _ c) λb' c=>by grind⟩
   .show w.heap[if (VF.writes af g fs x m).1.length=(VF.writes af g fs x m).1.length then b else Y.σ _]? = _
    grind
   .rw[CR,Mem.fI];show Value.pointer _=.pointer (some ⟨if (VF.writes af g fs x m).1.length=(VF.writes af g fs x m).1.length then b else Y.σ _,0,none⟩)
    grind
 | .nU fs,S,m,x,l,B,hW,hI,h,hn,hf,hg=>by
   obtain⟨b,rfl,_⟩:=vR.1 h;exact⟨S,.refl hW,bL.2 ⟨_,[],rfl,gT,bA.2 rfl⟩,λ_ h=>h,ah _,λ_ _=>⟨rfl,rfl,rfl⟩,λj u v=>absurd (Mem.jO v)<|gx u⟩
theorem VF.sF{I:Nat->Prop}{g:Nat->AV}:∀(fs:List VF) {S:St} {m:Mem} {x:Ty.Ts<|VF.iA fs} {i:List Value} {B:List Nat},WR w0 w S m->(∀b,I b->S.I b)->ry w I D fs i x B->B.Nodup->(∀b∈B,JY w0 S m b)->p8 w I D S m g (VF.gz fs x)->
  ∃p,Step w0 w S m w p (VF.writes af g fs x m).1/\eD w p (VF.writes af g fs x m).1 (VF.writes af g fs x m).2 i/\Wrote S m B p (VF.writes af g fs x m).1
 | [],S,m,x,i,B,hW,hI,h,hn,hf,hg=>by
   exact⟨S,.refl hW,bA.2 h.1,λ_ h=>h,ah _,λ_ _=>⟨rfl,rfl,rfl⟩,λj J K=>absurd (Mem.jO K)<|gx J⟩
 | [f],S,m,x,i,B,hW,hI,h,hn,hf,hg=>by
   exact VF.yz f hW hI h hn hf (by rw[VF.gz] at hg;omega)
 | f::F::fs,S,m,x,i,B,hW,hI,h,hn,hf,hg=>by
   obtain⟨Z,u2,W,X,rfl,rfl,G,H⟩:=h;have⟨n1,N,O⟩:=dV.1 hn;have⟨Y,l,c1,v⟩:=VF.yz f hW hI G n1 (λb c=>hf b<|oJ.2<|.inl c) hg.left;have⟨y,u,c2,V⟩:=VF.sF (F::fs) l.wr (λb c=>(l.out.nH b<|hI b c).1) H N (λb c=>v.fresh (C:=[]) (hf b<|oJ.2<|.inr c) λt=>O b t b c rfl)<|hg.right.mono l.out;exact⟨y,l.trans u,(c1.mono u.out).append c2,v.trans V (λb c=>oJ.2<|.inl c) λb c=>oJ.2<|.inr c⟩
end
def oS(S:St)(m:Mem):List VF->List AV->List Nat->Prop
 | [],vs,rs=>vs=[]/\rs=[]
 | f::fs,vs,rs=>∃id off g c cs,(f=.ptr f.sub\/f=.nU f.sub)/\vs=.ptr id off::g/\rs=S.σ id::c/\m.at id=.cH f.fz cs/\cs.length=VF.mI f.sub/\oS S m fs g c
theorem oS.congr{t:St}{u:Mem}:∀{fs:List VF} {g:List AV} {i:List Nat},(∀j∈fY g,∀fz cs,m.at j=.cH fz cs->t.σ j=S.σ j/\∃c,u.at j=.cH fz c/\c.length=cs.length)->oS S m fs g i->oS t u fs g i
 | [],g,i,_,h=>h
 | f::fs,g,i,hk,h=>by
   obtain⟨id,off,p,l,cs,C,rfl,rfl,v,x,y⟩:=h;have⟨F,c,G,H⟩:=hk id (by simp_all;exact aM) _ cs v;exact⟨id,off,p,l,c,C,rfl,by rw[F],G,H.trans x,y.congr λj B=>hk j (by simp_all;exact aB _ B)⟩
theorem oS.ids:∀{fs:List VF} {g:List AV} {c:List Nat},oS S m fs g c->c=(fY g).map S.σ
 | [],g,c,h=>by rw[h.1,h.2];rfl
 | f::fs,g,c,h=>by
   obtain⟨id,off,l,j,cs,p,rfl,rfl,_,_,i⟩:=h;rw[fY,eX,i.ids]
def VR.blk{b:Nat}{t:List Value}{x:f.ty.T}(p:f=.ptr f.sub\/f=.nU f.sub)(h:VR w I D f (.pointer (some ⟨b,0,none⟩)::t) x B):
  t=[]/\(f.fz=false->b∈B)/\(f.fz=true->I b)/\∃g T fr,w.heap[b]? = some (.cells g T fr)/\gU fr g.size/\g.size=VF.mI f.sub:=by
 generalize y:f.sub=gs at p;rcases p with rfl|rfl
 .obtain⟨c,v,rfl,e,g,T,fr,i,j,l⟩:=FC.1 h;simp at e;rw[e.1];exact⟨e.2,λ_=>aM,λh=>(by cases h),g,T,fr,i,j,by rw[<-l.length,bC]⟩
 .obtain⟨c,e,u,g,T,fr,i,j,l⟩:=vR.1 h;simp at e;rw[e.1];exact⟨e.2,λh=>(by cases h),λ_=>u,g,T,fr,i,j,by rw[<-l.length,bC]⟩
def ry.head{g:VF}{b:Nat}{p:List Nat}{x:Ty.Ts<|VF.iA<|f::g::fs}(y:f=.ptr f.sub\/f=.nU f.sub)(h:ry w I D (f::g::fs) (mZ<|b::p) x B):
  ∃c i,B=c++i/\VR w I D f [.pointer<|some ⟨b,0,none⟩] (Prod.fst (α:=f.ty.T) (β:=Ty.Ts<|VF.iA<|g::fs) x) c/\ry w I D (g::fs) (mZ p) (Prod.snd (α:=f.ty.T) (β:=Ty.Ts<|VF.iA<|g::fs) x) i:=by
 obtain⟨t,F,c,i,e,rfl,j,l⟩:=A8.1 h;have u:=VR.length _ j;have v:f.size=1:=by rcases y with h|h<;>rw[h]<;>rfl
 rw[v] at u;cases t with
 | nil=>grind
 | cons a t=>
   have C:t=[]:=cu.1<|Nat.succ.inj u;subst C;simp[mZ,eX,lu,List.cons.injEq] at e;obtain⟨rfl,e⟩:=e;rw[<-show mZ p=F from e] at l
   grind
theorem ry.roots{I:Nat->Prop}:∀{fs:List VF} {l:List AV} {i:List Nat} {x:Ty.Ts<|VF.iA fs} {B:List Nat},oS S m fs l i->ry w I D fs (mZ i) x B->∀r∈i,r∈B\/I r
 | [],l,i,x,B,h,_,r,c=>by rw[h.2] at c;grind
 | [f],l,i,x,B,h,hv,r,c=>by
   obtain⟨id,off,y,v,cs,j,rfl,rfl,_,_,p⟩:=h;rw[p.2] at c;have⟨_,C,F,_⟩:=VR.blk j<|t7.1 hv
   grind
 | f::g::fs,l,i,x,B,h,hv,r,c=>by
   obtain⟨id,off,y,v,cs,j,rfl,rfl,_,_,p⟩:=h;obtain⟨G,H,rfl,t,u⟩:=ry.head j hv;have⟨_,C,F,_⟩:=VR.blk j t;rcases aC.1 c with rfl|c
   .grind
   .exact(ry.roots p u r c).imp (λh=>oJ.2<|.inr h) λh=>h
def VF.FF{id off:Nat}{x:f.ty.T}{v:List AV}(hp:f=.ptr f.sub\/f=.nU f.sub)(hW:WR w0 w S m)(hI:∀b,I b->S.I b)(hv:VR w I D f [.pointer<|some ⟨S.σ id,0,none⟩] x B)(hn:B.Nodup)
  (hB:∀b∈B,w0.free b/\¬S.I b/\∀j,S.lv j (m.at j)=true->S.σ j=b->j=id) (hm:m.at id=.cH f.fz v) (V:v.length=VF.mI f.sub) (hr:p8 w I D S m g<|VF.rows f x) (h:VF.back af g f (.ptr id off) x m=some m') :
  ∃G,Step w0 w S m w G m'/\(∀b,G.I b->S.I b)/\G.σ id=S.σ id/\(∀j,j<m.length->j≠id->m'.at j=m.at j/\G.σ j=S.σ j/\G.vd j=S.vd j)/\∀j,m.length<=j->G.lv j (m'.at j)=true->G.σ j∈B:=by
 have p:id<m.length:=Mem.pL λe=>by grind
 generalize hg:f.sub=gs at hp V;rcases hp with rfl|rfl
 .obtain⟨b,B',rfl,e,vs,T,fr,h1,h2,N⟩:=FC.1 hv;have⟨a8,a7⟩:=bS.1 hn;have⟨C,F,c1,y⟩:=VF.sF gs hW hI N a7 (λb' J=>by
   have⟨k1,Z,k3⟩:=hB b'<|aB _ J;exact⟨k1,Z,λj V he=>a8<|by grind⟩) hr
  simp[VF.back,Option.some.injEq] at h;subst h;have⟨o1,o2,_⟩:=y.old id p;have c:(VF.writes af g gs x m).1.at id=.cH false v:=o1.trans hm;have u:C.lv id ((VF.writes af g gs x m).1.at id)=true:=by rw[c];rfl
  have O:C.fz id ((VF.writes af g gs x m).1.at id)=false:=by rw[c];rfl
  have i:id<(VF.writes af g gs x m).1.length:=bD p y.len;have hk:iX ((VF.writes af g gs x m).1.at id)<|.cH false (VF.writes af g gs x m).2:=by
   rw[c];show _=_;rw[V,<-ry.length gs N,c1.length]
  have Y:=kN F.wr (w':=w) (bx:=.cH false (VF.writes af g gs x m).2) u O hk (λh=>by rw[c] at h;cases h)<|rU.none _ _;have H:=F.wr.set (w':=w) (bx:=.cH false (VF.writes af g gs x m).2) u O hk (λh=>by rw[c] at h;cases h) rfl (rU.none _ _) ⟨vs,T,fr,by grind,h2,c1.mono Y⟩;refine⟨C,F.trans ⟨H,Y,.refl⟩,y.nH,o2,λj K l=>?_,λj K t=>?_⟩
  .rw[Mem.fU i,if_neg l];exact y.old j K
  .have l:j≠id:=λe=>by omega
   rw[Mem.fU i,if_neg l] at t;exact aB _<|y.new j K t
 .have⟨b,e,az,vs,T,fr,h1,h2,N⟩:=vR.1 hv;simp at e;have⟨C,F,c1,y⟩:=VF.sF gs hW hI N hn (λb' J=>by
   have⟨k1,Z,k3⟩:=hB b' J;exact⟨k1,Z,λj V he=>Z<|by grind⟩) hr
  simp[VF.back,Option.some.injEq] at h;subst h;have⟨o1,o2,_⟩:=y.old id p;have c:(VF.writes af g gs x m).1.at id=.cH true v:=o1.trans hm;have i:id<(VF.writes af g gs x m).1.length:=bD p y.len;have W:(VF.writes af g gs x m).2.length=v.length:=by rw[V,<-ry.length gs N,c1.length]
  have Y:=lq F.wr c W;have H:=F.wr.Af c W (by rw[o2,e];omega) h2 c1;have X:C.I<|C.σ id:=F.wr.Ju id (by rw[c];rfl);refine⟨C.Ju<|C.σ id,F.trans ⟨H,Y,λb hb=>.inl<|hb.elim (λh=>h) λh=>h▸X⟩,λb hb=>y.nH b<|hb.elim (λh=>h) λh=>h▸X,o2,λj K l=>?_,λj K t=>?_⟩
  .rw[Mem.fU i,if_neg l];exact y.old j K
  .have l:j≠id:=λe=>by omega
   rw[Mem.fU i,if_neg l] at t;exact y.new j K t
theorem VF.xw{I:Nat->Prop}{g:Nat->AV}:∀(fs:List VF) {S:St} {m C:Mem} {l:List AV} {F:List Nat} {x:Ty.Ts<|VF.iA fs} {B:List Nat},WR w0 w S m->(∀b,I b->S.I b)->ry w I D fs (mZ F) x B->B.Nodup->(∀b∈B,w0.free b/\¬S.I b)->
  oS S m fs l F->(fY l).Nodup->(∀b∈B,∀j,S.lv j (m.at j)=true->S.σ j=b->j∈fY l)->p8 w I D S m g (VF.gz fs x)->VF.J2 af g fs l x m=some C->∃J,Step w0 w S m w J C/\∀b,J.I b->S.I b
 | [],S,m,C,l,F,x,B,hW,hI,hv,hn,hB,hr,hp,t,hrow,h=>by
   cases h;exact⟨S,.refl hW,λ_ h=>h⟩
 | [f],S,m,C,l,F,x,B,hW,hI,hv,hn,hB,hr,hp,t,hrow,h=>by
   obtain⟨id,off,p,G,cs,u,rfl,rfl,V,W,i⟩:=hr;obtain⟨rfl,rfl⟩:=i;have⟨J,H,s2,_⟩:=VF.FF u hW hI (t7.1 hv) hn (λb c=>⟨(hB b c).1,(hB b c).2,λj hl Z=>by have:=t b c j hl Z;rw[fY] at this;exact aG.1 this⟩) V W (by rw[VF.gz] at hrow;omega) h
   grind
 | f::Y::fs,S,m,C,l,F,x,B,hW,hI,hv,hn,hB,hr,hp,t,hrow,h=>by
   obtain⟨id,off,p,G,cs,u,rfl,rfl,V,W,i⟩:=hr;simp only[VF.J2] at h;obtain⟨B1,B2,rfl,v,y⟩:=ry.head u hv;have⟨n1,n2,n3⟩:=dV.1 hn;rw[fY] at hp t;have⟨p1,p2⟩:=bS.1 hp;have O:=ry.roots i y;have aa:∀j∈fY p,S.σ j∈B2\/I (S.σ j):=λj t=>O _ (by rw[i.ids];grind);split at h
   rotate_left
   simp_all
   rename_i m1 c;have⟨X,H,i1,q1,q3,q4⟩:=VF.FF u hW hI v n1 (λb c=>by grind) V W hrow.left c;have q5:∀j,j<m.length->j≠id->X.lv j (m1.at j)=S.lv j (m.at j):=λj a b=>by rw[(q3 j a b).1,ZI (q3 j a b).2.2]
   have⟨_,d1,d2,_⟩:=VR.blk u v;have N:oS X m1 (Y::fs) p G:=i.congr λj t fz cs hc=>by
    have ab:j<m.length:=Mem.pL λe=>by grind
    grind
   have⟨S2,s2,i2⟩:=VF.xw (Y::fs) H.wr (λb c=>(H.out.nH b<|hI b c).1) y n2 (λb c=>⟨(hB b<|oJ.2<|.inr c).1,λK=>(hB b<|oJ.2<|.inr c).2<|i1 b K⟩) N p2 (λb a9 j hl Z=>by grind) (hrow.right.mono H.out) h;exact⟨S2,H.trans s2,λb c=>i1 b<|i2 b c⟩
theorem zH:∀{fs:List VF} {vs:List AV} {S:St} {m:Mem},WR w0 w S m->∃g,Step w0 w S m w g<|yK fs vs m
 | [],vs,S,m,hW=>⟨S,.refl hW⟩
 | f::fs,[],S,m,hW=>⟨S,.refl hW⟩
 | f::fs,v::vs,S,m,hW=>by
   have one:∃g,Step w0 w S m w g<|Qi f v m:=by
    cases f<;>(try exact⟨S,.refl hW⟩);cases v<;>(try exact⟨S,.refl hW⟩);rename_i y id off;simp only[Qi];cases hm:m.at id<;>(try exact⟨S,.refl hW⟩);have c:=hW.box id;rw[hm] at c;have⟨B,T,fr,l,p,t⟩:=c;refine⟨_,⟨hW.Af hm rfl l p t,lq hW hm rfl,λb h=>?_⟩⟩;rcases h with h|rfl
    .grind
    .exact(hW.lo id (by rw[hm];rfl)).1
   have⟨x,i⟩:=one;have⟨j,u⟩:=zH (fs:=fs) (vs:=vs) i.wr;exact⟨j,i.trans u⟩
def RS{rows:Nat->Option iM}{roots:List Nat}{fz:Bool}(c:rows i=none)(h:tx roots i=true):yx rows roots i (.cH fz cs)=.cH false (List.replicate cs.length .undef):=by unfold yx;rw[c,h]
def y9{rows:Nat->Option iM}{roots:List Nat}{b c:iM}(h:rows i=some c):yx rows roots i b=c:=by unfold yx;rw[h]
theorem Ei{rows:Nat->Option iM}{roots:List Nat}:∀{ids:List Nat} {m:Mem},(Cb rows roots ids m).length=m.length
 | [],m=>rfl
 | i::ids,m=>by rw[Cb,Ei,cd]
theorem Nq{rows:Nat->Option iM}{roots:List Nat}:∀{ids:List Nat} {m:Mem} {j:Nat},ids.Nodup->(∀i∈ids,i<m.length)->(Cb rows roots ids m).at j=if j∈ids then yx rows roots j (m.at j) else m.at j
 | [],m,j,_,_=>by rfl
 | i::ids,m,j,hn,hl=>by
   have⟨n1,h⟩:=bS.1 hn;have c:=hl i aM;rw[Cb,Nq h λk g=>by rw[cd];exact hl k<|aB _ g,Mem.fU c]
   grind
theorem Dp:∀{n:Nat} {c:List Value},c.length=n->eD w S m (List.replicate n .undef) c
 | 0,c,h=>bA.2<|cu.1 h
 | n+1,[],h=>by cases h
 | n+1,u::c,h=>bL.2 ⟨u,c,rfl,gT,Dp<|Nat.succ.inj h⟩
def Uy(p:WR w0 w S m){rows:Nat->Option iM}{roots ids:List Nat}(hn:ids.Nodup)(v:∀i∈ids,K3 m i)(hB:∀b∈B,∃j∈ids,yC S m j/\S.σ j=b){N:World}(az:N.os=w.os)(b0:N.tape=w.tape)(as:w0.D->w.drawn<=N.drawn)(a8:N.output=w.output)
  (a0:w.heap.size<=N.heap.size) (hh:∀b,b<w.heap.size->b ∉ B->N.heap[b]? = w.heap[b]?) {I':Nat->Prop} (Y:∀b,I' b->(S.I b\/b∈B\/w.heap.size<=b)/\b<N.heap.size) (aq:∀(b:Nat) (F:Array Value) (T:TypeId) (fr:Nat×Nat),w.heap[b]? = some (.cells F T fr)->∃(iH:Array Value) (T':TypeId) (iU:Nat×Nat),N.heap[b]? = some (.cells iH T' iU)/\iH.size=F.size)
  (H:∀i∈ids,∀K,rows i=some K->∃(t:Ty) (x V:List t.T),m.at i=.arr false t x/\K=.arr false t V/\V.length=x.length/\V.length<=gg/\S.vd i=false/\¬I' (S.σ i)/\
    ∃(F:Array Value) (T:TypeId) (fr:Nat×Nat),N.heap[S.σ i]? = some (.cells F T fr)/\gU fr F.size/\S.δ i+V.length*t.size<=F.size/\∀(n:Nat) (y:t.T),V[n]? = some y->bW N I' t ((F.toList.drop<|S.δ i+n*t.size).take t.size) y)
  (Z:∀i∈ids,rows i=none->i∈roots->∀cs,m.at i=.cH false cs->¬I' (S.σ i)/\∃F T fr,N.heap[S.σ i]? = some (.cells F T fr)/\gU fr F.size/\F.size=cs.length) :
  Step w0 w S m N {S with I:=λb=>S.I b\/I' b} (Cb rows roots ids m):=by
 have aw:∀i∈ids,i<m.length:=λi g=>Mem.pL λe=>by
  rcases v i g with ⟨t,x,h⟩|⟨cs,h⟩<;>rw[e] at h<;>cases h
 have C:=λj=>Nq (rows:=rows) (roots:=roots) (m:=m) (j:=j) hn aw;have an:∀b∈B,¬S.I b:=λb c=>by
  obtain⟨j,_,⟨l,W⟩,rfl⟩:=hB b c;exact p.qV j l W
 have a6:∀b∈B,w0.free b:=λb c=>by
  obtain⟨j,_,⟨l,W⟩,rfl⟩:=hB b c;exact p.lof l W
 have O:∀j,j ∉ ids->S.lv j (m.at j)=true->S.σ j ∉ B:=λj X hl c=>by
  have⟨k,hk,⟨l,W⟩,h3⟩:=hB _ c;exact X<|p.inj j k hl l h3.symm▸hk
 have J:∀j,S.lv j ((Cb rows roots ids m).at j)=true->S.lv j (m.at j)=true/\(j∈ids->(∃K,rows j=some K)\/rows j=none/\j∈roots/\∃cs,m.at j=.cH false cs/\(Cb rows roots ids m).at j=.cH false (List.replicate cs.length .undef)):=λj h=>by
  rw[C j] at h ⊢;by_cases X:j∈ids
  .rw[if_pos X] at h ⊢;cases G:rows j with
   | some K=>
     have⟨t,x,V,e1,e2,_,_,e3,_⟩:=H j X K G;exact⟨by rw[e1,rP,e3];rfl,λ_=>.inl ⟨K,rfl⟩⟩
   | none=>
   unfold yx at h ⊢;rw[G] at h ⊢;cases hr:tx roots j with
   | false=>rw[hr] at h;cases h
   | true=>
     rcases v j X with ⟨t,x,u⟩|⟨cs,u⟩
     .rw[hr,u] at h;cases h
     .rw[u];exact⟨rfl,λ_=>.inr ⟨rfl,jP.1 hr,cs,rfl,rfl⟩⟩
  grind
 have hO:dM w S m N {S with I:=λb=>S.I b\/I' b} (Cb rows roots ids m):=by
  refine⟨λb c=>⟨.inl c,hh b (p.nH b c) λh=>an b h c⟩,λj X=>?_,λj hc=>?_⟩
  .by_cases g:j∈ids
   .by_cases hd:(Cb rows roots ids m).at j=.aU
    .refine⟨?_,λh=>absurd hd h⟩;rw[hd];cases u:m.at j<;>first|exact absurd u X|trivial
    .have l:=C j;rw[if_pos g] at l;cases G:rows j with
     | some K=>
       have⟨t,x,V,e1,e2,e3,_⟩:=H j g K G;rw[l,y9 G,e1,e2];exact⟨⟨rfl,e3,rfl⟩,λ_=>⟨rfl,rfl,rfl,λ_ F T fr h=>aq _ F T fr h⟩⟩
     | none=>
     unfold yx at l;rw[G] at l;cases hr:tx roots j with
     | false=>grind
     | true=>
       rw[hr] at l;rcases v j g with ⟨t,x,u⟩|⟨cs,u⟩
       .grind
       .rw[u] at l;rw[l,u];refine⟨by show _=_;grind,λ_=>⟨rfl,rfl,rfl,λ_ F T fr h=>?_⟩⟩
        grind
   .have l:=C j;rw[if_neg g] at l;rw[l];refine⟨fS X,λ_=>⟨rfl,rfl,rfl,λG F T fr h=>?_⟩⟩
    grind
  .by_cases g:j∈ids
   .rcases v j g with ⟨t,x,u⟩|⟨cs,u⟩<;>rw[u] at hc<;>cases hc
   grind
 refine⟨⟨az.trans p.os,p.tape.on b0 as,a8.trans p.output,aV p.size a0,λb c=>?_,λb c=>?_,λj=>?_,λi j l W he=>p.inj i j (J i l).1 (J j W).1 he,λj h=>?_,λj h h'=>?_,λj h=>?_,λi b h=>⟨by rw[Ei];exact(p.root i b h).1,(p.root i b h).2⟩,λb F T fr h=>by
  have⟨bh,T1,b7,l,W⟩:=p.cells b F T fr h
  grind⟩,hO,λb c=>?_⟩
 .rw[hh b (bD (nE.old c) p.size) λh=>c<|a6 b h];exact p.base b c
 .rcases c with c|c
  .exact bD (p.nH b c) a0
  .exact(Y b c).2
 .by_cases g:j∈ids
  .have l:=C j;rw[if_pos g] at l;rw[l];cases G:rows j with
   | some K=>
     have⟨t,x,V,e1,e2,e3,e4,e5,_,F,T,fr,g1,g2,g3,g4⟩:=H j g K G;rw[y9 G,e2];exact⟨e4,λk=>by grind,λ_=>⟨F,T,fr,g1,g2,g3,λn y hy=>bW.mono (λb c=>⟨.inr c,rfl⟩) t<|g4 n y hy⟩⟩
   | none=>
   unfold yx;rw[G];cases hr:tx roots j with
   | false=>trivial
   | true=>
     rcases v j g with ⟨t,x,u⟩|⟨cs,u⟩
     .rw[u];trivial
     .rw[u];have⟨_,iH,T',iU,g1,g2,g3⟩:=Z j g G (jP.1 hr) cs u;exact⟨iH,T',iU,g1,g2,Dp<|by omega⟩
  .have l:=C j;rw[if_neg g] at l;rw[l];exact(p.box j).mono hO rfl rfl rfl λhl=>hh _ (p.lo j hl).2<|O j g hl
 .exact⟨(p.lo j (J j h).1).1.imp .inl<|λx=>x,bD (p.lo j (J j h).1).2 a0⟩
 .have⟨l1,l2⟩:=J j h
  rintro (hI|hI)
  .by_cases g:j∈ids
   .rcases l2 g with ⟨K,G⟩|⟨_,_,cs,u,_⟩
    .have⟨t,x,V,e1,_⟩:=H j g K G;exact p.qV j l1 (by rw[e1];rfl) hI
    .exact p.qV j l1 (by rw[u];rfl) hI
   .rw[C j,if_neg g] at h';exact p.qV j l1 h' hI
  .by_cases g:j∈ids
   .grind
   .rw[C j,if_neg g] at h';rcases (Y _ hI).1 with k|k|k
    .exact p.qV j l1 h' k
    .exact O j g l1 k
    .have l:=(p.lo j l1).2;have W:w.heap.size<=S.σ j:=k;omega
 .by_cases g:j∈ids
  .rw[C j,if_pos g] at h;cases G:rows j with
   | some K=>
     have⟨t,x,V,_,e2,_⟩:=H j g K G;rw[y9 G,e2,vY] at h;cases h
   | none=>
   unfold yx at h;rw[G] at h;cases hr:tx roots j with
   | false=>rw[hr] at h;cases h
   | true=>
     rcases v j g with ⟨t,x,u⟩|⟨cs,u⟩<;>rw[hr,u] at h<;>cases h
  .rw[C j,if_neg g] at h;exact .inl<|p.Ju j h
 .rcases c with c|c
  .exact .inl c
  .rcases (Y b c).1 with k|k|k
   .exact .inl k
   .exact .inr<|a6 b k
   .exact .inr<|.inl<|aV p.size k
def OM(V:WR w0 w S m){x:f.ty.T}{ids:List Nat}{r:List AV}{t:List Value}(W:f=.ptr f.sub\/f=.nU f.sub)(h:VF.read m f cs=some (x,ids,r))(H:∀p∈VF.fx m f cs,D p.1=(S.σ p.2,S.δ p.2)/\S.vd p.2=false)(J:eD w S m cs t):
  ∃id g F,cs=.ptr id 0::r/\t=.pointer (some ⟨S.σ id,0,none⟩)::g/\eD w S m r g/\(f.fz=false->id∈ids)/\m.at id=.cH f.fz F/\F.length=VF.mI f.sub:=by
 generalize hg:f.sub=j at W
 have C:∀{fz:Bool} {v:AV} {cs:List AV} {t:List Value},eD w S m (v::cs) t->∀{y:Ty.Ts (VF.iA j)} {N:List Nat} {id:Nat} {l:List AV},v=.ptr id 0->m.at id=.cH fz l->VF.reads m j l=some (y,N,[])->(∀p∈VF.yJ m j l,D p.1=(S.σ p.2,S.δ p.2)/\S.vd p.2=false)->
   ∃g,t=.pointer (some ⟨S.σ id,0,none⟩)::g/\eD w S m cs g/\l.length=VF.mI j:=by
  intro fz v cs t J y N id l K i c H;subst K;obtain⟨u,g,rfl,K,hr⟩:=J.cons_inv;have B:=V.box id;rw[i] at B;obtain⟨vs,T,fr,X,Y,G⟩:=B;rw[CR,i] at K;obtain⟨u1,u2,js,e,Z,h3,h4,h5,O⟩:=VF.pQ V j c H G;rw[bA.1 Z,aJ] at e;rw[<-e] at O;exact⟨g,by grind,hr,by rw[<-O.length,G.length]⟩
 rcases W with rfl|rfl
 all_goals
  simp only[VF.read] at h;cases cs with
  | nil=>cases h
  | cons v cs=>
    cases v<;>(try simp only at h)<;>try (cases h;done)
    case ptr id off=>
     cases off with
     | succ _=>cases h
     | zero=>
       cases i:m.at id<;>rw[i] at h<;>(try simp only at h)<;>try (cases h;done)
       case cH fz l=>
        cases fz<;>(try (cases h;done));simp only at h;cases c:VF.reads m j l with
        | none=>grind
        | some q=>
          obtain⟨y,N,r1⟩:=q;rw[c] at h;cases r1 with
          | cons _ _=>cases h
          | nil=>
            cases h;obtain⟨g,X,Y,G⟩:=C J rfl i c (by simp only[VF.fx,i] at H;omega);exact⟨id,g,l,rfl,X,Y,λh=>(by first|exact aM|cases h),i,G⟩
def ij(h:iG (f::fs)=true):(f=.ptr f.sub\/f=.nU f.sub)/\iG fs=true:=by
 cases f<;>simp only[iG] at h<;>first|(cases h;done)|exact⟨.inl rfl,h⟩|exact⟨.inr rfl,h⟩
theorem D6(F:WR w0 w S m):∀{fs:List VF} {c:List AV} {v:List Value} {x:Ty.Ts<|VF.iA fs} {ids:List Nat},iG fs=true->VF.reads m fs c=some (x,ids,[])->(∀p∈VF.yJ m fs c,D p.1=(S.σ p.2,S.δ p.2)/\S.vd p.2=false)->eD w S m c v->
  oS S m fs c ((fY c).map S.σ)/\v=mZ ((fY c).map S.σ)/\∀i∈fY c,∃fz cs,m.at i=.cH fz cs/\(fz=false->i∈ids)
 | [],c,v,x,ids,_,h,_,hc=>by
   obtain⟨_,_,rfl⟩:=h;exact⟨⟨rfl,rfl⟩,bA.1 hc,λi t=>absurd t aF⟩
 | [f],c,v,x,ids,j,h,hD,hc=>by
   have⟨u,_⟩:=ij j;obtain⟨id,K,l,rfl,rfl,y,J,B,C⟩:=OM F u h (λp j=>hD p (by simp_all;exact oJ.2<|.inl j)) hc;rw[bA.1 y];exact⟨⟨id,0,[],[],l,u,rfl,rfl,B,C,rfl,rfl⟩,rfl,λi t=>by rw[fY] at t;rw[aG.1 t];grind⟩
 | f::g::fs,c,v,x,ids,j,h,hD,hc=>by
   simp only[VF.reads] at h;cases h1:VF.read m f c with
   | none=>grind
   | some p=>
     have⟨a,V,O⟩:=p;rw[h1] at h;simp only at h;split at h
     simp_all
     rename_i b W Y H;cases h;have⟨u,G⟩:=ij j;obtain⟨id,K,l,rfl,rfl,y,J,B,C⟩:=OM F u h1 (λp j=>hD p (by simp_all;exact oJ.2<|.inl j)) hc;obtain⟨N,rfl,X⟩:=D6 F (fs:=g::fs) G H (λp j=>hD p (by rw[VF.yJ,h1];simp_all)) y;refine⟨⟨id,0,O,_,l,u,rfl,rfl,B,C,N⟩,rfl,λi t=>?_⟩;rw[fY] at t
     grind
def ry.blocks{y:World}:∀{fs:List VF} {v:List AV} {u:List Nat} {x:Ty.Ts<|VF.iA fs} {B:List Nat},oS S m fs v u->ry y I D fs (mZ u) x B->
  ∀i∈fY v,∀cs,m.at i=.cH false cs->S.σ i∈B/\∃j T fr,y.heap[S.σ i]? = some (.cells j T fr)/\gU fr j.size/\j.size=cs.length:=by
 have one:∀{f:VF} {id:Nat} {x:f.ty.T} {B:List Nat} {c cs:List AV},(f=.ptr f.sub\/f=.nU f.sub)->VR y I D f [.pointer<|some ⟨S.σ id,0,none⟩] x B->m.at id=.cH f.fz c->c.length=VF.mI f.sub->m.at id=.cH false cs->
   S.σ id∈B/\∃j T fr,y.heap[S.σ id]? = some (.cells j T fr)/\gU fr j.size/\j.size=cs.length:=by
  intro f id x B c cs p t F G C;have⟨_,X,_,j,T,fr,Y,Z,d5⟩:=VR.blk p t
  grind
 intro fs
 induction fs with
 | nil=>intro v u x B h _ i l;rw[h.1] at l;exact absurd l aF
 | cons f fs ih=>
   intro v u x B h t i l cs C;obtain⟨id,off,O,N,c,p,rfl,rfl,F,G,H⟩:=h;rw[fY] at l;cases fs with
   | nil=>
     obtain⟨rfl,rfl⟩:=H;rcases aC.1 l with rfl|l
     .exact one p (t7.1 t) F G C
     .exact absurd l aF
   | cons g fs=>
     obtain⟨V,W,rfl,J,K⟩:=ry.head p t
     grind
theorem pO:∀{l:List Nat},nV l=true->l.Nodup
 | [],_=>qo
 | i::l,h=>by
   rw[nV,eH,fK] at h;refine bS.2 ⟨λc=>?_,pO h.2⟩;rw[jP.2 c] at h
   grind
theorem wo{α β:Type}{f:α->β}:∀{l:List α},l.Nodup->(∀a∈l,∀b∈l,f a=f b->a=b)->(l.map f).Nodup
 | [],_,_=>qo
 | a::l,hn,h=>by
   have⟨j,c⟩:=bS.1 hn;refine bS.2 ⟨λp=>?_,wo c λx g y i=>h x (aB _ g) y<|aB _ i⟩
   grind
def wu(l:WR w0 w S m){ids c:List Nat}(t:c.Nodup)(u:∀j∈c,j∈ids)(g:∀j∈c,yC S m j):(c.map S.σ).Nodup/\(∀b∈c.map S.σ,¬S.I b)/\(∀b∈c.map S.σ,w0.free b)/\∀b∈c.map S.σ,∃j∈ids,yC S m j/\S.σ j=b:=by
 refine⟨wo t λa p b h e=>l.inj a b (g a p).1 (g b h).1 e,λb h=>?_,λb h=>?_,λb h=>?_⟩<;>obtain⟨j,i,rfl⟩:=dE.1 h
 .exact l.qV j (g j i).1 (g j i).2
 .exact l.lof (g j i).1 (g j i).2
 grind
theorem Ou{α:Type}:∀{l:List<|Nat×α} {k:Nat} {a:α},look l k=some a->(k,a)∈l
 | [],k,a,h=>by cases h
 | (i,b)::l,k,a,h=>by
   rw[look] at h;cases hb:Nat.beq i k with
   | true=>simp_all
   | false=>rw[hb] at h;exact aB _<|Ou h
theorem Bz{α:Type}:∀{l:List<|Nat×α} {k:Nat} {a:α},(l.map Prod.fst).Nodup->(k,a)∈l->look l k=some a
 | [],k,a,_,h=>absurd h aF
 | (i,b)::l,k,a,hn,h=>by
   have⟨n1,g⟩:=bS.1 hn;rw[look];rcases aC.1 h with h|h
   .simp_all
   .have c:i≠k:=λe=>n1<|e▸dE.2 ⟨(k,a),h,rfl⟩;rw[gI.2 c];exact Bz g h
theorem vX{rows:List<|Nat×iM}:∀{fx:List<|Nat×Nat} {i:Nat} {b:iM},Gz fx rows i=some b->∃k,(k,i)∈fx/\look rows k=some b
 | [],i,b,h=>by cases h
 | (k,id)::fx,i,b,h=>by
   rw[Gz] at h;cases hb:Nat.beq id i with
   | true=>simp_all
   | false=>
     rw[hb] at h;have⟨j,c,g⟩:=vX h
     grind
theorem Ks{rows:List<|Nat×iM}:∀{fx:List<|Nat×Nat} {k i:Nat},(fx.map Prod.snd).Nodup->(k,i)∈fx->Gz fx rows i=look rows k
 | [],k,i,_,h=>absurd h aF
 | (k',id)::fx,k,i,hn,h=>by
   have⟨n1,g⟩:=bS.1 hn;rw[Gz];rcases aC.1 h with h|h
   .simp_all
   .have c:id≠i:=λe=>n1<|e▸dE.2 ⟨(k,i),h,rfl⟩;rw[gI.2 c];exact Ks g h
mutual
theorem LJ:∀(f:VF) {cs:List AV} {x:f.ty.T} {ids:List Nat} {r:List AV},VF.read m f cs=some (x,ids,r)->(VF.fx m f cs).map Prod.fst=f.GM/\∀p∈VF.fx m f cs,∃(t:Ty) (y:List t.T),(p.1,iM.arr false t y)∈VF.rows f x/\m.at p.2=.arr false t y
 | .d t,cs,x,ids,r,h=>by rw[aws];exact⟨by rfl,λp c=>absurd c aF⟩
 | .own t,cs,x,ids,r,h=>by rw[Qh];exact⟨by rfl,λp c=>absurd c aF⟩
 | .fix k t,cs,x,ids,r,h=>by
   simp only[VF.read] at h;cases cs with
   | nil=>cases h
   | cons v cs=>
     cases v<;>(try simp only at h)<;>try (cases h;done)
     case own id=>
      rw[VF.fx,VF.GM,VF.rows]
      grind
 | .ptr fs,cs,x,ids,r,h=>by
   simp only[VF.read] at h;cases cs with
   | nil=>cases h
   | cons v cs=>
     cases v<;>(try simp only at h)<;>try (cases h;done)
     case ptr id off=>
      cases off with
      | succ _=>cases h
      | zero=>
        cases hm:m.at id<;>rw[hm] at h<;>(try simp only at h)<;>try (cases h;done)
        case cH fz l=>
         cases fz with
         | true=>cases h
         | false=>
           simp only at h;cases hrd:VF.reads m fs l with
           | none=>grind
           | some q=>
             have⟨y,i,g⟩:=q;rw[hrd] at h;cases g with
             | cons _ _=>cases h
             | nil=>
               cases h;simp only[VF.fx,hm];exact xQ fs hrd
 | .nU fs,cs,x,ids,r,h=>by
   simp only[VF.read] at h;cases cs with
   | nil=>cases h
   | cons v cs=>
     cases v<;>(try simp only at h)<;>try (cases h;done)
     case ptr id off=>
      cases off with
      | succ _=>cases h
      | zero=>
        cases hm:m.at id<;>rw[hm] at h<;>(try simp only at h)<;>try (cases h;done)
        case cH fz l=>
         cases fz with
         | false=>cases h
         | true=>
           simp only at h;cases hrd:VF.reads m fs l with
           | none=>grind
           | some q=>
             have⟨y,i,g⟩:=q;rw[hrd] at h;cases g with
             | cons _ _=>cases h
             | nil=>
               cases h;simp only[VF.fx,hm];exact xQ fs hrd
theorem xQ:∀(fs:List VF) {cs:List AV} {x:Ty.Ts<|VF.iA fs} {ids:List Nat} {r:List AV},VF.reads m fs cs=some (x,ids,r)->(VF.yJ m fs cs).map Prod.fst=VF.i7 fs/\∀p∈VF.yJ m fs cs,∃(t:Ty) (y:List t.T),(p.1,iM.arr false t y)∈VF.gz fs x/\m.at p.2=.arr false t y
 | [],cs,x,ids,r,h=>by rw[VF.yJ,VF.i7];simp_all
 | [f],cs,x,ids,r,h=>by
   have i:VF.read m f cs=some (x,ids,r):=h;have c:VF.yJ m [f] cs=VF.fx m f cs:=by
    rw[VF.yJ,i];simp[VF.yJ,aJ]
   rw[c,VF.gz];simp only[VF.i7,aJ];exact LJ f i
 | f::g::fs,cs,x,ids,r,h=>by
   simp only[VF.reads] at h;cases h1:VF.read m f cs with
   | none=>grind
   | some p=>
     have⟨a,B,j⟩:=p;rw[h1] at h;simp only at h;cases h2:VF.reads m (g::fs) j with
     | none=>grind
     | some q=>
       rw[h2] at h;cases h;have c:VF.yJ m (f::g::fs) cs=VF.fx m f cs++VF.yJ m (g::fs) j:=by rw[VF.yJ,h1]
       have⟨a1,a2⟩:=LJ f h1;have⟨l,u⟩:=xQ (g::fs) h2;rw[c,fN,a1,l];refine⟨by rfl,λp v=>?_⟩;rw[show VF.gz (f::g::fs) (a,q.1)=VF.rows f a++VF.gz (g::fs) q.1 from rfl]
       grind
end
def Vb(p:Nat×iM):Nat×Ty:=(p.1,match p.2 with | .arr _ t _=>t|_=>.bool)
mutual
theorem KN:∀(f:VF) (x c:f.ty.T),(VF.rows f x).map Vb=(VF.rows f c).map Vb/\(VF.rows f x).map Prod.fst=f.GM/\∀p∈VF.rows f x,∃(t:Ty) (y:List t.T),p.2=.arr false t y
 | .d t,x,c=>by simp[VF.rows,VF.GM]
 | .own t,x,c=>by simp[VF.rows,VF.GM]
 | .fix k t,x,c=>by
   simp only[VF.rows];exact⟨rfl,rfl,λp g=>by grind⟩
 | .ptr fs,x,c=>by simp only[VF.GM];exact nu fs x c
 | .nU fs,x,c=>by simp only[VF.GM];exact nu fs x c
theorem nu:∀(fs:List VF) (x c:Ty.Ts<|VF.iA fs),(VF.gz fs x).map Vb=(VF.gz fs c).map Vb/\(VF.gz fs x).map Prod.fst=VF.i7 fs/\∀p∈VF.gz fs x,∃(t:Ty) (y:List t.T),p.2=.arr false t y
 | [],x,c=>by simp[VF.gz,VF.i7]
 | [f],x,c=>by
   simp only[VF.i7,aJ];exact KN f x c
 | f::g::fs,x,c=>by
   have⟨a1,a2,h⟩:=KN f (Prod.fst (α:=f.ty.T) (β:=Ty.Ts<|VF.iA<|g::fs) x)<|Prod.fst (α:=f.ty.T) (β:=Ty.Ts<|VF.iA<|g::fs) c;have⟨i,j,l⟩:=nu (g::fs) (Prod.snd (α:=f.ty.T) (β:=Ty.Ts<|VF.iA<|g::fs) x)<|Prod.snd (α:=f.ty.T) (β:=Ty.Ts<|VF.iA<|g::fs) c;have e:∀z,VF.gz (f::g::fs) z=VF.rows f (Prod.fst (α:=f.ty.T) (β:=Ty.Ts<|VF.iA<|g::fs) z)++VF.gz (g::fs) (Prod.snd (α:=f.ty.T) (β:=Ty.Ts<|VF.iA<|g::fs) z):=λz=>rfl;rw[e,e,fN,fN,fN,a1,i,a2,j];refine⟨rfl,by rfl,λp u=>(oJ.1 u).elim (h p)<|l p⟩
end
def Vd{x c:Ty.Ts<|VF.iA fs}(G:(VF.i7 fs).Nodup)(Y:VF.lens fs c=VF.lens fs x){k:Nat}{j:Ty}{y:List t.T}{p:List j.T}(h:(k,iM.arr false t y)∈VF.gz fs x)(F:(k,iM.arr false j p)∈VF.gz fs c):
  j=t/\p.length=y.length:=by
 have⟨K,N,_⟩:=nu fs x c;have⟨_,C,_⟩:=nu fs c x;have⟨i,v,e⟩:=je.1 h;have⟨B,g,u⟩:=je.1 F;have q:(VF.i7 fs)[i]? = some k:=by grind
 have J:(VF.i7 fs)[B]? = some k:=by grind
 have l:i=B:=by
  have⟨l1,l2⟩:=aR.1 q;have⟨l3,H⟩:=aR.1 J;exact(rZ G).1 (l2.trans H.symm)
 subst l;have O:((VF.gz fs x).map Vb)[i]? = some (k,t):=by rw[da,Jv v,e];rfl
 have V:((VF.gz fs c).map Vb)[i]? = some (k,j):=by rw[da,Jv g,u];rfl
 have W:(VF.lens fs x)[i]? = some y.length:=by rw[VF.lens,da,Jv v,e];rfl
 have X:(VF.lens fs c)[i]? = some p.length:=by rw[VF.lens,da,Jv g,u];rfl
 simp_all
mutual
theorem VR.row{w:World}{I:Nat->Prop}{k:Nat}{t:Ty}{y:List t.T}:∀(f:VF) {c:List Value} {x:f.ty.T} {B:List Nat},VR w I D f c x B->(k,iM.arr false t y)∈VF.rows f x->∃i,VR w I D (.fix k t) i y []
 | .d t,c,x,B,h,hm=>by simp[VF.rows] at hm
 | .own t,c,x,B,h,hm=>by simp[VF.rows] at hm
 | .fix k' t',c,x,B,h,hm=>by
   have e:=aG.1 hm;obtain⟨rfl,p⟩:=vS.1 h
   grind
 | .ptr fs,c,x,B,h,hm=>by
   have⟨b,l,_,_,j,T,fr,_,_,g⟩:=FC.1 h;exact ry.row fs g hm
 | .nU fs,c,x,B,h,hm=>by
   have⟨b,_,_,j,T,fr,_,_,g⟩:=vR.1 h;exact ry.row fs g hm
theorem ry.row{w:World}{I:Nat->Prop}{k:Nat}{t:Ty}{y:List t.T}:∀(fs:List VF) {i:List Value} {x:Ty.Ts<|VF.iA fs} {B:List Nat},ry w I D fs i x B->(k,iM.arr false t y)∈VF.gz fs x->∃p,VR w I D (.fix k t) p y []
 | [],i,x,B,h,c=>by simp[VF.gz] at c
 | [f],i,x,B,h,c=>VR.row f (t7.1 h) c
 | f::g::fs,i,x,B,h,c=>by
   have⟨C,F,u,v,_,_,j,l⟩:=A8.1 h;rcases oJ.1 (show _∈VF.rows f (Prod.fst (α:=f.ty.T) (β:=Ty.Ts<|VF.iA<|g::fs) x)++VF.gz (g::fs) (Prod.snd (α:=f.ty.T) (β:=Ty.Ts<|VF.iA<|g::fs) x) from c) with c|c
   .exact VR.row f j c
   .exact ry.row (g::fs) l c
end
mutual
theorem ZZ{α:Type}{a:α}:∀(f:VF) {x:f.ty.T} {k:TV α},(VF.neT af f x k).Is a->k.Is a/\∀(l:Nat) (t:Ty) (y:List t.T),(l,iM.arr false t y)∈VF.rows f x->y≠ []
 | .d t,x,k,h=>⟨by simpa only[VF.neT] using h,λl t y c=>by simp[VF.rows] at c⟩
 | .own t,x,k,h=>⟨by simpa only[VF.neT] using h,λl t y c=>by simp[VF.rows] at c⟩
 | .fix k' t',x,k,h=>by
   have⟨g,i⟩:=h;refine⟨i,λl t y c=>?_⟩;have e:=aG.1 c;cases e
   rintro rfl
   cases g
 | .ptr fs,x,k,h=>by simp only[VF.neT] at h;simp only[VF.rows];exact E8 fs h
 | .nU fs,x,k,h=>by simp only[VF.neT] at h;simp only[VF.rows];exact E8 fs h
theorem E8{α:Type}{a:α}:∀(fs:List VF) {x:Ty.Ts<|VF.iA fs} {k:TV α},(VF.Z0 af fs x k).Is a->k.Is a/\∀(l:Nat) (t:Ty) (y:List t.T),(l,iM.arr false t y)∈VF.gz fs x->y≠ []
 | [],x,k,h=>⟨h,λl t y c=>by simp[VF.gz] at c⟩
 | [f],x,k,h=>ZZ f h
 | f::g::fs,x,k,h=>by
   have⟨i,j⟩:=ZZ f (x:=Prod.fst (α:=f.ty.T) (β:=Ty.Ts<|VF.iA<|g::fs) x) h;have⟨p,u⟩:=E8 (g::fs) i;exact⟨p,λl t y c=>(oJ.1<|show _∈VF.rows f (Prod.fst (α:=f.ty.T) (β:=Ty.Ts<|VF.iA<|g::fs) x)++VF.gz (g::fs) (Prod.snd (α:=f.ty.T) (β:=Ty.Ts<|VF.iA<|g::fs) x) from c).elim (j l t y)<|u l t y⟩
end
def Ji{g:FuncId}{s:cn}(hs:s.bp P g)(dk:¬w0.D)(hW:WR w0 w S m)(ha:eD w S m aa C.toList)(h:(Lm af s m aa).Is (v,m'))(cs:List Frame):
  ∃w' S' z iU,Step w0 w S m w' S' m'/\CR w' S' m' v z/\Steps P (lone (Frame.enter P g C .normal) cs w) (lone iU cs w')/\iU.leaving P w' (.returned z):=by
 unfold Lm at h;split at h;exact h.elim;rename_i dl;have⟨L,hL,bj⟩:=oh dl<|ha.drop s.aK.length;cases hf:fJ af s.args m ((aa.drop s.aK.length).flatMap AV.cells) with
 | none=>rw[hf] at h;exact h.elim
 | some q=>
   have⟨m1,d0⟩:=q;rw[hf] at h;simp only at h;have⟨S1,s1,d9⟩:=ib hW hf hL;cases htd:q9 s.args d0 with
   | none=>rw[htd] at h;exact h.elim
   | some q=>
     have⟨y,r⟩:=q;rw[htd] at h;cases r with
     | cons _ _=>exact h.elim
     | nil=>
       have⟨v1,v2,e2,hy,dr⟩:=nD s.args htd d9;rw[bA.1 dr,aJ] at e2;rw[<-e2] at hy;have⟨c,G⟩:=zH (fs:=s.aK) (vs:=aa.take s.aK.length) s1.wr;have a3:=(ha.take s.aK.length).mono (s1.trans G).out;have e7:=gk.mono G.out.nH _ hy;generalize yK s.aK (aa.take s.aK.length) m1=mz at h G a3;generalize ft:aa.take s.aK.length=B at h a3;cases hrd:VF.reads mz s.aK B with
       | none=>rw[hrd] at h;exact h.elim
       | some q=>
         have⟨x,ids,r⟩:=q;rw[hrd] at h;cases r with
         | cons _ _=>exact h.elim
         | nil=>
           simp only at h;cases hck:nV ids&&(nV (fY B)&&(iG s.aK&&nV (VF.i7 s.aK))) with
           | false=>rw[hck] at h;exact h.elim
           | true=>
             rw[hck] at h;rw[eH,eH,eH] at hck;have⟨b6,b7,b8,b9⟩:=hck;have hn:=pO b6;have bh:=pO b7;generalize ae:VF.yJ mz s.aK B=fx at h;have⟨W,H⟩:=xQ s.aK hrd;rw[ae] at W H;have bc:=pO b9;have ba:(fx.map Prod.fst).Nodup:=by simp_all
             cases hbk:XO af s fx B (af.k s.fn (x,y)).1 ids mz with
             | none=>rw[hbk] at h;exact h.elim
             | some m2=>
             rw[hbk] at h;have⟨ab,h⟩:=OB h λk=>hs.all k (x,y);have⟨h,dj⟩:=E8 s.aK h;cases h;generalize d7:(λk=>match look fx k with|some id=>(c.σ id,c.δ id)|none=>(0,0))=D;have hD:∀p∈fx,D p.1=(c.σ p.2,c.δ p.2)/\c.vd p.2=false:=λp hp=>by
              have⟨t,l,r1,r2⟩:=H p hp;refine⟨by rw[<-d7];simp[Bz ba<|show(p.1,p.2)∈fx from hp],?_⟩;have b5:=G.wr.box p.2;rw[r2] at b5;cases hv:c.vd p.2 with
              | false=>rfl
              | true=>exact absurd (b5.2.1 hv)<|dj _ t l r1
             have⟨u1,u2,js,e3,ds,F,be,am,ca⟩:=VF.pQ (D:=D) G.wr s.aK hrd (by grind) a3;rw[ae] at F be;have a8:oX D s.aK=(fx.map Prod.snd).map c.σ:=by
              rw[oX,<-W,gj,gj];exact fh λp hp=>by grind
             have d6:(js++fx.map Prod.snd).map c.σ=js.map c.σ++oX D s.aK:=by simp_all
             rw[bA.1 ds,aJ] at e3;have⟨K,e4,bt⟩:=D6 G.wr b8 hrd (by rw[ae];omega) a3;rw[<-e3,e4] at ca;have⟨b1,b2,b3,b4⟩:=wu G.wr (F.2 hn) F.1 be;rw[d6] at b1 b2 b3 b4;have bk:∀i∈fY B,c.lv i (mz.at i)=true:=λi N=>by
              have⟨fz,cs,e1,_⟩:=bt i N;rw[e1];rfl
             have dt:((fY B).map c.σ).Nodup:=wo bh λa ha b hb e=>G.wr.inj a b (bk a ha) (bk b hb) e
             .have⟨e',w',iU,⟨z,he,g1,g2,g3,g4,g5,I',B',g6,gc,g7,g8,g9,O⟩,J,_,a4⟩:=hs.calls w c.I D x y _ _ _ G.wr.nH ca dt b1 b2 (bj _ y e7) ab cs;subst he;have ea:C=(mZ ((fY B).map c.σ)++C.toList.drop s.aK.length).toArray:=by
               rw[<-e4,fo,lS]
              rw[<-ea] at J;have b0:=ry.blocks K g7;generalize Y:Gz fx (VF.gz s.aK (s.fn (x,y)).1)=rows;have bm:∀i∈fY B,rows i=none:=λi N=>by
               cases X:rows i with
               | none=>rfl
               | some bx=>
                 rw[<-Y] at X;have⟨k,Z,_⟩:=vX X
                 grind
              have bz:(fx.map Prod.snd).Nodup:=(dV.1<|F.2 hn).2.1;have ag:=hs.keep x y ab
              have bn:∀i∈ids,∀bx,rows i=some bx->∃(t:Ty) (x x':List t.T),mz.at i=.arr false t x/\bx=.arr false t x'/\x'.length=x.length/\x'.length<=gg/\c.vd i=false/\¬I' (c.σ i)/\
                ∃(us:Array Value) (T:TypeId) (fr:Nat×Nat),w'.heap[c.σ i]? = some (.cells us T fr)/\gU fr us.size/\c.δ i+x'.length*t.size<=us.size/\∀(n:Nat) (y:t.T),x'[n]? = some y->bW w' I' t ((us.toList.drop<|c.δ i+n*t.size).take t.size) y:=λi N bx X=>by
               rw[<-Y] at X;have⟨k,Z,q2⟩:=vX X;have⟨t,l,r1,r2⟩:=H _ Z;have q3:=Ou q2;have⟨_,_,q4⟩:=nu s.aK (s.fn (x,y)).1 (s.fn (x,y)).1;have⟨t',l',e⟩:=q4 _ q3;subst e;obtain⟨rfl,bb⟩:=Vd bc ag r1 q3;have⟨iH,hv⟩:=ry.row s.aK g7 q3;have⟨_,az,_,k1,k2,an,T,fr,k3,k4,k5,k6⟩:=vS.1 hv;have⟨d1,d2⟩:=hD _ Z;rw[d1] at k3 k5 k6;refine⟨t',l,l',r2,rfl,bb,k2,d2,?_,an,T,fr,k3,k4,aV (fO (aH _ k1) _) k5,k6⟩;exact(g9 _<|oJ.2<|.inr (by rw[a8];exact dE.2 ⟨i,dE.2 ⟨_,Z,rfl⟩,rfl⟩)).2
              have s3:=Uy (rows:=rows) (roots:=fY B) G.wr hn am b4 g1 g2 (λk=>absurd k dk) g3 g4 g5 g6 gc bn λi N _ de cs hm=>by have:=b0 i de cs hm;exact⟨(g9 _<|oJ.2<|.inl this.1).2,this.2⟩
              have di:∀i∈ids,i<mz.length:=λi N=>Mem.pL λe=>by
               rcases am i N with ⟨t,x,h⟩|⟨cs,h⟩<;>rw[e] at h<;>cases h
              have V:=λj=>Nq (rows:=rows) (roots:=fY B) (m:=mz) (j:=j) hn di;have hA:∀b∈B',w0.free b/\¬(c.I b\/I' b):=λb hb=>by
               have⟨k1,k2⟩:=g9 b<|oJ.2<|.inl hb;refine⟨k1.elim (b3 b) λk=>.inl<|aV G.wr.size k,λhI=>hI.elim (λhI=>?_) k2⟩;rcases k1 with k1|k1
               .grind
               .have:=G.wr.nH b hI;omega
              have hR:oS {c with I:=λb=>c.I b\/I' b} (Cb rows (fY B) ids mz) s.aK B ((fY B).map c.σ):=K.congr λj hj fz cs hm=>by
               have⟨ez,ew,e1,e2⟩:=bt j hj;rw[hm] at e1;cases e1;cases fz with
               | false=>
                 refine⟨rfl,List.replicate cs.length .undef,?_,GU⟩;rw[V j,if_pos<|e2 rfl,hm,RS (bm j hj)<|jP.2 hj]
               | true=>
                 refine⟨rfl,cs,?_,rfl⟩;rw[V j,if_neg λN=>by rcases am j N with ⟨t,x,h⟩|⟨cs,h⟩<;>rw[h] at hm<;>cases hm];omega
              have hC:∀b∈B',∀j,c.lv j ((Cb rows (fY B) ids mz).at j)=true->c.σ j=b->j∈fY B:=λb hb j hl he=>by
               by_cases N:j∈ids
               .rw[V j,if_pos N] at hl;cases X:rows j with
                | some bx=>
                  rw[<-Y] at X;have⟨k,Z,_⟩:=vX X;have⟨_,_,n3⟩:=dV.1 g8;exact absurd (by rw[a8,<-he];exact dE.2 ⟨j,dE.2 ⟨_,Z,rfl⟩,rfl⟩) λk=>n3 b hb b k rfl
                | none=>
                unfold yx at hl;rw[X] at hl;cases hr:tx (fY B) j with
                | false=>rw[hr] at hl;cases hl
                | true=>exact jP.1 hr
               .rw[V j,if_neg N] at hl;rcases (g9 b (oJ.2 (.inl hb))).1 with k|k
                .have⟨i,db,⟨l1,_⟩,l3⟩:=b4 b k;exact absurd (G.wr.inj j i hl l1 (he.trans l3.symm)▸db) N
                .have h1:=(G.wr.lo j hl).2;omega
              have dv:p8 w' I' D {c with I:=λb=>c.I b\/I' b} (Cb rows (fY B) ids mz) (ak2 fx) (VF.gz s.aK (s.fn (x,y)).1):=λk t l us hm hv=>by
               have⟨_,f2,_⟩:=nu s.aK (s.fn (x,y)).1 (s.fn (x,y)).1;have hk:k∈fx.map Prod.fst:=by rw[W,<-f2];exact dE.2 ⟨_,hm,rfl⟩
               obtain⟨⟨k',id⟩,Z,rfl⟩:=dE.1 hk;have⟨d1,d2⟩:=hD _ Z;have dd:id∈ids:=F.1 id<|oJ.2<|.inr<|dE.2 ⟨_,Z,rfl⟩;have X:rows id=some (.arr false t l):=by rw[<-Y,Ks bz Z];exact Bz (by rw[f2];exact bc) hm
               obtain⟨_,az,rfl,k1,k2,an,T,fr,k3,k4,k5,k6⟩:=vS.1 hv;rw[d1] at k3 k5 ⊢;rw[ak2,Bz ba Z];refine bL.2 ⟨_,[],rfl,?_,bA.2 rfl⟩;rw[CR,V id,if_pos dd,y9 X];exact .inr ⟨d2,az,rfl,k1,an,T,fr,k3,k5⟩
              rw[XO,show(af.k s.fn (x,y))=s.fn (x,y) from rfl,Y] at hbk;have⟨S3,s4,_⟩:=VF.xw (I:=I') (D:=D) s.aK s3.wr (λb hb=>.inr hb) g7 (dV.1 g8).1 hA hR bh hC dv hbk;refine⟨w',S3,z,iU,(s1.trans G).trans<|s3.trans s4,?_,J,a4⟩;cases hrp:s.rp with
              | false=>
                rw[hrp] at O;exact HE (I:=I') (λb hb=>(s4.out.nH b<|.inr hb).1) O
              | true=>
                rw[hrp] at O;have O:(mZ<|(fY B).map c.σ).head? = some z:=O;have e5:C.toList.head? = some z:=by grind
                have hc:=ha.mono ((s1.trans G).trans<|s3.trans s4).out;cases aa with
                | nil=>rw[bA.1 ha] at e5;cases e5
                | cons a as=>
                  have⟨u,us,e6,hu,_⟩:=bL.1 hc;rw[e6] at e5;cases e5;exact hu
theorem Gt:∀{fs:List FuncId} {i:List AV} {j:List Value},Gs fs i=true->eD w S m i j->j=fnV fs
 | [],i,j,h,hc=>by
   cases i with
   | nil=>exact bA.1 hc
   | cons _ _=>cases h
 | f::fs,i,j,h,hc=>by
   cases i with
   | nil=>cases h
   | cons v i=>
     obtain⟨u,C,rfl,B,t⟩:=bL.1 hc;cases v<;>(try (cases h;done));rename_i g a c;cases a<;>(try (cases h;done));cases c<;>(try (cases h;done));have h:=(eH _ _).mp (show(Nat.beq g f&&Gs fs i)=true from h);have⟨x,y,e,l,p⟩:=vk.1 B;rw[Gt h.2 t,e,dX.1<|bA.1 l,dX.1<|bA.1 p,vL h.1];rfl
def RF(c:WR w0 w S m){id:Nat}{x N:List t.T}(W:m.at id=.arr false t x)(B:N.length=x.length){v:World}{Y:Nat->Prop}(a8:v.os=w.os)(a9:v.tape=w.tape)(a6:w0.D->w.drawn<=v.drawn)(X:v.output=w.output)(K:w.heap.size<=v.heap.size)
  (hh:∀b,b<w.heap.size->(S.vd id=false->b≠S.σ id)->v.heap[b]? = w.heap[b]?) (O:∀b,Y b->(S.I b\/w.heap.size<=b)/\b<v.heap.size) (a5:∀(b:Nat) (F:Array Value) (T:TypeId) (fr:Nat×Nat),w.heap[b]? = some (.cells F T fr)->∃(iH:Array Value) (T':TypeId) (iU:Nat×Nat),v.heap[b]? = some (.cells iH T' iU)/\iH.size=F.size)
  (l:S.vd id=false->N.length<=gg/\∃(F:Array Value) (T:TypeId) (fr:Nat×Nat),v.heap[S.σ id]? = some (.cells F T fr)/\gU fr F.size/\S.δ id+N.length*t.size<=F.size/\∀(i:Nat) (y:t.T),N[i]? = some y->bW v Y t ((F.toList.drop<|S.δ id+i*t.size).take t.size) y) :
  Step w0 w S m v {S with I:=λb=>S.I b\/Y b} (m.set id<|.arr false t N):=by
 have u:id<m.length:=Mem.pL λe=>by simp_all
 have C:S.vd id=false->S.lv id (m.at id)=true/\S.fz id (m.at id)=false:=λh=>by grind [rP,vY]
 have g:∀j,S.lv j (Mem.at (m.set id<|.arr false t N) j)=true->S.lv j (m.at j)=true/\(j=id->S.vd id=false):=λj h=>by
  rw[Mem.fU u] at h;by_cases p:j=id
  .subst p;rw[if_pos rfl] at h;rw[W];exact⟨h,λ_=>by have e:(!S.vd j)=true:=h;simpa using e⟩
  grind
 have J:∀j,S.lv j (m.at j)=true->j≠id->v.heap[S.σ j]? = w.heap[S.σ j]? :=λj Z hj=>hh _ (c.lo j Z).2 λG e=>hj<|c.inj j id Z (C G).1 e;have hO:dM w S m v {S with I:=λb=>S.I b\/Y b} (m.set id<|.arr false t N):=by
  refine⟨λb l=>⟨.inl l,hh b (c.nH b l) λG e=>c.qV id (C G).1 (C G).2<|e▸l⟩,λj hj=>?_,λj hc=>?_⟩
  .rw[Mem.fU u];by_cases p:j=id
   .subst p;rw[if_pos rfl,W];exact⟨⟨rfl,B,rfl⟩,λ_=>⟨rfl,rfl,rfl,λ_ F T fr h=>a5 _ F T fr h⟩⟩
   .rw[if_neg p]
    grind [fS]
  .rw[Mem.fU u];by_cases p:j=id
   .subst p;rw[W] at hc;cases hc
   grind
 refine⟨⟨a8.trans c.os,c.tape.on a9 a6,X.trans c.output,aV c.size K,λb l=>?_,λb l=>?_,λj=>?_,λi j h1 h2 p=>c.inj i j (g i h1).1 (g j h2).1 p,λj h=>?_,λj h h'=>?_,λj h=>?_,λi b h=>⟨by rw[cd];exact(c.root i b h).1,(c.root i b h).2⟩,λb F T fr h=>by
  have⟨aq,T1,am,h1,h2⟩:=c.cells b F T fr h
  grind⟩,hO,λb l=>?_⟩
 .rw[hh b (bD (nE.old l) c.size) λG e=>l<|e▸c.lof (C G).1 (C G).2];exact c.base b l
 .rcases l with l|l
  .exact bD (c.nH b l) K
  grind
 .rw[Mem.fU u];by_cases p:j=id
  .subst p;rw[if_pos rfl];have H:=c.box j;rw[W] at H;refine⟨by rw[B];exact H.1,λe=>cu.1 (by rw[B,H.2.1 e];rfl),λG=>?_⟩
   grind [bW.mono]
  .rw[if_neg p];exact(c.box j).mono hO rfl rfl rfl λZ=>J j Z p
 .exact⟨(c.lo j (g j h).1).1.imp .inl<|λx=>x,bD (c.lo j (g j h).1).2 K⟩
 .have V:S.fz j (m.at j)=false:=by
   rw[Mem.fU u] at h';by_cases p:j=id
   .subst p;rw[W];rfl
   .rw[if_neg p] at h';exact h'
  rintro (hI|hI)
  .exact c.qV j (g j h).1 V hI
  .rcases (O _ hI).1 with k|k
   .exact c.qV j (g j h).1 V k
   .have h1:=(c.lo j (g j h).1).2
    grind
 .rw[Mem.fU u] at h;by_cases p:j=id
  .subst p;rw[if_pos rfl,vY] at h;cases h
  .rw[if_neg p] at h;exact .inl<|c.Ju j h
 .rcases l with l|l
  .exact .inl l
  .rcases (O b l).1 with k|k
   .exact .inl k
   .exact .inr<|.inl<|aV c.size k
def V6{b:Bool}{c:List AV}{g:List Value}(h:eD w S m c g):eD w S m (O_ b c)<|O_ b g:=by
 cases b
 .exact h
 .show eD w S m (c.drop (c.length-1)++c.take (c.length-1))<|g.drop (g.length-1)++g.take (g.length-1);rw[h.length];exact(h.drop _).append (h.take _)
def VJ{b:Bool}{l:List α}{a:α}{r:List α}(h:O_ b l=a::r):l=zu b a r:=by
 cases b
 .exact h
 .have h:l.drop (l.length-1)++l.take (l.length-1)=a::r:=h;show l=r ++ [a];cases e:l.drop (l.length-1) with
  | nil=>
    rw[List.drop_eq_nil_iff] at e;have:l=[]:=bg (by omega);subst this;cases h
  | cons x t=>
    have i:t=[]:=by
     have:=congrArg List.length e;rw[dR,bd] at this;exact bg (by omega)
    subst i;rw[e,kW] at h;injection h with c g;rw[<-g,<-c,<-e,fo]
def Uv{b:Bool}{a:α}{l:List α}:(zu b a l).length=l.length+1:=by
 cases b
 .rfl
 .exact uy
def V5{b:Bool}{a:AV}{v:Value}{L:List AV}(h:CR w S m a v)(g:eD w S m L c):eD w S m (zu b a L)<|zu b v c:=by
 cases b
 .exact bL.2 ⟨v,_,rfl,h,g⟩
 .exact g.append<|bL.2 ⟨v,[],rfl,h,bA.2 rfl⟩
def Jh{g:FuncId}{s:fH}(hs:s.bp P g)(ab:¬w0.D)(hW:WR w0 w S m)(ha:eD w S m aa C.toList)(h:(Ll af s m aa).Is (v,m'))(cs:List Frame):
  ∃O S' z iU,Step w0 w S m O S' m'/\CR O S' m' v z/\Steps P (lone (Frame.enter P g C .normal) cs w) (lone iU cs O)/\iU.leaving P O (.returned z):=by
 unfold Ll at h;have a8:=V6 (b:=s.xk) ha;cases hsw:O_ s.xk aa with
 | nil=>rw[hsw] at h;exact h.elim
 | cons a rest=>
   rw[hsw] at h a8;simp only at h;have⟨u,bx,e,hu,G⟩:=bL.1 a8;cases hok:j6 s.args (rest.take s.args.length)&&Gs s.ll (rest.drop s.args.length) with
   | false=>rw[hok] at h;exact h.elim
   | true=>
     rw[hok] at h;rw[eH] at hok;have⟨L,hL,N⟩:=oh hok.1<|G.take s.args.length;have ba:=Gt hok.2<|G.drop s.args.length;cases hf:fJ af s.args m ((rest.take s.args.length).flatMap AV.cells) with
     | none=>rw[hf] at h;exact h.elim
     | some q=>
       have⟨m1,aw⟩:=q;rw[hf] at h;simp only at h;have⟨K,J,b8⟩:=ib hW hf hL;cases htd:q9 s.args aw with
       | none=>rw[htd] at h;exact h.elim
       | some q=>
         have⟨y,r⟩:=q;rw[htd] at h;cases r with
         | cons _ _=>exact h.elim
         | nil=>
           have⟨v1,v2,e2,hy,be⟩:=nD s.args htd b8;rw[bA.1 be,aJ] at e2;rw[<-e2] at hy;have ac:=hu.mono J.out;have ea:C=(zu s.xk u<|bx.take s.args.length++fnV s.ll).toArray:=by
            rw[<-ba,fo,<-VJ e,lS]
           have read:∀{x:List s.elem.T} {ids:List Nat},VF.read m1 (.own s.elem) [a]=some (x,ids,[])->∃H:List Nat,(ids.Nodup->H.Nodup)/\(∀j∈H,j∈ids)/\(∀j∈H,yC K m1 j)/\VR w K.I (λ_=>(0,0)) (.own s.elem) [u] x (H.map K.σ):=by
            intro x ids bh;have⟨u1,u2,H,e3,h2,h3,h4,_,h6⟩:=VF.wD (D:=λ_=>(0,0)) J.wr (.own s.elem) bh (by rw[Qh];exact λp hp=>absurd hp aF)<|bL.2 ⟨u,[],rfl,ac,bA.2 rfl⟩;rw[Qh] at h3 h4;rw[nN,mG,aJ] at h3;rw[mG,aJ] at h4;rw[bA.1 h2,aJ] at e3;rw[<-e3] at h6;exact⟨H,h3.2,h3.1,h4,h6⟩
           cases a<;>(try simp only at h)<;>(try exact h.elim)
           case own id=>
            cases hm:m1.at id<;>rw[hm] at h<;>(try simp only at h)<;>(try exact h.elim);rename_i fz t x;cases fz with
            | true=>exact h.elim
            | false=>
              simp only at h;by_cases l:t.beq s.elem=true
              .rw[dif_pos l] at h;have ht:=Ty.eq_of_beq l;have⟨el,as,cf,d2,d0,a5,cz⟩:=s;subst ht;have⟨F,h⟩:=h;cases h;have⟨H,j0,j1,j2,Y⟩:=read (x:=x) (ids:=[id]) (by simp only[VF.read,hm];rw[dif_pos l];rfl);have⟨b1,b2,b3,b4⟩:=wu J.wr (j0<|by simp) j1 j2;have⟨e',O,iU,⟨z,he,Z,g2,g3,g4,g5,I',g6,gc,g7,g8⟩,c,_,B⟩:=hs.calls w K.I x y u _ _ J.wr.nH Y b2 (N _ y hy) F cs;subst he;rw[<-ea] at c;have X:=ac;rw[CR,hm] at X;have hB:∀b∈H.map K.σ,K.vd id=false/\b=K.σ id:=λb l=>by
                have⟨j,hj,l1,l2⟩:=b4 b l;rw[aG.1 hj] at l1 l2;exact⟨by have:=l1.1;rw[hm,rP] at this;simpa using this,l2.symm⟩
               have W:(a5 (x,y)).1.length=x.length:=by
                rcases nT.1 g7 with ⟨k1,_,a,k3⟩|⟨b,dl,av,k2,k3,_⟩<;>rcases X with ⟨_,l1,a',l2⟩|⟨l1,a4,l2,_⟩
                all_goals grind
               have s2:=RF J.wr hm W Z g2 (λk=>absurd k ab) g3 g4 (λb l hx=>g5 b l λa9=>hx (hB b a9).1 (hB b a9).2) g6 gc λhx=>by
                rcases X with ⟨l1,_⟩|⟨l1,a4,l2,_⟩
                .grind
                .rcases nT.1 g7 with ⟨k1,kB,a,k3⟩|⟨b,dl,av,k2,k3,k4,k5,us,T,fr,k6,k7,k8,k9⟩
                 .have V:=J.wr.box id;rw[hm] at V;have⟨bz,T2,az,Z,g2,g3,g4⟩:=V.2.2 hx;exact⟨by rw[W];exact V.1,bz,T2,az,by rw[g5 _ (yM Z) (by rw[kB];exact aF)];exact Z,g2,by rw[W];exact g3,λi z hz=>by rw[show(a5 (x,y)).1=[] from k1] at hz;cases hz⟩
                 .rw[l2] at k3;simp at k3;have⟨⟨q1,q2⟩,_,q4⟩:=k3;refine⟨k5,us,T,fr,by rw[q1];exact k6,k7,?_,by rw[q2];exact k9⟩;rw[q2];exact aV (fO (aH _ k4) _) k8
               exact⟨O,_,z,iU,J.trans s2,HE (I:=I') (λb l=>Or.inr l) g8,c,B⟩
              .rw[dif_neg l] at h;exact h.elim
           case eT b0=>
            have⟨F,h⟩:=h;cases h;have⟨H,j0,j1,j2,Y⟩:=read (x:=[]) (ids:=[]) (by rfl);have bc:H=[]:=List.eq_nil_iff_forall_not_mem.2 λj hj=>absurd (j1 j hj) aF;subst bc;have⟨e',O,iU,⟨z,he,Z,g2,g3,g4,g5,I',g6,gc,g7,g8⟩,c,_,B⟩:=hs.calls w K.I [] y u _ _ J.wr.nH Y (λb l=>absurd l aF) (N _ y hy) F cs;subst he;rw[<-ea] at c;have s2:=Step.extend J.wr Z g2 (λk=>absurd k ab) g3 g4 (λb l=>g5 b l aF) λb l=>(g6 b l).1.imp (λh=>h) λk=>⟨k,(g6 b l).2⟩;exact⟨O,_,z,iU,J.trans s2,HE (I:=I') (λb l=>Or.inr l) g8,c,B⟩
def TL{g:List AV}(h:eD w S m g c):CR w S m (gW g)<|al3 c:=by
 match g,c,h with
 | [],c,h=>rw[bA.1 h];exact jZ.2 ⟨#[],rfl,bA.2 rfl⟩
 | [a],c,h=>
   obtain⟨u,v,rfl,l,i⟩:=bL.1 h;rw[bA.1 i];exact l
 | a::b::g,c,h=>
   obtain⟨u,v,rfl,l,i⟩:=bL.1 h;obtain⟨x,j,rfl,t,p⟩:=bL.1 i;exact jZ.2 ⟨(u::x::j).toArray,rfl,h⟩
def Jj{g:FuncId}{s:pG}(hs:s.bp P g)(a0:¬w0.D)(hW:WR w0 w S m){W:List AV}{i:Array Value}{F:Mem}(ha:eD w S m W i.toList)(h:(Ln af s m W).Is (v,F))(cs:List Frame):
  ∃c G z C,Step w0 w S m c G F/\CR c G F v z/\Steps P (lone (Frame.enter P g i .normal) cs w) (lone C cs c)/\C.leaving P c (.returned z):=by
 unfold Ln at h;split at h;exact h.elim;rename_i a3;obtain⟨L,hL,N⟩:=oh a3 ha;cases hf:fJ af s.args m (W.flatMap AV.cells) with
 | none=>rw[hf] at h;exact h.elim
 | some q=>
   obtain⟨m1,X⟩:=q;rw[hf] at h;simp only at h;obtain⟨S1,H,Z⟩:=ib hW hf hL;cases htd:q9 s.args X with
   | none=>rw[htd] at h;exact h.elim
   | some q=>
     obtain⟨x,r⟩:=q;rw[htd] at h;cases r with
     | cons _ _=>exact h.elim
     | nil=>
       simp only at h;obtain⟨u1,u2,e,hx,hr⟩:=nD s.args htd Z;have a4:=bA.1 hr;rw[a4,aJ] at e;rw[<-e] at hx;cases hwr:VF.write af (λ_=>.undef) s.out (af.k s.fn x).2.1 m1 with
       | mk m2 vs=>
         rw[hwr] at h
         match vs,h,hwr with
         | [],h,_=>exact h.elim
         | _::_::_,h,_=>exact h.elim
         | [v2],h,hwr=>
           obtain⟨K,h⟩:=h;obtain⟨e',c,C,⟨z,he,g1,g2,g3,g4,g5,J,D,B,z1,zs,hz,g6,Y,g8⟩,p,_,u⟩:=hs.calls w S1.I x i H.wr.nH (N _ x hx) K cs;subst he;have s2:=Step.extend H.wr g1 g2 (λk=>absurd k a0) g3 g4 g5 g6;have no:(s.opt=true/\(s.fn x).1=false/\z1=.pointer none)->F=m1/\v=gW (.gN::gL af s.res (s.fn x).2.2)->∃c G z C,Step w0 w S m c G F/\CR c G F v z/\Steps P (lone (Frame.enter P g i .normal) cs w) (lone C cs c)/\C.leaving P c (.returned z):=by
            rintro ⟨_,_,rfl⟩ ⟨rfl,rfl⟩
            exact⟨c,_,z,C,H.trans s2,by rw[hz];exact TL<|bL.2 ⟨_,zs,rfl,by rw[CR],oo (I:=J) (λb l=>Or.inr l) g8⟩,p,u⟩
           have O:((s.opt=true->(s.fn x).1=true)/\VR c J D s.out [z1] (s.fn x).2.1 B/\B.Nodup/\∀b∈B,w.heap.size<=b/\¬J b)->F=m2/\v=gW (v2::gL af s.res (s.fn x).2.2)->∃c G z C,Step w0 w S m c G F/\CR c G F v z/\Steps P (lone (Frame.enter P g i .normal) cs w) (lone C cs c)/\C.leaving P c (.returned z):=by
            rintro ⟨_,k7,k8,V⟩ ⟨rfl,rfl⟩
            obtain⟨S3,s3,c3,_⟩:=VF.yz (I:=J) s.out s2.wr (λb l=>.inr l) k7 k8 (λb l=>⟨.inl<|aV H.wr.size (V b l).1,λk=>k.elim (λk=>absurd (H.wr.nH b k)<|gx (V b l).1) (V b l).2,λj hj e=>absurd (e▸(H.wr.lo j hj).2)<|gx (V b l).1⟩) λk t y us hm hv=>by obtain⟨_,an,rfl,_⟩:=vS.1 hv;exact bL.2 ⟨_,[],rfl,gT,bA.2 rfl⟩
            rw[show VF.write af (λ_=>.undef) s.out (s.fn x).2.1 m1=(F,[v2]) from hwr] at s3 c3;obtain⟨z',iH,e3,a5,hn⟩:=bL.1 c3;cases e3;refine⟨c,S3,z,C,(H.trans s2).trans s3,?_,p,u⟩;rw[hz];exact TL<|bL.2 ⟨_,zs,rfl,a5,oo (I:=J) (λb l=>(s3.out.nH b<|.inr l).1) g8⟩
           cases ho:s.opt with
           | false=>
             rw[ho] at h;cases h;exact O (Y.resolve_left λk=>by grind) ⟨rfl,rfl⟩
           | true=>
             rw[ho] at h;rcases h with ⟨l,h⟩|⟨l,h⟩
             .cases h;refine O (Y.resolve_left λk=>?_) ⟨rfl,rfl⟩;have l:(s.fn x).1=true:=l
              grind
             .cases h;refine no (Y.resolve_right λk=>?_) ⟨rfl,rfl⟩;have l:(s.fn x).1=false:=l
              grind
def F1{R:Type}{E:kD R}{Fin:R->Value->World->Prop}{I0:Nat->Prop}(c:Fits P E Fin w0 I0){g:FuncId}{y:List AV}{C:TV<|AV×Mem}(h:sV af E g m y=some C):
  (∃F,P.funcs[g]? = some F/\F.body.isSome=true/\(F.name == "runtime.NumGoroutine")=false)/\
  ∀{w:World} {S:St} {i:Array Value} {v:AV} {u:Mem},WR w0 w S m->eD w S m y i.toList->C.Is (v,u)->∀cs:List Frame,
   ∃t x z B,Step w0 w S m t x u/\CR t x u v z/\Steps P (lone (Frame.enter P g i .normal) cs w) (lone B cs t)/\B.leaving P t (.returned z):=by
 unfold sV at h;cases hp:look E.tO g with
 | some s=>
   rw[hp] at h;cases h;exact⟨(c.tO g s hp).body,λj l h cs=>Jk (c.tO g s hp) (λd=>by rw[(c.zk d).2.1] at hp;cases hp) j l h cs⟩
 | none=>
   rw[hp] at h;cases hq:look E.tN g with
   | none=>
     rw[hq] at h;cases hr:look E.tM g with
     | none=>
       rw[hr] at h;simp only at h;split at h
       rotate_left
       cases h;rename_i s p;cases h;exact⟨(c.ops g s p).body,λj l h cs=>Jj (c.ops g s p) (λd=>by rw[(c.zk d).2.2.2.2] at p;cases p) j l h cs⟩
     | some s=>
       rw[hr] at h;cases h;exact⟨(c.tM g s hr).body,λj l h cs=>Jh (c.tM g s hr) (λd=>by rw[(c.zk d).2.2.2.1] at hr;cases hr) j l h cs⟩
   | some s=>
     rw[hq] at h;cases h;exact⟨(c.tN g s hq).body,λj l h cs=>Ji (c.tN g s hq) (λd=>by rw[(c.zk d).2.2.1] at hq;cases hq) j l h cs⟩
end
end Go.Ev
