/-
  PROVED: what bytes.Clone and functions of the packages signal, clock and metronomeref13 compute. Conditions: none.
-/
import Derived.Test.YtjceiokllpmnkaaGreatHa
import Derived.Shelf.Bytes.SlClone
namespace Go.Ev.M
open Go.Proofs
set_option maxRecDepth 100000
set_option linter.unusedVariables false
set_option linter.unusedSimpArgs false
open Go.Ev.Pl
def rhoC:Shelf.Ren:=⟨fun x=>match x with|4=>134|n=>n,fun x=>match x with|22=>30|4=>4|5=>5|n=>n,fun x=>x⟩
theorem Kc:SlLaysK.n4 Tryz.prog rhoC:=
 {mixed:=by kernel_rfl,f4:=Tryz.func134.trans (congrArg some (by kernel_rfl)),t4:=Tryz.underlying4,a4:=Tryz.isAgg4,z4:=Tryz.sizeOf4,v4:=Tryz.zeroValue4,t22:=Tryz.underlying30,a22:=Tryz.isAgg30,z22:=Tryz.sizeOf30,v22:=Tryz.zeroValue30,t5:=Tryz.underlying5,i5:=by kernel_rfl}
def mj:List Int→List Int:=fun x=>x
def Uv:aC:=⟨[.slice (.int .u8)], [.slice (.int .u8)],@tt (List Int),mj⟩
theorem C5{w:World}{I:Nat→Prop}{x:List Int}{v:Value}(hv:aN w I (.slice (.int .u8)) [v] x):Calls Tryz.prog 134 #[v] w fun e w'=>∃v,e=.returned v∧w'.os=w.os∧w'.tape=w.tape∧w'.output=w.output∧w.heap.size≤w'.heap.size∧(∀b,b<w.heap.size→w'.heap[b]? = w.heap[b]?)∧
   ∃I',(∀b,I' b→I b∨(w.heap.size≤b∧b<w'.heap.size))∧aN w' I' (.slice (.int .u8)) [v] x:=by
 have hx:x.length≤cv∧∀y∈x,IntKind.u8.has y:=aN.has _ hv
 obtain⟨a,cap,e,h1,h2,h3,h4⟩:=bR.1 hv
 cases e
 cases a with
 | none=>
   have hx0:x=[]:=List.eq_nil_of_length_eq_zero (by have h3':cap=0:=h3 rfl;have h1':x.length≤cap:=h1;omega)
   subst hx0
   refine(Any.bytes_Clone_nil Kc 0 cap w).mono ?_
   rintro e w' ⟨rfl,rfl⟩
   exact⟨_,rfl,rfl,rfl,rfl,Nat.le_refl _,fun _ _=>rfl,I,fun b h=>.inl h,bR.2 ⟨none,0,rfl,Nat.le_refl _,Nat.zero_le _,(fun _=>rfl),fun i y h=>by cases h⟩⟩
 | some a=>
   refine(Any.bytes_Clone_at Kc a x.length cap x w rfl h2 fun i hi=>?_).mono ?_
   ·obtain⟨b,off,us,ea,_,hl,hr,hc⟩:=h4 i x[i] (List.getElem?_eq_getElem hi)
    cases ea
    have hus:=(jj.1 hc).1
    subst hus
    have:=hr 0 _ rfl
    rw[Addr.add_lit,List.getD_eq_getElem?_getD,List.getElem?_eq_getElem hi]
    simpa [Ty.size] using this
   ·rintro e w' ⟨v',rfl,⟨hn,hrow⟩,hnil,hb⟩
    rcases hrow with ⟨hz,_⟩|⟨g,cap',cur,rfl,hbase,hg,hcap,hml,hsz,htk⟩
    ·exact absurd hz hnil
    refine⟨_,rfl,hb.os,hb.tape,hb.output,hb.size,hb.block,fun b=>w.heap.size≤b∧b<w'.heap.size,fun b h=>.inr h,bR.2 ⟨_,cap',rfl,hcap,h2,(fun h=>by cases h),fun i y hy=>?_⟩⟩
    have hy:x[i]? = some y:=hy
    have hi:i<x.length:=(List.getElem?_eq_some_iff.1 hy).1
    refine⟨g,0, [.int .u8 y],rfl,⟨hbase,(Array.getElem?_eq_some_iff.1 hg).1⟩,rfl,?_,jj.2 ⟨rfl,hx.2 y (List.mem_of_getElem? hy)⟩⟩
    have hrw:=dZ (w:=w') hg i 1
    have:(cur.toList.drop i).take 1=[Value.int .u8 y]:=by
     have h5:(cur.toList.take (x.length*1))[i]? = some (Value.int .u8 y):=by
      rw[htk,List.getElem?_map,hy];rfl
     rw[List.getElem?_take_of_lt (by omega)] at h5
     obtain⟨h6,h7⟩:=List.getElem?_eq_some_iff.1 h5
     rw[List.drop_eq_getElem_cons h6,h7];rfl
    rw[this] at hrw
    simpa [Ty.size] using hrw
theorem B6:aC.Sound Tryz.prog 134 Uv:=by
 refine⟨fun w I x aa hI hrep _=>?_,⟨Tryz.f134,Tryz.func134,by kernel_rfl,by kernel_rfl⟩⟩
 obtain⟨l⟩:=aa
 obtain⟨v,rfl,hv⟩:∃v,l=[v]∧iE w I (.slice (.int .u8)) v x:=by
  have h:=hrep
  exact h
 exact C5 hv
open Go.Ev.Pl
theorem KG{n s g w d de:Int}{cold:List Bool}{modes:List Mode}(h:dR (n,s,g,w,d,de,cold,modes)=true):(4≤n∧n≤8)∧((1:Int)≤modes.length∧(modes.length:Int)≤4)∧(cold.length:Int)=n∧modes.all (jH (n,s,g,w,d,de,cold,modes))=true∧(0≤d∧d≤64∧0≤de∧de≤64∧16≤w∧w≤1048576∧36≤g∧g≤1048576∧72≤s∧s≤16777216):=by
 simp only[dR,countB,kH,qf,Bool.and_eq_true,decide_eq_true_eq,beq_iff_eq] at h
 obtain⟨⟨⟨⟨⟨h1,h2⟩,h3⟩,_⟩,h4⟩,h5⟩:=h
 have:=pT h1 (d:=d) (by omega)
 have hm:=wj (m:=(n,s,g,w,d,de,cold,modes))
 exact⟨h1,h2,h3,h4,by omega⟩
theorem WV:dX zS=true:=rfl
theorem HZ{b:Int×List Int}(h:(jY b).2=true):fF (jY b).1=true:=by
 rw[jY] at h ⊢
 cases hp:((ku (b,zS)).2 != 0||(ku (b,zS)).1.1==2)
 ·rw[Bool.or_eq_false_iff] at hp
  have h0:(ku (b,zS)).2=0:=by simpa using hp.1
  rw[cond_false]
  show fF (ku (b,zS)).1=true
  rw[ku] at h0 ⊢
  cases hb:bw b
  ·rw[hb] at h0;cases h0
  ·rw[hb,WV] at h0
   rw[WV]
   exact(yr WV (Prod.ext rfl h0)).2.1
 ·rw[hp] at h;cases h
theorem LX{f:oz}(h:fF f=true):0≤f.2.2.2.1∧f.2.2.2.1≤7∧0≤f.2.2.1.2.1∧f.2.2.1.2.1≤7:=by
 obtain⟨k,r,⟨t,p,m,n,s⟩,fr,d⟩:=f
 simp only[fF,Bool.and_eq_true] at h
 have hs:=mo.1 h.1.1.1
 have h2:=h.2
 cases hk:k==1
 ·rw[hk,cond_false] at h2
  have:fr=0:=by
   cases hk3:k==3
   ·rw[hk3] at h2;simp at h2;exact h2.2
   ·rw[hk3] at h2;simp at h2;exact h2.2
  subst this
  exact⟨show(0:Int)≤0 by omega,show(0:Int)≤7 by omega,hs.2.1.1,hs.2.1.2⟩
 ·rw[hk,cond_true] at h2
  simp only[Bool.and_eq_true,decide_eq_true_eq] at h2
  exact⟨h2.1.2.1,h2.1.2.2,hs.2.1.1,hs.2.1.2⟩
end Go.Ev.M
