/-
  PROVED: what bytes.Clone and functions of the packages signal, clock and metronomeref13 compute. Conditions: none.
-/
import Derived.Test.YtjceiokllpmnkaaGreatHa
import Derived.Shelf.Bytes.SlClone
namespace Go.Ev.M
open Go.Proofs
set_option maxRecDepth 100000
set_option linter.unusedVariables false
set_option linter.unusedSimpArgs false
open Go.Ev.Pl
def rhoC:Shelf.Ren:=⟨fun x=>match x with|4=>134|n=>n,fun x=>match x with|22=>30|4=>4|5=>5|n=>n,fun x=>x⟩
theorem IC:SlLaysK.n4 Tryz.prog rhoC:=
 {mixed:=by kernel_rfl,f4:=Tryz.func134.trans (congrArg some (by kernel_rfl)),t4:=Tryz.underlying4,a4:=Tryz.isAgg4,z4:=Tryz.sizeOf4,v4:=Tryz.zeroValue4,t22:=Tryz.underlying30,a22:=Tryz.isAgg30,z22:=Tryz.sizeOf30,v22:=Tryz.zeroValue30,t5:=Tryz.underlying5,i5:=by kernel_rfl}
def l8:List Int→List Int:=fun x=>x
def Jg:aG:=⟨[.slice (.int .u8)], [.slice (.int .u8)],@tt (List Int),l8⟩
theorem BX{w:World}{I:Nat→Prop}{x:List Int}{v:Value}(hv:aP w I (.slice (.int .u8)) [v] x):Calls Tryz.prog 134 #[v] w fun e w'=>∃v,e=.returned v∧w'.os=w.os∧w'.tape=w.tape∧w'.output=w.output∧w.heap.size≤w'.heap.size∧(∀b,b<w.heap.size→w'.heap[b]? = w.heap[b]?)∧
   ∃I',(∀b,I' b→I b∨(w.heap.size≤b∧b<w'.heap.size))∧aP w' I' (.slice (.int .u8)) [v] x:=by
 have hx:x.length≤cY∧∀y∈x,IntKind.u8.has y:=aP.has _ hv
 obtain⟨a,cap,e,h1,h2,h3,h4⟩:=bA.1 hv
 cases e
 cases a with
 | none=>
   have hx0:x=[]:=List.eq_nil_of_length_eq_zero (by have h3':cap=0:=h3 rfl;have h1':x.length≤cap:=h1;omega)
   subst hx0
   refine(Any.bytes_Clone_nil IC 0 cap w).mono ?_
   rintro e w' ⟨rfl,rfl⟩
   exact⟨_,rfl,rfl,rfl,rfl,Nat.le_refl _,fun _ _=>rfl,I,fun b h=>.inl h,bA.2 ⟨none,0,rfl,Nat.le_refl _,Nat.zero_le _,(fun _=>rfl),fun i y h=>by cases h⟩⟩
 | some a=>
   refine(Any.bytes_Clone_at IC a x.length cap x w rfl h2 fun i hi=>?_).mono ?_
   ·obtain⟨b,off,us,ea,_,hl,hr,hc⟩:=h4 i x[i] (List.getElem?_eq_getElem hi)
    cases ea
    have hus:=(ju.1 hc).1
    subst hus
    have:=hr 0 _ rfl
    rw[Addr.add_lit,List.getD_eq_getElem?_getD,List.getElem?_eq_getElem hi]
    simpa [Ty.size] using this
   ·rintro e w' ⟨v',rfl,⟨hn,hrow⟩,hnil,hb⟩
    rcases hrow with ⟨hz,_⟩|⟨g,cap',cur,rfl,hbase,hg,hcap,hml,hsz,htk⟩
    ·exact absurd hz hnil
    refine⟨_,rfl,hb.os,hb.tape,hb.output,hb.size,hb.block,fun b=>w.heap.size≤b∧b<w'.heap.size,fun b h=>.inr h,bA.2 ⟨_,cap',rfl,hcap,h2,(fun h=>by cases h),fun i y hy=>?_⟩⟩
    have hy:x[i]? = some y:=hy
    have hi:i<x.length:=(List.getElem?_eq_some_iff.1 hy).1
    refine⟨g,0, [.int .u8 y],rfl,⟨hbase,(Array.getElem?_eq_some_iff.1 hg).1⟩,rfl,?_,ju.2 ⟨rfl,hx.2 y (List.mem_of_getElem? hy)⟩⟩
    have hrw:=dN (w:=w') hg i 1
    have:(cur.toList.drop i).take 1=[Value.int .u8 y]:=by
     have h5:(cur.toList.take (x.length*1))[i]? = some (Value.int .u8 y):=by
      rw[htk,List.getElem?_map,hy];rfl
     rw[List.getElem?_take_of_lt (by omega)] at h5
     obtain⟨h6,h7⟩:=List.getElem?_eq_some_iff.1 h5
     rw[List.drop_eq_getElem_cons h6,h7];rfl
    rw[this] at hrw
    simpa [Ty.size] using hrw
theorem y9:aG.Sound Tryz.prog 134 Jg:=by
 refine⟨fun w I x aa hI hrep _=>?_,⟨Tryz.f134,Tryz.func134,by kernel_rfl,by kernel_rfl⟩⟩
 obtain⟨l⟩:=aa
 obtain⟨v,rfl,hv⟩:∃v,l=[v]∧iB w I (.slice (.int .u8)) v x:=by
  have h:=hrep
  exact h
 exact BX hv
open Go.Ev.Pl
theorem KI{n s g w d de:Int}{cold:List Bool}{modes:List Mode}(h:eO (n,s,g,w,d,de,cold,modes)=true):(4≤n∧n≤8)∧((1:Int)≤modes.length∧(modes.length:Int)≤4)∧(cold.length:Int)=n∧modes.all (jQ (n,s,g,w,d,de,cold,modes))=true∧(0≤d∧d≤64∧0≤de∧de≤64∧16≤w∧w≤1048576∧36≤g∧g≤1048576∧72≤s∧s≤16777216):=by
 simp only[eO,countB,kD,pz,Bool.and_eq_true,decide_eq_true_eq,beq_iff_eq] at h
 obtain⟨⟨⟨⟨⟨h1,h2⟩,h3⟩,_⟩,h4⟩,h5⟩:=h
 have:=o3 h1 (d:=d) (by omega)
 have hm:=vF (m:=(n,s,g,w,d,de,cold,modes))
 exact⟨h1,h2,h3,h4,by omega⟩
end Go.Ev.M
