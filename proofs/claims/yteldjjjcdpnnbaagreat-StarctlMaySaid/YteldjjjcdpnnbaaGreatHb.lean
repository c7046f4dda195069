/-
  PROVED: what bytes.Clone and functions of the packages signal, clock and metronomeref13 compute. Conditions: none.
-/
import Derived.Test.YteldjjjcdpnnbaaGreatHa
import Derived.Shelf.Bytes.SlClone
namespace Go.Ev.M
open Go.Proofs
set_option maxRecDepth 100000
set_option linter.unusedVariables false
set_option linter.unusedSimpArgs false
open Go.Ev.Pl
def rhoC:Shelf.Ren:=⟨fun x=>match x with|4=>157|n=>n,fun x=>match x with|22=>30|4=>4|5=>5|n=>n,fun x=>x⟩
theorem OB:SlLaysK.n4 Tryz.prog rhoC:=
 {mixed:=by kernel_rfl,f4:=Tryz.func157.trans (congrArg some (by kernel_rfl)),t4:=Tryz.underlying4,a4:=Tryz.isAgg4,z4:=Tryz.sizeOf4,v4:=Tryz.zeroValue4,t22:=Tryz.underlying30,a22:=Tryz.isAgg30,z22:=Tryz.sizeOf30,v22:=Tryz.zeroValue30,t5:=Tryz.underlying5,i5:=by kernel_rfl}
def nh:List Int→List Int:=fun x=>x
def Ul:aD:=⟨[.slice (.int .u8)], [.slice (.int .u8)],@tt (List Int),nh⟩
theorem Gm{w:World}{I:Nat→Prop}{x:List Int}{v:Value}(hv:a_ w I (.slice (.int .u8)) [v] x):Calls Tryz.prog 157 #[v] w fun e w'=>∃v,e=.returned v∧w'.os=w.os∧w'.tape=w.tape∧w'.output=w.output∧w.heap.size≤w'.heap.size∧(∀b,b<w.heap.size→w'.heap[b]? = w.heap[b]?)∧
   ∃I',(∀b,I' b→I b∨(w.heap.size≤b∧b<w'.heap.size))∧a_ w' I' (.slice (.int .u8)) [v] x:=by
 have hx:x.length≤dx∧∀y∈x,IntKind.u8.has y:=a_.has _ hv
 obtain⟨a,cap,e,h1,h2,h3,h4⟩:=cm.1 hv
 cases e
 cases a with
 | none=>
   have hx0:x=[]:=List.eq_nil_of_length_eq_zero (by have h3':cap=0:=h3 rfl;have h1':x.length≤cap:=h1;omega)
   subst hx0
   refine(Any.bytes_Clone_nil OB 0 cap w).mono ?_
   rintro e w' ⟨rfl,rfl⟩
   exact⟨_,rfl,rfl,rfl,rfl,Nat.le_refl _,fun _ _=>rfl,I,fun b h=>.inl h,cm.2 ⟨none,0,rfl,Nat.le_refl _,Nat.zero_le _,(fun _=>rfl),fun i y h=>by cases h⟩⟩
 | some a=>
   refine(Any.bytes_Clone_at OB a x.length cap x w rfl h2 fun i hi=>?_).mono ?_
   ·obtain⟨b,off,us,ea,_,hl,hr,hc⟩:=h4 i x[i] (List.getElem?_eq_getElem hi)
    cases ea
    have hus:=(kq.1 hc).1
    subst hus
    have:=hr 0 _ rfl
    rw[Addr.add_lit,List.getD_eq_getElem?_getD,List.getElem?_eq_getElem hi]
    simpa [Ty.size] using this
   ·rintro e w' ⟨v',rfl,⟨hn,hrow⟩,hnil,hb⟩
    rcases hrow with ⟨hz,_⟩|⟨g,cap',cur,rfl,hbase,hg,hcap,hml,hsz,htk⟩
    ·exact absurd hz hnil
    refine⟨_,rfl,hb.os,hb.tape,hb.output,hb.size,hb.block,fun b=>w.heap.size≤b∧b<w'.heap.size,fun b h=>.inr h,cm.2 ⟨_,cap',rfl,hcap,h2,(fun h=>by cases h),fun i y hy=>?_⟩⟩
    have hy:x[i]? = some y:=hy
    have hi:i<x.length:=(List.getElem?_eq_some_iff.1 hy).1
    refine⟨g,0, [.int .u8 y],rfl,⟨hbase,(Array.getElem?_eq_some_iff.1 hg).1⟩,rfl,?_,kq.2 ⟨rfl,hx.2 y (List.mem_of_getElem? hy)⟩⟩
    have hrw:=fu (w:=w') hg i 1
    have:(cur.toList.drop i).take 1=[Value.int .u8 y]:=by
     have h5:(cur.toList.take (x.length*1))[i]? = some (Value.int .u8 y):=by
      rw[htk,List.getElem?_map,hy];rfl
     rw[List.getElem?_take_of_lt (by omega)] at h5
     obtain⟨h6,h7⟩:=List.getElem?_eq_some_iff.1 h5
     rw[List.drop_eq_getElem_cons h6,h7];rfl
    rw[this] at hrw
    simpa [Ty.size] using hrw
theorem EU:aD.Sound Tryz.prog 157 Ul:=by
 refine⟨fun w I x aa hI hrep _=>?_,⟨Tryz.f157,Tryz.func157,by kernel_rfl,by kernel_rfl⟩⟩
 obtain⟨l⟩:=aa
 obtain⟨v,rfl,hv⟩:∃v,l=[v]∧jv w I (.slice (.int .u8)) v x:=by
  have h:=hrep
  exact h
 exact Gm hv
open Go.Ev.Pl
theorem wrap_i64(n:Int):IntKind.i64.wrap n=if n%18446744073709551616 ≥ 9223372036854775808 then n%18446744073709551616-18446744073709551616 else n%18446744073709551616:=by
 simp[IntKind.wrap,IntKind.signed,IntKind.bits]
theorem QT{n s g w d de:Int}{cold:List Bool}{modes:List Mode}(h:dy (n,s,g,w,d,de,cold,modes)=true):(4≤n∧n≤8)∧((1:Int)≤modes.length∧(modes.length:Int)≤4)∧(cold.length:Int)=n∧modes.all (kT (n,s,g,w,d,de,cold,modes))=true∧(0≤d∧d≤64∧0≤de∧de≤64∧16≤w∧w≤1048576∧36≤g∧g≤1048576∧72≤s∧s≤16777216):=by
 simp only[dy,countB,lU,rS,Bool.and_eq_true,decide_eq_true_eq,beq_iff_eq] at h
 obtain⟨⟨⟨⟨⟨h1,h2⟩,h3⟩,_⟩,h4⟩,h5⟩:=h
 have:=qH h1 (d:=d) (by omega)
 have hm:=zl (m:=(n,s,g,w,d,de,cold,modes))
 exact⟨h1,h2,h3,h4,by omega⟩
theorem okZ:eP zS=true:=rfl
theorem NA{b:Int×List Int}(h:(kU b).2=true):eX (kU b).1=true:=by
 rw[kU] at h ⊢
 cases hp:((kI (b,zS)).2 != 0||(kI (b,zS)).1.1==2)
 ·rw[Bool.or_eq_false_iff] at hp
  have h0:(kI (b,zS)).2=0:=by simpa using hp.1
  rw[cond_false]
  show eX (kI (b,zS)).1=true
  rw[kI] at h0 ⊢
  cases hb:bO b
  ·rw[hb] at h0;cases h0
  ·rw[hb,okZ] at h0
   rw[okZ]
   exact(Ct okZ (Prod.ext rfl h0)).2.1
 ·rw[hp] at h;cases h
theorem Ek{f:gT}(h:eX f=true):0≤f.2.2.2.1∧f.2.2.2.1≤7∧0≤f.2.2.1.2.1∧f.2.2.1.2.1≤7:=by
 obtain⟨k,r,⟨t,p,m,n,s⟩,fr,d⟩:=f
 simp only[eX,Bool.and_eq_true] at h
 have hs:=jD.1 h.1.1.1
 have h2:=h.2
 cases hk:k==1
 ·rw[hk,cond_false] at h2
  have:fr=0:=by
   cases hk3:k==3
   ·rw[hk3] at h2;simp at h2;exact h2.2
   ·rw[hk3] at h2;simp at h2;exact h2.2
  subst this
  exact⟨show(0:Int)≤0 by omega,show(0:Int)≤7 by omega,hs.2.1.1,hs.2.1.2⟩
 ·rw[hk,cond_true] at h2
  simp only[Bool.and_eq_true,decide_eq_true_eq] at h2
  exact⟨h2.1.2.1,h2.1.2.2,hs.2.1.1,hs.2.1.2⟩
end Go.Ev.M
