/-
  PROVED: what bytes.Clone and functions of the packages signal, clock and metronomeref13 compute. Conditions: none.
-/
import Derived.Test.YtafbddhnoacldaaHa
import Derived.Shelf.Bytes.SlClone
namespace Go.Ev.M
open Go.Proofs
set_option maxRecDepth 100000
set_option linter.unusedVariables false
set_option linter.unusedSimpArgs false
open Go.Ev.Pl
def rhoC:Shelf.Ren:=⟨fun x=>match x with | 4=>174 | n=>n,fun x=>match x with | 22=>46 | 4=>4 | 5=>5 | n=>n,fun x=>x⟩
theorem laysC:SlLaysK.n4 Try.prog rhoC:=
 {mixed:=by kernel_rfl,f4:=Try.func174.trans (congrArg some (by kernel_rfl)),t4:=Try.underlying4,a4:=Try.isAgg4,z4:=Try.sizeOf4,v4:=Try.zeroValue4,t22:=Try.underlying46,a22:=Try.isAgg46,z22:=Try.sizeOf46,v22:=Try.zeroValue46,t5:=Try.underlying5,i5:=by kernel_rfl}
def fn174:List Int→List Int:=fun x=>x
def sp174:FSpec:=⟨[.slice (.int .u8)], [.slice (.int .u8)],@tt (List Int),fn174⟩
theorem clone_any {w:World} {I:Nat→Prop} {x:List Int} {v:Value} (hv:RepC w I (.slice (.int .u8)) [v] x):Calls Try.prog 174 #[v] w fun e w'=>∃v,e=.returned v∧w'.os=w.os∧w'.tape=w.tape∧w'.output=w.output∧w.heap.size≤w'.heap.size∧(∀b,b < w.heap.size→w'.heap[b]? = w.heap[b]?)∧
   ∃I',(∀b,I' b→I b∨(w.heap.size≤b∧b < w'.heap.size))∧RepC w' I' (.slice (.int .u8)) [v] x:=by
 have hx:x.length≤lenMax∧∀y∈x,IntKind.u8.has y:=RepC.has _ hv
 obtain ⟨a,cap,e,h1,h2,h3,h4⟩:=RepC_slice.1 hv
 cases e
 cases a with
 | none=>
  have hx0:x=[]:=List.eq_nil_of_length_eq_zero (by have h3':cap=0:=h3 rfl; have h1':x.length≤cap:=h1; omega)
  subst hx0
  refine (Any.bytes_Clone_nil laysC 0 cap w).mono ?_
  rintro e w' ⟨rfl,rfl⟩
  exact ⟨_,rfl,rfl,rfl,rfl,Nat.le_refl _,fun _ _=>rfl,I,fun b h=>.inl h,RepC_slice.2 ⟨none,0,rfl,Nat.le_refl _,Nat.zero_le _,(fun _=>rfl),fun i y h=>by cases h⟩⟩
 | some a=>
  refine (Any.bytes_Clone_at laysC a x.length cap x w rfl h2 fun i hi=>?_).mono ?_
  ·obtain ⟨b,off,us,ea,_,hl,hr,hc⟩:=h4 i x[i] (List.getElem?_eq_getElem hi)
   cases ea
   have hus:=(RepC_int.1 hc).1
   subst hus
   have:=hr 0 _ rfl
   rw [Addr.add_lit,List.getD_eq_getElem?_getD,List.getElem?_eq_getElem hi]
   simpa [Ty.size] using this
  ·rintro e w' ⟨v',rfl,⟨hn,hrow⟩,hnil,hb⟩
   rcases hrow with ⟨hz,_⟩ | ⟨g,cap',cur,rfl,hbase,hg,hcap,hml,hsz,htk⟩
   ·exact absurd hz hnil
   refine ⟨_,rfl,hb.os,hb.tape,hb.output,hb.size,hb.block,fun b=>w.heap.size≤b∧b < w'.heap.size,fun b h=>.inr h,RepC_slice.2 ⟨_,cap',rfl,hcap,h2,(fun h=>by cases h),fun i y hy=>?_⟩⟩
   have hy:x[i]? = some y:=hy
   have hi:i < x.length:=(List.getElem?_eq_some_iff.1 hy).1
   refine ⟨g,0, [.int .u8 y],rfl,⟨hbase,(Array.getElem?_eq_some_iff.1 hg).1⟩,rfl,?_,RepC_int.2 ⟨rfl,hx.2 y (List.mem_of_getElem? hy)⟩⟩
   have hrw:=rowAt_heap (w:=w') hg i 1
   have:(cur.toList.drop i).take 1=[Value.int .u8 y]:=by
    have h5:(cur.toList.take (x.length * 1))[i]? = some (Value.int .u8 y):=by
     rw [htk,List.getElem?_map,hy]; rfl
    rw [List.getElem?_take_of_lt (by omega)] at h5
    obtain ⟨h6,h7⟩:=List.getElem?_eq_some_iff.1 h5
    rw [List.drop_eq_getElem_cons h6,h7]; rfl
   rw [this] at hrw
   simpa [Ty.size] using hrw
theorem so174:FSpec.Sound Try.prog 174 sp174:=by
 refine ⟨fun w I x aa hI hrep _=>?_,⟨Try.f174,Try.func174,by kernel_rfl,by kernel_rfl⟩⟩
 obtain ⟨l⟩:=aa
 obtain ⟨v,rfl,hv⟩:∃v,l=[v]∧RepV w I (.slice (.int .u8)) v x:=by
  have h:=hrep
  exact h
 exact clone_any hv
open Go.Ev.Pl
def t186 (A:Alg) (sFrom:Int) (sTo:Int):LT Int Empty:=
 .br (A.cmp .lss sFrom 0)
 (.ret 60)
 (.br (A.cmp .lss sTo sFrom)
 (.ret 60)
 (.br (A.cmp .gtr sTo 1099511627776)
  (.ret 60)
  (.ret 0)))
noncomputable def E186 (A:Alg):Info (Ty.Ts [(.int .i64)]):={ti:=tys,fns:=[(186,Try.f186)],sps:=[],stops:=[],cuts:=[],consts:=[],fin:=finD A [(.int .i64)]}
theorem t186_ok (A:Alg) (sFrom:Int) (sTo:Int):run A (E186 A) 36 (startC 186 Try.f186 (dvals A [ySpan] (sFrom,sTo)))=(t186 A sFrom sTo).tr Empty.elim:=by kernel_rfl
def w186:Walk Try.prog 186 [ySpan] [(.int .i64)] Empty:=⟨fun (sFrom,sTo)=>t186 std sFrom sTo,Empty.elim⟩
theorem w186_ok:w186.Ok:=
 walk_ok (E:=E186 std) ⟨tys_fit,fns_cons Try.func186 (by kernel_rfl) (fns_nil),sps_nil,by kernel_rfl⟩ rfl rfl rfl (by kernel_rfl) w186 Empty.elim 36 (fun (sFrom,sTo)=>t186_ok std sFrom sTo) (fun y=>y.elim)
def fn186:Span→Int:=fun (sFrom,sTo)=>(t186 std sFrom sTo).val (Ty.dflts [(.int .i64)])
def sp186:FSpec:=⟨[ySpan], [(.int .i64)],(@tt Span),fn186⟩
theorem eqs186 (sFrom:Int) (sTo:Int):(t186 std sFrom sTo).Eqs:=by simp only [t186,LT.Eqs,and_self,true_and,and_true]
theorem pre186_ok {sFrom:Int} {sTo:Int} (h:Ty.hass [ySpan] (sFrom,sTo)):(t186 std sFrom sTo).pre=true:=by
 simp [t186,LT.pre,std_call,tt_eq]
theorem so186:FSpec.Sound Try.prog 186 sp186:=
 w186_ok.sound _ _ fun (sFrom,sTo) _ h=>LT.runs (d:=Ty.dflts [(.int .i64)]) (eqs186 sFrom sTo) (pre186_ok h)
def t182 (A:Alg) (sFrom:Int) (sSpanFrom:Int) (sSpanTo:Int) (sLevel:Int) (sBN:Int) (sBB:List Int):LT Int Empty:=
 .br (A.cmp .lss sFrom (-1))
 (.ret 110)
 (.br (A.cmp .geq sFrom 8)
 (.ret 110)
 (.br (A.cmp .lss sLevel 0)
  (.ret 110)
  (.br (A.cmp .gtr sLevel 200)
  (.ret 110)
  (.need (A.call (@tt Span) (sSpanFrom,sSpanTo)) (
   .br (A.cmp .neq (A.call fn186 (sSpanFrom,sSpanTo)) 0)
   (.ret 110)
   (.need (A.call (@tt ((Int×List Int))) (sBN,sBB)) (
    .br (A.cmp .neq (A.call fn99 (sBN,sBB)) 0)
    (.ret 110)
    (.ret 0))))))))
noncomputable def E182 (A:Alg):Info (Ty.Ts [(.int .i64)]):={ti:=tys,fns:=[(182,Try.f182)],sps:=[(99,sp99),(186,sp186)],stops:=[],cuts:=[],consts:=[],fin:=finD A [(.int .i64)]}
theorem t182_ok (A:Alg) (sFrom:Int) (sSpanFrom:Int) (sSpanTo:Int) (sLevel:Int) (sBN:Int) (sBB:List Int):run A (E182 A) 69 (startC 182 Try.f182 (dvals A [ySig] (sFrom,(sSpanFrom,sSpanTo),sLevel,sBN,sBB)))=(t182 A sFrom sSpanFrom sSpanTo sLevel sBN sBB).tr Empty.elim:=by kernel_rfl
def w182:Walk Try.prog 182 [ySig] [(.int .i64)] Empty:=⟨fun (sFrom,(sSpanFrom,sSpanTo),sLevel,sBN,sBB)=>t182 std sFrom sSpanFrom sSpanTo sLevel sBN sBB,Empty.elim⟩
theorem w182_ok:w182.Ok:=
 walk_ok (E:=E182 std) ⟨tys_fit,fns_cons Try.func182 (by kernel_rfl) (fns_nil),sps_cons so99 (sps_cons so186 (sps_nil)),by kernel_rfl⟩ rfl rfl rfl (by kernel_rfl) w182 Empty.elim 69 (fun (sFrom,(sSpanFrom,sSpanTo),sLevel,sBN,sBB)=>t182_ok std sFrom sSpanFrom sSpanTo sLevel sBN sBB) (fun y=>y.elim)
def fn182:Sig→Int:=fun (sFrom,(sSpanFrom,sSpanTo),sLevel,sBN,sBB)=>(t182 std sFrom sSpanFrom sSpanTo sLevel sBN sBB).val (Ty.dflts [(.int .i64)])
def sp182:FSpec:=⟨[ySig], [(.int .i64)],(@tt Sig),fn182⟩
theorem eqs182 (sFrom:Int) (sSpanFrom:Int) (sSpanTo:Int) (sLevel:Int) (sBN:Int) (sBB:List Int):(t182 std sFrom sSpanFrom sSpanTo sLevel sBN sBB).Eqs:=by simp only [t182,LT.Eqs,and_self,true_and,and_true]
theorem pre182_ok {sFrom:Int} {sSpanFrom:Int} {sSpanTo:Int} {sLevel:Int} {sBN:Int} {sBB:List Int} (h:Ty.hass [ySig] (sFrom,(sSpanFrom,sSpanTo),sLevel,sBN,sBB)):(t182 std sFrom sSpanFrom sSpanTo sLevel sBN sBB).pre=true:=by
 simp [t182,LT.pre,std_call,tt_eq]
theorem so182:FSpec.Sound Try.prog 182 sp182:=
 w182_ok.sound _ _ fun (sFrom,(sSpanFrom,sSpanTo),sLevel,sBN,sBB) _ h=>LT.runs (d:=Ty.dflts [(.int .i64)]) (eqs182 sFrom sSpanFrom sSpanTo sLevel sBN sBB) (pre182_ok h)
def t171 (A:Alg) (sFrom:Int) (sSpanFrom:Int) (sSpanTo:Int) (sLevel:Int) (sBN:Int) (sBB:List Int):LT Bool Empty:=
 .need (A.call (@tt Sig) (sFrom,(sSpanFrom,sSpanTo),sLevel,sBN,sBB)) (
 .br (A.cmp .eql (A.call fn182 (sFrom,(sSpanFrom,sSpanTo),sLevel,sBN,sBB)) 0)
 (.br (A.cmp .gtr sBN 0)
  (.br (A.cmp .leq sBN 4095)
  (.need (A.call (@tt Int) sBN) (
   .ret (A.cmp .eql (A.bin .sub .i64 sSpanTo sSpanFrom) (A.call fn173 sBN))))
  (.ret false))
  (.ret false))
 (.ret false))
noncomputable def E171 (A:Alg):Info (Ty.Ts [.bool]):={ti:=tys,fns:=[(171,Try.f171)],sps:=[(173,sp173),(182,sp182)],stops:=[],cuts:=[],consts:=[],fin:=finD A [.bool]}
theorem t171_ok (A:Alg) (sFrom:Int) (sSpanFrom:Int) (sSpanTo:Int) (sLevel:Int) (sBN:Int) (sBB:List Int):run A (E171 A) 44 (startC 171 Try.f171 (dvals A [ySig] (sFrom,(sSpanFrom,sSpanTo),sLevel,sBN,sBB)))=(t171 A sFrom sSpanFrom sSpanTo sLevel sBN sBB).tr Empty.elim:=by kernel_rfl
def w171:Walk Try.prog 171 [ySig] [.bool] Empty:=⟨fun (sFrom,(sSpanFrom,sSpanTo),sLevel,sBN,sBB)=>t171 std sFrom sSpanFrom sSpanTo sLevel sBN sBB,Empty.elim⟩
theorem w171_ok:w171.Ok:=
 walk_ok (E:=E171 std) ⟨tys_fit,fns_cons Try.func171 (by kernel_rfl) (fns_nil),sps_cons so173 (sps_cons so182 (sps_nil)),by kernel_rfl⟩ rfl rfl rfl (by kernel_rfl) w171 Empty.elim 44 (fun (sFrom,(sSpanFrom,sSpanTo),sLevel,sBN,sBB)=>t171_ok std sFrom sSpanFrom sSpanTo sLevel sBN sBB) (fun y=>y.elim)
def fn171:Sig→Bool:=fun (sFrom,(sSpanFrom,sSpanTo),sLevel,sBN,sBB)=>(t171 std sFrom sSpanFrom sSpanTo sLevel sBN sBB).val (Ty.dflts [.bool])
def sp171:FSpec:=⟨[ySig], [.bool],(@tt Sig),fn171⟩
theorem eqs171 (sFrom:Int) (sSpanFrom:Int) (sSpanTo:Int) (sLevel:Int) (sBN:Int) (sBB:List Int):(t171 std sFrom sSpanFrom sSpanTo sLevel sBN sBB).Eqs:=by simp only [t171,LT.Eqs,and_self,true_and,and_true]
theorem pre171_ok {sFrom:Int} {sSpanFrom:Int} {sSpanTo:Int} {sLevel:Int} {sBN:Int} {sBB:List Int} (h:Ty.hass [ySig] (sFrom,(sSpanFrom,sSpanTo),sLevel,sBN,sBB)):(t171 std sFrom sSpanFrom sSpanTo sLevel sBN sBB).pre=true:=by
 simp [t171,LT.pre,std_call,tt_eq]
theorem so171:FSpec.Sound Try.prog 171 sp171:=
 w171_ok.sound _ _ fun (sFrom,(sSpanFrom,sSpanTo),sLevel,sBN,sBB) _ h=>LT.runs (d:=Ty.dflts [.bool]) (eqs171 sFrom sSpanFrom sSpanTo sLevel sBN sBB) (pre171_ok h)
def t153 (A:Alg) (from1:Int) (at1:Int) (level:Int) (bN:Int) (bB:List Int):LT (Sig×Int) Empty:=
 .br (A.cmp .lss at1 0)
 (.ret ((0,(0,0),0,0,([]:List Int)),110))
 (.br (A.cmp .gtr at1 1099511627776)
 (.ret ((0,(0,0),0,0,([]:List Int)),110))
 (.need (A.call (@tt Int) bN) (
  .eqs ((.agg [.int .i64 false from1,.int .i64 false at1,.int .i64 false (A.bin .add .i64 at1 (A.call fn173 bN)),.int .i64 false level,.int .i64 false bN,.sl (.int .u8) bB]:AV)=.agg [.int .i64 false from1,.int .i64 false at1,.int .i64 false (A.bin .add .i64 at1 (A.call fn173 bN)),.int .i64 false level,.int .i64 false bN,.sl (.int .u8) bB]) (
  .eqs ((.agg [.int .i64 false bN,.sl (.int .u8) bB]:AV)=.agg [.int .i64 false bN,.sl (.int .u8) bB]) (
   .eqs (IntKind.i64=IntKind.i64∧(level:Int)=level) (
   .eqs ((.agg [.int .i64 false at1,.int .i64 false (A.bin .add .i64 at1 (A.call fn173 bN))]:AV)=.agg [.int .i64 false at1,.int .i64 false (A.bin .add .i64 at1 (A.call fn173 bN))]) (
    .eqs (IntKind.i64=IntKind.i64∧((A.bin .add .i64 at1 (A.call fn173 bN)):Int)=(A.bin .add .i64 at1 (A.call fn173 bN))) (
    .need (A.call (@tt Int) bN) (
     .eqs (IntKind.i64=IntKind.i64∧((A.call fn173 bN):Int)=(A.call fn173 bN)) (
     .eqs (IntKind.i64=IntKind.i64∧(bN:Int)=bN) (
      .eqs ((.ptr 0 0:AV)=.ptr 0 0) (
      .eqs (IntKind.i64=IntKind.i64∧(at1:Int)=at1) (
       .eqs (IntKind.i64=IntKind.i64∧(at1:Int)=at1) (
       .eqs (IntKind.i64=IntKind.i64∧(from1:Int)=from1) (
        .need (A.call (@tt Sig) (from1,(at1,(A.bin .add .i64 at1 (A.call fn173 bN))),level,bN,bB)) (
        .br (A.not (A.call fn171 (from1,(at1,(A.bin .add .i64 at1 (A.call fn173 bN))),level,bN,bB)))
         (.ret ((0,(0,0),0,0,([]:List Int)),110))
         (.need (A.call (@tt (List Int)) bB) (
         .ret ((from1,(at1,(A.bin .add .i64 at1 (A.call fn173 bN))),level,bN,(A.call fn174 bB)),0)))))))))))))))))))
noncomputable def E153 (A:Alg):Info (Ty.Ts [ySig,(.int .i64)]):={ti:=tys,fns:=[(153,Try.f153)],sps:=[(171,sp171),(173,sp173),(174,sp174)],stops:=[],cuts:=[],consts:=[],fin:=finD A [ySig,(.int .i64)]}
theorem t153_ok (A:Alg) (from1:Int) (at1:Int) (level:Int) (bN:Int) (bB:List Int):run A (E153 A) 64 (startC 153 Try.f153 (dvals A [(.int .i64),(.int .i64),(.int .i64),yBits] (from1,at1,level,bN,bB)))=(t153 A from1 at1 level bN bB).tr Empty.elim:=by kernel_rfl
def w153:Walk Try.prog 153 [(.int .i64),(.int .i64),(.int .i64),yBits] [ySig,(.int .i64)] Empty:=⟨fun (from1,at1,level,bN,bB)=>t153 std from1 at1 level bN bB,Empty.elim⟩
theorem w153_ok:w153.Ok:=
 walk_ok (E:=E153 std) ⟨tys_fit,fns_cons Try.func153 (by kernel_rfl) (fns_nil),sps_cons so171 (sps_cons so173 (sps_cons so174 (sps_nil))),by kernel_rfl⟩ rfl rfl rfl (by kernel_rfl) w153 Empty.elim 64 (fun (from1,at1,level,bN,bB)=>t153_ok std from1 at1 level bN bB) (fun y=>y.elim)
def fn153:(Int×Int×Int×Bits)→(Sig×Int):=fun (from1,at1,level,bN,bB)=>(t153 std from1 at1 level bN bB).val (Ty.dflts [ySig,(.int .i64)])
def sp153:FSpec:=⟨[(.int .i64),(.int .i64),(.int .i64),yBits], [ySig,(.int .i64)],(@tt (Int×Int×Int×Bits)),fn153⟩
theorem eqs153 (from1:Int) (at1:Int) (level:Int) (bN:Int) (bB:List Int):(t153 std from1 at1 level bN bB).Eqs:=by simp only [t153,LT.Eqs,and_self,true_and,and_true]
theorem pre153_ok {from1:Int} {at1:Int} {level:Int} {bN:Int} {bB:List Int} (h:Ty.hass [(.int .i64),(.int .i64),(.int .i64),yBits] (from1,at1,level,bN,bB)):(t153 std from1 at1 level bN bB).pre=true:=by
 simp [t153,LT.pre,std_call,tt_eq]
theorem so153:FSpec.Sound Try.prog 153 sp153:=
 w153_ok.sound _ _ fun (from1,at1,level,bN,bB) _ h=>LT.runs (d:=Ty.dflts [ySig,(.int .i64)]) (eqs153 from1 at1 level bN bB) (pre153_ok h)
def t170 (A:Alg) (sFrom:Int) (sTo:Int):LT Int Empty:=
 .br (A.cmp .lss sFrom 0)
 (.ret 60)
 (.br (A.cmp .lss sTo sFrom)
 (.ret 60)
 (.br (A.cmp .gtr sTo 1099511627776)
  (.ret 60)
  (.ret 0)))
noncomputable def E170 (A:Alg):Info (Ty.Ts [(.int .i64)]):={ti:=tys,fns:=[(170,Try.f170)],sps:=[],stops:=[],cuts:=[],consts:=[],fin:=finD A [(.int .i64)]}
theorem t170_ok (A:Alg) (sFrom:Int) (sTo:Int):run A (E170 A) 36 (startC 170 Try.f170 (dvals A [ySpan] (sFrom,sTo)))=(t170 A sFrom sTo).tr Empty.elim:=by kernel_rfl
def w170:Walk Try.prog 170 [ySpan] [(.int .i64)] Empty:=⟨fun (sFrom,sTo)=>t170 std sFrom sTo,Empty.elim⟩
theorem w170_ok:w170.Ok:=
 walk_ok (E:=E170 std) ⟨tys_fit,fns_cons Try.func170 (by kernel_rfl) (fns_nil),sps_nil,by kernel_rfl⟩ rfl rfl rfl (by kernel_rfl) w170 Empty.elim 36 (fun (sFrom,sTo)=>t170_ok std sFrom sTo) (fun y=>y.elim)
def fn170:Span→Int:=fun (sFrom,sTo)=>(t170 std sFrom sTo).val (Ty.dflts [(.int .i64)])
def sp170:FSpec:=⟨[ySpan], [(.int .i64)],(@tt Span),fn170⟩
theorem eqs170 (sFrom:Int) (sTo:Int):(t170 std sFrom sTo).Eqs:=by simp only [t170,LT.Eqs,and_self,true_and,and_true]
theorem pre170_ok {sFrom:Int} {sTo:Int} (h:Ty.hass [ySpan] (sFrom,sTo)):(t170 std sFrom sTo).pre=true:=by
 simp [t170,LT.pre,std_call,tt_eq]
theorem so170:FSpec.Sound Try.prog 170 sp170:=
 w170_ok.sound _ _ fun (sFrom,sTo) _ h=>LT.runs (d:=Ty.dflts [(.int .i64)]) (eqs170 sFrom sTo) (pre170_ok h)
def t150 (A:Alg) (sFrom:Int) (sSpanFrom:Int) (sSpanTo:Int) (sLevel:Int) (sBN:Int) (sBB:List Int):LT Int Empty:=
 .br (A.cmp .lss sFrom (-1))
 (.ret 110)
 (.br (A.cmp .geq sFrom 8)
 (.ret 110)
 (.need (A.call (@tt Span) (sSpanFrom,sSpanTo)) (
  .br (A.cmp .neq (A.call fn170 (sSpanFrom,sSpanTo)) 0)
  (.ret 110)
  (.br (A.cmp .lss sLevel 0)
   (.ret 110)
   (.br (A.cmp .gtr sLevel 200)
   (.ret 110)
   (.need (A.call (@tt ((Int×List Int))) (sBN,sBB)) (
    .br (A.cmp .neq (A.call fn97 (sBN,sBB)) 0)
    (.ret 110)
    (.ret 0))))))))
noncomputable def E150 (A:Alg):Info (Ty.Ts [(.int .i64)]):={ti:=tys,fns:=[(150,Try.f150)],sps:=[(97,sp97),(170,sp170)],stops:=[],cuts:=[],consts:=[],fin:=finD A [(.int .i64)]}
theorem t150_ok (A:Alg) (sFrom:Int) (sSpanFrom:Int) (sSpanTo:Int) (sLevel:Int) (sBN:Int) (sBB:List Int):run A (E150 A) 51 (startC 150 Try.f150 (dvals A [ySig] (sFrom,(sSpanFrom,sSpanTo),sLevel,sBN,sBB)))=(t150 A sFrom sSpanFrom sSpanTo sLevel sBN sBB).tr Empty.elim:=by kernel_rfl
def w150:Walk Try.prog 150 [ySig] [(.int .i64)] Empty:=⟨fun (sFrom,(sSpanFrom,sSpanTo),sLevel,sBN,sBB)=>t150 std sFrom sSpanFrom sSpanTo sLevel sBN sBB,Empty.elim⟩
theorem w150_ok:w150.Ok:=
 walk_ok (E:=E150 std) ⟨tys_fit,fns_cons Try.func150 (by kernel_rfl) (fns_nil),sps_cons so97 (sps_cons so170 (sps_nil)),by kernel_rfl⟩ rfl rfl rfl (by kernel_rfl) w150 Empty.elim 51 (fun (sFrom,(sSpanFrom,sSpanTo),sLevel,sBN,sBB)=>t150_ok std sFrom sSpanFrom sSpanTo sLevel sBN sBB) (fun y=>y.elim)
def fn150:Sig→Int:=fun (sFrom,(sSpanFrom,sSpanTo),sLevel,sBN,sBB)=>(t150 std sFrom sSpanFrom sSpanTo sLevel sBN sBB).val (Ty.dflts [(.int .i64)])
def sp150:FSpec:=⟨[ySig], [(.int .i64)],(@tt Sig),fn150⟩
theorem eqs150 (sFrom:Int) (sSpanFrom:Int) (sSpanTo:Int) (sLevel:Int) (sBN:Int) (sBB:List Int):(t150 std sFrom sSpanFrom sSpanTo sLevel sBN sBB).Eqs:=by simp only [t150,LT.Eqs,and_self,true_and,and_true]
theorem pre150_ok {sFrom:Int} {sSpanFrom:Int} {sSpanTo:Int} {sLevel:Int} {sBN:Int} {sBB:List Int} (h:Ty.hass [ySig] (sFrom,(sSpanFrom,sSpanTo),sLevel,sBN,sBB)):(t150 std sFrom sSpanFrom sSpanTo sLevel sBN sBB).pre=true:=by
 simp [t150,LT.pre,std_call,tt_eq]
theorem so150:FSpec.Sound Try.prog 150 sp150:=
 w150_ok.sound _ _ fun (sFrom,(sSpanFrom,sSpanTo),sLevel,sBN,sBB) _ h=>LT.runs (d:=Ty.dflts [(.int .i64)]) (eqs150 sFrom sSpanFrom sSpanTo sLevel sBN sBB) (pre150_ok h)
def t119 (A:Alg) (sFrom:Int) (sSpanFrom:Int) (sSpanTo:Int) (sLevel:Int) (sBN:Int) (sBB:List Int):LT Bool Empty:=
 .need (A.call (@tt Sig) (sFrom,(sSpanFrom,sSpanTo),sLevel,sBN,sBB)) (
 .br (A.cmp .eql (A.call fn150 (sFrom,(sSpanFrom,sSpanTo),sLevel,sBN,sBB)) 0)
 (.br (A.cmp .geq sBN 1)
  (.br (A.cmp .leq sBN 4095)
  (.need (A.call (@tt Int) sBN) (
   .ret (A.cmp .eql (A.bin .sub .i64 sSpanTo sSpanFrom) (A.call fn118 sBN))))
  (.ret false))
  (.ret false))
 (.ret false))
noncomputable def E119 (A:Alg):Info (Ty.Ts [.bool]):={ti:=tys,fns:=[(119,Try.f119)],sps:=[(118,sp118),(150,sp150)],stops:=[],cuts:=[],consts:=[],fin:=finD A [.bool]}
theorem t119_ok (A:Alg) (sFrom:Int) (sSpanFrom:Int) (sSpanTo:Int) (sLevel:Int) (sBN:Int) (sBB:List Int):run A (E119 A) 44 (startC 119 Try.f119 (dvals A [ySig] (sFrom,(sSpanFrom,sSpanTo),sLevel,sBN,sBB)))=(t119 A sFrom sSpanFrom sSpanTo sLevel sBN sBB).tr Empty.elim:=by kernel_rfl
def w119:Walk Try.prog 119 [ySig] [.bool] Empty:=⟨fun (sFrom,(sSpanFrom,sSpanTo),sLevel,sBN,sBB)=>t119 std sFrom sSpanFrom sSpanTo sLevel sBN sBB,Empty.elim⟩
theorem w119_ok:w119.Ok:=
 walk_ok (E:=E119 std) ⟨tys_fit,fns_cons Try.func119 (by kernel_rfl) (fns_nil),sps_cons so118 (sps_cons so150 (sps_nil)),by kernel_rfl⟩ rfl rfl rfl (by kernel_rfl) w119 Empty.elim 44 (fun (sFrom,(sSpanFrom,sSpanTo),sLevel,sBN,sBB)=>t119_ok std sFrom sSpanFrom sSpanTo sLevel sBN sBB) (fun y=>y.elim)
def fn119:Sig→Bool:=fun (sFrom,(sSpanFrom,sSpanTo),sLevel,sBN,sBB)=>(t119 std sFrom sSpanFrom sSpanTo sLevel sBN sBB).val (Ty.dflts [.bool])
def sp119:FSpec:=⟨[ySig], [.bool],(@tt Sig),fn119⟩
theorem eqs119 (sFrom:Int) (sSpanFrom:Int) (sSpanTo:Int) (sLevel:Int) (sBN:Int) (sBB:List Int):(t119 std sFrom sSpanFrom sSpanTo sLevel sBN sBB).Eqs:=by simp only [t119,LT.Eqs,and_self,true_and,and_true]
theorem pre119_ok {sFrom:Int} {sSpanFrom:Int} {sSpanTo:Int} {sLevel:Int} {sBN:Int} {sBB:List Int} (h:Ty.hass [ySig] (sFrom,(sSpanFrom,sSpanTo),sLevel,sBN,sBB)):(t119 std sFrom sSpanFrom sSpanTo sLevel sBN sBB).pre=true:=by
 simp [t119,LT.pre,std_call,tt_eq]
theorem so119:FSpec.Sound Try.prog 119 sp119:=
 w119_ok.sound _ _ fun (sFrom,(sSpanFrom,sSpanTo),sLevel,sBN,sBB) _ h=>LT.runs (d:=Ty.dflts [.bool]) (eqs119 sFrom sSpanFrom sSpanTo sLevel sBN sBB) (pre119_ok h)
structure P168c0 where
 a0:List Int
 a1:Int
 a3:Int
inductive Y168 where
 | c0 (p:P168c0) (a2:Int)
noncomputable def cfg168:Y168→Cfg
 | .c0 p a2=>{frames:=[{fn:=185,n:=19,env:=(Env.put (Env.put (Env.put (Env.put .leaf 0 (.sl (.int .i64) p.a0)) 1 (.fn 181 [] [.ptr 0 0])) 7 (.int .i64 false p.a1)) 8 (.int .i64 false a2)),todo:=[.inLoop (Code.way (bodyOf Try.f185) [1,0,1,0,0]),.inBlock 0,.code (Code.way (bodyOf Try.f185) [1,1])],marks:=[],rnd:=none},{fn:=180,n:=9,env:=.leaf,todo:=[.ops (opsOf (Code.way (bodyOf Try.f180) [1,0])) ((opsOf (Code.way (bodyOf Try.f180) [1,0])).toList.drop 2),.code .ret],marks:=[],rnd:=none},{fn:=168,n:=36,env:=.leaf,todo:=[.ops (opsOf (Code.way (bodyOf Try.f168) [1,1,1,0])) ((opsOf (Code.way (bodyOf Try.f168) [1,1,1,0])).toList.drop 3),.code .ret],marks:=[],rnd:=none}],mem:=[.flat false [.int .i64 false p.a3],.dead]}
def t168 (A:Alg) (mNodes:Int) (mSlot:Int) (mGap:Int) (mWindow:Int) (mDrift:Int) (mDelay:Int) (mCold:List Bool) (mModes:List Mode) (cStart:Int) (cSlot:Int) (cDevs:List Int):LT Bool Y168:=
 .br (A.cmp .lss cStart 0)
 (.ret false)
 (.br (A.cmp .gtr cStart 1099494850560)
 (.ret false)
 (.br (A.cmp .lss cSlot 0)
  (.ret false)
  (.br (A.cmp .gtr cSlot 1048576)
  (.ret false)
  (.br (A.cmp .gtr (A.len cDevs) 8)
   (.ret false)
   (.more (.c0 ⟨cDevs,(A.len cDevs),mWindow⟩ 0))))))
def s168 (A:Alg):Y168→LT Bool Y168
 | .c0 p a2=>
  .br (A.cmp .lss a2 p.a1)
  (.need (A.and (A.cmp .leq 0 a2) (A.cmp .lss a2 (A.len p.a0))) (
   .br (A.cmp .lss (A.nth (.int .i64) p.a0 a2:Int) (A.una .neg .i64 p.a3))
   (.ret (A.not (A.cmp .geq a2 0)))
   (.br (A.cmp .gtr (A.nth (.int .i64) p.a0 a2:Int) p.a3)
    (.ret (A.not (A.cmp .geq a2 0)))
    (.more (.c0 p (A.bin .add .i64 a2 1))))))
  (.ret true)
noncomputable def E168 (A:Alg):Info (Ty.Ts [.bool]):={ti:=tys,fns:=[(168,Try.f168),(180,Try.f180),(181,Try.f181),(185,Try.f185)],sps:=[],stops:=[⟨185,2, [[0,1,7,8], [], []]⟩],cuts:=[],consts:=[],fin:=finD A [.bool]}
theorem t168_ok (A:Alg) (mNodes:Int) (mSlot:Int) (mGap:Int) (mWindow:Int) (mDrift:Int) (mDelay:Int) (mCold:List Bool) (mModes:List Mode) (cStart:Int) (cSlot:Int) (cDevs:List Int):run A (E168 A) 95 (startC 168 Try.f168 (dvals A [yMedl,yClk] ((mNodes,mSlot,mGap,mWindow,mDrift,mDelay,mCold,mModes),cStart,cSlot,cDevs)))=(t168 A mNodes mSlot mGap mWindow mDrift mDelay mCold mModes cStart cSlot cDevs).tr cfg168:=by kernel_rfl
theorem s168_ok (A:Alg):∀y,∃n,run A (E168 A) n (advance (E168 A).sps (cfg168 y))=(s168 A y).tr cfg168
 | .c0 p a2=>⟨61,by kernel_rfl⟩
def w168:Walk Try.prog 168 [yMedl,yClk] [.bool] Y168:=⟨fun ((mNodes,mSlot,mGap,mWindow,mDrift,mDelay,mCold,mModes),cStart,cSlot,cDevs)=>t168 std mNodes mSlot mGap mWindow mDrift mDelay mCold mModes cStart cSlot cDevs,s168 std⟩
theorem w168_ok:w168.Ok:=
 walk_ok (E:=E168 std) ⟨tys_fit,fns_cons Try.func168 (by kernel_rfl) (fns_cons Try.func180 (by kernel_rfl) (fns_cons Try.func181 (by kernel_rfl) (fns_cons Try.func185 (by kernel_rfl) (fns_nil)))),sps_nil,by kernel_rfl⟩ rfl rfl rfl (by kernel_rfl) w168 cfg168 95 (fun ((mNodes,mSlot,mGap,mWindow,mDrift,mDelay,mCold,mModes),cStart,cSlot,cDevs)=>t168_ok std mNodes mSlot mGap mWindow mDrift mDelay mCold mModes cStart cSlot cDevs) (s168_ok std)
def devB (w x:Int):Bool:=!std.cmp .lss x (std.una .neg .i64 w) && !std.cmp .gtr x w
def clkB (w:Int) (c:Clk):Bool:=!decide (c.1 < 0) && (!decide (1099494850560 < c.1) && (!decide (c.2.1 < 0) && (!decide (1048576 < c.2.1) && (!decide (8 < (c.2.2.length:Int)) && c.2.2.all (devB w)))))
theorem may0 {l:List Int} {w:Int} (hl:l.length≤140737488355328):∀(j i:Nat),l.length - i=j→i≤l.length→Runs (s168 std) (.more (.c0 ⟨l,(l.length:Int),w⟩ (i:Int))) ((l.drop i).all (devB w)):=by
 intro j
 induction j with
 | zero=>
  intro i hj hi
  have:i=l.length:=by omega
  subst this
  rw [runs_more,s168]
  refine (runs_brF (by rw [lss_nat]; simp)).2 ?_
  rw [List.drop_length]
  exact .ret _
 | succ j ih=>
  intro i hj hi
  have hi':i < l.length:=by omega
  rw [runs_more,s168]
  refine (runs_brT (by rw [lss_nat]; simp; omega)).2 (runs_need.2 ⟨need_ix hi',?_⟩)
  rw [nthI hi',List.drop_eq_getElem_cons hi',List.all_cons,devB]
  have hg:std.not (std.cmp .geq (i:Int) 0)=false:=by rw [std_not,std_cmp_geq]; simp
  rw [hg]
  cases std.cmp .lss l[i] (std.una .neg .i64 w)
  ·refine (runs_brF rfl).2 ?_
   cases std.cmp .gtr l[i] w
   ·refine (runs_brF rfl).2 ?_
    rw [inc1 (i:=i) (by omega)]
    exact ih (i + 1) (by omega) (by omega)
   ·exact (runs_brT rfl).2 (.ret _)
  ·exact (runs_brT rfl).2 (.ret _)
theorem may1 {n s g w d de cs ck:Int} {cold:List Bool} {modes:List Mode} {l:List Int} (hl:l.length≤140737488355328):Runs (s168 std) (t168 std n s g w d de cold modes cs ck l) (clkB w (cs,ck,l)):=by
 unfold t168 clkB
 simp only [lenI,std_cmp_lss,std_cmp_gtr]
 cases decide (cs < 0)
 ·refine (runs_brF rfl).2 ?_
  cases decide (1099494850560 < cs)
  ·refine (runs_brF rfl).2 ?_
   cases decide (ck < 0)
   ·refine (runs_brF rfl).2 ?_
    cases decide (1048576 < ck)
    ·refine (runs_brF rfl).2 ?_
     cases decide (8 < (l.length:Int))
     ·exact (runs_brF rfl).2 (may0 hl l.length 0 rfl (by omega))
     ·exact (runs_brT rfl).2 (.ret _)
    ·exact (runs_brT rfl).2 (.ret _)
   ·exact (runs_brT rfl).2 (.ret _)
  ·exact (runs_brT rfl).2 (.ret _)
 ·exact (runs_brT rfl).2 (.ret _)
theorem has_clk {n s g w d de cs ck:Int} {cold:List Bool} {modes:List Mode} {l:List Int} (h:Ty.hass [yMedl,yClk] ((n,s,g,w,d,de,cold,modes),cs,ck,l)):l.length≤140737488355328:=h.2.2.2.1
def clkS (x:Medl×Clk):Int:=bif medlB x.1 then (bif clkB x.1.2.2.2.1 x.2 then 0 else 130) else 70
def fn168:(Medl×Clk)→Bool:=fun (m,c)=>clkB m.2.2.2.1 c
def sp168:FSpec:=⟨[yMedl,yClk], [.bool],(@tt (Medl×Clk)),fn168⟩
theorem run168 {mNodes:Int} {mSlot:Int} {mGap:Int} {mWindow:Int} {mDrift:Int} {mDelay:Int} {mCold:List Bool} {mModes:List Mode} {cStart:Int} {cSlot:Int} {cDevs:List Int} (h:Ty.hass [yMedl,yClk] ((mNodes,mSlot,mGap,mWindow,mDrift,mDelay,mCold,mModes),cStart,cSlot,cDevs)):Runs (s168 std) (t168 std mNodes mSlot mGap mWindow mDrift mDelay mCold mModes cStart cSlot cDevs) (fn168 ((mNodes,mSlot,mGap,mWindow,mDrift,mDelay,mCold,mModes),cStart,cSlot,cDevs)):=by
 exact may1 (has_clk h)
theorem so168:FSpec.Sound Try.prog 168 sp168:=
 w168_ok.sound _ _ fun ((mNodes,mSlot,mGap,mWindow,mDrift,mDelay,mCold,mModes),cStart,cSlot,cDevs) _ h=>run168 h
def t147 (A:Alg) (mNodes:Int) (mSlot:Int) (mGap:Int) (mWindow:Int) (mDrift:Int) (mDelay:Int) (mCold:List Bool) (mModes:List Mode) (cStart:Int) (cSlot:Int) (cDevs:List Int):LT Int Empty:=
 .need (A.call (@tt Medl) (mNodes,mSlot,mGap,mWindow,mDrift,mDelay,mCold,mModes)) (
 .br (A.cmp .neq (A.call fn124 (mNodes,mSlot,mGap,mWindow,mDrift,mDelay,mCold,mModes)) 0)
 (.ret (A.call fn124 (mNodes,mSlot,mGap,mWindow,mDrift,mDelay,mCold,mModes)))
 (.need (A.call (@tt (Medl×Clk)) ((mNodes,mSlot,mGap,mWindow,mDrift,mDelay,mCold,mModes),cStart,cSlot,cDevs)) (
  .br (A.not (A.call fn168 ((mNodes,mSlot,mGap,mWindow,mDrift,mDelay,mCold,mModes),cStart,cSlot,cDevs)))
  (.ret 130)
  (.ret 0))))
noncomputable def E147 (A:Alg):Info (Ty.Ts [(.int .i64)]):={ti:=tys,fns:=[(147,Try.f147)],sps:=[(124,sp124),(168,sp168)],stops:=[],cuts:=[],consts:=[],fin:=finD A [(.int .i64)]}
theorem t147_ok (A:Alg) (mNodes:Int) (mSlot:Int) (mGap:Int) (mWindow:Int) (mDrift:Int) (mDelay:Int) (mCold:List Bool) (mModes:List Mode) (cStart:Int) (cSlot:Int) (cDevs:List Int):run A (E147 A) 40 (startC 147 Try.f147 (dvals A [yMedl,yClk] ((mNodes,mSlot,mGap,mWindow,mDrift,mDelay,mCold,mModes),cStart,cSlot,cDevs)))=(t147 A mNodes mSlot mGap mWindow mDrift mDelay mCold mModes cStart cSlot cDevs).tr Empty.elim:=by kernel_rfl
def w147:Walk Try.prog 147 [yMedl,yClk] [(.int .i64)] Empty:=⟨fun ((mNodes,mSlot,mGap,mWindow,mDrift,mDelay,mCold,mModes),cStart,cSlot,cDevs)=>t147 std mNodes mSlot mGap mWindow mDrift mDelay mCold mModes cStart cSlot cDevs,Empty.elim⟩
theorem w147_ok:w147.Ok:=
 walk_ok (E:=E147 std) ⟨tys_fit,fns_cons Try.func147 (by kernel_rfl) (fns_nil),sps_cons so124 (sps_cons so168 (sps_nil)),by kernel_rfl⟩ rfl rfl rfl (by kernel_rfl) w147 Empty.elim 40 (fun ((mNodes,mSlot,mGap,mWindow,mDrift,mDelay,mCold,mModes),cStart,cSlot,cDevs)=>t147_ok std mNodes mSlot mGap mWindow mDrift mDelay mCold mModes cStart cSlot cDevs) (fun y=>y.elim)
def fn147:(Medl×Clk)→Int:=fun ((mNodes,mSlot,mGap,mWindow,mDrift,mDelay,mCold,mModes),cStart,cSlot,cDevs)=>(t147 std mNodes mSlot mGap mWindow mDrift mDelay mCold mModes cStart cSlot cDevs).val (Ty.dflts [(.int .i64)])
def sp147:FSpec:=⟨[yMedl,yClk], [(.int .i64)],(@tt (Medl×Clk)),fn147⟩
theorem eqs147 (mNodes:Int) (mSlot:Int) (mGap:Int) (mWindow:Int) (mDrift:Int) (mDelay:Int) (mCold:List Bool) (mModes:List Mode) (cStart:Int) (cSlot:Int) (cDevs:List Int):(t147 std mNodes mSlot mGap mWindow mDrift mDelay mCold mModes cStart cSlot cDevs).Eqs:=by simp only [t147,LT.Eqs,and_self,true_and,and_true]
theorem pre147_ok {mNodes:Int} {mSlot:Int} {mGap:Int} {mWindow:Int} {mDrift:Int} {mDelay:Int} {mCold:List Bool} {mModes:List Mode} {cStart:Int} {cSlot:Int} {cDevs:List Int} (h:Ty.hass [yMedl,yClk] ((mNodes,mSlot,mGap,mWindow,mDrift,mDelay,mCold,mModes),cStart,cSlot,cDevs)):(t147 std mNodes mSlot mGap mWindow mDrift mDelay mCold mModes cStart cSlot cDevs).pre=true:=by
 simp [t147,LT.pre,std_call,tt_eq]
theorem so147:FSpec.Sound Try.prog 147 sp147:=
 w147_ok.sound _ _ fun ((mNodes,mSlot,mGap,mWindow,mDrift,mDelay,mCold,mModes),cStart,cSlot,cDevs) _ h=>LT.runs (d:=Ty.dflts [(.int .i64)]) (eqs147 mNodes mSlot mGap mWindow mDrift mDelay mCold mModes cStart cSlot cDevs) (pre147_ok h)
def t148 (A:Alg) (mNodes:Int) (mSlot:Int) (mGap:Int) (mWindow:Int) (mDrift:Int) (mDelay:Int) (mCold:List Bool) (mModes:List Mode) (cStart:Int) (cSlot:Int) (cDevs:List Int):LT Int Empty:=
 .ret (A.bin .add .i64 cStart (A.bin .add .i64 mGap mDelay))
noncomputable def E148 (A:Alg):Info (Ty.Ts [(.int .i64)]):={ti:=tys,fns:=[(148,Try.f148)],sps:=[],stops:=[],cuts:=[],consts:=[],fin:=finD A [(.int .i64)]}
theorem t148_ok (A:Alg) (mNodes:Int) (mSlot:Int) (mGap:Int) (mWindow:Int) (mDrift:Int) (mDelay:Int) (mCold:List Bool) (mModes:List Mode) (cStart:Int) (cSlot:Int) (cDevs:List Int):run A (E148 A) 24 (startC 148 Try.f148 (dvals A [yMedl,yClk] ((mNodes,mSlot,mGap,mWindow,mDrift,mDelay,mCold,mModes),cStart,cSlot,cDevs)))=(t148 A mNodes mSlot mGap mWindow mDrift mDelay mCold mModes cStart cSlot cDevs).tr Empty.elim:=by kernel_rfl
def w148:Walk Try.prog 148 [yMedl,yClk] [(.int .i64)] Empty:=⟨fun ((mNodes,mSlot,mGap,mWindow,mDrift,mDelay,mCold,mModes),cStart,cSlot,cDevs)=>t148 std mNodes mSlot mGap mWindow mDrift mDelay mCold mModes cStart cSlot cDevs,Empty.elim⟩
theorem w148_ok:w148.Ok:=
 walk_ok (E:=E148 std) ⟨tys_fit,fns_cons Try.func148 (by kernel_rfl) (fns_nil),sps_nil,by kernel_rfl⟩ rfl rfl rfl (by kernel_rfl) w148 Empty.elim 24 (fun ((mNodes,mSlot,mGap,mWindow,mDrift,mDelay,mCold,mModes),cStart,cSlot,cDevs)=>t148_ok std mNodes mSlot mGap mWindow mDrift mDelay mCold mModes cStart cSlot cDevs) (fun y=>y.elim)
def fn148:(Medl×Clk)→Int:=fun ((mNodes,mSlot,mGap,mWindow,mDrift,mDelay,mCold,mModes),cStart,cSlot,cDevs)=>(t148 std mNodes mSlot mGap mWindow mDrift mDelay mCold mModes cStart cSlot cDevs).val (Ty.dflts [(.int .i64)])
def sp148:FSpec:=⟨[yMedl,yClk], [(.int .i64)],(@tt (Medl×Clk)),fn148⟩
theorem eqs148 (mNodes:Int) (mSlot:Int) (mGap:Int) (mWindow:Int) (mDrift:Int) (mDelay:Int) (mCold:List Bool) (mModes:List Mode) (cStart:Int) (cSlot:Int) (cDevs:List Int):(t148 std mNodes mSlot mGap mWindow mDrift mDelay mCold mModes cStart cSlot cDevs).Eqs:=by simp only [t148,LT.Eqs,and_self,true_and,and_true]
theorem pre148_ok {mNodes:Int} {mSlot:Int} {mGap:Int} {mWindow:Int} {mDrift:Int} {mDelay:Int} {mCold:List Bool} {mModes:List Mode} {cStart:Int} {cSlot:Int} {cDevs:List Int} (h:Ty.hass [yMedl,yClk] ((mNodes,mSlot,mGap,mWindow,mDrift,mDelay,mCold,mModes),cStart,cSlot,cDevs)):(t148 std mNodes mSlot mGap mWindow mDrift mDelay mCold mModes cStart cSlot cDevs).pre=true:=by
 simp [t148,LT.pre,std_call,tt_eq]
theorem so148:FSpec.Sound Try.prog 148 sp148:=
 w148_ok.sound _ _ fun ((mNodes,mSlot,mGap,mWindow,mDrift,mDelay,mCold,mModes),cStart,cSlot,cDevs) _ h=>LT.runs (d:=Ty.dflts [(.int .i64)]) (eqs148 mNodes mSlot mGap mWindow mDrift mDelay mCold mModes cStart cSlot cDevs) (pre148_ok h)
def t116 (A:Alg) (mNodes:Int) (mSlot:Int) (mGap:Int) (mWindow:Int) (mDrift:Int) (mDelay:Int) (mCold:List Bool) (mModes:List Mode) (cStart:Int) (cSlot:Int) (cDevs:List Int):LT (Span×Int) Empty:=
 .need (A.call (@tt (Medl×Clk)) ((mNodes,mSlot,mGap,mWindow,mDrift,mDelay,mCold,mModes),cStart,cSlot,cDevs)) (
 .br (A.cmp .neq (A.call fn147 ((mNodes,mSlot,mGap,mWindow,mDrift,mDelay,mCold,mModes),cStart,cSlot,cDevs)) 0)
 (.ret ((0,0),(A.call fn147 ((mNodes,mSlot,mGap,mWindow,mDrift,mDelay,mCold,mModes),cStart,cSlot,cDevs))))
 (.need (A.call (@tt (Medl×Clk)) ((mNodes,mSlot,mGap,mWindow,mDrift,mDelay,mCold,mModes),cStart,cSlot,cDevs)) (
  .ret (((A.mx (A.bin .sub .i64 (A.call fn148 ((mNodes,mSlot,mGap,mWindow,mDrift,mDelay,mCold,mModes),cStart,cSlot,cDevs)) mWindow) 0),(A.bin .add .i64 (A.bin .add .i64 (A.call fn148 ((mNodes,mSlot,mGap,mWindow,mDrift,mDelay,mCold,mModes),cStart,cSlot,cDevs)) mWindow) 1)),0))))
noncomputable def E116 (A:Alg):Info (Ty.Ts [ySpan,(.int .i64)]):={ti:=tys,fns:=[(116,Try.f116)],sps:=[(147,sp147),(148,sp148)],stops:=[],cuts:=[],consts:=[],fin:=finD A [ySpan,(.int .i64)]}
theorem t116_ok (A:Alg) (mNodes:Int) (mSlot:Int) (mGap:Int) (mWindow:Int) (mDrift:Int) (mDelay:Int) (mCold:List Bool) (mModes:List Mode) (cStart:Int) (cSlot:Int) (cDevs:List Int):run A (E116 A) 52 (startC 116 Try.f116 (dvals A [yMedl,yClk] ((mNodes,mSlot,mGap,mWindow,mDrift,mDelay,mCold,mModes),cStart,cSlot,cDevs)))=(t116 A mNodes mSlot mGap mWindow mDrift mDelay mCold mModes cStart cSlot cDevs).tr Empty.elim:=by kernel_rfl
def w116:Walk Try.prog 116 [yMedl,yClk] [ySpan,(.int .i64)] Empty:=⟨fun ((mNodes,mSlot,mGap,mWindow,mDrift,mDelay,mCold,mModes),cStart,cSlot,cDevs)=>t116 std mNodes mSlot mGap mWindow mDrift mDelay mCold mModes cStart cSlot cDevs,Empty.elim⟩
theorem w116_ok:w116.Ok:=
 walk_ok (E:=E116 std) ⟨tys_fit,fns_cons Try.func116 (by kernel_rfl) (fns_nil),sps_cons so147 (sps_cons so148 (sps_nil)),by kernel_rfl⟩ rfl rfl rfl (by kernel_rfl) w116 Empty.elim 52 (fun ((mNodes,mSlot,mGap,mWindow,mDrift,mDelay,mCold,mModes),cStart,cSlot,cDevs)=>t116_ok std mNodes mSlot mGap mWindow mDrift mDelay mCold mModes cStart cSlot cDevs) (fun y=>y.elim)
def fn116:(Medl×Clk)→(Span×Int):=fun ((mNodes,mSlot,mGap,mWindow,mDrift,mDelay,mCold,mModes),cStart,cSlot,cDevs)=>(t116 std mNodes mSlot mGap mWindow mDrift mDelay mCold mModes cStart cSlot cDevs).val (Ty.dflts [ySpan,(.int .i64)])
def sp116:FSpec:=⟨[yMedl,yClk], [ySpan,(.int .i64)],(@tt (Medl×Clk)),fn116⟩
theorem eqs116 (mNodes:Int) (mSlot:Int) (mGap:Int) (mWindow:Int) (mDrift:Int) (mDelay:Int) (mCold:List Bool) (mModes:List Mode) (cStart:Int) (cSlot:Int) (cDevs:List Int):(t116 std mNodes mSlot mGap mWindow mDrift mDelay mCold mModes cStart cSlot cDevs).Eqs:=by simp only [t116,LT.Eqs,and_self,true_and,and_true]
theorem pre116_ok {mNodes:Int} {mSlot:Int} {mGap:Int} {mWindow:Int} {mDrift:Int} {mDelay:Int} {mCold:List Bool} {mModes:List Mode} {cStart:Int} {cSlot:Int} {cDevs:List Int} (h:Ty.hass [yMedl,yClk] ((mNodes,mSlot,mGap,mWindow,mDrift,mDelay,mCold,mModes),cStart,cSlot,cDevs)):(t116 std mNodes mSlot mGap mWindow mDrift mDelay mCold mModes cStart cSlot cDevs).pre=true:=by
 simp [t116,LT.pre,std_call,tt_eq]
theorem so116:FSpec.Sound Try.prog 116 sp116:=
 w116_ok.sound _ _ fun ((mNodes,mSlot,mGap,mWindow,mDrift,mDelay,mCold,mModes),cStart,cSlot,cDevs) _ h=>LT.runs (d:=Ty.dflts [ySpan,(.int .i64)]) (eqs116 mNodes mSlot mGap mWindow mDrift mDelay mCold mModes cStart cSlot cDevs) (pre116_ok h)
theorem fn147_eq {m:Medl} {c:Clk}:fn147 (m,c)=clkS (m,c):=by
 obtain ⟨n,s,g,w,d,de,cold,modes⟩:=m
 obtain ⟨cs,ck,l⟩:=c
 simp only [fn147,t147,LT.val,std_call,fn124_eq,medlS,clkS,std_not]
 rw [show fn168 ((n,s,g,w,d,de,cold,modes),cs,ck,l)=clkB w (cs,ck,l) from rfl]
 cases medlB (n,s,g,w,d,de,cold,modes) <;> cases clkB w (cs,ck,l) <;> rfl
theorem wrap_i64 (n:Int):IntKind.i64.wrap n=if n % 18446744073709551616 ≥ 9223372036854775808 then n % 18446744073709551616 - 18446744073709551616 else n % 18446744073709551616:=by
 simp [IntKind.wrap,IntKind.signed,IntKind.bits]
theorem add_add {a b c:Int}:std.bin .add .i64 (std.bin .add .i64 a b) c=std.bin .add .i64 a (std.bin .add .i64 b c):=by
 simp only [std_add,wrap_i64]
 split <;> split <;> split <;> split <;> omega
theorem fn170_eq:fn170=fn186:=rfl
theorem fn97_99 {n:Int} {b:List Int} (hb:bytesOk b) (hl:b.length≤140737488355328):fn97 (n,b)=fn99 (n,b):=by rw [fn99_eq hb hl]; rfl
end Go.Ev.M
