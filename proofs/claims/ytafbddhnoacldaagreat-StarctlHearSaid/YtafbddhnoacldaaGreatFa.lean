/-
  PROVED: what the functions of the packages bits and metronomeref01 compute. Conditions: none.
-/
import Derived.Test.YtafbddhnoacldaaGreatTy
import Derived.Test.YtafbddhnoacldaaGreatEvC
import Derived.Test.YtafbddhnoacldaaGreatPl
namespace Go.Ev.M
open Go.Proofs
set_option maxRecDepth 100000
set_option linter.unusedVariables false
set_option linter.unusedSimpArgs false
open Go.Ev.Pl
open Go.Ev.Pl
theorem quo8 {i:Int} (h:0≤i) (h2:i≤4611686018427387904):std.bin .quo .i64 i 8=((i.toNat / 8:Nat):Int):=by
 rw [std_quo,Int.tdiv_eq_ediv_of_nonneg h,w64 (by omega) (by omega)]; omega
theorem rem8 {i:Int} (h:0≤i):std.bin .rem .i64 i 8=((i.toNat % 8:Nat):Int):=by
 rw [std_rem,Int.tmod_eq_emod_of_nonneg h]; omega
theorem has_bits {n:Int} {b:List Int} (h:Ty.has (.struct [(.int .i64),(.slice (.int .u8))]) (n,b)):(-9223372036854775808≤n∧n≤9223372036854775807)∧b.length≤lenMax∧bytesOk b:=by
 simp only [Ty.has,Ty.hass] at h
 exact ⟨h.1,h.2.1,fun x hx=>h.2.2 x hx⟩
theorem has_len {n:Int} {b:List Int} (h:Ty.has (.struct [(.int .i64),(.slice (.int .u8))]) (n,b)):b.length≤140737488355328:=(has_bits h).2.1
theorem has_len1 {b:List Int} {i:Int} (h:Ty.hass [(.slice (.int .u8)),(.int .i64)] (b,i)):b.length≤140737488355328:=by
 simp only [Ty.hass,Ty.has] at h
 exact h.1.1
def t137 (A:Alg) (n:Int):LT Int Empty:=
 .ret (A.bin .quo .i64 (A.bin .add .i64 n 7) 8)
noncomputable def E137 (A:Alg):Info (Ty.Ts [(.int .i64)]):={ti:=tys,fns:=[(183,Tryz.f183)],sps:=[],stops:=[],cuts:=[],consts:=[],fin:=finD A [(.int .i64)]}
theorem t137_ok (A:Alg) (n:Int):run A (E137 A) 17 (startC 183 Tryz.f183 (dvals A [(.int .i64)] n))=(t137 A n).tr Empty.elim:=by kernel_rfl
def w137:Walk Tryz.prog 183 [(.int .i64)] [(.int .i64)] Empty:=⟨fun n=>t137 std n,Empty.elim⟩
theorem w137_ok:w137.Ok:=
 walk_ok (E:=E137 std) ⟨tys_fit,fns_cons Tryz.func183 (by kernel_rfl) (fns_nil),sps_nil,by kernel_rfl⟩ rfl rfl rfl (by kernel_rfl) w137 Empty.elim 17 (fun n=>t137_ok std n) (fun y=>y.elim)
def fn137:Int→Int:=fun n=>(t137 std n).val (Ty.dflts [(.int .i64)])
def sp137:FSpec:=⟨[(.int .i64)], [(.int .i64)],(@tt Int),fn137⟩
theorem eqs137 (n:Int):(t137 std n).Eqs:=by simp only [t137,LT.Eqs,and_self,true_and,and_true]
theorem pre137_ok {n:Int} (h:Ty.hass [(.int .i64)] n):(t137 std n).pre=true:=by
 rfl
theorem so137:FSpec.Sound Tryz.prog 183 sp137:=
 w137_ok.sound _ _ fun n _ h=>LT.runs (d:=Ty.dflts [(.int .i64)]) (eqs137 n) (pre137_ok h)
def t177 (A:Alg) (i:Int):LT Int Empty:=
 .need (A.cmp .leq 0 (A.bin .rem .i64 i 8)) (
 .ret (A.bin .shr .u8 128 (A.bin .rem .i64 i 8)))
noncomputable def E177 (A:Alg):Info (Ty.Ts [(.int .u8)]):={ti:=tys,fns:=[(308,Tryz.f308)],sps:=[],stops:=[],cuts:=[],consts:=[],fin:=finD A [(.int .u8)]}
theorem t177_ok (A:Alg) (i:Int):run A (E177 A) 17 (startC 308 Tryz.f308 (dvals A [(.int .i64)] i))=(t177 A i).tr Empty.elim:=by kernel_rfl
def w177:Walk Tryz.prog 308 [(.int .i64)] [(.int .u8)] Empty:=⟨fun i=>t177 std i,Empty.elim⟩
theorem w177_ok:w177.Ok:=
 walk_ok (E:=E177 std) ⟨tys_fit,fns_cons Tryz.func308 (by kernel_rfl) (fns_nil),sps_nil,by kernel_rfl⟩ rfl rfl rfl (by kernel_rfl) w177 Empty.elim 17 (fun i=>t177_ok std i) (fun y=>y.elim)
def fn177:Int→Int:=fun i=>(t177 std i).val (Ty.dflts [(.int .u8)])
def pre177:Int→Bool:=fun i=>decide (0≤i)
def sp177:FSpec:=⟨[(.int .i64)], [(.int .u8)],pre177,fn177⟩
theorem eqs177 (i:Int):(t177 std i).Eqs:=by simp only [t177,LT.Eqs,and_self,true_and,and_true]
theorem pre177_ok {i:Int} (h:Ty.hass [(.int .i64)] i) (hp:pre177 i=true):(t177 std i).pre=true:=by
 simp only [t177,LT.pre,cond_iff,std_cmp_eql,std_cmp_neq,std_cmp_lss,std_cmp_leq,std_cmp_gtr,std_cmp_geq,std_and,std_not,std_beq,std_call,std_add,std_sub,std_conv,std_len,tt_eq,Bool.and_eq_true,Bool.or_eq_true,Bool.and_eq_false_iff,Bool.or_eq_false_iff,Bool.not_eq_true',Bool.not_eq_false',decide_eq_true_eq,decide_eq_false_iff_not,bne_iff_ne,beq_iff_eq,bne_eq_false_iff_eq,beq_eq_false_iff_ne]
 simp only [pre177,decide_eq_true_eq] at hp
 rw [rem8 hp]; exact ⟨by omega,trivial⟩
theorem so177:FSpec.Sound Tryz.prog 308 sp177:=
 w177_ok.sound _ _ fun i hp h=>LT.runs (d:=Ty.dflts [(.int .u8)]) (eqs177 i) (pre177_ok h hp)
theorem fn137_eq {n:Int} (h:0≤n) (h2:n≤4611686018427387000):fn137 n=(((n.toNat + 7) / 8:Nat):Int):=by
 simp only [fn137,t137,LT.val]
 rw [std_add,w64 (by omega) (by omega),quo8 (by omega) (by omega)]
 omega
theorem mask_all:∀k:Fin 8,std.bin .shr .u8 128 (k.val:Int)=((128 >>> k.val:Nat):Int):=by decide +kernel
theorem fn177_eq {i:Int} (h:0≤i):fn177 i=((128 >>> (i.toNat % 8):Nat):Int):=by
 simp only [fn177,t177,LT.val]
 rw [rem8 h]
 exact mask_all ⟨i.toNat % 8,Nat.mod_lt _ (by decide)⟩
theorem and_all:∀c:Fin 256,∀k:Fin 8,(std.bin .and .u8 (c.val:Int) ((128 >>> k.val:Nat):Int) != 0)=c.val.testBit (7 - k.val):=by decide +kernel
theorem nth_ok {l:List Int} (h:bytesOk l) (i:Nat):0≤l.getD i 0∧l.getD i 0≤255:=by
 rw [List.getD_eq_getElem?_getD]
 by_cases hi:i < l.length
 ·rw [List.getElem?_eq_getElem hi]; exact h _ (List.getElem_mem hi)
 ·rw [List.getElem?_eq_none (by omega)]; decide
theorem has_bit {l:List Int} (h:bytesOk l) (i:Nat):(std.bin .and .u8 (l.getD (i / 8) 0) ((128 >>> (i % 8):Nat):Int) != 0)=bitB l i:=by
 have h1:=nth_ok h (i / 8)
 have h2:=and_all ⟨(l.getD (i / 8) 0).toNat,by omega⟩ ⟨i % 8,Nat.mod_lt _ (by decide)⟩
 simp only at h2
 rw [show (((l.getD (i / 8) 0).toNat:Nat):Int)=l.getD (i / 8) 0 from by omega] at h2
 exact h2
def t166 (A:Alg) (bN:Int) (bB:List Int) (i:Int):LT Bool Empty:=
 .need (A.and (A.cmp .leq 0 (A.bin .quo .i64 i 8)) (A.cmp .lss (A.bin .quo .i64 i 8) (A.len bB))) (
 .need (A.call pre177 i) (
 .ret (A.cmp .neq (A.bin .and .u8 (A.nth (.int .u8) bB (A.bin .quo .i64 i 8):Int) (A.call fn177 i)) 0)))
noncomputable def E166 (A:Alg):Info (Ty.Ts [.bool]):={ti:=tys,fns:=[(302,Tryz.f302)],sps:=[(308,sp177)],stops:=[],cuts:=[],consts:=[],fin:=finD A [.bool]}
theorem t166_ok (A:Alg) (bN:Int) (bB:List Int) (i:Int):run A (E166 A) 25 (startC 302 Tryz.f302 (dvals A [(.struct [(.int .i64),(.slice (.int .u8))]),(.int .i64)] ((bN,bB),i)))=(t166 A bN bB i).tr Empty.elim:=by kernel_rfl
def w166:Walk Tryz.prog 302 [(.struct [(.int .i64),(.slice (.int .u8))]),(.int .i64)] [.bool] Empty:=⟨fun ((bN,bB),i)=>t166 std bN bB i,Empty.elim⟩
theorem w166_ok:w166.Ok:=
 walk_ok (E:=E166 std) ⟨tys_fit,fns_cons Tryz.func302 (by kernel_rfl) (fns_nil),sps_cons so177 (sps_nil),by kernel_rfl⟩ rfl rfl rfl (by kernel_rfl) w166 Empty.elim 25 (fun ((bN,bB),i)=>t166_ok std bN bB i) (fun y=>y.elim)
def fn166:((Int×List Int)×Int)→Bool:=fun ((bN,bB),i)=>(t166 std bN bB i).val (Ty.dflts [.bool])
def pre166:((Int×List Int)×Int)→Bool:=fun ((n,b),i)=>decide (0≤i) && decide (i < 8 * (b.length:Int))
def sp166:FSpec:=⟨[(.struct [(.int .i64),(.slice (.int .u8))]),(.int .i64)], [.bool],pre166,fn166⟩
theorem eqs166 (bN:Int) (bB:List Int) (i:Int):(t166 std bN bB i).Eqs:=by simp only [t166,LT.Eqs,and_self,true_and,and_true]
theorem pre166_ok {bN:Int} {bB:List Int} {i:Int} (h:Ty.hass [(.struct [(.int .i64),(.slice (.int .u8))]),(.int .i64)] ((bN,bB),i)) (hp:pre166 ((bN,bB),i)=true):(t166 std bN bB i).pre=true:=by
 simp only [pre166,Bool.and_eq_true,decide_eq_true_eq] at hp
 have hl:=has_len h.1
 simp only [t166,LT.pre,std_call,std_and,std_cmp_leq,std_cmp_lss,pre177,Bool.and_eq_true,decide_eq_true_eq,std_len]
 rw [quo8 hp.1 (by omega)]
 refine ⟨⟨by omega,by omega⟩,hp.1,trivial⟩
theorem so166:FSpec.Sound Tryz.prog 302 sp166:=
 w166_ok.sound _ _ fun ((bN,bB),i) hp h=>LT.runs (d:=Ty.dflts [.bool]) (eqs166 bN bB i) (pre166_ok h hp)
theorem fn166_eq {n:Int} {b:List Int} {i:Int} (hb:bytesOk b) (h0:0≤i) (h1:i < 8 * (b.length:Int)) (hl:b.length≤140737488355328):fn166 ((n,b),i)=bitB b i.toNat:=by
 simp only [fn166,t166,LT.val,std_call,std_cmp_neq]
 rw [quo8 h0 (by omega),fn177_eq h0]
 exact has_bit hb i.toNat
def t99 (A:Alg) (bN:Int) (bB:List Int):LT Int Empty:=
 .br (A.cmp .lss bN 0)
 (.ret 10)
 (.br (A.cmp .gtr bN 4096)
 (.ret 10)
 (.need (A.call (@tt Int) bN) (
  .br (A.cmp .neq (A.len bB) (A.call fn137 bN))
  (.ret 10)
  (.br (A.cmp .neq (A.bin .rem .i64 bN 8) 0)
   (.need (A.and (A.cmp .leq 0 (A.bin .sub .i64 (A.len bB) 1)) (A.cmp .lss (A.bin .sub .i64 (A.len bB) 1) (A.len bB))) (
   .need (A.cmp .leq 0 (A.bin .rem .i64 bN 8)) (
    .br (A.cmp .neq (A.bin .and .u8 (A.nth (.int .u8) bB (A.bin .sub .i64 (A.len bB) 1):Int) (A.bin .shr .u8 255 (A.bin .rem .i64 bN 8))) 0)
    (.ret 10)
    (.ret 0))))
   (.ret 0)))))
noncomputable def E99 (A:Alg):Info (Ty.Ts [(.int .i64)]):={ti:=tys,fns:=[(83,Tryz.f83)],sps:=[(183,sp137)],stops:=[],cuts:=[],consts:=[],fin:=finD A [(.int .i64)]}
theorem t99_ok (A:Alg) (bN:Int) (bB:List Int):run A (E99 A) 67 (startC 83 Tryz.f83 (dvals A [(.struct [(.int .i64),(.slice (.int .u8))])] (bN,bB)))=(t99 A bN bB).tr Empty.elim:=by kernel_rfl
def w99:Walk Tryz.prog 83 [(.struct [(.int .i64),(.slice (.int .u8))])] [(.int .i64)] Empty:=⟨fun (bN,bB)=>t99 std bN bB,Empty.elim⟩
theorem w99_ok:w99.Ok:=
 walk_ok (E:=E99 std) ⟨tys_fit,fns_cons Tryz.func83 (by kernel_rfl) (fns_nil),sps_cons so137 (sps_nil),by kernel_rfl⟩ rfl rfl rfl (by kernel_rfl) w99 Empty.elim 67 (fun (bN,bB)=>t99_ok std bN bB) (fun y=>y.elim)
def fn99:((Int×List Int))→Int:=fun (bN,bB)=>(t99 std bN bB).val (Ty.dflts [(.int .i64)])
def sp99:FSpec:=⟨[(.struct [(.int .i64),(.slice (.int .u8))])], [(.int .i64)],(@tt ((Int×List Int))),fn99⟩
theorem eqs99 (bN:Int) (bB:List Int):(t99 std bN bB).Eqs:=by simp only [t99,LT.Eqs,and_self,true_and,and_true]
theorem pre99_ok {bN:Int} {bB:List Int} (h:Ty.hass [(.struct [(.int .i64),(.slice (.int .u8))])] (bN,bB)):(t99 std bN bB).pre=true:=by
 have hl:=has_len h
 simp only [t99,LT.pre,std_call,std_cmp_neq,std_cmp_lss,std_cmp_gtr,std_cmp_leq,std_and,tt_eq,Bool.true_and,std_len,cond_iff,decide_eq_true_eq,decide_eq_false_iff_not,Bool.and_eq_true,bne_iff_ne,bne_eq_false_iff_eq,ne_eq,implies_true,and_true,true_and]
 intro h0 h1 h2 h3
 rw [fn137_eq (by omega) (by omega)] at h2
 rw [rem8 (by omega)] at h3
 rw [std_sub,w64 (by omega) (by omega),rem8 (by omega)]
 omega
theorem so99:FSpec.Sound Tryz.prog 83 sp99:=
 w99_ok.sound _ _ fun (bN,bB) _ h=>LT.runs (d:=Ty.dflts [(.int .i64)]) (eqs99 bN bB) (pre99_ok h)
theorem rest_all:∀c:Fin 256,∀r:Fin 8,(std.bin .and .u8 (c.val:Int) (std.bin .shr .u8 255 (r.val:Int)) != 0)=!((List.range 8).all fun k=>decide (k < r.val) || !c.val.testBit (7 - k)):=by decide +kernel
theorem fn99_zero {n:Int} {b:List Int} (hb:bytesOk b) (hl:b.length≤140737488355328):fn99 (n,b)=0↔0≤n∧n≤4096∧okB n.toNat b:=by
 simp only [fn99,t99,LT.val,std_call,std_cmp_neq,std_cmp_lss,std_cmp_gtr]
 by_cases h0:n < 0
 ·simp only [h0,decide_true,cond_true]
  constructor
  ·intro h; cases h
  ·intro h; omega
 ·simp only [h0,decide_false,cond_false]
  by_cases h1:4096 < n
  ·simp only [h1,decide_true,cond_true]
   constructor
   ·intro h; cases h
   ·intro h; omega
  ·simp only [h1,decide_false,cond_false]
   rw [fn137_eq (by omega) (by omega)]
   have hlen:std.len b=(b.length:Int):=rfl
   rw [hlen]
   by_cases h2:b.length=(n.toNat + 7) / 8
   ·rw [show ((b.length:Int) != (((n.toNat + 7) / 8:Nat):Int))=false from by rw [h2]; exact bne_self_eq_false _,cond_false,rem8 (by omega)]
    by_cases h3:n.toNat % 8=0
    ·rw [h3]
     simp only [Int.natCast_zero,bne_self_eq_false,cond_false,true_iff]
     exact ⟨by omega,by omega,h2,hb,fun i h4 h5=>by omega⟩
    ·rw [show (((n.toNat % 8:Nat):Int) != 0)=true from by simp; omega,cond_true]
     have e:(std.nth (.int .u8) b (std.bin .sub .i64 (b.length:Int) 1):Int)=b.getD (n.toNat / 8) 0:=by
      show b.getD (std.bin .sub .i64 (b.length:Int) 1).toNat 0=_
      rw [std_sub,w64 (by omega) (by omega)]
      congr 1
      omega
     have hx:=nth_ok hb (n.toNat / 8)
     have key:=rest_all ⟨(b.getD (n.toNat / 8) 0).toNat,by omega⟩ ⟨n.toNat % 8,Nat.mod_lt _ (by decide)⟩
     simp only at key
     rw [show (((b.getD (n.toNat / 8) 0).toNat:Nat):Int)=b.getD (n.toNat / 8) 0 from by omega] at key
     have e2:(std.bin .and .u8 (std.nth (.int .u8) b (std.bin .sub .i64 (b.length:Int) 1):Int) (std.bin .shr .u8 255 ((n.toNat % 8:Nat):Int)) != 0)=!((List.range 8).all fun k=>decide (k < n.toNat % 8) || !(b.getD (n.toNat / 8) 0).toNat.testBit (7 - k)):=by
      rw [←key]
      exact congrArg (fun z:Int=>(std.bin .and .u8 z (std.bin .shr .u8 255 ((n.toNat % 8:Nat):Int)) != 0)) e
     refine Iff.trans (b:=((List.range 8).all fun k=>decide (k < n.toNat % 8) || !(b.getD (n.toNat / 8) 0).toNat.testBit (7 - k))=true) ?_ ?_
     ·refine Iff.trans (b:=(bif !((List.range 8).all fun k=>decide (k < n.toNat % 8) || !(b.getD (n.toNat / 8) 0).toNat.testBit (7 - k)) then (10:Int) else 0)=0) (by rw [←e2]) ?_
      cases (List.range 8).all fun k=>decide (k < n.toNat % 8) || !(b.getD (n.toNat / 8) 0).toNat.testBit (7 - k) <;> simp
     ·rw [List.all_eq_true]
      constructor
      ·intro h
       refine ⟨by omega,by omega,h2,hb,fun i h4 h5=>?_⟩
       have:=h (i % 8) (List.mem_range.2 (Nat.mod_lt _ (by decide)))
       have hi:i / 8=n.toNat / 8:=by omega
       rw [bitB,hi]
       simp only [Bool.or_eq_true,decide_eq_true_eq,Bool.not_eq_true'] at this
       rcases this with h6 | h6
       ·omega
       ·exact h6
      ·intro ⟨_,_,_,_,h⟩ k hk
       have hk:=List.mem_range.1 hk
       by_cases h6:k < n.toNat % 8
       ·simp [h6]
       ·have:=h (8 * (n.toNat / 8) + k) (by omega) (by omega)
        rw [bitB,show (8 * (n.toNat / 8) + k) / 8=n.toNat / 8 from by omega,show (8 * (n.toNat / 8) + k) % 8=k from by omega] at this
        rw [this]; simp
   ·rw [show ((b.length:Int) != (((n.toNat + 7) / 8:Nat):Int))=true from bne_iff_ne.2 (by omega),cond_true]
    constructor
    ·intro h; cases h
    ·intro h; exact absurd h.2.2.1 h2
theorem fn99_range {x:Int×List Int}:fn99 x=0∨fn99 x=10:=by
 obtain ⟨n,b⟩:=x
 exact LT.val_all (p:=fun y=>y=0∨y=10) (.inl rfl) (by simp [t99,LT.all])
theorem fn99_eq {n:Int} {b:List Int} (hb:bytesOk b) (hl:b.length≤140737488355328):fn99 (n,b)=bif bsOk (n,b) then 0 else 10:=by
 have h1:=fn99_zero (n:=n) hb hl
 rw [←bsOk_iff hb] at h1
 rcases fn99_range (x:=(n,b)) with h2 | h2
 ·rw [h2,h1.1 h2]; rfl
 ·have:bsOk (n,b)=false:=by
   rw [←Bool.not_eq_true]
   intro h3
   rw [h1.2 h3] at h2
   cases h2
  rw [h2,this]; rfl
theorem inc1 {i:Nat} (h:i < 4611686018427387904):std.bin .add .i64 (i:Int) 1=((i + 1:Nat):Int):=by
 rw [std_add,w64 (by omega) (by omega)]; rfl
theorem add_nat {i j:Nat} (h:i + j < 4611686018427387904):std.bin .add .i64 (i:Int) (j:Int)=((i + j:Nat):Int):=by
 rw [std_add,w64 (by omega) (by omega)]; rfl
theorem lss_nat {i j:Nat}:std.cmp .lss (i:Int) (j:Int)=decide (i < j):=by
 rw [std_cmp_lss]; exact decide_eq_decide.2 Int.ofNat_lt
theorem leq_nat {i j:Nat}:std.cmp .leq (i:Int) (j:Int)=decide (i≤j):=by
 rw [std_cmp_leq]; exact decide_eq_decide.2 Int.ofNat_le
theorem leq_0 {i:Nat}:std.cmp .leq 0 (i:Int)=true:=by rw [std_cmp_leq]; simp
theorem quo_nat {i:Nat} (h:i≤4611686018427387904):std.bin .quo .i64 (i:Int) 8=((i / 8:Nat):Int):=by
 rw [quo8 (by omega) (by omega)]; rfl
theorem rem_nat {i:Nat}:std.bin .rem .i64 (i:Int) 8=((i % 8:Nat):Int):=by
 rw [rem8 (by omega)]; rfl
theorem ceq_t {u v:Int} (h:u=v):std.cmp .eql u v=true:=by rw [std_cmp_eql,h]; exact beq_self_eq_true _
theorem ceq_f {u v:Int} (h:u≠v):std.cmp .eql u v=false:=by rw [std_cmp_eql]; exact beq_eq_false_iff_ne.2 h
theorem cne_f {u v:Int} (h:u=v):std.cmp .neq u v=false:=by rw [std_cmp_neq,h]; exact bne_self_eq_false _
theorem cne_t {u v:Int} (h:u≠v):std.cmp .neq u v=true:=by rw [std_cmp_neq]; exact bne_iff_ne.2 h
open Go.Ev.Pl
def t136 (A:Alg) (b:List Int) (i:Int):LT Bool Empty:=
 .need (A.and (A.cmp .leq 0 (A.bin .quo .i64 i 8)) (A.cmp .lss (A.bin .quo .i64 i 8) (A.len b))) (
 .need (A.cmp .leq 0 (A.conv .u64 (A.bin .sub .i64 7 (A.bin .rem .i64 i 8)))) (
 .ret (A.cmp .eql (A.bin .rem .u8 (A.bin .shr .u8 (A.nth (.int .u8) b (A.bin .quo .i64 i 8):Int) (A.conv .u64 (A.bin .sub .i64 7 (A.bin .rem .i64 i 8)))) 2) 1)))
noncomputable def E136 (A:Alg):Info (Ty.Ts [.bool]):={ti:=tys,fns:=[(185,Tryz.f185)],sps:=[],stops:=[],cuts:=[],consts:=[],fin:=finD A [.bool]}
theorem t136_ok (A:Alg) (b:List Int) (i:Int):run A (E136 A) 26 (startC 185 Tryz.f185 (dvals A [(.slice (.int .u8)),(.int .i64)] (b,i)))=(t136 A b i).tr Empty.elim:=by kernel_rfl
def w136:Walk Tryz.prog 185 [(.slice (.int .u8)),(.int .i64)] [.bool] Empty:=⟨fun (b,i)=>t136 std b i,Empty.elim⟩
theorem w136_ok:w136.Ok:=
 walk_ok (E:=E136 std) ⟨tys_fit,fns_cons Tryz.func185 (by kernel_rfl) (fns_nil),sps_nil,by kernel_rfl⟩ rfl rfl rfl (by kernel_rfl) w136 Empty.elim 26 (fun (b,i)=>t136_ok std b i) (fun y=>y.elim)
def fn136:(List Int×Int)→Bool:=fun (b,i)=>(t136 std b i).val (Ty.dflts [.bool])
def pre136:(List Int×Int)→Bool:=fun (b,i)=>decide (0≤i) && decide (i < 8 * (b.length:Int))
def sp136:FSpec:=⟨[(.slice (.int .u8)),(.int .i64)], [.bool],pre136,fn136⟩
theorem eqs136 (b:List Int) (i:Int):(t136 std b i).Eqs:=by simp only [t136,LT.Eqs,and_self,true_and,and_true]
theorem pre136_ok {b:List Int} {i:Int} (h:Ty.hass [(.slice (.int .u8)),(.int .i64)] (b,i)) (hp:pre136 (b,i)=true):(t136 std b i).pre=true:=by
 simp only [pre136,Bool.and_eq_true,decide_eq_true_eq] at hp
 have hl:=has_len1 h
 simp only [t136,LT.pre,std_and,std_cmp_leq,std_cmp_lss,Bool.and_eq_true,decide_eq_true_eq,std_len,std_conv,Bool.and_true]
 rw [quo8 hp.1 (by omega),rem8 hp.1,std_sub,w64 (by omega) (by omega),wu64 (by omega) (by omega)]
 refine ⟨⟨by omega,by omega⟩,by omega⟩
theorem so136:FSpec.Sound Tryz.prog 185 sp136:=
 w136_ok.sound _ _ fun (b,i) hp h=>LT.runs (d:=Ty.dflts [.bool]) (eqs136 b i) (pre136_ok h hp)
theorem shr_all:∀c:Fin 256,∀k:Fin 8,(std.bin .rem .u8 (std.bin .shr .u8 (c.val:Int) (IntKind.u64.wrap (7 - (k.val:Int)))) 2 == 1)=c.val.testBit (7 - k.val):=by decide +kernel
theorem fn136_eq {b:List Int} {i:Int} (hb:bytesOk b) (h0:0≤i) (h1:i < 4611686018427387904):fn136 (b,i)=bitB b i.toNat:=by
 simp only [fn136,t136,LT.val,std_conv]
 rw [quo8 h0 (by omega),rem8 h0,std_sub,w64 (by omega) (by omega)]
 have hx:=nth_ok hb (i.toNat / 8)
 have key:=shr_all ⟨(b.getD (i.toNat / 8) 0).toNat,by omega⟩ ⟨i.toNat % 8,Nat.mod_lt _ (by decide)⟩
 simp only at key
 rw [show (((b.getD (i.toNat / 8) 0).toNat:Nat):Int)=b.getD (i.toNat / 8) 0 from by omega] at key
 exact key
structure P97c0 where
 (a1:Int) (a2:List Int)
inductive Y97 where
 | c0 (p:P97c0) (a0:Int)
noncomputable def cfg97:Y97→Cfg
 | .c0 p a0=>{frames:=[{fn:=85,n:=36,env:=(Env.put (Env.put .leaf 1 (.ptr 0 0)) 3 (.int .i64 false a0)),todo:=[.inLoop (Code.way (bodyOf Tryz.f85) [1,1,0,1,0,0]),.inBlock 0,.code (Code.way (bodyOf Tryz.f85) [1,1,1])],marks:=[],rnd:=none}],mem:=[.flat false [.int .i64 false p.a1,.sl (.int .u8) p.a2],.dead]}
def t97 (A:Alg) (bN:Int) (bB:List Int):LT Int Y97:=
 .br (A.cmp .lss bN 0)
 (.ret 10)
 (.br (A.cmp .gtr bN 4096)
 (.ret 10)
 (.br (A.cmp .neq (A.len bB) (A.bin .quo .i64 (A.bin .add .i64 bN 7) 8))
  (.ret 10)
  (.more (.c0 ⟨bN,bB⟩ bN))))
def s97 (A:Alg):Y97→LT Int Y97
 | .c0 p a0=>
  .br (A.cmp .lss a0 (A.bin .mul .i64 8 (A.len p.a2)))
  (.need (A.call pre136 (p.a2,a0)) (
   .br (A.call fn136 (p.a2,a0))
   (.ret 10)
   (.more (.c0 p (A.bin .add .i64 a0 1)))))
  (.ret 0)
noncomputable def E97 (A:Alg):Info (Ty.Ts [(.int .i64)]):={ti:=tys,fns:=[(85,Tryz.f85)],sps:=[(185,sp136)],stops:=[⟨85,4, [[1,3]]⟩],cuts:=[],consts:=[],fin:=finD A [(.int .i64)]}
theorem t97_ok (A:Alg) (bN:Int) (bB:List Int):run A (E97 A) 44 (startC 85 Tryz.f85 (dvals A [(.struct [(.int .i64),(.slice (.int .u8))])] (bN,bB)))=(t97 A bN bB).tr cfg97:=by kernel_rfl
theorem s97_ok (A:Alg):∀y,∃n,run A (E97 A) n (advance (E97 A).sps (cfg97 y))=(s97 A y).tr cfg97
 | .c0 p a0=>⟨35,by kernel_rfl⟩
def w97:Walk Tryz.prog 85 [(.struct [(.int .i64),(.slice (.int .u8))])] [(.int .i64)] Y97:=⟨fun (bN,bB)=>t97 std bN bB,s97 std⟩
theorem w97_ok:w97.Ok:=
 walk_ok (E:=E97 std) ⟨tys_fit,fns_cons Tryz.func85 (by kernel_rfl) (fns_nil),sps_cons so136 (sps_nil),by kernel_rfl⟩ rfl rfl rfl (by kernel_rfl) w97 cfg97 44 (fun (bN,bB)=>t97_ok std bN bB) (s97_ok std)
theorem ok_from {n:Nat} {b:List Int} (p:P97c0) (hp:p.a2=b) (hb:bytesOk b) (hl:b.length≤140737488355328):∀(j i:Nat),8 * b.length - i=j→Runs (s97 std) (.more (.c0 p (i:Int))) (bif (List.range (8 * b.length)).all (fun k=>decide (k < i) || !bitB b k) then 0 else 10):=by
 subst hp
 intro j
 have hm:std.bin .mul .i64 8 (std.len p.a2)=((8 * p.a2.length:Nat):Int):=by
  show IntKind.i64.wrap (8 * (p.a2.length:Int))=_
  rw [w64 (by omega) (by omega)]; omega
 induction j with
 | zero=>
  intro i hj
  rw [show ((List.range (8 * p.a2.length)).all fun k=>decide (k < i) || !bitB p.a2 k)=true from by
   rw [List.all_eq_true]; intro k hk; have:=List.mem_range.1 hk; simp; omega]
  simp only [runs_more,s97,runs_br,hm,lss_nat]
  rw [show decide (i < 8 * p.a2.length)=false from by simp; omega]
  exact .ret _
 | succ j ih=>
  intro i hj
  simp only [runs_more,s97,runs_br,hm,lss_nat]
  rw [show decide (i < 8 * p.a2.length)=true from by simp; omega]
  simp only [cond_true,runs_need,std_call]
  refine ⟨by simp [pre136]; omega,?_⟩
  rw [fn136_eq hb (by omega) (by omega),Int.toNat_natCast,inc1 (by omega)]
  cases hbit:bitB p.a2 i
  ·refine (runs_brF rfl).2 ?_
   have:=ih (i + 1) (by omega)
   have e:((List.range (8 * p.a2.length)).all fun k=>decide (k < i) || !bitB p.a2 k)=((List.range (8 * p.a2.length)).all fun k=>decide (k < i + 1) || !bitB p.a2 k):=by
    rw [Bool.eq_iff_iff,List.all_eq_true,List.all_eq_true]
    constructor
    ·intro h k hk
     have:=h k hk
     simp at this ⊢
     rcases this with h1 | h1
     ·exact .inl (by omega)
     ·exact .inr h1
    ·intro h k hk
     have:=h k hk
     simp at this ⊢
     by_cases hki:k=i
     ·subst hki; exact .inr hbit
     ·rcases this with h1 | h1
      ·exact .inl (by omega)
      ·exact .inr h1
   rw [e]
   exact this
  ·refine (runs_brT rfl).2 ?_
   rw [show ((List.range (8 * p.a2.length)).all fun k=>decide (k < i) || !bitB p.a2 k)=false from by
    rw [List.all_eq_false]; exact ⟨i,List.mem_range.2 (by omega),by simp [hbit]⟩]
   exact .ret _
theorem check1 {n:Int} {b:List Int} (h:Ty.hass [(.struct [(.int .i64),(.slice (.int .u8))])] (n,b)):Runs (s97 std) (t97 std n b) (bif bsOk (n,b) then 0 else 10):=by
 have hb:=(has_bits h).2.2
 have hl:=has_len h
 have hn:=(has_bits h).1
 unfold t97
 rw [bsOk]
 by_cases h0:n < 0
 ·refine (runs_brT (by simpa [std_cmp_lss] using h0)).2 ?_
  rw [show decide (0≤n)=false from by simp; omega]
  exact .ret _
 ·refine (runs_brF (by simpa [std_cmp_lss] using h0)).2 ?_
  by_cases h1:4096 < n
  ·refine (runs_brT (by simpa [std_cmp_gtr] using h1)).2 ?_
   rw [show decide (n≤4096)=false from by simp; omega,Bool.and_false]
   exact .ret _
  ·refine (runs_brF (by simpa [std_cmp_gtr] using h1)).2 ?_
   rw [show decide (0≤n)=true from by simp; omega,show decide (n≤4096)=true from by simp; omega,std_add,w64 (by omega) (by omega),quo8 (by omega) (by omega),show (n + 7).toNat / 8=(n.toNat + 7) / 8 from by omega]
   by_cases h2:b.length=(n.toNat + 7) / 8
   ·refine (runs_brF (cne_f (show (b.length:Int)=_ by rw [h2]))).2 ?_
    rw [show (b.length == (n.toNat + 7) / 8)=true from by simpa using h2]
    have:=ok_from (n:=n.toNat) ⟨n,b⟩ rfl hb hl (8 * b.length - n.toNat) n.toNat rfl
    rw [show ((n.toNat:Nat):Int)=n from by omega] at this
    exact this
   ·refine (runs_brT (cne_t (show (b.length:Int)≠_ by omega))).2 ?_
    rw [show (b.length == (n.toNat + 7) / 8)=false from by simpa using h2]
    simp only [Bool.and_false,Bool.false_and,cond_false]
    exact .ret _
def fn97:((Int×List Int))→Int:=fun x=>bif bsOk x then 0 else 10
def sp97:FSpec:=⟨[(.struct [(.int .i64),(.slice (.int .u8))])], [(.int .i64)],(@tt ((Int×List Int))),fn97⟩
theorem run97 {bN:Int} {bB:List Int} (h:Ty.hass [(.struct [(.int .i64),(.slice (.int .u8))])] (bN,bB)):Runs (s97 std) (t97 std bN bB) (fn97 (bN,bB)):=by
 exact check1 h
theorem so97:FSpec.Sound Tryz.prog 85 sp97:=
 w97_ok.sound _ _ fun (bN,bB) _ h=>run97 h
open Go.Ev.Pl
structure P127c0 where
 (a0 a1:Int) (a2:List Int)
structure P127c1 where
 (b1:Int) (b2:List Int)
inductive Y127 where
 | c0 (p:P127c0)
 | c1 (p:P127c1) (b0:Int) (b3:List Bool)
noncomputable def cfg127:Y127→Cfg
 | .c0 p=>{frames:=[{fn:=231,n:=22,env:=(Env.put (Env.put (Env.put .leaf 1 (.ptr 0 0)) 3 (.esl true)) 4 (.int .i64 false p.a0)),todo:=[.inLoop (Code.way (bodyOf Tryz.f231) [1,1,1,0,1,0,0]),.inBlock 0,.code (Code.way (bodyOf Tryz.f231) [1,1,1,1])],marks:=[],rnd:=none}],mem:=[.flat false [.int .i64 false p.a1,.sl (.int .u8) p.a2],.dead]}
 | .c1 p b0 b3=>{frames:=[{fn:=231,n:=22,env:=(Env.put (Env.put (Env.put .leaf 1 (.ptr 0 0)) 3 (.own 1)) 4 (.int .i64 false b0)),todo:=[.inLoop (Code.way (bodyOf Tryz.f231) [1,1,1,0,1,0,0]),.inBlock 0,.code (Code.way (bodyOf Tryz.f231) [1,1,1,1])],marks:=[],rnd:=none}],mem:=[.flat false [.int .i64 false p.b1,.sl (.int .u8) p.b2],.arr false .bool b3,.dead]}
def t127 (A:Alg) (bN:Int) (bB:List Int):LT (List Bool) Y127:=
 .need (A.call (@tt ((Int×List Int))) (bN,bB)) (
 .br (A.cmp .neq (A.call fn97 (bN,bB)) 0)
 (.ret ([]:List Bool))
 (.more (.c0 ⟨0,bN,bB⟩)))
def s127 (A:Alg):Y127→LT (List Bool) Y127
 | .c0 p=>
  .br (A.cmp .lss p.a0 p.a1)
  (.need (A.call pre136 (p.a2,p.a0)) (
   .need (A.cmp .leq (A.len ([(A.call fn136 (p.a2,p.a0))]:List Bool)) 70368744177664) (
   .more (.c1 ⟨p.a1,p.a2⟩ (A.bin .add .i64 p.a0 1) [(A.call fn136 (p.a2,p.a0))]))))
  (.ret ([]:List Bool))
 | .c1 p b0 b3=>
  .br (A.cmp .lss b0 p.b1)
  (.need (A.call pre136 (p.b2,b0)) (
   .need (A.cmp .leq (A.len (A.app b3 [(A.call fn136 (p.b2,b0))])) 70368744177664) (
   .more (.c1 p (A.bin .add .i64 b0 1) (A.app b3 [(A.call fn136 (p.b2,b0))])))))
  (.ret b3)
noncomputable def E127 (A:Alg):Info (Ty.Ts [(.slice .bool)]):={ti:=tys,fns:=[(231,Tryz.f231)],sps:=[(85,sp97),(185,sp136)],stops:=[⟨231,5, [[1,3,4]]⟩],cuts:=[],consts:=[],fin:=finD A [(.slice .bool)]}
theorem t127_ok (A:Alg) (bN:Int) (bB:List Int):run A (E127 A) 31 (startC 231 Tryz.f231 (dvals A [(.struct [(.int .i64),(.slice (.int .u8))])] (bN,bB)))=(t127 A bN bB).tr cfg127:=by kernel_rfl
theorem s127_ok (A:Alg):∀y,∃n,run A (E127 A) n (advance (E127 A).sps (cfg127 y))=(s127 A y).tr cfg127
 | .c0 p=>⟨34,by kernel_rfl⟩
 | .c1 p b0 b3=>⟨34,by kernel_rfl⟩
def w127:Walk Tryz.prog 231 [(.struct [(.int .i64),(.slice (.int .u8))])] [(.slice .bool)] Y127:=⟨fun (bN,bB)=>t127 std bN bB,s127 std⟩
theorem w127_ok:w127.Ok:=
 walk_ok (E:=E127 std) ⟨tys_fit,fns_cons Tryz.func231 (by kernel_rfl) (fns_nil),sps_cons so97 (sps_cons so136 (sps_nil)),by kernel_rfl⟩ rfl rfl rfl (by kernel_rfl) w127 cfg127 31 (fun (bN,bB)=>t127_ok std bN bB) (s127_ok std)
theorem runs_c {R Y:Type} {step:Y→LT R Y} {t t':LT R Y} {r:R} (h:t=t') (h2:Runs step t' r):Runs step t r:=h ▸ h2
theorem list_more {n:Nat} {b:List Int} (hb:bytesOk b) (hl:b.length≤140737488355328) (hn:n≤4096) (hok:n≤8 * b.length):∀(j i:Nat) (p:P127c1),p.b1=(n:Int)→p.b2=b→n - i=j→i≤n→Runs (s127 std) (.more (.c1 p (i:Int) (unpack i b))) (unpack n b):=by
 intro j
 induction j with
 | zero=>
  intro i p h1 h2 hj hi
  have:i=n:=by omega
  subst this
  simp only [runs_more,s127,runs_br,h1,lss_nat]
  rw [show decide (i < i)=false from by simp]
  exact .ret _
 | succ j ih=>
  intro i p h1 h2 hj hi
  simp only [runs_more,s127]
  refine (runs_brT (by rw [h1,lss_nat]; simp; omega)).2 (runs_need.2 ⟨?_,runs_need.2 ⟨?_,?_⟩⟩)
  ·rw [h2,std_call]; simp [pre136]; omega
  ·show decide (((unpack i b ++ [_]).length:Int)≤70368744177664)=true
   rw [List.length_append,unpack_length]
   simp; omega
  ·have e:(std.app (unpack i b) [(std.call fn136 (p.b2,(i:Int)))]:List Bool)=unpack (i + 1) b:=by
    show unpack i b ++ [fn136 (p.b2,(i:Int))]=_
    rw [h2,fn136_eq hb (by omega) (by omega),unpack_succ,Int.toNat_natCast]
   exact runs_c (congrArg LT.more (congr (congrArg (Y127.c1 p) (inc1 (by omega))) e)) (ih (i + 1) p h1 h2 (by omega) (by omega))
theorem list1 {n:Int} {b:List Int} (h:Ty.hass [(.struct [(.int .i64),(.slice (.int .u8))])] (n,b)):Runs (s127 std) (t127 std n b) (bif bsOk (n,b) then bsL (n,b) else []):=by
 have hb:=(has_bits h).2.2
 have hl:=has_len h
 unfold t127
 refine runs_need.2 ⟨rfl,?_⟩
 cases hok:bsOk (n,b)
 ·refine (runs_brT (show (fn97 (n,b) != 0)=true by rw [fn97,hok]; rfl)).2 ?_
  exact .ret _
 ·refine (runs_brF (show (fn97 (n,b) != 0)=false by rw [fn97,hok]; rfl)).2 ?_
  obtain ⟨h1,h2,h3⟩:=(bsOk_iff hb).1 hok
  have h4:=h3.1
  rw [cond_true]
  simp only [runs_more,s127]
  show Runs (s127 std) _ (unpack n.toNat b)
  by_cases h0:0 < n
  ·refine (runs_brT (by rw [std_cmp_lss]; simpa using h0)).2 (runs_need.2 ⟨?_,runs_need.2 ⟨rfl,?_⟩⟩)
   ·rw [std_call]; simp [pre136]; omega
   ·have e:([(std.call fn136 (b,(0:Int)))]:List Bool)=unpack 1 b:=by
     show [fn136 (b,(0:Int))]=_
     rw [fn136_eq hb (by omega) (by omega)]; rfl
    refine runs_c (congrArg LT.more (congr (congrArg (Y127.c1 ⟨n,b⟩) (inc1 (i:=0) (by omega))) e)) ?_
    exact list_more hb hl (by omega) (by omega) (n.toNat - 1) 1 ⟨n,b⟩ (by show n=_; omega) rfl (by omega) (by omega)
  ·refine (runs_brF (by rw [std_cmp_lss]; simp; omega)).2 ?_
   rw [show n.toNat=0 from by omega]
   exact .ret _
def fn127:((Int×List Int))→(List Bool):=fun x=>bif bsOk x then bsL x else []
def sp127:FSpec:=⟨[(.struct [(.int .i64),(.slice (.int .u8))])], [(.slice .bool)],(@tt ((Int×List Int))),fn127⟩
theorem run127 {bN:Int} {bB:List Int} (h:Ty.hass [(.struct [(.int .i64),(.slice (.int .u8))])] (bN,bB)):Runs (s127 std) (t127 std bN bB) (fn127 (bN,bB)):=by
 exact list1 h
theorem so127:FSpec.Sound Tryz.prog 231 sp127:=
 w127_ok.sound _ _ fun (bN,bB) _ h=>run127 h
structure P128c0 where
 (a0:List Bool) (a2 a3:Int)
inductive Y128 where
 | c0 (p:P128c0) (a1:Int) (a4:List Int)
noncomputable def cfg128:Y128→Cfg
 | .c0 p a1 a4=>{frames:=[{fn:=232,n:=42,env:=(Env.put (Env.put (Env.put (Env.put .leaf 0 (.sl .bool p.a0)) 2 (.ptr 0 0)) 4 (.ptr 1 0)) 5 (.int .i64 false a1)),todo:=[.inLoop (Code.way (bodyOf Tryz.f232) [1,1,1,0,1,0,0]),.inBlock 0,.code (Code.way (bodyOf Tryz.f232) [1,1,1,1])],marks:=[],rnd:=none}],mem:=[.flat false [.int .i64 false p.a2,.esl true],.flat false [.int .i64 false p.a3,.own 2],.arr false (.int .u8) a4,.dead]}
def t128 (A:Alg) (l:List Bool):LT ((Int×List Int)×Int) Y128:=
 .br (A.cmp .gtr (A.len l) 4096)
 (.ret ((0,([]:List Int)),3))
 (.need (A.and (A.cmp .eql (A.bin .quo .i64 (A.bin .add .i64 (A.len l) 7) 8) (A.bin .quo .i64 (A.bin .add .i64 (A.len l) 7) 8)) (A.and (A.cmp .leq 0 (A.bin .quo .i64 (A.bin .add .i64 (A.len l) 7) 8)) (A.cmp .leq (A.bin .quo .i64 (A.bin .add .i64 (A.len l) 7) 8) 70368744177664))) (
 .more (.c0 ⟨l,0,(A.len l)⟩ 0 (A.rep (A.bin .quo .i64 (A.bin .add .i64 (A.len l) 7) 8) (0:Int)))))
def s128 (A:Alg):Y128→LT ((Int×List Int)×Int) Y128
 | .c0 p a1 a4=>
  .br (A.cmp .lss a1 (A.len p.a0))
  (.need (A.and (A.cmp .leq 0 a1) (A.cmp .lss a1 (A.len p.a0))) (
   .br (A.nth .bool p.a0 a1:Bool)
   (.need (A.and (A.cmp .leq 0 (A.bin .quo .i64 a1 8)) (A.cmp .lss (A.bin .quo .i64 a1 8) (A.len a4))) (
    .need (A.cmp .leq 0 (A.conv .u64 (A.bin .sub .i64 7 (A.bin .rem .i64 a1 8)))) (
    .need (A.and (A.cmp .leq 0 (A.bin .quo .i64 a1 8)) (A.cmp .lss (A.bin .quo .i64 a1 8) (A.len a4))) (
     .more (.c0 p (A.bin .add .i64 a1 1) (A.set a4 (A.bin .quo .i64 a1 8) (A.bin .or .u8 (A.nth (.int .u8) a4 (A.bin .quo .i64 a1 8):Int) (A.bin .shl .u8 1 (A.conv .u64 (A.bin .sub .i64 7 (A.bin .rem .i64 a1 8)))))))))))
   (.more (.c0 p (A.bin .add .i64 a1 1) a4))))
  (.ret ((p.a3,a4),0))
noncomputable def E128 (A:Alg):Info (Ty.Ts [(.struct [(.int .i64),(.slice (.int .u8))]),(.int .i64)]):={ti:=tys,fns:=[(232,Tryz.f232)],sps:=[],stops:=[⟨232,5, [[0,2,4,5]]⟩],cuts:=[],consts:=[],fin:=finD A [(.struct [(.int .i64),(.slice (.int .u8))]),(.int .i64)]}
theorem t128_ok (A:Alg) (l:List Bool):run A (E128 A) 40 (startC 232 Tryz.f232 (dvals A [(.slice .bool)] l))=(t128 A l).tr cfg128:=by kernel_rfl
theorem s128_ok (A:Alg):∀y,∃n,run A (E128 A) n (advance (E128 A).sps (cfg128 y))=(s128 A y).tr cfg128
 | .c0 p a1 a4=>⟨48,by kernel_rfl⟩
def w128:Walk Tryz.prog 232 [(.slice .bool)] [(.struct [(.int .i64),(.slice (.int .u8))]),(.int .i64)] Y128:=⟨fun l=>t128 std l,s128 std⟩
theorem w128_ok:w128.Ok:=
 walk_ok (E:=E128 std) ⟨tys_fit,fns_cons Tryz.func232 (by kernel_rfl) (fns_nil),sps_nil,by kernel_rfl⟩ rfl rfl rfl (by kernel_rfl) w128 cfg128 40 (fun l=>t128_ok std l) (s128_ok std)
theorem or1_all:∀c:Fin 256,∀k:Fin 8,std.bin .or .u8 (c.val:Int) (std.bin .shl .u8 1 (IntKind.u64.wrap (7 - (k.val:Int))))=((c.val ||| 128 >>> k.val:Nat):Int):=by decide +kernel
theorem or2_all:∀c:Fin 256,∀k:Fin 8,std.bin .or .u8 (c.val:Int) ((128 >>> k.val:Nat):Int)=((c.val ||| 128 >>> k.val:Nat):Int):=by decide +kernel
theorem set_doc {B:List Int} {l:List Bool} {m i:Nat} (h:Holds B l m) (hi:l.length=i) (h1:i < 8 * m) (hm:m≤100000) :
  Holds (std.set B (std.bin .quo .i64 (i:Int) 8) (std.bin .or .u8 (std.nth (.int .u8) B (std.bin .quo .i64 (i:Int) 8):Int) (std.bin .shl .u8 1 (std.conv .u64 (std.bin .sub .i64 7 (std.bin .rem .i64 (i:Int) 8)))))) (l ++ [true]) m:=by
 rw [quo_nat (by omega),rem_nat,std_sub,w64 (by omega) (by omega),std_conv]
 have key:=or1_all ⟨(B.getD (i / 8) 0).toNat,getD_nat h.2.1 _⟩ ⟨i % 8,Nat.mod_lt _ (by decide)⟩
 simp only at key
 rw [show (((B.getD (i / 8) 0).toNat:Nat):Int)=B.getD (i / 8) 0 from Int.toNat_of_nonneg (nth_ok h.2.1 _).1] at key
 have:=h.set (by omega)
 rw [hi] at this
 rw [←key] at this
 exact this
theorem set_prog {B:List Int} {l:List Bool} {m i:Nat} (h:Holds B l m) (hi:l.length=i) (h1:i < 8 * m) (hm:m≤100000) :
  Holds (std.set B (std.bin .quo .i64 (i:Int) 8) (std.bin .or .u8 (std.nth (.int .u8) B (std.bin .quo .i64 (i:Int) 8):Int) (std.call fn177 (i:Int)))) (l ++ [true]) m:=by
 rw [quo_nat (by omega),std_call,fn177_eq (by omega),Int.toNat_natCast]
 have key:=or2_all ⟨(B.getD (i / 8) 0).toNat,getD_nat h.2.1 _⟩ ⟨i % 8,Nat.mod_lt _ (by decide)⟩
 simp only at key
 rw [show (((B.getD (i / 8) 0).toNat:Nat):Int)=B.getD (i / 8) 0 from Int.toNat_of_nonneg (nth_ok h.2.1 _).1] at key
 have:=h.set (by omega)
 rw [hi] at this
 rw [←key] at this
 exact this
theorem take_snoc {l:List Bool} {i:Nat} (h:i < l.length):l.take (i + 1)=l.take i ++ [l.getD i false]:=by
 rw [List.take_succ_eq_append_getElem h,List.getD_eq_getElem?_getD,List.getElem?_eq_getElem h]; rfl
theorem of_more {l:List Bool} (hl:l.length≤4096):∀(j i:Nat) (p:P128c0) (B:List Int),p.a0=l→p.a3=(l.length:Int)→l.length - i=j→i≤l.length→Holds B (l.take i) ((l.length + 7) / 8)→Runs (s128 std) (.more (.c0 p (i:Int) B)) (bsP l,0):=by
 intro j
 induction j with
 | zero=>
  intro i p B h1 h2 hj hi hB
  have:i=l.length:=by omega
  subst this
  simp only [runs_more,s128]
  have hlen:std.len p.a0=(l.length:Int):=by rw [h1]; rfl
  refine (runs_brF (by rw [hlen,lss_nat]; simp)).2 ?_
  rw [List.take_length] at hB
  rw [h2,hB.done rfl]
  exact .ret _
 | succ j ih=>
  intro i p B h1 h2 hj hi hB
  simp only [runs_more,s128]
  have hlen:std.len p.a0=(l.length:Int):=by rw [h1]; rfl
  have hlb:std.len B=(((l.length + 7) / 8:Nat):Int):=by rw [←hB.1]; rfl
  have hq:(std.and (std.cmp .leq 0 (std.bin .quo .i64 (i:Int) 8)) (std.cmp .lss (std.bin .quo .i64 (i:Int) 8) (std.len B)))=true:=by
   rw [quo_nat (by omega),hlb,leq_0,lss_nat,std_and]; simp; omega
  have htl:(l.take i).length=i:=by rw [List.length_take]; omega
  refine (runs_brT (by rw [hlen,lss_nat]; simp; omega)).2 (runs_need.2 ⟨by rw [leq_0,hlen,lss_nat,std_and]; simp; omega,?_⟩)
  have hb:(std.nth .bool p.a0 (i:Int):Bool)=l.getD i false:=by
   show p.a0.getD (i:Int).toNat false=_
   rw [h1,Int.toNat_natCast]
  have hts:=take_snoc (l:=l) (i:=i) (by omega)
  cases hx:l.getD i false
  ·rw [hx] at hts
   refine (runs_brF (hb.trans hx)).2 ?_
   exact runs_c (congrArg LT.more (congr (congrArg (Y128.c0 p) (inc1 (by omega))) rfl)) (ih (i + 1) p B h1 h2 (by omega) (by omega) (hts ▸ hB.skip))
  ·rw [hx] at hts
   refine (runs_brT (hb.trans hx)).2 (runs_need.2 ⟨hq,runs_need.2 ⟨?_,runs_need.2 ⟨hq,?_⟩⟩⟩)
   ·rw [rem_nat,std_sub,w64 (by omega) (by omega),std_conv,wu64 (by omega) (by omega),std_cmp_leq]; simp; omega
   ·exact runs_c (congrArg LT.more (congr (congrArg (Y128.c0 p) (inc1 (by omega))) rfl)) (ih (i + 1) p _ h1 h2 (by omega) (by omega) (hts ▸ set_doc hB htl (by omega) (by omega)))
theorem of1 {l:List Bool}:Runs (s128 std) (t128 std l) (ofS l):=by
 unfold t128
 have hlen:std.len l=(l.length:Int):=rfl
 rw [ofS]
 by_cases hl:4096 < l.length
 ·refine (runs_brT (by rw [hlen,std_cmp_gtr]; simp; omega)).2 ?_
  rw [show decide (4096 < l.length)=true from by simpa using hl]
  exact .ret _
 ·have hq:std.bin .quo .i64 (std.bin .add .i64 (std.len l) 7) 8=(((l.length + 7) / 8:Nat):Int):=by
   rw [hlen,show std.bin .add .i64 (l.length:Int) 7=((l.length + 7:Nat):Int) from add_nat (j:=7) (by omega),quo_nat (by omega)]
  refine (runs_brF (by rw [hlen,std_cmp_gtr]; simp; omega)).2 (runs_need.2 ⟨?_,?_⟩)
  ·rw [hq,leq_0,ceq_t rfl,std_cmp_leq,std_and,std_and]; simp; omega
  ·rw [show decide (4096 < l.length)=false from by simpa using hl]
   refine of_more (by omega) l.length 0 _ _ rfl rfl (by omega) (by omega) ?_
   rw [hq,std_rep,Int.toNat_natCast]
   exact Holds.blank _
def fn128:(List Bool)→((Int×List Int)×Int):=ofS
def sp128:FSpec:=⟨[(.slice .bool)], [(.struct [(.int .i64),(.slice (.int .u8))]),(.int .i64)],(@tt (List Bool)),fn128⟩
theorem run128 {l:List Bool} (h:Ty.hass [(.slice .bool)] l):Runs (s128 std) (t128 std l) (fn128 l):=by
 exact of1
theorem so128:FSpec.Sound Tryz.prog 232 sp128:=
 w128_ok.sound _ _ fun l _ h=>run128 h
open Go.Ev.Pl
structure P125c0 where
 (a0 a1 a2:Int)
structure P125c1 where
 (b0 b1 b2 b3:Int) (b4:List Int) (b5:Int)
structure P125c2 where
 (c0 c2:Int)
structure P125c3 where
 (d1 d2 d3:Int) (d4:List Int) (d6:Int)
inductive Y125 where
 | c0 (p:P125c0)
 | c1 (p:P125c1)
 | c2 (p:P125c2) (c1:Int) (c3:List Bool)
 | c3 (p:P125c3) (d0:Int) (d5:List Bool)
noncomputable def cfg125:Y125→Cfg
 | .c0 p=>{frames:=[{fn:=229,n:=53,env:=(Env.put (Env.put (Env.put (Env.put .leaf 1 (.int .u64 false p.a0)) 6 (.ptr 0 0)) 8 (.esl true)) 9 (.int .i64 false p.a1)),todo:=[.inLoop (Code.way (bodyOf Tryz.f229) [1,1,1,1,0,1,0,0]),.inBlock 0,.code (Code.way (bodyOf Tryz.f229) [1,1,1,1,1])],marks:=[],rnd:=none}],mem:=[.flat false [.int .i64 false p.a2,.esl true],.dead]}
 | .c1 p=>{frames:=[{fn:=231,n:=22,env:=(Env.put (Env.put (Env.put .leaf 1 (.ptr 0 0)) 3 (.esl true)) 4 (.int .i64 false p.b0)),todo:=[.inLoop (Code.way (bodyOf Tryz.f231) [1,1,1,0,1,0,0]),.inBlock 0,.code (Code.way (bodyOf Tryz.f231) [1,1,1,1])],marks:=[],rnd:=none},{fn:=229,n:=53,env:=(Env.put (Env.put (Env.put .leaf 1 (.int .u64 false p.b1)) 2 (.int .i64 false p.b2)) 6 (.ptr 1 0)),todo:=[.ops (opsOf (Code.way (bodyOf Tryz.f229) [1,1,1,0])) ((opsOf (Code.way (bodyOf Tryz.f229) [1,1,1,0])).toList.drop 1),.code (Code.way (bodyOf Tryz.f229) [1,1,1,1])],marks:=[],rnd:=none}],mem:=[.flat false [.int .i64 false p.b3,.sl (.int .u8) p.b4],.flat false [.int .i64 false p.b5,.esl true],.dead]}
 | .c2 p c1 c3=>{frames:=[{fn:=229,n:=53,env:=(Env.put (Env.put (Env.put (Env.put .leaf 1 (.int .u64 false p.c0)) 6 (.ptr 0 0)) 8 (.own 1)) 9 (.int .i64 false c1)),todo:=[.inLoop (Code.way (bodyOf Tryz.f229) [1,1,1,1,0,1,0,0]),.inBlock 0,.code (Code.way (bodyOf Tryz.f229) [1,1,1,1,1])],marks:=[],rnd:=none}],mem:=[.flat false [.int .i64 false p.c2,.esl true],.arr false .bool c3,.dead]}
 | .c3 p d0 d5=>{frames:=[{fn:=231,n:=22,env:=(Env.put (Env.put (Env.put .leaf 1 (.ptr 0 0)) 3 (.own 1)) 4 (.int .i64 false d0)),todo:=[.inLoop (Code.way (bodyOf Tryz.f231) [1,1,1,0,1,0,0]),.inBlock 0,.code (Code.way (bodyOf Tryz.f231) [1,1,1,1])],marks:=[],rnd:=none},{fn:=229,n:=53,env:=(Env.put (Env.put (Env.put .leaf 1 (.int .u64 false p.d1)) 2 (.int .i64 false p.d2)) 6 (.ptr 2 0)),todo:=[.ops (opsOf (Code.way (bodyOf Tryz.f229) [1,1,1,0])) ((opsOf (Code.way (bodyOf Tryz.f229) [1,1,1,0])).toList.drop 1),.code (Code.way (bodyOf Tryz.f229) [1,1,1,1])],marks:=[],rnd:=none}],mem:=[.flat false [.int .i64 false p.d3,.sl (.int .u8) p.d4],.arr false .bool d5,.flat false [.int .i64 false p.d6,.esl true],.dead]}
def t125 (A:Alg) (bN:Int) (bB:List Int) (v:Int) (width:Int):LT ((Int×List Int)×Int) Y125:=
 .need (A.call (@tt ((Int×List Int))) (bN,bB)) (
 .br (A.cmp .neq (A.call fn97 (bN,bB)) 0)
 (.ret ((0,([]:List Int)),10))
 (.br (A.cmp .lss width 0)
  (.ret ((0,([]:List Int)),2))
  (.br (A.cmp .gtr width 64)
  (.ret ((0,([]:List Int)),2))
  (.br (A.cmp .lss width 64)
   (.need (A.cmp .leq 0 (A.conv .u64 width)) (
   .br (A.cmp .neq (A.bin .shr .u64 v (A.conv .u64 width)) 0)
    (.ret ((0,([]:List Int)),2))
    (.need (A.call (@tt ((Int×List Int))) (bN,bB)) (
    .br (A.cmp .neq (A.call fn97 (bN,bB)) 0)
     (.more (.c0 ⟨v,(A.bin .sub .i64 width 1),0⟩))
     (.more (.c1 ⟨0,v,width,bN,bB,0⟩))))))
   (.need (A.call (@tt ((Int×List Int))) (bN,bB)) (
   .br (A.cmp .neq (A.call fn97 (bN,bB)) 0)
    (.more (.c0 ⟨v,(A.bin .sub .i64 width 1),0⟩))
    (.more (.c1 ⟨0,v,width,bN,bB,0⟩))))))))
def s125 (A:Alg):Y125→LT ((Int×List Int)×Int) Y125
 | .c0 p=>
  .br (A.cmp .geq p.a1 0)
  (.need (A.cmp .leq 0 (A.conv .u64 p.a1)) (
   .need (A.cmp .leq (A.len ([(A.cmp .eql (A.bin .rem .u64 (A.bin .shr .u64 p.a0 (A.conv .u64 p.a1)) 2) 1)]:List Bool)) 70368744177664) (
   .more (.c2 ⟨p.a0,p.a2⟩ (A.bin .sub .i64 p.a1 1) [(A.cmp .eql (A.bin .rem .u64 (A.bin .shr .u64 p.a0 (A.conv .u64 p.a1)) 2) 1)]))))
  (.need (A.call (@tt (List Bool)) ([]:List Bool)) (
   .ret (A.call fn128 ([]:List Bool))))
 | .c1 p=>
  .br (A.cmp .lss p.b0 p.b3)
  (.need (A.call pre136 (p.b4,p.b0)) (
   .need (A.cmp .leq (A.len ([(A.call fn136 (p.b4,p.b0))]:List Bool)) 70368744177664) (
   .more (.c3 ⟨p.b1,p.b2,p.b3,p.b4,p.b5⟩ (A.bin .add .i64 p.b0 1) [(A.call fn136 (p.b4,p.b0))]))))
  (.more (.c0 ⟨p.b1,(A.bin .sub .i64 p.b2 1),p.b5⟩))
 | .c2 p c1 c3=>
  .br (A.cmp .geq c1 0)
  (.need (A.cmp .leq 0 (A.conv .u64 c1)) (
   .need (A.cmp .leq (A.len (A.app c3 [(A.cmp .eql (A.bin .rem .u64 (A.bin .shr .u64 p.c0 (A.conv .u64 c1)) 2) 1)])) 70368744177664) (
   .more (.c2 p (A.bin .sub .i64 c1 1) (A.app c3 [(A.cmp .eql (A.bin .rem .u64 (A.bin .shr .u64 p.c0 (A.conv .u64 c1)) 2) 1)])))))
  (.need (A.call (@tt (List Bool)) c3) (
   .ret (A.call fn128 c3)))
 | .c3 p d0 d5=>
  .br (A.cmp .lss d0 p.d3)
  (.need (A.call pre136 (p.d4,d0)) (
   .need (A.cmp .leq (A.len (A.app d5 [(A.call fn136 (p.d4,d0))])) 70368744177664) (
   .more (.c3 p (A.bin .add .i64 d0 1) (A.app d5 [(A.call fn136 (p.d4,d0))])))))
  (.more (.c2 ⟨p.d1,p.d6⟩ (A.bin .sub .i64 p.d2 1) d5))
noncomputable def E125 (A:Alg):Info (Ty.Ts [(.struct [(.int .i64),(.slice (.int .u8))]),(.int .i64)]):={ti:=tys,fns:=[(229,Tryz.f229),(231,Tryz.f231)],sps:=[(85,sp97),(232,sp128),(185,sp136)],stops:=[⟨229,7, [[1,6,8,9]]⟩,⟨231,5, [[1,3,4], [1,2,6]]⟩],cuts:=[],consts:=[],fin:=finD A [(.struct [(.int .i64),(.slice (.int .u8))]),(.int .i64)]}
theorem t125_ok (A:Alg) (bN:Int) (bB:List Int) (v:Int) (width:Int):run A (E125 A) 81 (startC 229 Tryz.f229 (dvals A [(.struct [(.int .i64),(.slice (.int .u8))]),(.int .u64),(.int .i64)] ((bN,bB),v,width)))=(t125 A bN bB v width).tr cfg125:=by kernel_rfl
theorem s125_ok (A:Alg):∀y,∃n,run A (E125 A) n (advance (E125 A).sps (cfg125 y))=(s125 A y).tr cfg125
 | .c0 p=>⟨34,by kernel_rfl⟩
 | .c1 p=>⟨34,by kernel_rfl⟩
 | .c2 p c1 c3=>⟨34,by kernel_rfl⟩
 | .c3 p d0 d5=>⟨34,by kernel_rfl⟩
def w125:Walk Tryz.prog 229 [(.struct [(.int .i64),(.slice (.int .u8))]),(.int .u64),(.int .i64)] [(.struct [(.int .i64),(.slice (.int .u8))]),(.int .i64)] Y125:=⟨fun ((bN,bB),v,width)=>t125 std bN bB v width,s125 std⟩
theorem w125_ok:w125.Ok:=
 walk_ok (E:=E125 std) ⟨tys_fit,fns_cons Tryz.func229 (by kernel_rfl) (fns_cons Tryz.func231 (by kernel_rfl) (fns_nil)),sps_cons so97 (sps_cons so128 (sps_cons so136 (sps_nil))),by kernel_rfl⟩ rfl rfl rfl (by kernel_rfl) w125 cfg125 81 (fun ((bN,bB),v,width)=>t125_ok std bN bB v width) (s125_ok std)
theorem shr64 {a:Int} {n:Nat} (h:0≤a) (hn:n≤64):std.bin .shr .u64 a (n:Int)=((a.toNat / 2 ^ n:Nat):Int):=by
 show a.fdiv (2 ^ min (n:Int).toNat 64)=_
 obtain ⟨m,rfl⟩:=Int.eq_ofNat_of_zero_le h
 rw [Int.toNat_natCast,Nat.min_eq_left hn,Int.fdiv_eq_ediv_of_nonneg _ (Int.pow_nonneg (by decide))]
 simp
theorem shr32 {a:Int} {n:Nat} (h:0≤a) (hn:n≤32):std.bin .shr .u32 a (n:Int)=((a.toNat / 2 ^ n:Nat):Int):=by
 show a.fdiv (2 ^ min (n:Int).toNat 32)=_
 obtain ⟨m,rfl⟩:=Int.eq_ofNat_of_zero_le h
 rw [Int.toNat_natCast,Nat.min_eq_left hn,Int.fdiv_eq_ediv_of_nonneg _ (Int.pow_nonneg (by decide))]
 simp
theorem conv_nat {n:Nat} (h:n < 4611686018427387904):std.conv .u64 (n:Int)=(n:Int):=by rw [std_conv,wu64 (by omega) (by omega)]
theorem rem2_nat {k:IntKind} {m:Nat}:std.cmp .eql (std.bin .rem k (m:Int) 2) 1=decide (m % 2=1):=by
 show ((m:Int).tmod 2 == 1)=_
 rw [Int.tmod_eq_emod_of_nonneg (by omega),Bool.eq_iff_iff]
 simp only [beq_iff_eq,decide_eq_true_eq]
 omega
theorem bit_doc {v:Int} {k:Nat} (h:0≤v) (hk:k≤64):std.cmp .eql (std.bin .rem .u64 (std.bin .shr .u64 v (std.conv .u64 (k:Int))) 2) 1=v.toNat.testBit k:=by
 rw [conv_nat (by omega),shr64 h hk,rem2_nat,Nat.testBit_eq_decide_div_mod_eq]
theorem and1_nat {m:Nat}:std.cmp .eql (std.bin .and .u64 (m:Int) 1) 1=decide (m % 2=1):=by
 show (IntKind.u64.wrap ((BitVec.ofInt 64 (m:Int) &&& BitVec.ofInt 64 1).toNat:Int) == 1)=_
 rw [BitVec.ofInt_natCast,show BitVec.ofInt 64 1=BitVec.ofNat 64 1 from rfl,BitVec.toNat_and,BitVec.toNat_ofNat,BitVec.toNat_ofNat,show 1 % 2 ^ 64=1 from rfl,Nat.and_one_is_mod,wu64 (by omega) (by omega),Bool.eq_iff_iff]
 simp only [beq_iff_eq,decide_eq_true_eq]
 omega
theorem bit_prog {v:Int} {k:Nat} (h:0≤v) (hk:k≤64):std.cmp .eql (std.bin .and .u64 (std.bin .shr .u64 v (k:Int)) 1) 1=v.toNat.testBit k:=by
 rw [shr64 h hk,and1_nat,Nat.testBit_eq_decide_div_mod_eq]
theorem sub_nat {i j:Nat} (h:j≤i) (hi:i < 4611686018427387904):std.bin .sub .i64 (i:Int) (j:Int)=((i - j:Nat):Int):=by
 rw [std_sub,w64 (by omega) (by omega)]; omega
theorem bitsOf_cons (v k:Nat):bitsOf v (k + 1)=v.testBit k :: bitsOf v k:=by
 rw [bitsOf,List.range_succ_eq_map,List.map_cons,List.map_map]
 congr 1
 apply List.map_congr_left
 intro a _
 show v.testBit (k + 1 - 1 - (a + 1))=v.testBit (k - 1 - a)
 congr 1; omega
theorem pow_leB {v:Int} {w:Nat} (h:0≤v):decide ((2:Int) ^ w≤v)=(((v.toNat / 2 ^ w:Nat):Int) != 0):=by
 obtain ⟨m,rfl⟩:=Int.eq_ofNat_of_zero_le h
 rw [Int.toNat_natCast,Bool.eq_iff_iff]
 have h2:(2:Int) ^ w=((2 ^ w:Nat):Int):=by simp
 rw [h2,decide_eq_true_eq,bne_iff_ne]
 have hp:=Nat.two_pow_pos w
 constructor
 ·intro h3
  have:1≤m / 2 ^ w:=(Nat.le_div_iff_mul_le hp).2 (by omega)
  omega
 ·intro h3
  have:1≤m / 2 ^ w:=Nat.pos_of_ne_zero fun h=>h3 (by rw [h]; rfl)
  have:=(Nat.le_div_iff_mul_le hp).1 this
  omega
theorem has_put {n v w:Int} {b:List Int} (h:Ty.hass [(.struct [(.int .i64),(.slice (.int .u8))]),(.int .u64),(.int .i64)] ((n,b),v,w)):Ty.has (.struct [(.int .i64),(.slice (.int .u8))]) (n,b)∧(0≤v∧v≤18446744073709551615)∧(-9223372036854775808≤w∧w≤9223372036854775807):=h
theorem put_c2 {v:Int} (hv:0≤v):∀(k:Nat) (c1:Int) (c3:List Bool) (p:P125c2),p.c0=v→c1=(k:Int) - 1→k≤64→c3.length + k≤4200→Runs (s125 std) (.more (.c2 p c1 c3)) (ofS (c3 ++ bitsOf v.toNat k)):=by
 intro k
 induction k with
 | zero=>
  intro c1 c3 p h1 h2 _ _
  simp only [runs_more,s125]
  refine (runs_brF (by rw [std_cmp_geq,h2]; decide)).2 (runs_need.2 ⟨rfl,?_⟩)
  rw [show bitsOf v.toNat 0=[] from rfl,List.append_nil]
  exact .ret _
 | succ k ih=>
  intro c1 c3 p h1 h2 hk hl
  have h3:c1=(k:Int):=by omega
  subst h3
  simp only [runs_more,s125]
  refine (runs_brT (by rw [std_cmp_geq]; simp)).2 (runs_need.2 ⟨by rw [conv_nat (by omega),leq_0],runs_need.2 ⟨?_,?_⟩⟩)
  ·show decide (((c3 ++ [_]).length:Int)≤70368744177664)=true
   rw [List.length_append]; simp; omega
  ·have e:(std.app c3 [(std.cmp .eql (std.bin .rem .u64 (std.bin .shr .u64 p.c0 (std.conv .u64 (k:Int))) 2) 1)]:List Bool)=c3 ++ [v.toNat.testBit k]:=by
    show c3 ++ [_]=_
    rw [h1,bit_doc hv (by omega)]
   have:=ih ((k:Int) - 1) (c3 ++ [v.toNat.testBit k]) p h1 rfl (by omega) (by rw [List.length_append]; simp; omega)
   rw [List.append_assoc,show [v.toNat.testBit k] ++ bitsOf v.toNat k=bitsOf v.toNat (k + 1) from by rw [bitsOf_cons]; rfl] at this
   exact runs_c (congrArg LT.more (congr (congrArg (Y125.c2 p) (show std.bin .sub .i64 (k:Int) 1=(k:Int) - 1 by rw [std_sub,w64 (by omega) (by omega)])) e)) this
theorem put_c0 {v:Int} (hv:0≤v) {k:Nat} (p:P125c0) (h1:p.a0=v) (h2:p.a1=(k:Int) - 1) (hk:k≤64):Runs (s125 std) (.more (.c0 p)) (ofS (bitsOf v.toNat k)):=by
 cases k with
 | zero=>
  simp only [runs_more,s125]
  refine (runs_brF (by rw [std_cmp_geq,h2]; decide)).2 (runs_need.2 ⟨rfl,?_⟩)
  exact .ret _
 | succ k=>
  have h3:p.a1=(k:Int):=by omega
  simp only [runs_more,s125,h3]
  refine (runs_brT (by rw [std_cmp_geq]; simp)).2 (runs_need.2 ⟨by rw [conv_nat (by omega),leq_0],runs_need.2 ⟨rfl,?_⟩⟩)
  have e:([(std.cmp .eql (std.bin .rem .u64 (std.bin .shr .u64 p.a0 (std.conv .u64 (k:Int))) 2) 1)]:List Bool)=[v.toNat.testBit k]:=by
   rw [h1,bit_doc hv (by omega)]
  have:=put_c2 hv k ((k:Int) - 1) [v.toNat.testBit k] ⟨p.a0,p.a2⟩ h1 rfl (by omega) (by simp; omega)
  rw [show [v.toNat.testBit k] ++ bitsOf v.toNat k=bitsOf v.toNat (k + 1) from by rw [bitsOf_cons]; rfl] at this
  exact runs_c (congrArg LT.more (congr (congrArg (Y125.c2 ⟨p.a0,p.a2⟩) (show std.bin .sub .i64 (k:Int) 1=(k:Int) - 1 by rw [std_sub,w64 (by omega) (by omega)])) e)) this
theorem put_c3 {v:Int} {n w:Nat} {b:List Int} (hv:0≤v) (hb:bytesOk b) (hl:b.length≤140737488355328) (hn:n≤4096) (hw:w≤64) (hok:n≤8 * b.length):∀(j i:Nat) (p:P125c3),p.d1=v→p.d2=(w:Int)→p.d3=(n:Int)→p.d4=b→n - i=j→i≤n→Runs (s125 std) (.more (.c3 p (i:Int) (unpack i b))) (ofS (unpack n b ++ bitsOf v.toNat w)):=by
 intro j
 induction j with
 | zero=>
  intro i p h1 h2 h3 h4 hj hi
  have:i=n:=by omega
  subst this
  simp only [runs_more,s125]
  refine (runs_brF (by rw [h3,lss_nat]; simp)).2 ?_
  rw [h2,std_sub,w64 (by omega) (by omega)]
  exact put_c2 hv w _ _ _ h1 rfl hw (by rw [unpack_length]; omega)
 | succ j ih=>
  intro i p h1 h2 h3 h4 hj hi
  simp only [runs_more,s125]
  refine (runs_brT (by rw [h3,lss_nat]; simp; omega)).2 (runs_need.2 ⟨?_,runs_need.2 ⟨?_,?_⟩⟩)
  ·rw [h4,std_call]; simp [pre136]; omega
  ·show decide (((unpack i b ++ [_]).length:Int)≤70368744177664)=true
   rw [List.length_append,unpack_length]
   simp; omega
  ·have e:(std.app (unpack i b) [(std.call fn136 (p.d4,(i:Int)))]:List Bool)=unpack (i + 1) b:=by
    show unpack i b ++ [fn136 (p.d4,(i:Int))]=_
    rw [h4,fn136_eq hb (by omega) (by omega),unpack_succ,Int.toNat_natCast]
   exact runs_c (congrArg LT.more (congr (congrArg (Y125.c3 p) (inc1 (by omega))) e)) (ih (i + 1) p h1 h2 h3 h4 (by omega) (by omega))
theorem put_c1 {v:Int} {n w:Nat} {b:List Int} (hv:0≤v) (hb:bytesOk b) (hl:b.length≤140737488355328) (hn:n≤4096) (hw:w≤64) (hok:n≤8 * b.length) (p:P125c1) (h0:p.b0=0) (h1:p.b1=v) (h2:p.b2=(w:Int)) (h3:p.b3=(n:Int)) (h4:p.b4=b):Runs (s125 std) (.more (.c1 p)) (ofS (unpack n b ++ bitsOf v.toNat w)):=by
 simp only [runs_more,s125,h0]
 by_cases hz:n=0
 ·refine (runs_brF (by rw [h3,hz]; rfl)).2 ?_
  rw [hz]
  exact put_c0 hv _ h1 (by show std.bin .sub .i64 p.b2 1=_; rw [h2,std_sub,w64 (by omega) (by omega)]) hw
 ·refine (runs_brT (by rw [h3,std_cmp_lss]; simp; omega)).2 (runs_need.2 ⟨?_,runs_need.2 ⟨rfl,?_⟩⟩)
  ·rw [h4,std_call]; simp [pre136]; omega
  ·have e:([(std.call fn136 (p.b4,(0:Int)))]:List Bool)=unpack 1 b:=by
    show [fn136 (p.b4,(0:Int))]=_
    rw [h4,fn136_eq hb (by omega) (by omega)]; rfl
   refine runs_c (congrArg LT.more (congr (congrArg (Y125.c3 _) (inc1 (i:=0) (by omega))) e)) ?_
   exact put_c3 hv hb hl hn hw hok (n - 1) 1 _ h1 h2 h3 h4 (by omega) (by omega)
theorem put1 {n v w:Int} {b:List Int} (h:Ty.hass [(.struct [(.int .i64),(.slice (.int .u8))]),(.int .u64),(.int .i64)] ((n,b),v,w)):Runs (s125 std) (t125 std n b v w) (putS ((n,b),v,w)):=by
 obtain ⟨h1,hv,hw⟩:=has_put h
 have hb:=(has_bits h1).2.2
 have hl:=has_len h1
 unfold t125
 rw [putS]
 refine runs_need.2 ⟨rfl,?_⟩
 cases hok:bsOk (n,b)
 ·refine (runs_brT (show (fn97 (n,b) != 0)=true by rw [fn97,hok]; rfl)).2 ?_
  exact .ret _
 ·refine (runs_brF (show (fn97 (n,b) != 0)=false by rw [fn97,hok]; rfl)).2 ?_
  obtain ⟨h2,h3,h4⟩:=(bsOk_iff hb).1 hok
  have h5:=h4.1
  rw [Bool.not_true,cond_false]
  by_cases h6:w < 0
  ·refine (runs_brT (by rw [std_cmp_lss]; simpa using h6)).2 ?_
   rw [show decide (w < 0)=true from by simpa using h6]
   exact .ret _
  ·refine (runs_brF (by rw [std_cmp_lss]; simpa using h6)).2 ?_
   by_cases h7:64 < w
   ·refine (runs_brT (by rw [std_cmp_gtr]; simpa using h7)).2 ?_
    rw [show decide (64 < w)=true from by simpa using h7,Bool.or_true,Bool.true_or]
    exact .ret _
   ·refine (runs_brF (by rw [std_cmp_gtr]; simpa using h7)).2 ?_
    rw [show decide (w < 0)=false from by simpa using h6,show decide (64 < w)=false from by simpa using h7,Bool.false_or,Bool.false_or,pow_leB hv.1]
    obtain ⟨k,rfl⟩:=Int.eq_ofNat_of_zero_le (show 0≤w by omega)
    rw [Int.toNat_natCast]
    have hfin:(((v.toNat / 2 ^ k:Nat):Int) != 0)=false→Runs (s125 std) (.need (std.call (@tt ((Int×List Int))) (n,b)) (.br (std.cmp .neq (std.call fn97 (n,b)) 0) (.more (.c0 ⟨v,(std.bin .sub .i64 (k:Int) 1),0⟩)) (.more (.c1 ⟨0,v,(k:Int),n,b,0⟩)))) (bif ((v.toNat / 2 ^ k:Nat):Int) != 0 then (zB,2) else ofS (bsL (n,b) ++ bitsOf v.toNat k)):=by
     intro hz
     rw [hz,cond_false]
     refine runs_need.2 ⟨rfl,(runs_brF (show (fn97 (n,b) != 0)=false by rw [fn97,hok]; rfl)).2 ?_⟩
     exact put_c1 (n:=n.toNat) hv.1 hb hl (by omega) (by omega) (by omega) _ rfl rfl rfl (show n=_ by omega) rfl
    by_cases h8:k < 64
    ·refine (runs_brT (by rw [std_cmp_lss]; simp; omega)).2 (runs_need.2 ⟨by rw [conv_nat (by omega),leq_0],?_⟩)
     rw [conv_nat (by omega),shr64 hv.1 (by omega)]
     cases hz:(((v.toNat / 2 ^ k:Nat):Int) != 0)
     ·refine (runs_brF hz).2 ?_
      rw [←hz]
      exact hfin hz
     ·refine (runs_brT hz).2 ?_
      exact .ret _
    ·refine (runs_brF (by rw [std_cmp_lss]; simp; omega)).2 (hfin ?_)
     have:k=64:=by omega
     subst this
     rw [Nat.div_eq_of_lt (by omega)]; rfl
def fn125:((Int×List Int)×Int×Int)→((Int×List Int)×Int):=putS
def sp125:FSpec:=⟨[(.struct [(.int .i64),(.slice (.int .u8))]),(.int .u64),(.int .i64)], [(.struct [(.int .i64),(.slice (.int .u8))]),(.int .i64)],(@tt ((Int×List Int)×Int×Int)),fn125⟩
theorem run125 {bN:Int} {bB:List Int} {v:Int} {width:Int} (h:Ty.hass [(.struct [(.int .i64),(.slice (.int .u8))]),(.int .u64),(.int .i64)] ((bN,bB),v,width)):Runs (s125 std) (t125 std bN bB v width) (fn125 ((bN,bB),v,width)):=by
 exact put1 h
theorem so125:FSpec.Sound Tryz.prog 229 sp125:=
 w125_ok.sound _ _ fun ((bN,bB),v,width) _ h=>run125 h
open Go.Ev.Pl
structure P132c0 where
 (a0 a1 a2 a4:Int) (a5:List Int) (a6 a7:Int)
inductive Y132 where
 | c0 (p:P132c0) (a3:Int) (a8:List Int)
noncomputable def cfg132:Y132→Cfg
 | .c0 p a3 a8=>{frames:=[{fn:=295,n:=63,env:=(Env.put (Env.put (Env.put (Env.put (Env.put (Env.put (Env.put .leaf 1 (.int .u64 false p.a0)) 2 (.int .i64 false p.a1)) 3 (.ptr 0 0)) 6 (.ptr 1 0)) 8 (.ptr 2 0)) 43 (.int .i64 false p.a2)) 44 (.int .i64 false a3)),todo:=[.inLoop (Code.way (bodyOf Tryz.f295) [1,1,1,0,1,0,0]),.inBlock 1,.code (Code.way (bodyOf Tryz.f295) [1,1,1,1])],marks:=[],rnd:=none}],mem:=[.flat false [.int .i64 false p.a4,.sl (.int .u8) p.a5],.flat false [.int .i64 false p.a6,.esl true],.flat false [.int .i64 false p.a7,.own 3],.arr false (.int .u8) a8,.dead]}
def t132 (A:Alg) (bN:Int) (bB:List Int) (v:Int) (width:Int):LT ((Int×List Int)×Int) Y132:=
 .need (A.call (@tt ((Int×List Int))) (bN,bB)) (
 .br (A.cmp .neq (A.call fn99 (bN,bB)) 0)
 (.ret ((0,([]:List Int)),10))
 (.br (A.cmp .lss width 0)
  (.ret ((0,([]:List Int)),2))
  (.br (A.cmp .gtr width 64)
  (.ret ((0,([]:List Int)),2))
  (.br (A.cmp .lss width 64)
   (.need (A.cmp .leq 0 width) (
   .br (A.cmp .neq (A.bin .shr .u64 v width) 0)
    (.ret ((0,([]:List Int)),2))
    (.br (A.cmp .gtr width (A.bin .sub .i64 4096 bN))
    (.ret ((0,([]:List Int)),3))
    (.need (A.call (@tt Int) (A.bin .add .i64 bN width)) (
     .need (A.and (A.cmp .eql (A.call fn137 (A.bin .add .i64 bN width)) (A.call fn137 (A.bin .add .i64 bN width))) (A.and (A.cmp .leq 0 (A.call fn137 (A.bin .add .i64 bN width))) (A.cmp .leq (A.call fn137 (A.bin .add .i64 bN width)) 70368744177664))) (
     .more (.c0 ⟨v,width,width,bN,bB,0,(A.bin .add .i64 bN width)⟩ 0 (A.spl (A.rep (A.call fn137 (A.bin .add .i64 bN width)) (0:Int)) 0 (A.sub bB 0 (A.mn (A.len bB) (A.len (A.rep (A.call fn137 (A.bin .add .i64 bN width)) (0:Int)))))))))))))
   (.br (A.cmp .gtr width (A.bin .sub .i64 4096 bN))
   (.ret ((0,([]:List Int)),3))
   (.need (A.call (@tt Int) (A.bin .add .i64 bN width)) (
    .need (A.and (A.cmp .eql (A.call fn137 (A.bin .add .i64 bN width)) (A.call fn137 (A.bin .add .i64 bN width))) (A.and (A.cmp .leq 0 (A.call fn137 (A.bin .add .i64 bN width))) (A.cmp .leq (A.call fn137 (A.bin .add .i64 bN width)) 70368744177664))) (
    .more (.c0 ⟨v,width,width,bN,bB,0,(A.bin .add .i64 bN width)⟩ 0 (A.spl (A.rep (A.call fn137 (A.bin .add .i64 bN width)) (0:Int)) 0 (A.sub bB 0 (A.mn (A.len bB) (A.len (A.rep (A.call fn137 (A.bin .add .i64 bN width)) (0:Int)))))))))))))))
def s132 (A:Alg):Y132→LT ((Int×List Int)×Int) Y132
 | .c0 p a3 a8=>
  .br (A.cmp .lss a3 p.a2)
  (.need (A.cmp .leq 0 (A.bin .sub .i64 (A.bin .sub .i64 p.a1 1) a3)) (
   .br (A.cmp .eql (A.bin .and .u64 (A.bin .shr .u64 p.a0 (A.bin .sub .i64 (A.bin .sub .i64 p.a1 1) a3)) 1) 1)
   (.need (A.and (A.cmp .leq 0 (A.bin .quo .i64 (A.bin .add .i64 p.a4 a3) 8)) (A.cmp .lss (A.bin .quo .i64 (A.bin .add .i64 p.a4 a3) 8) (A.len a8))) (
    .need (A.call pre177 (A.bin .add .i64 p.a4 a3)) (
    .need (A.and (A.cmp .leq 0 (A.bin .quo .i64 (A.bin .add .i64 p.a4 a3) 8)) (A.cmp .lss (A.bin .quo .i64 (A.bin .add .i64 p.a4 a3) 8) (A.len a8))) (
     .more (.c0 p (A.bin .add .i64 a3 1) (A.set a8 (A.bin .quo .i64 (A.bin .add .i64 p.a4 a3) 8) (A.bin .or .u8 (A.nth (.int .u8) a8 (A.bin .quo .i64 (A.bin .add .i64 p.a4 a3) 8):Int) (A.call fn177 (A.bin .add .i64 p.a4 a3)))))))))
   (.more (.c0 p (A.bin .add .i64 a3 1) a8))))
  (.ret ((p.a7,a8),0))
noncomputable def E132 (A:Alg):Info (Ty.Ts [(.struct [(.int .i64),(.slice (.int .u8))]),(.int .i64)]):={ti:=tys,fns:=[(295,Tryz.f295),(303,Tryz.f303),(304,Tryz.f304),(306,Tryz.f306)],sps:=[(83,sp99),(183,sp137),(308,sp177)],stops:=[⟨295,9, [[1,2,3,6,8,43,44]]⟩],cuts:=[],consts:=[],fin:=finD A [(.struct [(.int .i64),(.slice (.int .u8))]),(.int .i64)]}
theorem t132_ok (A:Alg) (bN:Int) (bB:List Int) (v:Int) (width:Int):run A (E132 A) 114 (startC 295 Tryz.f295 (dvals A [(.struct [(.int .i64),(.slice (.int .u8))]),(.int .u64),(.int .i64)] ((bN,bB),v,width)))=(t132 A bN bB v width).tr cfg132:=by kernel_rfl
theorem s132_ok (A:Alg):∀y,∃n,run A (E132 A) n (advance (E132 A).sps (cfg132 y))=(s132 A y).tr cfg132
 | .c0 p a3 a8=>⟨63,by kernel_rfl⟩
def w132:Walk Tryz.prog 295 [(.struct [(.int .i64),(.slice (.int .u8))]),(.int .u64),(.int .i64)] [(.struct [(.int .i64),(.slice (.int .u8))]),(.int .i64)] Y132:=⟨fun ((bN,bB),v,width)=>t132 std bN bB v width,s132 std⟩
theorem w132_ok:w132.Ok:=
 walk_ok (E:=E132 std) ⟨tys_fit,fns_cons Tryz.func295 (by kernel_rfl) (fns_cons Tryz.func303 (by kernel_rfl) (fns_cons Tryz.func304 (by kernel_rfl) (fns_cons Tryz.func306 (by kernel_rfl) (fns_nil)))),sps_cons so99 (sps_cons so137 (sps_cons so177 (sps_nil))),by kernel_rfl⟩ rfl rfl rfl (by kernel_rfl) w132 cfg132 114 (fun ((bN,bB),v,width)=>t132_ok std bN bB v width) (s132_ok std)
theorem bitsOf_getD {v w k:Nat} (h:k < w):(bitsOf v w).getD k false=v.testBit (w - 1 - k):=by
 rw [List.getD_eq_getElem?_getD,bitsOf,List.getElem?_map,List.getElem?_range h]; rfl
theorem need_set {B:List Int} {m i:Nat} (hB:B.length=m) (hi:i < 8 * m) (hm:m≤100000):(std.and (std.cmp .leq 0 (std.bin .quo .i64 (i:Int) 8)) (std.cmp .lss (std.bin .quo .i64 (i:Int) 8) (std.len B)))=true:=by
 have hlb:std.len B=(m:Int):=by rw [←hB]; rfl
 rw [quo_nat (by omega),hlb,leq_0,lss_nat,std_and]; simp; omega
theorem need_mask {i:Nat}:std.call pre177 (i:Int)=true:=by rw [std_call]; simp [pre177]
theorem put_p {v:Int} {n w:Nat} {b:List Int} (hv:0≤v) (hn:n + w≤4096) (hw:w≤64):∀(j k:Nat) (p:P132c0) (B:List Int),p.a0=v→p.a1=(w:Int)→p.a2=(w:Int)→p.a4=(n:Int)→p.a7=((n + w:Nat):Int)→w - k=j→k≤w→Holds B (unpack n b ++ (bitsOf v.toNat w).take k) ((n + w + 7) / 8)→Runs (s132 std) (.more (.c0 p (k:Int) B)) (bsP (unpack n b ++ bitsOf v.toNat w),0):=by
 intro j
 induction j with
 | zero=>
  intro k p B h1 h2 h3 h4 h5 hj hk hB
  have:k=w:=by omega
  subst this
  simp only [runs_more,s132]
  refine (runs_brF (by rw [h3,lss_nat]; simp)).2 ?_
  rw [List.take_of_length_le (by rw [bitsOf_length]; exact Nat.le_refl _)] at hB
  have hl:(unpack n b ++ bitsOf v.toNat k).length=n + k:=by rw [List.length_append,unpack_length,bitsOf_length]
  rw [h5,hB.done (by rw [hl])]
  rw [show bsP (unpack n b ++ bitsOf v.toNat k)=(((n + k:Nat):Int),pack (unpack n b ++ bitsOf v.toNat k)) from by rw [bsP,hl]]
  exact .ret _
 | succ j ih=>
  intro k p B h1 h2 h3 h4 h5 hj hk hB
  simp only [runs_more,s132]
  have hsh:std.bin .sub .i64 (std.bin .sub .i64 p.a1 1) (k:Int)=((w - 1 - k:Nat):Int):=by
   rw [h2,show std.bin .sub .i64 (w:Int) 1=((w - 1:Nat):Int) from sub_nat (j:=1) (by omega) (by omega),sub_nat (by omega) (by omega)]
  have hat:std.bin .add .i64 p.a4 (k:Int)=((n + k:Nat):Int):=by rw [h4,add_nat (by omega)]
  have hlen:(unpack n b ++ (bitsOf v.toNat w).take k).length=n + k:=by rw [List.length_append,unpack_length,List.length_take,bitsOf_length]; omega
  have hts:=take_snoc (l:=bitsOf v.toNat w) (i:=k) (by rw [bitsOf_length]; omega)
  rw [bitsOf_getD (by omega)] at hts
  refine (runs_brT (by rw [h3,lss_nat]; simp; omega)).2 (runs_need.2 ⟨by rw [hsh,leq_0],?_⟩)
  rw [hsh,h1,bit_prog hv (by omega),hat]
  cases hx:v.toNat.testBit (w - 1 - k)
  ·rw [hx] at hts
   refine (runs_brF rfl).2 ?_
   refine runs_c (congrArg LT.more (congr (congrArg (Y132.c0 p) (inc1 (by omega))) rfl)) (ih (k + 1) p B h1 h2 h3 h4 h5 (by omega) (by omega) ?_)
   rw [hts,←List.append_assoc]
   exact hB.skip
  ·rw [hx] at hts
   refine (runs_brT rfl).2 (runs_need.2 ⟨need_set hB.1 (by omega) (by omega),runs_need.2 ⟨need_mask,runs_need.2 ⟨need_set hB.1 (by omega) (by omega),?_⟩⟩⟩)
   refine runs_c (congrArg LT.more (congr (congrArg (Y132.c0 p) (inc1 (by omega))) rfl)) (ih (k + 1) p _ h1 h2 h3 h4 h5 (by omega) (by omega) ?_)
   rw [hts,←List.append_assoc]
   exact set_prog hB hlen (by omega) (by omega)
theorem grow {n w:Nat} {b:List Int} (h:okB n b) (hw:n + w≤100000):Holds (std.spl (std.rep (std.call fn137 ((n + w:Nat):Int)) (0:Int)) 0 (std.sub b 0 (std.mn (std.len b) (std.len (std.rep (std.call fn137 ((n + w:Nat):Int)) (0:Int)))))) (unpack n b) ((n + w + 7) / 8):=by
 have h1:=h.1
 rw [std_call,fn137_eq (by omega) (by omega),Int.toNat_natCast]
 have e1:std.rep ((((n + w + 7) / 8:Nat):Nat):Int) (0:Int)=List.replicate ((n + w + 7) / 8) 0:=by rw [std_rep,Int.toNat_natCast]
 rw [e1]
 have e2:std.mn (std.len b) (std.len (List.replicate ((n + w + 7) / 8) (0:Int)))=(b.length:Int):=by
  rw [std_mn]
  show (if ((List.replicate ((n + w + 7) / 8) (0:Int)).length:Int) < (b.length:Int) then _ else (b.length:Int))=_
  rw [List.length_replicate,if_neg (by omega)]
 rw [e2,std_sub',std_spl]
 have e3:(b.take (b.length:Int).toNat).drop (0:Int).toNat=b:=by
  rw [Int.toNat_natCast,List.take_length]; rfl
 rw [e3]
 have:=Holds.grown (m:=(n + w + 7) / 8) h (by omega)
 rw [show (0:Int).toNat=0 from rfl,List.take_zero,List.nil_append,Nat.zero_add,List.drop_replicate]
 exact this
theorem put2 {n v w:Int} {b:List Int} (h:Ty.hass [(.struct [(.int .i64),(.slice (.int .u8))]),(.int .u64),(.int .i64)] ((n,b),v,w)):Runs (s132 std) (t132 std n b v w) (putS ((n,b),v,w)):=by
 obtain ⟨h1,hv,hw⟩:=has_put h
 have hb:=(has_bits h1).2.2
 have hl:=has_len h1
 unfold t132
 rw [putS]
 refine runs_need.2 ⟨rfl,?_⟩
 have hc:std.cmp .neq (std.call fn99 (n,b)) 0=!bsOk (n,b):=by
  rw [std_call,fn99_eq hb hl]; cases bsOk (n,b) <;> rfl
 rw [hc]
 cases hok:bsOk (n,b)
 ·exact (runs_brT rfl).2 (.ret _)
 ·refine (runs_brF rfl).2 ?_
  obtain ⟨h2,h3,h4⟩:=(bsOk_iff hb).1 hok
  have h5:=h4.1
  rw [Bool.not_true,cond_false]
  by_cases h6:w < 0
  ·refine (runs_brT (by rw [std_cmp_lss]; simpa using h6)).2 ?_
   rw [show decide (w < 0)=true from by simpa using h6]
   exact .ret _
  ·refine (runs_brF (by rw [std_cmp_lss]; simpa using h6)).2 ?_
   by_cases h7:64 < w
   ·refine (runs_brT (by rw [std_cmp_gtr]; simpa using h7)).2 ?_
    rw [show decide (64 < w)=true from by simpa using h7,Bool.or_true,Bool.true_or]
    exact .ret _
   ·refine (runs_brF (by rw [std_cmp_gtr]; simpa using h7)).2 ?_
    rw [show decide (w < 0)=false from by simpa using h6,show decide (64 < w)=false from by simpa using h7,Bool.false_or,Bool.false_or,pow_leB hv.1]
    obtain ⟨k,rfl⟩:=Int.eq_ofNat_of_zero_le (show 0≤w by omega)
    obtain ⟨m,rfl⟩:=Int.eq_ofNat_of_zero_le h2
    rw [Int.toNat_natCast] at h4 h5 ⊢
    have hadd:std.bin .add .i64 (m:Int) (k:Int)=((m + k:Nat):Int):=add_nat (by omega)
    have hneed:std.call fn137 ((m + k:Nat):Int)=(((m + k + 7) / 8:Nat):Int):=by rw [std_call,fn137_eq (by omega) (by omega),Int.toNat_natCast]
    have hlen:(bsL ((m:Int),b) ++ bitsOf v.toNat k).length=m + k:=by rw [List.length_append,bsL_length,bitsOf_length,Int.toNat_natCast]
    have hfin:(((v.toNat / 2 ^ k:Nat):Int) != 0)=false→∀t,t=(LT.br (std.cmp .gtr (k:Int) (std.bin .sub .i64 4096 (m:Int))) (.ret ((0,([]:List Int)),3)) (.need (std.call (@tt Int) (std.bin .add .i64 (m:Int) (k:Int))) (.need (std.and (std.cmp .eql (std.call fn137 (std.bin .add .i64 (m:Int) (k:Int))) (std.call fn137 (std.bin .add .i64 (m:Int) (k:Int)))) (std.and (std.cmp .leq 0 (std.call fn137 (std.bin .add .i64 (m:Int) (k:Int)))) (std.cmp .leq (std.call fn137 (std.bin .add .i64 (m:Int) (k:Int))) 70368744177664))) (.more (.c0 ⟨v,(k:Int),(k:Int),(m:Int),b,0,(std.bin .add .i64 (m:Int) (k:Int))⟩ 0 (std.spl (std.rep (std.call fn137 (std.bin .add .i64 (m:Int) (k:Int))) (0:Int)) 0 (std.sub b 0 (std.mn (std.len b) (std.len (std.rep (std.call fn137 (std.bin .add .i64 (m:Int) (k:Int))) (0:Int)))))))))):LT ((Int×List Int)×Int) Y132)→Runs (s132 std) t (bif ((v.toNat / 2 ^ k:Nat):Int) != 0 then (zB,2) else ofS (bsL ((m:Int),b) ++ bitsOf v.toNat k)):=by
     intro hz t ht
     rw [hz,cond_false,ht,ofS,hlen,hadd,show std.bin .sub .i64 (4096:Int) (m:Int)=((4096 - m:Nat):Int) from sub_nat (i:=4096) (by omega) (by omega)]
     by_cases h9:4096 < m + k
     ·rw [show decide (4096 < m + k)=true from by simpa using h9]
      refine (runs_brT (by rw [std_cmp_gtr]; simp; omega)).2 (.ret _)
     ·rw [show decide (4096 < m + k)=false from by simpa using h9]
      refine (runs_brF (by rw [std_cmp_gtr]; simp; omega)).2 (runs_need.2 ⟨rfl,runs_need.2 ⟨?_,?_⟩⟩)
      ·rw [hneed,leq_0,ceq_t rfl,std_cmp_leq,std_and,std_and]; simp; omega
      ·refine put_p hv.1 (by omega) (by omega) k 0 _ _ rfl rfl rfl rfl rfl rfl (by omega) ?_
       rw [List.take_zero,List.append_nil]
       exact grow h4 (by omega)
    by_cases h8:k < 64
    ·refine (runs_brT (by rw [std_cmp_lss]; simp; omega)).2 (runs_need.2 ⟨leq_0,?_⟩)
     rw [shr64 hv.1 (by omega)]
     cases hz:(((v.toNat / 2 ^ k:Nat):Int) != 0)
     ·refine (runs_brF hz).2 ?_
      rw [←hz]
      exact hfin hz _ rfl
     ·exact (runs_brT hz).2 (.ret _)
    ·refine (runs_brF (by rw [std_cmp_lss]; simp; omega)).2 (hfin ?_ _ rfl)
     have:k=64:=by omega
     subst this
     rw [Nat.div_eq_of_lt (by omega)]; rfl
def fn132:((Int×List Int)×Int×Int)→((Int×List Int)×Int):=putS
def sp132:FSpec:=⟨[(.struct [(.int .i64),(.slice (.int .u8))]),(.int .u64),(.int .i64)], [(.struct [(.int .i64),(.slice (.int .u8))]),(.int .i64)],(@tt ((Int×List Int)×Int×Int)),fn132⟩
theorem run132 {bN:Int} {bB:List Int} {v:Int} {width:Int} (h:Ty.hass [(.struct [(.int .i64),(.slice (.int .u8))]),(.int .u64),(.int .i64)] ((bN,bB),v,width)):Runs (s132 std) (t132 std bN bB v width) (fn132 ((bN,bB),v,width)):=by
 exact put2 h
theorem so132:FSpec.Sound Tryz.prog 295 sp132:=
 w132_ok.sound _ _ fun ((bN,bB),v,width) _ h=>run132 h
open Go.Ev.Pl
structure P138c0 where
 (a0 a2 a4:Int) (a5:List Int)
inductive Y138 where
 | c0 (p:P138c0) (a1:Int) (a3:Int)
noncomputable def cfg138:Y138→Cfg
 | .c0 p a1 a3=>{frames:=[{fn:=293,n:=54,env:=(Env.put (Env.put (Env.put (Env.put (Env.put .leaf 1 (.int .i64 false p.a0)) 3 (.ptr 0 0)) 8 (.int .u64 false a1)) 39 (.int .i64 false p.a2)) 40 (.int .i64 false a3)),todo:=[.inLoop (Code.way (bodyOf Tryz.f293) [1,1,1,0,1,0,0]),.inBlock 1,.code (Code.way (bodyOf Tryz.f293) [1,1,1,1])],marks:=[],rnd:=none}],mem:=[.flat false [.int .i64 false p.a4,.sl (.int .u8) p.a5],.dead]}
def t138 (A:Alg) (bN:Int) (bB:List Int) (at1:Int) (width:Int):LT (Int×Int) Y138:=
 .need (A.call (@tt ((Int×List Int))) (bN,bB)) (
 .br (A.cmp .neq (A.call fn99 (bN,bB)) 0)
 (.ret (0,10))
 (.br (A.cmp .lss width 0)
  (.ret (0,2))
  (.br (A.cmp .gtr width 64)
  (.ret (0,2))
  (.br (A.cmp .lss at1 0)
   (.ret (0,2))
   (.br (A.cmp .gtr at1 bN)
   (.ret (0,2))
   (.br (A.cmp .gtr width (A.bin .sub .i64 bN at1))
    (.ret (0,2))
    (.more (.c0 ⟨at1,width,bN,bB⟩ 0 0))))))))
def s138 (A:Alg):Y138→LT (Int×Int) Y138
 | .c0 p a1 a3=>
  .br (A.cmp .lss a3 p.a2)
  (.need (A.call pre166 ((p.a4,p.a5),(A.bin .add .i64 p.a0 a3))) (
   .br (A.call fn166 ((p.a4,p.a5),(A.bin .add .i64 p.a0 a3)))
   (.more (.c0 p (A.bin .or .u64 (A.bin .shl .u64 a1 1) 1) (A.bin .add .i64 a3 1)))
   (.more (.c0 p (A.bin .shl .u64 a1 1) (A.bin .add .i64 a3 1)))))
  (.ret (a1,0))
noncomputable def E138 (A:Alg):Info (Ty.Ts [(.int .u64),(.int .i64)]):={ti:=tys,fns:=[(293,Tryz.f293)],sps:=[(83,sp99),(302,sp166)],stops:=[⟨293,7, [[1,3,8,39,40]]⟩],cuts:=[],consts:=[],fin:=finD A [(.int .u64),(.int .i64)]}
theorem t138_ok (A:Alg) (bN:Int) (bB:List Int) (at1:Int) (width:Int):run A (E138 A) 65 (startC 293 Tryz.f293 (dvals A [(.struct [(.int .i64),(.slice (.int .u8))]),(.int .i64),(.int .i64)] ((bN,bB),at1,width)))=(t138 A bN bB at1 width).tr cfg138:=by kernel_rfl
theorem s138_ok (A:Alg):∀y,∃n,run A (E138 A) n (advance (E138 A).sps (cfg138 y))=(s138 A y).tr cfg138
 | .c0 p a1 a3=>⟨45,by kernel_rfl⟩
def w138:Walk Tryz.prog 293 [(.struct [(.int .i64),(.slice (.int .u8))]),(.int .i64),(.int .i64)] [(.int .u64),(.int .i64)] Y138:=⟨fun ((bN,bB),at1,width)=>t138 std bN bB at1 width,s138 std⟩
theorem w138_ok:w138.Ok:=
 walk_ok (E:=E138 std) ⟨tys_fit,fns_cons Tryz.func293 (by kernel_rfl) (fns_nil),sps_cons so99 (sps_cons so166 (sps_nil)),by kernel_rfl⟩ rfl rfl rfl (by kernel_rfl) w138 cfg138 65 (fun ((bN,bB),at1,width)=>t138_ok std bN bB at1 width) (s138_ok std)
theorem fld_succ {l:List Bool} {a k:Nat} (h:a + k < l.length):fld l a (k + 1)=2 * fld l a k + (l.getD (a + k) false).toNat:=by
 rw [fld,fld,take_snoc (by rw [List.length_drop]; omega),natOf_snoc,getD_drop]
theorem pow64 {k:Nat} (h:k≤64):2 ^ k≤18446744073709551616:=Nat.le_trans (Nat.pow_le_pow_right (by decide) h) (by decide)
theorem dbl_prog {x:Nat} (h:2 * x < 18446744073709551616):std.bin .shl .u64 (x:Int) 1=((2 * x:Nat):Int):=by
 show IntKind.u64.wrap ((x:Int) * 2 ^ min (1:Int).toNat 64)=_
 rw [show (2:Int) ^ min (1:Int).toNat 64=2 from rfl,wu64 (by omega) (by omega)]; omega
theorem or_prog {x:Nat} (h:2 * x < 18446744073709551616):std.bin .or .u64 ((2 * x:Nat):Int) 1=((2 * x + 1:Nat):Int):=by
 show IntKind.u64.wrap ((BitVec.ofInt 64 ((2 * x:Nat):Int) ||| BitVec.ofInt 64 1).toNat:Int)=_
 rw [BitVec.ofInt_natCast,show BitVec.ofInt 64 1=BitVec.ofNat 64 1 from rfl,BitVec.toNat_or,BitVec.toNat_ofNat,BitVec.toNat_ofNat,show 1 % 2 ^ 64=1 from rfl,Nat.mod_eq_of_lt (by omega)]
 have:=Nat.shiftLeft_add_eq_or_of_lt (i:=1) (b:=1) (by decide) x
 rw [Nat.shiftLeft_eq,Nat.pow_one,Nat.mul_comm x 2] at this
 rw [←this,wu64 (by omega) (by omega)]
theorem dbl_doc {x:Nat} (h:2 * x < 18446744073709551616):std.bin .mul .u64 (x:Int) 2=((2 * x:Nat):Int):=by
 rw [std_mul,wu64 (by omega) (by omega)]; omega
theorem one_doc {x:Nat} (h:2 * x < 18446744073709551615):std.bin .add .u64 ((2 * x:Nat):Int) 1=((2 * x + 1:Nat):Int):=by
 rw [std_add,wu64 (by omega) (by omega)]; omega
theorem has_get {n a w:Int} {b:List Int} (h:Ty.hass [(.struct [(.int .i64),(.slice (.int .u8))]),(.int .i64),(.int .i64)] ((n,b),a,w)):Ty.has (.struct [(.int .i64),(.slice (.int .u8))]) (n,b)∧(-9223372036854775808≤a∧a≤9223372036854775807)∧(-9223372036854775808≤w∧w≤9223372036854775807):=h
theorem get_p {n a w:Nat} {b:List Int} (hb:bytesOk b) (hl:b.length≤100000) (hn:n≤8 * b.length) (haw:a + w≤n) (hw:w≤64):∀(j k:Nat) (p:P138c0),p.a0=(a:Int)→p.a2=(w:Int)→p.a5=b→w - k=j→k≤w→Runs (s138 std) (.more (.c0 p ((fld (unpack n b) a k:Nat):Int) (k:Int))) (((fld (unpack n b) a w:Nat):Int),0):=by
 intro j
 induction j with
 | zero=>
  intro k p h1 h2 h3 hj hk
  have:k=w:=by omega
  subst this
  simp only [runs_more,s138]
  exact (runs_brF (by rw [h2,lss_nat]; simp)).2 (.ret _)
 | succ j ih=>
  intro k p h1 h2 h3 hj hk
  simp only [runs_more,s138]
  have hat:std.bin .add .i64 p.a0 (k:Int)=((a + k:Nat):Int):=by rw [h1,add_nat (by omega)]
  have hf:=fld_lt (unpack n b) a k
  have hp:=pow64 (k:=k + 1) (by omega)
  rw [Nat.pow_succ] at hp
  have hs:=fld_succ (l:=unpack n b) (a:=a) (k:=k) (by rw [unpack_length]; omega)
  rw [unpack_getD,show decide (a + k < n)=true from by simp; omega,Bool.true_and] at hs
  refine (runs_brT (by rw [h2,lss_nat]; simp; omega)).2 (runs_need.2 ⟨by rw [hat,h3,std_call]; simp [pre166]; omega,?_⟩)
  have hc:std.call fn166 ((p.a4,p.a5),std.bin .add .i64 p.a0 (k:Int))=bitB b (a + k):=by
   rw [hat,h3,std_call,fn166_eq hb (by omega) (by omega) (by omega),Int.toNat_natCast]
  have hm:=ih (k + 1) p h1 h2 h3 (by omega) (by omega)
  cases hx:bitB b (a + k)
  ·rw [hx] at hs
   refine (runs_brF (hc.trans hx)).2 ?_
   rw [hs,show 2 * fld (unpack n b) a k + false.toNat=2 * fld (unpack n b) a k from rfl,←dbl_prog (by omega),←inc1 (by omega)] at hm
   exact hm
  ·rw [hx] at hs
   refine (runs_brT (hc.trans hx)).2 ?_
   rw [hs,show 2 * fld (unpack n b) a k + true.toNat=2 * fld (unpack n b) a k + 1 from rfl,←or_prog (by omega),←dbl_prog (by omega),←inc1 (by omega)] at hm
   exact hm
theorem get2 {n a w:Int} {b:List Int} (h:Ty.hass [(.struct [(.int .i64),(.slice (.int .u8))]),(.int .i64),(.int .i64)] ((n,b),a,w)):Runs (s138 std) (t138 std n b a w) (getS ((n,b),a,w)):=by
 obtain ⟨h1,ha,hw⟩:=has_get h
 have hb:=(has_bits h1).2.2
 have hl:=has_len h1
 unfold t138
 rw [getS]
 refine runs_need.2 ⟨rfl,?_⟩
 have hc:std.cmp .neq (std.call fn99 (n,b)) 0=!bsOk (n,b):=by
  rw [std_call,fn99_eq hb hl]; cases bsOk (n,b) <;> rfl
 rw [hc]
 cases hok:bsOk (n,b)
 ·exact (runs_brT rfl).2 (.ret _)
 ·refine (runs_brF rfl).2 ?_
  obtain ⟨h2,h3,h4⟩:=(bsOk_iff hb).1 hok
  have h5:=h4.1
  rw [Bool.not_true,cond_false]
  by_cases h6:w < 0
  ·refine (runs_brT (by rw [std_cmp_lss]; simpa using h6)).2 ?_
   rw [show decide (w < 0)=true from by simpa using h6]
   exact .ret _
  refine (runs_brF (by rw [std_cmp_lss]; simpa using h6)).2 ?_
  by_cases h7:64 < w
  ·refine (runs_brT (by rw [std_cmp_gtr]; simpa using h7)).2 ?_
   rw [show decide (64 < w)=true from by simpa using h7]
   simp only [Bool.or_true,Bool.true_or]
   exact .ret _
  refine (runs_brF (by rw [std_cmp_gtr]; simpa using h7)).2 ?_
  by_cases h8:a < 0
  ·refine (runs_brT (by rw [std_cmp_lss]; simpa using h8)).2 ?_
   rw [show decide (a < 0)=true from by simpa using h8]
   simp only [Bool.or_true,Bool.true_or]
   exact .ret _
  refine (runs_brF (by rw [std_cmp_lss]; simpa using h8)).2 ?_
  rw [show decide (w < 0)=false from by simpa using h6,show decide (64 < w)=false from by simpa using h7,show decide (a < 0)=false from by simpa using h8]
  by_cases h9:n < a
  ·refine (runs_brT (by rw [std_cmp_gtr]; simpa using h9)).2 ?_
   rw [show decide (n < a + w)=true from by simp; omega]
   exact .ret _
  refine (runs_brF (by rw [std_cmp_gtr]; simpa using h9)).2 ?_
  rw [std_sub,w64 (by omega) (by omega)]
  by_cases h10:n < a + w
  ·refine (runs_brT (by rw [std_cmp_gtr]; simp; omega)).2 ?_
   rw [show decide (n < a + w)=true from by simpa using h10]
   exact .ret _
  refine (runs_brF (by rw [std_cmp_gtr]; simp; omega)).2 ?_
  rw [show decide (n < a + w)=false from by simpa using h10]
  obtain ⟨k,rfl⟩:=Int.eq_ofNat_of_zero_le (show 0≤w by omega)
  obtain ⟨i,rfl⟩:=Int.eq_ofNat_of_zero_le (show 0≤a by omega)
  exact get_p (n:=n.toNat) hb (by omega) (by omega) (by omega) (by omega) k 0 _ rfl rfl rfl (by omega) (by omega)
def fn138:((Int×List Int)×Int×Int)→(Int×Int):=getS
def sp138:FSpec:=⟨[(.struct [(.int .i64),(.slice (.int .u8))]),(.int .i64),(.int .i64)], [(.int .u64),(.int .i64)],(@tt ((Int×List Int)×Int×Int)),fn138⟩
theorem run138 {bN:Int} {bB:List Int} {at1:Int} {width:Int} (h:Ty.hass [(.struct [(.int .i64),(.slice (.int .u8))]),(.int .i64),(.int .i64)] ((bN,bB),at1,width)):Runs (s138 std) (t138 std bN bB at1 width) (fn138 ((bN,bB),at1,width)):=by
 exact get2 h
theorem so138:FSpec.Sound Tryz.prog 293 sp138:=
 w138_ok.sound _ _ fun ((bN,bB),at1,width) _ h=>run138 h
structure P141c0 where
 (a0 a1 a4:Int) (a5:List Int)
inductive Y141 where
 | c0 (p:P141c0) (a2:Int) (a3:Int)
noncomputable def cfg141:Y141→Cfg
 | .c0 p a2 a3=>{frames:=[{fn:=285,n:=54,env:=(Env.put (Env.put (Env.put (Env.put (Env.put .leaf 1 (.int .i64 false p.a0)) 2 (.int .i64 false p.a1)) 3 (.ptr 0 0)) 8 (.int .u64 false a2)) 9 (.int .i64 false a3)),todo:=[.inLoop (Code.way (bodyOf Tryz.f285) [1,1,1,1,0,1,0,0]),.inBlock 0,.code (Code.way (bodyOf Tryz.f285) [1,1,1,1,1])],marks:=[],rnd:=none}],mem:=[.flat false [.int .i64 false p.a4,.sl (.int .u8) p.a5],.dead]}
def t141 (A:Alg) (bN:Int) (bB:List Int) (at1:Int) (width:Int):LT (Int×Int) Y141:=
 .need (A.call (@tt ((Int×List Int))) (bN,bB)) (
 .br (A.cmp .neq (A.call fn97 (bN,bB)) 0)
 (.ret (0,10))
 (.br (A.cmp .lss width 0)
  (.ret (0,2))
  (.br (A.cmp .gtr width 64)
  (.ret (0,2))
  (.br (A.cmp .lss at1 0)
   (.ret (0,2))
   (.br (A.cmp .gtr at1 bN)
   (.ret (0,2))
   (.br (A.cmp .gtr width (A.bin .sub .i64 bN at1))
    (.ret (0,2))
    (.more (.c0 ⟨at1,width,bN,bB⟩ 0 at1))))))))
def s141 (A:Alg):Y141→LT (Int×Int) Y141
 | .c0 p a2 a3=>
  .br (A.cmp .lss a3 (A.bin .add .i64 p.a0 p.a1))
  (.need (A.call pre136 (p.a5,a3)) (
   .br (A.call fn136 (p.a5,a3))
   (.more (.c0 p (A.bin .add .u64 (A.bin .mul .u64 a2 2) 1) (A.bin .add .i64 a3 1)))
   (.more (.c0 p (A.bin .mul .u64 a2 2) (A.bin .add .i64 a3 1)))))
  (.ret (a2,0))
noncomputable def E141 (A:Alg):Info (Ty.Ts [(.int .u64),(.int .i64)]):={ti:=tys,fns:=[(285,Tryz.f285)],sps:=[(85,sp97),(185,sp136)],stops:=[⟨285,7, [[1,2,3,8,9]]⟩],cuts:=[],consts:=[],fin:=finD A [(.int .u64),(.int .i64)]}
theorem t141_ok (A:Alg) (bN:Int) (bB:List Int) (at1:Int) (width:Int):run A (E141 A) 63 (startC 285 Tryz.f285 (dvals A [(.struct [(.int .i64),(.slice (.int .u8))]),(.int .i64),(.int .i64)] ((bN,bB),at1,width)))=(t141 A bN bB at1 width).tr cfg141:=by kernel_rfl
theorem s141_ok (A:Alg):∀y,∃n,run A (E141 A) n (advance (E141 A).sps (cfg141 y))=(s141 A y).tr cfg141
 | .c0 p a2 a3=>⟨44,by kernel_rfl⟩
def w141:Walk Tryz.prog 285 [(.struct [(.int .i64),(.slice (.int .u8))]),(.int .i64),(.int .i64)] [(.int .u64),(.int .i64)] Y141:=⟨fun ((bN,bB),at1,width)=>t141 std bN bB at1 width,s141 std⟩
theorem w141_ok:w141.Ok:=
 walk_ok (E:=E141 std) ⟨tys_fit,fns_cons Tryz.func285 (by kernel_rfl) (fns_nil),sps_cons so97 (sps_cons so136 (sps_nil)),by kernel_rfl⟩ rfl rfl rfl (by kernel_rfl) w141 cfg141 63 (fun ((bN,bB),at1,width)=>t141_ok std bN bB at1 width) (s141_ok std)
theorem get_d {n a w:Nat} {b:List Int} (hb:bytesOk b) (hl:b.length≤100000) (hn:n≤8 * b.length) (haw:a + w≤n) (hw:w≤64):∀(j k:Nat) (p:P141c0),p.a0=(a:Int)→p.a1=(w:Int)→p.a5=b→w - k=j→k≤w→Runs (s141 std) (.more (.c0 p ((fld (unpack n b) a k:Nat):Int) ((a + k:Nat):Int))) (((fld (unpack n b) a w:Nat):Int),0):=by
 intro j
 induction j with
 | zero=>
  intro k p h1 h2 h3 hj hk
  have:k=w:=by omega
  subst this
  simp only [runs_more,s141]
  exact (runs_brF (by rw [h1,h2,add_nat (by omega),lss_nat]; simp)).2 (.ret _)
 | succ j ih=>
  intro k p h1 h2 h3 hj hk
  simp only [runs_more,s141]
  have hf:=fld_lt (unpack n b) a k
  have hp:=pow64 (k:=k + 1) (by omega)
  rw [Nat.pow_succ] at hp
  have hs:=fld_succ (l:=unpack n b) (a:=a) (k:=k) (by rw [unpack_length]; omega)
  rw [unpack_getD,show decide (a + k < n)=true from by simp; omega,Bool.true_and] at hs
  refine (runs_brT (by rw [h1,h2,add_nat (by omega),lss_nat]; simp; omega)).2 (runs_need.2 ⟨by rw [h3,std_call]; simp [pre136]; omega,?_⟩)
  have hc:std.call fn136 (p.a5,((a + k:Nat):Int))=bitB b (a + k):=by
   rw [h3,std_call,fn136_eq hb (by omega) (by omega),Int.toNat_natCast]
  have hm:=ih (k + 1) p h1 h2 h3 (by omega) (by omega)
  rw [←Nat.add_assoc] at hm
  cases hx:bitB b (a + k)
  ·rw [hx] at hs
   refine (runs_brF (hc.trans hx)).2 ?_
   rw [hs,show 2 * fld (unpack n b) a k + false.toNat=2 * fld (unpack n b) a k from rfl,←dbl_doc (by omega),←inc1 (by omega)] at hm
   exact hm
  ·rw [hx] at hs
   refine (runs_brT (hc.trans hx)).2 ?_
   rw [hs,show 2 * fld (unpack n b) a k + true.toNat=2 * fld (unpack n b) a k + 1 from rfl,←one_doc (by omega),←dbl_doc (by omega),←inc1 (by omega)] at hm
   exact hm
theorem get1 {n a w:Int} {b:List Int} (h:Ty.hass [(.struct [(.int .i64),(.slice (.int .u8))]),(.int .i64),(.int .i64)] ((n,b),a,w)):Runs (s141 std) (t141 std n b a w) (getS ((n,b),a,w)):=by
 obtain ⟨h1,ha,hw⟩:=has_get h
 have hb:=(has_bits h1).2.2
 have hl:=has_len h1
 unfold t141
 rw [getS]
 refine runs_need.2 ⟨rfl,?_⟩
 cases hok:bsOk (n,b)
 ·refine (runs_brT (show (fn97 (n,b) != 0)=true by rw [fn97,hok]; rfl)).2 ?_
  exact .ret _
 ·refine (runs_brF (show (fn97 (n,b) != 0)=false by rw [fn97,hok]; rfl)).2 ?_
  obtain ⟨h2,h3,h4⟩:=(bsOk_iff hb).1 hok
  have h5:=h4.1
  rw [Bool.not_true,cond_false]
  by_cases h6:w < 0
  ·refine (runs_brT (by rw [std_cmp_lss]; simpa using h6)).2 ?_
   rw [show decide (w < 0)=true from by simpa using h6]
   exact .ret _
  refine (runs_brF (by rw [std_cmp_lss]; simpa using h6)).2 ?_
  by_cases h7:64 < w
  ·refine (runs_brT (by rw [std_cmp_gtr]; simpa using h7)).2 ?_
   rw [show decide (64 < w)=true from by simpa using h7]
   simp only [Bool.or_true,Bool.true_or]
   exact .ret _
  refine (runs_brF (by rw [std_cmp_gtr]; simpa using h7)).2 ?_
  by_cases h8:a < 0
  ·refine (runs_brT (by rw [std_cmp_lss]; simpa using h8)).2 ?_
   rw [show decide (a < 0)=true from by simpa using h8]
   simp only [Bool.or_true,Bool.true_or]
   exact .ret _
  refine (runs_brF (by rw [std_cmp_lss]; simpa using h8)).2 ?_
  rw [show decide (w < 0)=false from by simpa using h6,show decide (64 < w)=false from by simpa using h7,show decide (a < 0)=false from by simpa using h8]
  by_cases h9:n < a
  ·refine (runs_brT (by rw [std_cmp_gtr]; simpa using h9)).2 ?_
   rw [show decide (n < a + w)=true from by simp; omega]
   exact .ret _
  refine (runs_brF (by rw [std_cmp_gtr]; simpa using h9)).2 ?_
  rw [std_sub,w64 (by omega) (by omega)]
  by_cases h10:n < a + w
  ·refine (runs_brT (by rw [std_cmp_gtr]; simp; omega)).2 ?_
   rw [show decide (n < a + w)=true from by simpa using h10]
   exact .ret _
  refine (runs_brF (by rw [std_cmp_gtr]; simp; omega)).2 ?_
  rw [show decide (n < a + w)=false from by simpa using h10]
  obtain ⟨k,rfl⟩:=Int.eq_ofNat_of_zero_le (show 0≤w by omega)
  obtain ⟨i,rfl⟩:=Int.eq_ofNat_of_zero_le (show 0≤a by omega)
  exact get_d (n:=n.toNat) hb (by omega) (by omega) (by omega) (by omega) k 0 _ rfl rfl rfl (by omega) (by omega)
def fn141:((Int×List Int)×Int×Int)→(Int×Int):=getS
def sp141:FSpec:=⟨[(.struct [(.int .i64),(.slice (.int .u8))]),(.int .i64),(.int .i64)], [(.int .u64),(.int .i64)],(@tt ((Int×List Int)×Int×Int)),fn141⟩
theorem run141 {bN:Int} {bB:List Int} {at1:Int} {width:Int} (h:Ty.hass [(.struct [(.int .i64),(.slice (.int .u8))]),(.int .i64),(.int .i64)] ((bN,bB),at1,width)):Runs (s141 std) (t141 std bN bB at1 width) (fn141 ((bN,bB),at1,width)):=by
 exact get1 h
theorem so141:FSpec.Sound Tryz.prog 285 sp141:=
 w141_ok.sound _ _ fun ((bN,bB),at1,width) _ h=>run141 h
open Go.Ev.Pl
structure P140c0 where
 (a0 a1 a2 a4 a5:Int) (a6:List Int) (a7 a8:Int)
inductive Y140 where
 | c0 (p:P140c0) (a3:Int) (a9:List Int)
noncomputable def cfg140:Y140→Cfg
 | .c0 p a3 a9=>{frames:=[{fn:=307,n:=52,env:=(Env.put (Env.put (Env.put (Env.put (Env.put (Env.put .leaf 1 (.int .i64 false p.a0)) 3 (.int .i64 false p.a1)) 4 (.int .i64 false p.a2)) 5 (.ptr 0 0)) 7 (.ptr 1 0)) 10 (.int .i64 false a3)),todo:=[.inLoop (Code.way (bodyOf Tryz.f307) [1,1,1,0,0]),.inBlock 0],marks:=[],rnd:=none},{fn:=297,n:=39,env:=(Env.put (Env.put .leaf 6 (.ptr 2 0)) 8 (.ptr 3 0)),todo:=[.ops (opsOf (Code.way (bodyOf Tryz.f297) [1,1,1,0])) ((opsOf (Code.way (bodyOf Tryz.f297) [1,1,1,0])).toList.drop 4),.code (Code.way (bodyOf Tryz.f297) [1,1,1,1])],marks:=[],rnd:=none}],mem:=[.flat false [.int .i64 false p.a4,.own 4],.flat false [.int .i64 false p.a5,.sl (.int .u8) p.a6],.flat false [.int .i64 false p.a7,.esl true],.flat false [.int .i64 false p.a8,.own 4],.arr false (.int .u8) a9,.dead]}
def t140 (A:Alg) (bN:Int) (bB:List Int) (from1:Int) (to:Int):LT ((Int×List Int)×Int) Y140:=
 .need (A.call (@tt ((Int×List Int))) (bN,bB)) (
 .br (A.cmp .neq (A.call fn99 (bN,bB)) 0)
 (.ret ((0,([]:List Int)),10))
 (.br (A.cmp .lss from1 0)
  (.ret ((0,([]:List Int)),2))
  (.br (A.cmp .lss to from1)
  (.ret ((0,([]:List Int)),2))
  (.br (A.cmp .gtr to bN)
   (.ret ((0,([]:List Int)),2))
   (.need (A.call (@tt Int) (A.bin .sub .i64 to from1)) (
   .need (A.and (A.cmp .eql (A.call fn137 (A.bin .sub .i64 to from1)) (A.call fn137 (A.bin .sub .i64 to from1))) (A.and (A.cmp .leq 0 (A.call fn137 (A.bin .sub .i64 to from1))) (A.cmp .leq (A.call fn137 (A.bin .sub .i64 to from1)) 70368744177664))) (
    .br (A.cmp .eql (A.bin .rem .i64 from1 8) 0)
    (.br (A.cmp .eql to bN)
     (.need (A.and (A.cmp .leq 0 0) (A.and (A.cmp .leq 0 (A.len (A.rep (A.call fn137 (A.bin .sub .i64 to from1)) (0:Int)))) (A.cmp .leq (A.len (A.rep (A.call fn137 (A.bin .sub .i64 to from1)) (0:Int))) (A.len (A.rep (A.call fn137 (A.bin .sub .i64 to from1)) (0:Int)))))) (
     .need (A.and (A.cmp .leq 0 (A.bin .quo .i64 from1 8)) (A.and (A.cmp .leq (A.bin .quo .i64 from1 8) (A.len bB)) (A.cmp .leq (A.len bB) (A.len bB)))) (
      .ret (((A.bin .sub .i64 to from1),(A.spl (A.rep (A.call fn137 (A.bin .sub .i64 to from1)) (0:Int)) 0 (A.sub (A.sub bB (A.bin .quo .i64 from1 8) (A.len bB)) 0 (A.mn (A.len (A.sub bB (A.bin .quo .i64 from1 8) (A.len bB))) (A.bin .sub .i64 (A.len (A.rep (A.call fn137 (A.bin .sub .i64 to from1)) (0:Int))) 0))))),0))))
     (.more (.c0 ⟨0,from1,to,(A.bin .sub .i64 to from1),bN,bB,0,(A.bin .sub .i64 to from1)⟩ from1 (A.rep (A.call fn137 (A.bin .sub .i64 to from1)) (0:Int)))))
    (.more (.c0 ⟨0,from1,to,(A.bin .sub .i64 to from1),bN,bB,0,(A.bin .sub .i64 to from1)⟩ from1 (A.rep (A.call fn137 (A.bin .sub .i64 to from1)) (0:Int)))))))))))
def s140 (A:Alg):Y140→LT ((Int×List Int)×Int) Y140
 | .c0 p a3 a9=>
  .br (A.cmp .lss a3 p.a2)
  (.need (A.call pre166 ((p.a5,p.a6),a3)) (
   .br (A.call fn166 ((p.a5,p.a6),a3))
   (.need (A.and (A.cmp .leq 0 (A.bin .quo .i64 (A.bin .sub .i64 (A.bin .add .i64 p.a0 a3) p.a1) 8)) (A.cmp .lss (A.bin .quo .i64 (A.bin .sub .i64 (A.bin .add .i64 p.a0 a3) p.a1) 8) (A.len a9))) (
    .need (A.call pre177 (A.bin .sub .i64 (A.bin .add .i64 p.a0 a3) p.a1)) (
    .need (A.and (A.cmp .leq 0 (A.bin .quo .i64 (A.bin .sub .i64 (A.bin .add .i64 p.a0 a3) p.a1) 8)) (A.cmp .lss (A.bin .quo .i64 (A.bin .sub .i64 (A.bin .add .i64 p.a0 a3) p.a1) 8) (A.len a9))) (
     .more (.c0 p (A.bin .add .i64 a3 1) (A.set a9 (A.bin .quo .i64 (A.bin .sub .i64 (A.bin .add .i64 p.a0 a3) p.a1) 8) (A.bin .or .u8 (A.nth (.int .u8) a9 (A.bin .quo .i64 (A.bin .sub .i64 (A.bin .add .i64 p.a0 a3) p.a1) 8):Int) (A.call fn177 (A.bin .sub .i64 (A.bin .add .i64 p.a0 a3) p.a1)))))))))
   (.more (.c0 p (A.bin .add .i64 a3 1) a9))))
  (.ret ((p.a8,a9),0))
noncomputable def E140 (A:Alg):Info (Ty.Ts [(.struct [(.int .i64),(.slice (.int .u8))]),(.int .i64)]):={ti:=tys,fns:=[(297,Tryz.f297),(304,Tryz.f304),(306,Tryz.f306),(307,Tryz.f307)],sps:=[(83,sp99),(183,sp137),(302,sp166),(308,sp177)],stops:=[⟨307,4, [[1,3,4,5,7,10], [6,8]]⟩],cuts:=[],consts:=[],fin:=finD A [(.struct [(.int .i64),(.slice (.int .u8))]),(.int .i64)]}
theorem t140_ok (A:Alg) (bN:Int) (bB:List Int) (from1:Int) (to:Int):run A (E140 A) 118 (startC 297 Tryz.f297 (dvals A [(.struct [(.int .i64),(.slice (.int .u8))]),(.int .i64),(.int .i64)] ((bN,bB),from1,to)))=(t140 A bN bB from1 to).tr cfg140:=by kernel_rfl
theorem s140_ok (A:Alg):∀y,∃n,run A (E140 A) n (advance (E140 A).sps (cfg140 y))=(s140 A y).tr cfg140
 | .c0 p a3 a9=>⟨57,by kernel_rfl⟩
def w140:Walk Tryz.prog 297 [(.struct [(.int .i64),(.slice (.int .u8))]),(.int .i64),(.int .i64)] [(.struct [(.int .i64),(.slice (.int .u8))]),(.int .i64)] Y140:=⟨fun ((bN,bB),from1,to)=>t140 std bN bB from1 to,s140 std⟩
theorem w140_ok:w140.Ok:=
 walk_ok (E:=E140 std) ⟨tys_fit,fns_cons Tryz.func297 (by kernel_rfl) (fns_cons Tryz.func304 (by kernel_rfl) (fns_cons Tryz.func306 (by kernel_rfl) (fns_cons Tryz.func307 (by kernel_rfl) (fns_nil)))),sps_cons so99 (sps_cons so137 (sps_cons so166 (sps_cons so177 (sps_nil)))),by kernel_rfl⟩ rfl rfl rfl (by kernel_rfl) w140 cfg140 118 (fun ((bN,bB),from1,to)=>t140_ok std bN bB from1 to) (s140_ok std)
theorem slice_p {n a c:Nat} {b:List Int} (hb:bytesOk b) (hl:b.length≤100000) (hn:n≤8 * b.length) (hac:a≤c) (hc:c≤n):∀(j i:Nat) (p:P140c0) (B:List Int),p.a0=0→p.a1=(a:Int)→p.a2=(c:Int)→p.a6=b→p.a8=((c - a:Nat):Int)→c - i=j→a≤i→i≤c→Holds B ((((unpack n b).take c).drop a).take (i - a)) ((c - a + 7) / 8)→Runs (s140 std) (.more (.c0 p (i:Int) B)) (bsP (((unpack n b).take c).drop a),0):=by
 have hL:(((unpack n b).take c).drop a).length=c - a:=by rw [List.length_drop,List.length_take,unpack_length]; omega
 intro j
 induction j with
 | zero=>
  intro i p B h0 h1 h2 h3 h4 hj hi hi2 hB
  have:i=c:=by omega
  subst this
  simp only [runs_more,s140]
  refine (runs_brF (by rw [h2,lss_nat]; simp)).2 ?_
  rw [List.take_of_length_le (by rw [hL]; exact Nat.le_refl _)] at hB
  rw [h4,hB.done (by rw [hL]),show bsP (((unpack n b).take i).drop a)=(((i - a:Nat):Int),pack (((unpack n b).take i).drop a)) from by rw [bsP,hL]]
  exact .ret _
 | succ j ih=>
  intro i p B h0 h1 h2 h3 h4 hj hi hi2 hB
  simp only [runs_more,s140]
  have hat:std.bin .sub .i64 (std.bin .add .i64 p.a0 (i:Int)) p.a1=((i - a:Nat):Int):=by
   rw [h0,h1,show std.bin .add .i64 (0:Int) (i:Int)=((0 + i:Nat):Int) from add_nat (i:=0) (by omega),sub_nat (by omega) (by omega),Nat.zero_add]
  have hts:=take_snoc (l:=((unpack n b).take c).drop a) (i:=i - a) (by rw [hL]; omega)
  rw [getD_drop,getD_take,unpack_getD,show a + (i - a)=i from by omega,show decide (i < c)=true from by simp; omega,show decide (i < n)=true from by simp; omega,Bool.true_and,Bool.true_and] at hts
  have hlen:((((unpack n b).take c).drop a).take (i - a)).length=i - a:=by rw [List.length_take,hL]; omega
  refine (runs_brT (by rw [h2,lss_nat]; simp; omega)).2 (runs_need.2 ⟨by rw [h3,std_call]; simp [pre166]; omega,?_⟩)
  have hc:std.call fn166 ((p.a5,p.a6),(i:Int))=bitB b i:=by
   rw [h3,std_call,fn166_eq hb (by omega) (by omega) (by omega),Int.toNat_natCast]
  rw [hat]
  cases hx:bitB b i
  ·rw [hx] at hts
   refine (runs_brF (hc.trans hx)).2 ?_
   refine runs_c (congrArg LT.more (congr (congrArg (Y140.c0 p) (inc1 (by omega))) rfl)) (ih (i + 1) p B h0 h1 h2 h3 h4 (by omega) (by omega) (by omega) ?_)
   rw [show i + 1 - a=i - a + 1 from by omega,hts]
   exact hB.skip
  ·rw [hx] at hts
   refine (runs_brT (hc.trans hx)).2 (runs_need.2 ⟨need_set hB.1 (by omega) (by omega),runs_need.2 ⟨need_mask,runs_need.2 ⟨need_set hB.1 (by omega) (by omega),?_⟩⟩⟩)
   refine runs_c (congrArg LT.more (congr (congrArg (Y140.c0 p) (inc1 (by omega))) rfl)) (ih (i + 1) p _ h0 h1 h2 h3 h4 (by omega) (by omega) (by omega) ?_)
   rw [show i + 1 - a=i - a + 1 from by omega,hts]
   exact set_prog hB hlen (by omega) (by omega)
theorem bitB_drop (b:List Int) (i j:Nat):bitB (b.drop i) j=bitB b (8 * i + j):=by
 rw [bitB,bitB,List.getD_eq_getElem?_getD,List.getD_eq_getElem?_getD,List.getElem?_drop,show (8 * i + j) / 8=i + j / 8 from by omega,show (8 * i + j) % 8=j % 8 from by omega]
theorem pack_drop {n i:Nat} {b:List Int} (h:okB n b) (hi:8 * i≤n):b.drop i=pack ((unpack n b).drop (8 * i)):=by
 have h1:=h.1
 apply pack_of
 ·rw [List.length_drop,List.length_drop,unpack_length]; omega
 ·exact fun x hx=>h.2.1 x (List.mem_of_mem_drop hx)
 ·intro j hj
  rw [List.length_drop] at hj
  rw [bitB_drop,getD_drop,unpack_getD]
  by_cases h2:8 * i + j < n
  ·rw [show decide (8 * i + j < n)=true from by simpa using h2,Bool.true_and]
  ·rw [show decide (8 * i + j < n)=false from by simpa using h2,Bool.false_and]
   exact h.2.2 _ (by omega) (by omega)
theorem sub_all {b:List Int} {i:Nat}:std.sub b (i:Int) (std.len b)=b.drop i:=by
 show (b.take (b.length:Int).toNat).drop (i:Int).toNat=_
 rw [Int.toNat_natCast,Int.toNat_natCast,List.take_length]
theorem slice2 {n a c:Int} {b:List Int} (h:Ty.hass [(.struct [(.int .i64),(.slice (.int .u8))]),(.int .i64),(.int .i64)] ((n,b),a,c)):Runs (s140 std) (t140 std n b a c) (sliceS ((n,b),a,c)):=by
 obtain ⟨h1,ha,hw⟩:=has_get h
 have hb:=(has_bits h1).2.2
 have hl:=has_len h1
 unfold t140
 rw [sliceS]
 refine runs_need.2 ⟨rfl,?_⟩
 have hc:std.cmp .neq (std.call fn99 (n,b)) 0=!bsOk (n,b):=by
  rw [std_call,fn99_eq hb hl]; cases bsOk (n,b) <;> rfl
 rw [hc]
 cases hok:bsOk (n,b)
 ·exact (runs_brT rfl).2 (.ret _)
 ·refine (runs_brF rfl).2 ?_
  obtain ⟨h2,h3,h4⟩:=(bsOk_iff hb).1 hok
  have h5:=h4.1
  rw [Bool.not_true,cond_false]
  by_cases h6:a < 0
  ·refine (runs_brT (by rw [std_cmp_lss]; simpa using h6)).2 ?_
   rw [show decide (a < 0)=true from by simpa using h6]
   exact .ret _
  refine (runs_brF (by rw [std_cmp_lss]; simpa using h6)).2 ?_
  by_cases h7:c < a
  ·refine (runs_brT (by rw [std_cmp_lss]; simpa using h7)).2 ?_
   rw [show decide (c < a)=true from by simpa using h7]
   simp only [Bool.or_true,Bool.true_or]
   exact .ret _
  refine (runs_brF (by rw [std_cmp_lss]; simpa using h7)).2 ?_
  by_cases h8:n < c
  ·refine (runs_brT (by rw [std_cmp_gtr]; simpa using h8)).2 ?_
   rw [show decide (n < c)=true from by simpa using h8]
   simp only [Bool.or_true,Bool.true_or]
   exact .ret _
  refine (runs_brF (by rw [std_cmp_gtr]; simpa using h8)).2 ?_
  rw [show decide (a < 0)=false from by simpa using h6,show decide (c < a)=false from by simpa using h7,show decide (n < c)=false from by simpa using h8]
  obtain ⟨k,rfl⟩:=Int.eq_ofNat_of_zero_le (show 0≤c by omega)
  obtain ⟨i,rfl⟩:=Int.eq_ofNat_of_zero_le (show 0≤a by omega)
  obtain ⟨m,rfl⟩:=Int.eq_ofNat_of_zero_le h2
  rw [Int.toNat_natCast] at h4 h5
  have hsub:std.bin .sub .i64 (k:Int) (i:Int)=((k - i:Nat):Int):=sub_nat (by omega) (by omega)
  have hneed:std.call fn137 ((k - i:Nat):Int)=(((k - i + 7) / 8:Nat):Int):=by rw [std_call,fn137_eq (by omega) (by omega),Int.toNat_natCast]
  show Runs (s140 std) _ (bsP (((unpack m b).take k).drop i),0)
  rw [hsub]
  have hrep:std.rep (std.call fn137 ((k - i:Nat):Int)) (0:Int)=List.replicate ((k - i + 7) / 8) 0:=by rw [hneed,std_rep,Int.toNat_natCast]
  have hmore:Runs (s140 std) (.more (.c0 ⟨0,(i:Int),(k:Int),((k - i:Nat):Int),(m:Int),b,0,((k - i:Nat):Int)⟩ (i:Int) (std.rep (std.call fn137 ((k - i:Nat):Int)) (0:Int)))) (bsP (((unpack m b).take k).drop i),0):=by
   refine slice_p hb (by omega) (by omega) (by omega) (by omega) (k - i) i _ _ rfl rfl rfl rfl rfl (by omega) (by omega) (by omega) ?_
   rw [Nat.sub_self,List.take_zero,hrep]
   exact Holds.blank _
  refine runs_need.2 ⟨rfl,runs_need.2 ⟨by rw [hneed,leq_0,ceq_t rfl,std_cmp_leq,std_and,std_and]; simp; omega,?_⟩⟩
  by_cases h9:i % 8=0
  ·refine (runs_brT (ceq_t (by rw [rem_nat,h9]; rfl))).2 ?_
   by_cases h10:k=m
   ·subst h10
    refine (runs_brT (ceq_t rfl)).2 (runs_need.2 ⟨?_,runs_need.2 ⟨?_,?_⟩⟩)
    ·rw [hrep]
     have:std.len (List.replicate ((k - i + 7) / 8) (0:Int))=(((k - i + 7) / 8:Nat):Int):=by show ((List.replicate ((k - i + 7) / 8) (0:Int)).length:Int)=_; rw [List.length_replicate]
     rw [this,leq_0,leq_nat,std_and,std_and]; simp [std_cmp_leq]
    ·have:std.len b=((b.length:Nat):Int):=rfl
     rw [quo_nat (by omega),this,leq_0,leq_nat,leq_nat,std_and,std_and]; simp; omega
    ·have hd:=pack_drop h4 (i:=i / 8) (by omega)
     rw [show 8 * (i / 8)=i from by omega] at hd
     have hL:((unpack k b).drop i).length=k - i:=by rw [List.length_drop,unpack_length]
     rw [hrep,quo_nat (by omega),sub_all]
     have e1:std.mn (std.len (b.drop (i / 8))) (std.bin .sub .i64 (std.len (List.replicate ((k - i + 7) / 8) (0:Int))) 0)=((b.drop (i / 8)).length:Int):=by
      show std.mn ((b.drop (i / 8)).length:Int) (std.bin .sub .i64 ((List.replicate ((k - i + 7) / 8) (0:Int)).length:Int) 0)=_
      rw [List.length_replicate,std_sub,w64 (by omega) (by omega),std_mn,if_neg (by rw [List.length_drop]; omega)]
     rw [e1,std_sub',std_spl,Int.toNat_natCast,List.take_length]
     have e2:(List.replicate ((k - i + 7) / 8) (0:Int)).take (0:Int).toNat ++ (b.drop (i / 8)).drop (0:Int).toNat ++ (List.replicate ((k - i + 7) / 8) (0:Int)).drop ((0:Int).toNat + ((b.drop (i / 8)).drop (0:Int).toNat).length)=b.drop (i / 8):=by
      show [] ++ b.drop (i / 8) ++ (List.replicate ((k - i + 7) / 8) (0:Int)).drop (0 + (b.drop (i / 8)).length)=_
      rw [List.drop_replicate,List.length_drop,show (k - i + 7) / 8 - (0 + (b.length - i / 8))=0 from by omega,List.replicate_zero,List.append_nil,List.nil_append]
     rw [e2,hd,List.take_of_length_le (by rw [unpack_length]; exact Nat.le_refl _),show bsP ((unpack k b).drop i)=(((k - i:Nat):Int),pack ((unpack k b).drop i)) from by rw [bsP,hL]]
     exact .ret _
   ·exact (runs_brF (ceq_f (by omega))).2 hmore
  ·exact (runs_brF (ceq_f (by rw [rem_nat]; omega))).2 hmore
def fn140:((Int×List Int)×Int×Int)→((Int×List Int)×Int):=sliceS
def sp140:FSpec:=⟨[(.struct [(.int .i64),(.slice (.int .u8))]),(.int .i64),(.int .i64)], [(.struct [(.int .i64),(.slice (.int .u8))]),(.int .i64)],(@tt ((Int×List Int)×Int×Int)),fn140⟩
theorem run140 {bN:Int} {bB:List Int} {from1:Int} {to:Int} (h:Ty.hass [(.struct [(.int .i64),(.slice (.int .u8))]),(.int .i64),(.int .i64)] ((bN,bB),from1,to)):Runs (s140 std) (t140 std bN bB from1 to) (fn140 ((bN,bB),from1,to)):=by
 exact slice2 h
theorem so140:FSpec.Sound Tryz.prog 297 sp140:=
 w140_ok.sound _ _ fun ((bN,bB),from1,to) _ h=>run140 h
open Go.Ev.Pl
theorem has_list {l:List (Int×List Int)} (h:Ty.hass [(.slice (.struct [(.int .i64),(.slice (.int .u8))]))] l):l.length≤140737488355328∧∀x∈l,bytesOk x.2∧x.2.length≤140737488355328:=by
 have h1:l.length≤lenMax∧∀x∈l,Ty.has (.struct [(.int .i64),(.slice (.int .u8))]) x:=h
 exact ⟨h1.1,fun x hx=>⟨(has_bits (n:=x.1) (b:=x.2) (h1.2 x hx)).2.2,(has_bits (n:=x.1) (b:=x.2) (h1.2 x hx)).2.1⟩⟩
theorem getD_in {α:Type} {l:List α} {i:Nat} (h:i < l.length) (d:α):l.getD (i:Int).toNat d=l[i]:=by
 rw [Int.toNat_natCast,List.getD_eq_getElem?_getD,List.getElem?_eq_getElem h]; rfl
theorem nth_bits {l:List (Int×List Int)} {i:Nat} (h:i < l.length):(std.nth (.struct [(.int .i64),(.slice (.int .u8))]) l (i:Int):Int×List Int)=l[i]:=by
 exact getD_in h _
theorem need_ix {α:Type} {l:List α} {i:Nat} (h:i < l.length):std.and (std.cmp .leq 0 (i:Int)) (std.cmp .lss (i:Int) (std.len l))=true:=by
 have:std.len l=(l.length:Int):=rfl
 rw [this,leq_0,lss_nat,std_and]; simpa using h
theorem bsL_le {x:Int×List Int} (h:bsOk x=true):(bsL x).length≤4096:=by
 obtain ⟨n,b⟩:=x
 rw [bsL_length]
 simp only [bsOk,Bool.and_eq_true,decide_eq_true_eq] at h
 show n.toNat≤4096
 omega
theorem ofS_long {l:List Bool} (h:4096 < l.length):ofS l=(zB,3):=by
 rw [ofS,show decide (4096 < l.length)=true from by simpa using h]; rfl
theorem take_flat {l:List (Int×List Int)} {i:Nat} (h:i < l.length):(l.take (i + 1)).flatMap bsL=(l.take i).flatMap bsL ++ bsL l[i]:=by
 rw [List.take_succ_eq_append_getElem h,List.flatMap_append]
 simp
def t142 (A:Alg) (bN:Int) (bB:List Int) (from1:Int) (to:Int):LT ((Int×List Int)×Int) Empty:=
 .need (A.call (@tt ((Int×List Int))) (bN,bB)) (
 .br (A.cmp .neq (A.call fn97 (bN,bB)) 0)
 (.ret ((0,([]:List Int)),10))
 (.br (A.cmp .lss from1 0)
  (.ret ((0,([]:List Int)),2))
  (.br (A.cmp .lss to from1)
  (.ret ((0,([]:List Int)),2))
  (.br (A.cmp .gtr to bN)
   (.ret ((0,([]:List Int)),2))
   (.need (A.call (@tt ((Int×List Int))) (bN,bB)) (
   .need (A.and (A.cmp .leq 0 from1) (A.and (A.cmp .leq from1 to) (A.cmp .leq to (A.len (A.call fn127 (bN,bB)))))) (
    .need (A.call (@tt (List Bool)) (A.sub (A.call fn127 (bN,bB)) from1 to)) (
    .ret (A.call fn128 (A.sub (A.call fn127 (bN,bB)) from1 to))))))))))
noncomputable def E142 (A:Alg):Info (Ty.Ts [(.struct [(.int .i64),(.slice (.int .u8))]),(.int .i64)]):={ti:=tys,fns:=[(286,Tryz.f286)],sps:=[(85,sp97),(231,sp127),(232,sp128)],stops:=[],cuts:=[],consts:=[],fin:=finD A [(.struct [(.int .i64),(.slice (.int .u8))]),(.int .i64)]}
theorem t142_ok (A:Alg) (bN:Int) (bB:List Int) (from1:Int) (to:Int):run A (E142 A) 53 (startC 286 Tryz.f286 (dvals A [(.struct [(.int .i64),(.slice (.int .u8))]),(.int .i64),(.int .i64)] ((bN,bB),from1,to)))=(t142 A bN bB from1 to).tr Empty.elim:=by kernel_rfl
def w142:Walk Tryz.prog 286 [(.struct [(.int .i64),(.slice (.int .u8))]),(.int .i64),(.int .i64)] [(.struct [(.int .i64),(.slice (.int .u8))]),(.int .i64)] Empty:=⟨fun ((bN,bB),from1,to)=>t142 std bN bB from1 to,Empty.elim⟩
theorem w142_ok:w142.Ok:=
 walk_ok (E:=E142 std) ⟨tys_fit,fns_cons Tryz.func286 (by kernel_rfl) (fns_nil),sps_cons so97 (sps_cons so127 (sps_cons so128 (sps_nil))),by kernel_rfl⟩ rfl rfl rfl (by kernel_rfl) w142 Empty.elim 53 (fun ((bN,bB),from1,to)=>t142_ok std bN bB from1 to) (fun y=>y.elim)
theorem sub_drop {l:List Bool} {a c:Int}:std.sub l a c=(l.take c.toNat).drop a.toNat:=rfl
theorem ofS_short {l:List Bool} (h:l.length≤4096):ofS l=(bsP l,0):=by
 rw [ofS,show decide (4096 < l.length)=false from by simpa using h]; rfl
theorem slice1 {n a c:Int} {b:List Int} (h:Ty.hass [(.struct [(.int .i64),(.slice (.int .u8))]),(.int .i64),(.int .i64)] ((n,b),a,c)):Runs Empty.elim (t142 std n b a c) (sliceS ((n,b),a,c)):=by
 obtain ⟨h1,ha,hw⟩:=has_get h
 have hb:=(has_bits h1).2.2
 have hl:=has_len h1
 unfold t142
 rw [sliceS]
 refine runs_need.2 ⟨rfl,?_⟩
 cases hok:bsOk (n,b)
 ·refine (runs_brT (show (fn97 (n,b) != 0)=true by rw [fn97,hok]; rfl)).2 ?_
  exact .ret _
 ·refine (runs_brF (show (fn97 (n,b) != 0)=false by rw [fn97,hok]; rfl)).2 ?_
  obtain ⟨h2,h3,h4⟩:=(bsOk_iff hb).1 hok
  rw [Bool.not_true,cond_false]
  by_cases h6:a < 0
  ·refine (runs_brT (by rw [std_cmp_lss]; simpa using h6)).2 ?_
   rw [show decide (a < 0)=true from by simpa using h6]
   exact .ret _
  refine (runs_brF (by rw [std_cmp_lss]; simpa using h6)).2 ?_
  by_cases h7:c < a
  ·refine (runs_brT (by rw [std_cmp_lss]; simpa using h7)).2 ?_
   rw [show decide (c < a)=true from by simpa using h7]
   simp only [Bool.or_true,Bool.true_or]
   exact .ret _
  refine (runs_brF (by rw [std_cmp_lss]; simpa using h7)).2 ?_
  by_cases h8:n < c
  ·refine (runs_brT (by rw [std_cmp_gtr]; simpa using h8)).2 ?_
   rw [show decide (n < c)=true from by simpa using h8]
   simp only [Bool.or_true,Bool.true_or]
   exact .ret _
  refine (runs_brF (by rw [std_cmp_gtr]; simpa using h8)).2 ?_
  rw [show decide (a < 0)=false from by simpa using h6,show decide (c < a)=false from by simpa using h7,show decide (n < c)=false from by simpa using h8]
  have hL:std.call fn127 (n,b)=bsL (n,b):=by rw [std_call,fn127,hok]; rfl
  have hlen:std.len (bsL (n,b))=n:=by show ((bsL (n,b)).length:Int)=n; rw [bsL_length]; simp only []; omega
  rw [hL]
  refine runs_need.2 ⟨rfl,runs_need.2 ⟨by rw [hlen,std_and,std_and]; simp [std_cmp_leq]; omega,runs_need.2 ⟨rfl,?_⟩⟩⟩
  have e:std.call fn128 (std.sub (bsL (n,b)) a c)=(bsP (((bsL (n,b)).take c.toNat).drop a.toNat),0):=by
   rw [std_call,fn128,sub_drop,ofS_short]
   rw [List.length_drop,List.length_take,bsL_length]; simp only []; omega
  rw [e]
  exact .ret _
def fn142:((Int×List Int)×Int×Int)→((Int×List Int)×Int):=sliceS
def sp142:FSpec:=⟨[(.struct [(.int .i64),(.slice (.int .u8))]),(.int .i64),(.int .i64)], [(.struct [(.int .i64),(.slice (.int .u8))]),(.int .i64)],(@tt ((Int×List Int)×Int×Int)),fn142⟩
theorem run142 {bN:Int} {bB:List Int} {from1:Int} {to:Int} (h:Ty.hass [(.struct [(.int .i64),(.slice (.int .u8))]),(.int .i64),(.int .i64)] ((bN,bB),from1,to)):Runs Empty.elim (t142 std bN bB from1 to) (fn142 ((bN,bB),from1,to)):=by
 exact slice1 h
theorem so142:FSpec.Sound Tryz.prog 286 sp142:=
 w142_ok.sound _ _ fun ((bN,bB),from1,to) _ h=>run142 h
end Go.Ev.M
