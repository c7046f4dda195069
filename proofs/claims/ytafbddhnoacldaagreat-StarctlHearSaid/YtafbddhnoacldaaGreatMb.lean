/-
  PROVED: what functions of the packages member and metronomeref09 compute. Conditions: none.
-/
import Derived.Test.YtafbddhnoacldaaGreatTy
import Derived.Test.YtafbddhnoacldaaGreatEvC
import Derived.Test.YtafbddhnoacldaaGreatPl
namespace Go.Ev.M
open Go.Proofs
set_option maxRecDepth 100000
set_option linter.unusedVariables false
set_option linter.unusedSimpArgs false
theorem shl1 {n:Int} (h0:0≤n) (h1:n≤8):std.bin .shl .i64 1 n=((2 ^ n.toNat:Nat):Int):=by
 have:n=0∨n=1∨n=2∨n=3∨n=4∨n=5∨n=6∨n=7∨n=8:=by omega
 rcases this with rfl | rfl | rfl | rfl | rfl | rfl | rfl | rfl | rfl <;> decide
theorem pow_le {n:Nat} (h:n≤8):2 ^ n≤256:=Nat.pow_le_pow_right (by decide) h
def bitT (c a:Int):Bool:=c.toNat.testBit a.toNat
theorem bit_all1:∀c:Fin 256,∀a:Fin 8,(std.bin .and .i64 (std.bin .shr .i64 (c.val:Int) (a.val:Int)) 1 == 0)=!(c.val.testBit a.val):=by decide +kernel
theorem bit_all2:∀c:Fin 256,∀a:Fin 8,(std.bin .and .i64 (c.val:Int) (std.bin .shl .i64 1 (a.val:Int)) == 0)=!(c.val.testBit a.val):=by decide +kernel
theorem bit_p {c a:Int} (h0:0≤c) (h1:c < 256) (h2:0≤a) (h3:a < 8):std.bin .and .i64 (std.bin .shr .i64 c a) 1=0↔bitT c a=false:=by
 obtain ⟨c,rfl⟩:=Int.eq_ofNat_of_zero_le h0
 obtain ⟨a,rfl⟩:=Int.eq_ofNat_of_zero_le h2
 have:=bit_all1 ⟨c,by omega⟩ ⟨a,by omega⟩
 simp only at this
 rw [←beq_iff_eq,this]
 simp [bitT]
theorem bit_r {c a:Int} (h0:0≤c) (h1:c < 256) (h2:0≤a) (h3:a < 8):std.bin .and .i64 c (std.bin .shl .i64 1 a)=0↔bitT c a=false:=by
 obtain ⟨c,rfl⟩:=Int.eq_ofNat_of_zero_le h0
 obtain ⟨a,rfl⟩:=Int.eq_ofNat_of_zero_le h2
 have:=bit_all2 ⟨c,by omega⟩ ⟨a,by omega⟩
 simp only at this
 rw [←beq_iff_eq,this]
 simp [bitT]
def okM (a b c d e f g:Int):Prop:=4≤b∧b≤8∧0≤a∧a < b∧0≤g∧g < b∧0≤c∧c < ((2 ^ b.toNat:Nat):Int)∧0≤d∧d≤1048576∧0≤e∧e≤1048576∧0≤f∧f≤2∧(f≠0→bitT c a=true)∧(f=2→g≠a)
def t81 (A:Alg) (n:Int) (most:Int):LT Bool Empty:=
 .br (A.cmp .geq n 0)
 (.ret (A.cmp .leq n most))
 (.ret false)
noncomputable def E81 (A:Alg):Info (Ty.Ts [.bool]):={ti:=tys,fns:=[(200,Tryz.f200)],sps:=[],stops:=[],cuts:=[],consts:=[],fin:=finD A [.bool]}
theorem t81_ok (A:Alg) (n:Int) (most:Int):run A (E81 A) 21 (startC 200 Tryz.f200 (dvals A [(.int .i64),(.int .i64)] (n,most)))=(t81 A n most).tr Empty.elim:=by kernel_rfl
def w81:Walk Tryz.prog 200 [(.int .i64),(.int .i64)] [.bool] Empty:=⟨fun (n,most)=>t81 std n most,Empty.elim⟩
theorem w81_ok:w81.Ok:=
 walk_ok (E:=E81 std) ⟨tys_fit,fns_cons Tryz.func200 (by kernel_rfl) (fns_nil),sps_nil,by kernel_rfl⟩ rfl rfl rfl (by kernel_rfl) w81 Empty.elim 21 (fun (n,most)=>t81_ok std n most) (fun y=>y.elim)
def fn81:(Int×Int)→Bool:=fun (n,most)=>(t81 std n most).val (Ty.dflts [.bool])
def sp81:FSpec:=⟨[(.int .i64),(.int .i64)], [.bool],(@tt (Int×Int)),fn81⟩
theorem eqs81 (n:Int) (most:Int):(t81 std n most).Eqs:=by simp only [t81,LT.Eqs,and_self,true_and,and_true]
theorem pre81_ok {n:Int} {most:Int} (h:Ty.hass [(.int .i64),(.int .i64)] (n,most)):(t81 std n most).pre=true:=by
 simp only [t81,LT.pre,cond_iff,std_cmp_eql,std_cmp_neq,std_cmp_lss,std_cmp_leq,std_cmp_gtr,std_cmp_geq,std_and,std_not,std_beq,std_call,std_add,std_sub,std_conv,std_len,tt_eq,Bool.and_eq_true,Bool.or_eq_true,Bool.and_eq_false_iff,Bool.or_eq_false_iff,Bool.not_eq_true',Bool.not_eq_false',decide_eq_true_eq,decide_eq_false_iff_not,bne_iff_ne,beq_iff_eq,bne_eq_false_iff_eq,beq_eq_false_iff_ne]
 simp only [Ty.hass,Ty.has,has64,has8] at h
 (repeat' (first | intro _ | constructor)) <;> (try omega)
theorem so81:FSpec.Sound Tryz.prog 200 sp81:=
 w81_ok.sound _ _ fun (n,most) _ h=>LT.runs (d:=Ty.dflts [.bool]) (eqs81 n most) (pre81_ok h)
theorem fn81_eq {n m:Int}:fn81 (n,m)=(decide (0≤n) && decide (n≤m)):=by
 simp only [fn81,t81,LT.val,std_cmp_geq,std_cmp_leq]
 cases decide (0≤n) <;> rfl
def t34 (A:Alg) (mId:Int) (mN:Int) (mSet:Int) (mAcc:Int) (mFail:Int) (mStage:Int) (mFirst:Int):LT Int Empty:=
 .br (A.cmp .lss mN 4)
 (.ret 90)
 (.br (A.cmp .gtr mN 8)
 (.ret 90)
 (.need (A.call (@tt (Int×Int)) (mId,(A.bin .sub .i64 mN 1))) (
  .br (A.not (A.call fn81 (mId,(A.bin .sub .i64 mN 1))))
  (.ret 90)
  (.need (A.call (@tt (Int×Int)) (mFirst,(A.bin .sub .i64 mN 1))) (
   .br (A.not (A.call fn81 (mFirst,(A.bin .sub .i64 mN 1))))
   (.ret 90)
   (.need (A.call (@tt (Int×Int)) (mAcc,1048576)) (
    .br (A.not (A.call fn81 (mAcc,1048576)))
    (.ret 90)
    (.need (A.call (@tt (Int×Int)) (mFail,1048576)) (
     .br (A.not (A.call fn81 (mFail,1048576)))
     (.ret 90)
     (.need (A.call (@tt (Int×Int)) (mStage,2)) (
      .br (A.not (A.call fn81 (mStage,2)))
      (.ret 90)
      (.need (A.cmp .leq 0 mN) (
       .need (A.call (@tt (Int×Int)) (mSet,(A.bin .sub .i64 (A.bin .shl .i64 1 mN) 1))) (
       .br (A.not (A.call fn81 (mSet,(A.bin .sub .i64 (A.bin .shl .i64 1 mN) 1))))
        (.ret 90)
        (.br (A.cmp .neq mStage 0)
        (.need (A.cmp .leq 0 mId) (
         .br (A.cmp .eql (A.bin .and .i64 (A.bin .shr .i64 mSet mId) 1) 0)
         (.ret 90)
         (.br (A.cmp .eql mStage 2)
          (.br (A.cmp .eql mFirst mId)
          (.ret 90)
          (.ret 0))
          (.ret 0))))
        (.br (A.cmp .eql mStage 2)
         (.br (A.cmp .eql mFirst mId)
         (.ret 90)
         (.ret 0))
         (.ret 0)))))))))))))))))
noncomputable def E34 (A:Alg):Info (Ty.Ts [(.int .i64)]):={ti:=tys,fns:=[(111,Tryz.f111)],sps:=[(200,sp81)],stops:=[],cuts:=[],consts:=[],fin:=finD A [(.int .i64)]}
theorem t34_ok (A:Alg) (mId:Int) (mN:Int) (mSet:Int) (mAcc:Int) (mFail:Int) (mStage:Int) (mFirst:Int):run A (E34 A) 123 (startC 111 Tryz.f111 (dvals A [(.struct [(.int .i64),(.int .i64),(.int .i64),(.int .i64),(.int .i64),(.int .i64),(.int .i64)])] (mId,mN,mSet,mAcc,mFail,mStage,mFirst)))=(t34 A mId mN mSet mAcc mFail mStage mFirst).tr Empty.elim:=by kernel_rfl
def w34:Walk Tryz.prog 111 [(.struct [(.int .i64),(.int .i64),(.int .i64),(.int .i64),(.int .i64),(.int .i64),(.int .i64)])] [(.int .i64)] Empty:=⟨fun (mId,mN,mSet,mAcc,mFail,mStage,mFirst)=>t34 std mId mN mSet mAcc mFail mStage mFirst,Empty.elim⟩
theorem w34_ok:w34.Ok:=
 walk_ok (E:=E34 std) ⟨tys_fit,fns_cons Tryz.func111 (by kernel_rfl) (fns_nil),sps_cons so81 (sps_nil),by kernel_rfl⟩ rfl rfl rfl (by kernel_rfl) w34 Empty.elim 123 (fun (mId,mN,mSet,mAcc,mFail,mStage,mFirst)=>t34_ok std mId mN mSet mAcc mFail mStage mFirst) (fun y=>y.elim)
def fn34:((Int×Int×Int×Int×Int×Int×Int))→Int:=fun (mId,mN,mSet,mAcc,mFail,mStage,mFirst)=>(t34 std mId mN mSet mAcc mFail mStage mFirst).val (Ty.dflts [(.int .i64)])
def sp34:FSpec:=⟨[(.struct [(.int .i64),(.int .i64),(.int .i64),(.int .i64),(.int .i64),(.int .i64),(.int .i64)])], [(.int .i64)],(@tt ((Int×Int×Int×Int×Int×Int×Int))),fn34⟩
theorem eqs34 (mId:Int) (mN:Int) (mSet:Int) (mAcc:Int) (mFail:Int) (mStage:Int) (mFirst:Int):(t34 std mId mN mSet mAcc mFail mStage mFirst).Eqs:=by simp only [t34,LT.Eqs,and_self,true_and,and_true]
theorem pre34_ok {mId:Int} {mN:Int} {mSet:Int} {mAcc:Int} {mFail:Int} {mStage:Int} {mFirst:Int} (h:Ty.hass [(.struct [(.int .i64),(.int .i64),(.int .i64),(.int .i64),(.int .i64),(.int .i64),(.int .i64)])] (mId,mN,mSet,mAcc,mFail,mStage,mFirst)):(t34 std mId mN mSet mAcc mFail mStage mFirst).pre=true:=by
 simp only [t34,LT.pre,cond_iff,std_cmp_eql,std_cmp_neq,std_cmp_lss,std_cmp_leq,std_cmp_gtr,std_cmp_geq,std_and,std_not,std_beq,std_call,std_add,std_sub,std_conv,std_len,tt_eq,Bool.and_eq_true,Bool.or_eq_true,Bool.and_eq_false_iff,Bool.or_eq_false_iff,Bool.not_eq_true',Bool.not_eq_false',decide_eq_true_eq,decide_eq_false_iff_not,bne_iff_ne,beq_iff_eq,bne_eq_false_iff_eq,beq_eq_false_iff_ne,fn81_eq]
 simp only [Ty.hass,Ty.has,has64,has8] at h
 (repeat' (first | intro _ | constructor)) <;> (try omega)
theorem so34:FSpec.Sound Tryz.prog 111 sp34:=
 w34_ok.sound _ _ fun (mId,mN,mSet,mAcc,mFail,mStage,mFirst) _ h=>LT.runs (d:=Ty.dflts [(.int .i64)]) (eqs34 mId mN mSet mAcc mFail mStage mFirst) (pre34_ok h)
theorem fn34_range {x:Int×Int×Int×Int×Int×Int×Int}:fn34 x=0∨fn34 x=90:=by
 obtain ⟨a,b,c,d,e,f,g⟩:=x
 exact LT.val_all (p:=fun y=>y=0∨y=90) (.inl rfl) (by simp [t34,LT.all])
theorem fn34_zero {a b c d e f g:Int}:fn34 (a,b,c,d,e,f,g)=0↔okM a b c d e f g:=by
 simp only [fn34,t34,LT.val,cond_eq_of,std_cmp_eql,std_cmp_neq,std_cmp_lss,std_cmp_leq,std_cmp_gtr,std_cmp_geq,std_and,std_not,std_beq,std_call,std_add,std_sub,std_conv,std_len,tt_eq,Bool.and_eq_true,Bool.or_eq_true,Bool.and_eq_false_iff,Bool.or_eq_false_iff,Bool.not_eq_true',Bool.not_eq_false',decide_eq_true_eq,decide_eq_false_iff_not,bne_iff_ne,beq_iff_eq,bne_eq_false_iff_eq,beq_eq_false_iff_ne,fn81_eq]
 simp
 unfold okM
 by_cases hb:4≤b∧b≤8
 ·rw [w64 (by omega) (by omega),shl1 (by omega) hb.2]
  have hp:=pow_le (n:=b.toNat) (by omega)
  have hp1:1≤2 ^ b.toNat:=Nat.one_le_two_pow
  rw [w64 (by omega) (by omega)]
  by_cases hc:0≤c∧c < 256∧0≤a∧a < 8
  ·have h:=bit_p hc.1 hc.2.1 hc.2.2.1 hc.2.2.2
   rw [h]
   cases bitT c a <;> simp <;> omega
  ·constructor
   ·intro h; exfalso; omega
   ·intro h; exfalso; omega
 ·constructor
  ·intro h; exfalso; omega
  ·intro h; exfalso; omega
def t80 (A:Alg) (n:Int):LT Int Empty:=
 .need (A.cmp .leq 0 (A.conv .u64 n)) (
 .ret (A.bin .shl .i64 1 (A.conv .u64 n)))
noncomputable def E80 (A:Alg):Info (Ty.Ts [(.int .i64)]):={ti:=tys,fns:=[(217,Tryz.f217)],sps:=[],stops:=[],cuts:=[],consts:=[],fin:=finD A [(.int .i64)]}
theorem t80_ok (A:Alg) (n:Int):run A (E80 A) 17 (startC 217 Tryz.f217 (dvals A [(.int .i64)] n))=(t80 A n).tr Empty.elim:=by kernel_rfl
def w80:Walk Tryz.prog 217 [(.int .i64)] [(.int .i64)] Empty:=⟨fun n=>t80 std n,Empty.elim⟩
theorem w80_ok:w80.Ok:=
 walk_ok (E:=E80 std) ⟨tys_fit,fns_cons Tryz.func217 (by kernel_rfl) (fns_nil),sps_nil,by kernel_rfl⟩ rfl rfl rfl (by kernel_rfl) w80 Empty.elim 17 (fun n=>t80_ok std n) (fun y=>y.elim)
def fn80:Int→Int:=fun n=>(t80 std n).val (Ty.dflts [(.int .i64)])
def sp80:FSpec:=⟨[(.int .i64)], [(.int .i64)],(@tt Int),fn80⟩
theorem eqs80 (n:Int):(t80 std n).Eqs:=by simp only [t80,LT.Eqs,and_self,true_and,and_true]
theorem pre80_ok {n:Int} (h:Ty.hass [(.int .i64)] n):(t80 std n).pre=true:=by
 simp only [t80,LT.pre,cond_iff,std_cmp_eql,std_cmp_neq,std_cmp_lss,std_cmp_leq,std_cmp_gtr,std_cmp_geq,std_and,std_not,std_beq,std_call,std_add,std_sub,std_conv,std_len,tt_eq,Bool.and_eq_true,Bool.or_eq_true,Bool.and_eq_false_iff,Bool.or_eq_false_iff,Bool.not_eq_true',Bool.not_eq_false',decide_eq_true_eq,decide_eq_false_iff_not,bne_iff_ne,beq_iff_eq,bne_eq_false_iff_eq,beq_eq_false_iff_ne]
 simp only [Ty.hass,Ty.has,has64] at h
 have:=has_wrap .u64 n
 exact ⟨this.1,trivial⟩
theorem so80:FSpec.Sound Tryz.prog 217 sp80:=
 w80_ok.sound _ _ fun n _ h=>LT.runs (d:=Ty.dflts [(.int .i64)]) (eqs80 n) (pre80_ok h)
theorem fn80_eq {n:Int} (h0:0≤n) (h1:n≤8):fn80 n=((2 ^ n.toNat:Nat):Int):=by
 have:n=0∨n=1∨n=2∨n=3∨n=4∨n=5∨n=6∨n=7∨n=8:=by omega
 rcases this with rfl | rfl | rfl | rfl | rfl | rfl | rfl | rfl | rfl <;> decide
theorem fn80_shl {n:Int} (h0:0≤n) (h1:n≤8):fn80 n=std.bin .shl .i64 1 n:=by rw [fn80_eq h0 h1,shl1 h0 h1]
def t35 (A:Alg) (mId:Int) (mN:Int) (mSet:Int) (mAcc:Int) (mFail:Int) (mStage:Int) (mFirst:Int):LT Int Empty:=
 .br (A.cmp .lss mN 4)
 (.ret 90)
 (.br (A.cmp .gtr mN 8)
 (.ret 90)
 (.br (A.cmp .lss mId 0)
  (.ret 90)
  (.br (A.cmp .geq mId mN)
  (.ret 90)
  (.br (A.cmp .lss mFirst 0)
   (.ret 90)
   (.br (A.cmp .geq mFirst mN)
   (.ret 90)
   (.br (A.cmp .lss mSet 0)
    (.ret 90)
    (.need (A.call (@tt Int) mN) (
    .br (A.cmp .geq mSet (A.call fn80 mN))
     (.ret 90)
     (.br (A.cmp .lss mAcc 0)
     (.ret 90)
     (.br (A.cmp .gtr mAcc 1048576)
      (.ret 90)
      (.br (A.cmp .lss mFail 0)
      (.ret 90)
      (.br (A.cmp .gtr mFail 1048576)
       (.ret 90)
       (.br (A.cmp .lss mStage 0)
       (.ret 90)
       (.br (A.cmp .gtr mStage 2)
        (.ret 90)
        (.br (A.cmp .neq mStage 0)
        (.need (A.call (@tt Int) mId) (
         .br (A.cmp .eql (A.bin .and .i64 mSet (A.call fn80 mId)) 0)
         (.ret 90)
         (.br (A.cmp .eql mStage 2)
          (.br (A.cmp .eql mFirst mId)
          (.ret 90)
          (.ret 0))
          (.ret 0))))
        (.br (A.cmp .eql mStage 2)
         (.br (A.cmp .eql mFirst mId)
         (.ret 90)
         (.ret 0))
         (.ret 0)))))))))))))))))
noncomputable def E35 (A:Alg):Info (Ty.Ts [(.int .i64)]):={ti:=tys,fns:=[(201,Tryz.f201)],sps:=[(217,sp80)],stops:=[],cuts:=[],consts:=[],fin:=finD A [(.int .i64)]}
theorem t35_ok (A:Alg) (mId:Int) (mN:Int) (mSet:Int) (mAcc:Int) (mFail:Int) (mStage:Int) (mFirst:Int):run A (E35 A) 130 (startC 201 Tryz.f201 (dvals A [(.struct [(.int .i64),(.int .i64),(.int .i64),(.int .i64),(.int .i64),(.int .i64),(.int .i64)])] (mId,mN,mSet,mAcc,mFail,mStage,mFirst)))=(t35 A mId mN mSet mAcc mFail mStage mFirst).tr Empty.elim:=by kernel_rfl
def w35:Walk Tryz.prog 201 [(.struct [(.int .i64),(.int .i64),(.int .i64),(.int .i64),(.int .i64),(.int .i64),(.int .i64)])] [(.int .i64)] Empty:=⟨fun (mId,mN,mSet,mAcc,mFail,mStage,mFirst)=>t35 std mId mN mSet mAcc mFail mStage mFirst,Empty.elim⟩
theorem w35_ok:w35.Ok:=
 walk_ok (E:=E35 std) ⟨tys_fit,fns_cons Tryz.func201 (by kernel_rfl) (fns_nil),sps_cons so80 (sps_nil),by kernel_rfl⟩ rfl rfl rfl (by kernel_rfl) w35 Empty.elim 130 (fun (mId,mN,mSet,mAcc,mFail,mStage,mFirst)=>t35_ok std mId mN mSet mAcc mFail mStage mFirst) (fun y=>y.elim)
def fn35:((Int×Int×Int×Int×Int×Int×Int))→Int:=fun (mId,mN,mSet,mAcc,mFail,mStage,mFirst)=>(t35 std mId mN mSet mAcc mFail mStage mFirst).val (Ty.dflts [(.int .i64)])
def sp35:FSpec:=⟨[(.struct [(.int .i64),(.int .i64),(.int .i64),(.int .i64),(.int .i64),(.int .i64),(.int .i64)])], [(.int .i64)],(@tt ((Int×Int×Int×Int×Int×Int×Int))),fn35⟩
theorem eqs35 (mId:Int) (mN:Int) (mSet:Int) (mAcc:Int) (mFail:Int) (mStage:Int) (mFirst:Int):(t35 std mId mN mSet mAcc mFail mStage mFirst).Eqs:=by simp only [t35,LT.Eqs,and_self,true_and,and_true]
theorem pre35_ok {mId:Int} {mN:Int} {mSet:Int} {mAcc:Int} {mFail:Int} {mStage:Int} {mFirst:Int} (h:Ty.hass [(.struct [(.int .i64),(.int .i64),(.int .i64),(.int .i64),(.int .i64),(.int .i64),(.int .i64)])] (mId,mN,mSet,mAcc,mFail,mStage,mFirst)):(t35 std mId mN mSet mAcc mFail mStage mFirst).pre=true:=by
 simp only [t35,LT.pre,cond_iff,std_cmp_eql,std_cmp_neq,std_cmp_lss,std_cmp_leq,std_cmp_gtr,std_cmp_geq,std_and,std_not,std_beq,std_call,std_add,std_sub,std_conv,std_len,tt_eq,Bool.and_eq_true,Bool.or_eq_true,Bool.and_eq_false_iff,Bool.or_eq_false_iff,Bool.not_eq_true',Bool.not_eq_false',decide_eq_true_eq,decide_eq_false_iff_not,bne_iff_ne,beq_iff_eq,bne_eq_false_iff_eq,beq_eq_false_iff_ne]
 simp only [Ty.hass,Ty.has,has64,has8] at h
 (repeat' (first | intro _ | constructor)) <;> (try omega)
theorem so35:FSpec.Sound Tryz.prog 201 sp35:=
 w35_ok.sound _ _ fun (mId,mN,mSet,mAcc,mFail,mStage,mFirst) _ h=>LT.runs (d:=Ty.dflts [(.int .i64)]) (eqs35 mId mN mSet mAcc mFail mStage mFirst) (pre35_ok h)
theorem fn35_range {x:Int×Int×Int×Int×Int×Int×Int}:fn35 x=0∨fn35 x=90:=by
 obtain ⟨a,b,c,d,e,f,g⟩:=x
 exact LT.val_all (p:=fun y=>y=0∨y=90) (.inl rfl) (by simp [t35,LT.all])
theorem fn35_zero {a b c d e f g:Int}:fn35 (a,b,c,d,e,f,g)=0↔okM a b c d e f g:=by
 simp only [fn35,t35,LT.val,cond_eq_of,std_cmp_eql,std_cmp_neq,std_cmp_lss,std_cmp_leq,std_cmp_gtr,std_cmp_geq,std_and,std_not,std_beq,std_call,std_add,std_sub,std_conv,std_len,tt_eq,Bool.and_eq_true,Bool.or_eq_true,Bool.and_eq_false_iff,Bool.or_eq_false_iff,Bool.not_eq_true',Bool.not_eq_false',decide_eq_true_eq,decide_eq_false_iff_not,bne_iff_ne,beq_iff_eq,bne_eq_false_iff_eq,beq_eq_false_iff_ne]
 simp
 unfold okM
 by_cases hb:4≤b∧b≤8∧0≤a∧a < b
 ·rw [fn80_eq (by omega) hb.2.1,fn80_shl (n:=a) (by omega) (by omega)]
  have hp:=pow_le (n:=b.toNat) (by omega)
  by_cases hc:0≤c∧c < 256
  ·have h:=bit_r (a:=a) hc.1 hc.2 (by omega) (by omega)
   rw [h]
   cases bitT c a <;> simp <;> omega
  ·constructor
   ·intro h; exfalso; omega
   ·intro h; exfalso; omega
 ·constructor
  ·intro h; exfalso; omega
  ·intro h; exfalso; omega
theorem chk {x:Int×Int×Int×Int×Int×Int×Int}:fn34 x=fn35 x:=by
 have h1:=fn34_range (x:=x)
 have h2:=fn35_range (x:=x)
 obtain ⟨a,b,c,d,e,f,g⟩:=x
 have h3:=fn34_zero (a:=a) (b:=b) (c:=c) (d:=d) (e:=e) (f:=f) (g:=g)
 have h4:=fn35_zero (a:=a) (b:=b) (c:=c) (d:=d) (e:=e) (f:=f) (g:=g)
 by_cases h:okM a b c d e f g
 ·rw [h3.2 h,h4.2 h]
 ·have:=mt h3.1 h; have:=mt h4.1 h; omega
section
variable {a b c d e f g s:Int}
end
end Go.Ev.M
