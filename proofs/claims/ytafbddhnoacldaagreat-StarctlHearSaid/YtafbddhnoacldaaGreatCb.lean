/-
  PROVED: what functions of the packages modes, medl, cstate, busctl and of their documents compute. Conditions: none.
-/
import Derived.Test.YtafbddhnoacldaaGreatCa
import Derived.Test.YtafbddhnoacldaaGreatMb
namespace Go.Ev.M
open Go.Proofs
set_option maxRecDepth 100000
set_option linter.unusedVariables false
set_option linter.unusedSimpArgs false
open Go.Ev.Pl
abbrev mlen (m:Medl):Int:=(m.2.2.2.2.2.2.2.length:Int)
theorem chk_in {c:CSt} {k:Int} (h:chkS (c,k)=0):(4≤k∧k≤8)∧(0≤c.1∧c.1≤255)∧(0≤c.2.1∧c.2.1≤k - 1)∧(0≤c.2.2.1∧c.2.2.1≤3)∧(0≤c.2.2.2.1∧c.2.2.2.1≤4)∧(0≤c.2.2.2.2∧c.2.2.2.2≤2 ^ k.toNat - 1):=by
 obtain ⟨t,p,m,n,s⟩:=c
 rw [chkS] at h
 cases h1:decide (k < 4) || decide (8 < k)
 ·rw [h1,cond_false] at h
  rw [Bool.or_eq_false_iff,decide_eq_false_iff_not,decide_eq_false_iff_not] at h1
  cases h2:((decide (0≤t) && decide (t≤255)) && ((decide (0≤p) && decide (p≤k - 1)) && ((decide (0≤m) && decide (m≤3)) && ((decide (0≤n) && decide (n≤4)) && (decide (0≤s) && decide (s≤2 ^ k.toNat - 1))))))
  ·rw [h2,cond_false] at h; exact absurd h (by decide)
  ·simp only [Bool.and_eq_true,decide_eq_true_eq] at h2
   exact ⟨by omega,h2.1,h2.2.1,h2.2.2.1,h2.2.2.2.1,h2.2.2.2.2⟩
 ·rw [h1,cond_true] at h; exact absurd h (by decide)
def fitsF (m:Medl) (c:CSt):Bool:=decide (chkS (c,m.1)=0) && (decide (c.2.2.1 < mlen m) && decide (c.2.2.2.1≤mlen m))
def asksF (m:Medl) (c:CSt):Int:=bif medlB m then (bif fitsF m c then 0 else 40) else 70
theorem asks_zero {m:Medl} {c:CSt} (h:asksF m c=0):medlB m=true∧chkS (c,m.1)=0∧(0≤c.2.2.1∧c.2.2.1 < mlen m)∧c.2.2.2.1≤mlen m:=by
 unfold asksF at h
 cases hm:medlB m
 ·rw [hm,cond_false] at h; exact absurd h (by decide)
 ·cases hf:fitsF m c
  ·rw [hm,hf,cond_true,cond_false] at h; exact absurd h (by decide)
  ·simp only [fitsF,Bool.and_eq_true,decide_eq_true_eq] at hf
   exact ⟨rfl,hf.1,⟨(chk_in hf.1).2.2.2.1.1,hf.2.1⟩,hf.2.2⟩
theorem asks_yes {m:Medl} {c:CSt} (h:medlB m=true) (h2:fitsF m c=true):asksF m c=0:=by rw [asksF,h,h2]; rfl
theorem medl_in {m:Medl} (h:medlB m=true):(4≤m.1∧m.1≤8)∧(1≤mlen m∧mlen m≤4)∧(m.2.2.2.2.2.2.1.length:Int)=m.1∧m.2.2.2.2.2.2.2.all (modeB m)=true:=by
 obtain ⟨n,s,g,w,d,de,cold,modes⟩:=m
 have:=medl_n h
 exact ⟨this.1,this.2.1,this.2.2.1,this.2.2.2.1⟩
theorem mode_at {m:Medl} (h:medlB m=true) {i:Int} (h0:0≤i) (h1:i < mlen m):modeB m (std.nth yMode m.2.2.2.2.2.2.2 i:Mode)=true:=by
 obtain ⟨k,rfl⟩:∃k:Nat,i=k:=⟨i.toNat,by omega⟩
 have hk:k < m.2.2.2.2.2.2.2.length:=by unfold mlen at h1; omega
 rw [show (std.nth yMode m.2.2.2.2.2.2.2 (k:Int):Mode)=m.2.2.2.2.2.2.2[k] from getD_in hk _]
 exact List.all_eq_true.1 (medl_in h).2.2.2 _ (List.getElem_mem hk)
theorem mode_lens {m:Medl} {x:Mode} (h:modeB m x=true):(x.1.length:Int)=m.1∧(x.2.1.length:Int)=m.1∧(x.2.2.length:Int)=mlen m:=by
 simp only [modeB,Bool.and_eq_true,beq_iff_eq] at h
 exact ⟨h.1.1.1,h.1.1.2,by rw [h.1.2]⟩
theorem need_in {α:Type} {l:List α} {i:Int} (h0:0≤i) (h1:i < (l.length:Int)):std.and (std.cmp .leq 0 i) (std.cmp .lss i (std.len l))=true:=by
 rw [lenI,std_cmp_leq,std_cmp_lss,std_and]; simp; omega
theorem cne0 {x:Int} (h:x=0):std.cmp .neq x 0=false:=by rw [h]; rfl
theorem cne1 {x:Int} (h:¬x=0):std.cmp .neq x 0=true:=by rw [std_cmp_neq]; simpa using h
theorem ceq1 {x:Int} (h:¬x=0):std.cmp .eql x 0=false:=by rw [std_cmp_eql]; simpa using h
theorem ceq0 {x:Int} (h:x=0):std.cmp .eql x 0=true:=by rw [h]; rfl
def t377 (A:Alg) (m:Medl) (c:CSt):LT Bool Empty:=
 .need (A.call (@tt ((Int×Int×Int×Int×Int)×Int)) (c,m.1)) (
 .br (A.cmp .eql (A.call fn42 (c,m.1)) 0)
 (.br (A.cmp .lss c.2.2.1 (A.len m.2.2.2.2.2.2.2))
  (.ret (A.cmp .leq c.2.2.2.1 (A.len m.2.2.2.2.2.2.2)))
  (.ret false))
 (.ret false))
noncomputable def E377 (A:Alg):Info (Ty.Ts [.bool]):={ti:=tys,fns:=[(97,Tryz.f97)],sps:=[(189,sp42)],stops:=[],cuts:=[],consts:=[],fin:=finD A [.bool]}
theorem t377_ok (A:Alg) (m:Medl) (c:CSt):run A (E377 A) 37 (startC 97 Tryz.f97 (dvals A [yMedl,yCSt] (m,c)))=(t377 A m c).tr Empty.elim:=by kernel_rfl
def w377:Walk Tryz.prog 97 [yMedl,yCSt] [.bool] Empty:=⟨fun (m,c)=>t377 std m c,Empty.elim⟩
theorem w377_ok:w377.Ok:=
 walk_ok (E:=E377 std) ⟨tys_fit,fns_cons Tryz.func97 (by kernel_rfl) (fns_nil),sps_cons so42 (sps_nil),by kernel_rfl⟩ rfl rfl rfl (by kernel_rfl) w377 Empty.elim 37 (fun (m,c)=>t377_ok std m c) (fun y=>y.elim)
theorem fits1 {m:Medl} {c:CSt}:Runs Empty.elim (t377 std m c) (fitsF m c):=by
 unfold t377
 refine runs_need.2 ⟨rfl,?_⟩
 rw [show std.call fn42 (c,m.1)=chkS (c,m.1) from rfl]
 by_cases h:chkS (c,m.1)=0
 ·rw [fitsF,decide_eq_true h]
  refine (runs_brT (ceq0 h)).2 (runs_if (p:=c.2.2.1 < mlen m) rfl (fun h2=>?_) fun h2=>?_)
  ·exact runs_r (by rw [decide_eq_true h2]; rfl) (.ret _)
  ·exact runs_r (by rw [decide_eq_false h2]; rfl) (.ret _)
 ·rw [fitsF,decide_eq_false h]
  exact (runs_brF (ceq1 h)).2 (.ret _)
def fn377:(Medl×CSt)→Bool:=fun (m,c)=>fitsF m c
def sp377:FSpec:=⟨[yMedl,yCSt], [.bool],(@tt (Medl×CSt)),fn377⟩
theorem run377 {m:Medl} {c:CSt} (h:Ty.hass [yMedl,yCSt] (m,c)):Runs Empty.elim (t377 std m c) (fn377 (m,c)):=by
 exact fits1
theorem so377:FSpec.Sound Tryz.prog 97 sp377:=
 w377_ok.sound _ _ fun (m,c) _ h=>run377 h
def t460 (A:Alg) (m:Medl) (n:Int):LT Bool Empty:=
 .br (A.cmp .geq n 0)
 (.ret (A.cmp .lss n (A.len m.2.2.2.2.2.2.2)))
 (.ret false)
noncomputable def E460 (A:Alg):Info (Ty.Ts [.bool]):={ti:=tys,fns:=[(266,Tryz.f266)],sps:=[],stops:=[],cuts:=[],consts:=[],fin:=finD A [.bool]}
theorem t460_ok (A:Alg) (m:Medl) (n:Int):run A (E460 A) 24 (startC 266 Tryz.f266 (dvals A [yMedl,(.int .i64)] (m,n)))=(t460 A m n).tr Empty.elim:=by kernel_rfl
def w460:Walk Tryz.prog 266 [yMedl,(.int .i64)] [.bool] Empty:=⟨fun (m,n)=>t460 std m n,Empty.elim⟩
theorem w460_ok:w460.Ok:=
 walk_ok (E:=E460 std) ⟨tys_fit,fns_cons Tryz.func266 (by kernel_rfl) (fns_nil),sps_nil,by kernel_rfl⟩ rfl rfl rfl (by kernel_rfl) w460 Empty.elim 24 (fun (m,n)=>t460_ok std m n) (fun y=>y.elim)
def isF (m:Medl) (n:Int):Bool:=decide (0≤n∧n < mlen m)
theorem is1 {m:Medl} {n:Int}:Runs Empty.elim (t460 std m n) (isF m n):=by
 unfold t460 isF
 refine runs_if (p:=0≤n) rfl (fun h=>?_) fun h=>?_
 ·exact runs_r (by rw [Bool.eq_iff_iff,lenI,std_cmp_lss]; simp; omega) (.ret _)
 ·exact runs_r (decide_eq_false (by omega)).symm (.ret _)
def fn460:(Medl×Int)→Bool:=fun (m,c)=>isF m c
def sp460:FSpec:=⟨[yMedl,(.int .i64)], [.bool],(@tt (Medl×Int)),fn460⟩
theorem run460 {m:Medl} {n:Int} (h:Ty.hass [yMedl,(.int .i64)] (m,n)):Runs Empty.elim (t460 std m n) (fn460 (m,n)):=by
 exact is1
theorem so460:FSpec.Sound Tryz.prog 266 sp460:=
 w460_ok.sound _ _ fun (m,n) _ h=>run460 h
def t456 (A:Alg) (m:Medl) (c:CSt):LT Int Empty:=
 .need (A.call (@tt Medl) m) (
 .br (A.cmp .neq (A.call fn124 m) 0)
 (.ret (A.call fn124 m))
 (.need (A.call (@tt ((Int×Int×Int×Int×Int)×Int)) (c,m.1)) (
  .br (A.cmp .neq (A.call fn87 (c,m.1)) 0)
  (.ret 40)
  (.need (A.call (@tt (Medl×Int)) (m,c.2.2.1)) (
   .br (A.not (A.call fn460 (m,c.2.2.1)))
   (.ret 40)
   (.br (A.cmp .gtr c.2.2.2.1 (A.len m.2.2.2.2.2.2.2))
    (.ret 40)
    (.ret 0)))))))
noncomputable def E456 (A:Alg):Info (Ty.Ts [(.int .i64)]):={ti:=tys,fns:=[(251,Tryz.f251)],sps:=[(187,sp87),(81,sp124),(266,sp460)],stops:=[],cuts:=[],consts:=[],fin:=finD A [(.int .i64)]}
theorem t456_ok (A:Alg) (m:Medl) (c:CSt):run A (E456 A) 56 (startC 251 Tryz.f251 (dvals A [yMedl,yCSt] (m,c)))=(t456 A m c).tr Empty.elim:=by kernel_rfl
def w456:Walk Tryz.prog 251 [yMedl,yCSt] [(.int .i64)] Empty:=⟨fun (m,c)=>t456 std m c,Empty.elim⟩
theorem w456_ok:w456.Ok:=
 walk_ok (E:=E456 std) ⟨tys_fit,fns_cons Tryz.func251 (by kernel_rfl) (fns_nil),sps_cons so87 (sps_cons so124 (sps_cons so460 (sps_nil))),by kernel_rfl⟩ rfl rfl rfl (by kernel_rfl) w456 Empty.elim 56 (fun (m,c)=>t456_ok std m c) (fun y=>y.elim)
theorem asks1 {m:Medl} {c:CSt}:Runs Empty.elim (t456 std m c) (asksF m c):=by
 unfold t456 asksF
 refine runs_need.2 ⟨rfl,?_⟩
 rw [show std.call fn124 m=medlS m from rfl,medlS]
 cases hm:medlB m
 ·exact (runs_brT rfl).2 (.ret _)
 refine (runs_brF rfl).2 (runs_need.2 ⟨rfl,?_⟩)
 rw [show std.call fn87 (c,m.1)=chkS (c,m.1) from rfl]
 by_cases h:chkS (c,m.1)=0
 ·have h0:=(chk_in h).2.2.2.1.1
  rw [fitsF,decide_eq_true h]
  refine (runs_brF (cne0 h)).2 (runs_need.2 ⟨rfl,?_⟩)
  rw [show std.call fn460 (m,c.2.2.1)=decide (0≤c.2.2.1∧c.2.2.1 < mlen m) from rfl]
  by_cases h2:c.2.2.1 < mlen m
  ·rw [decide_eq_true (show 0≤c.2.2.1∧c.2.2.1 < mlen m from ⟨h0,h2⟩),decide_eq_true h2]
   refine (runs_brF rfl).2 (runs_if (p:=mlen m < c.2.2.2.1) rfl (fun h3=>?_) fun h3=>?_)
   ·exact runs_r (by rw [decide_eq_false (by omega)]; rfl) (.ret _)
   ·exact runs_r (by rw [decide_eq_true (by omega)]; rfl) (.ret _)
  ·rw [decide_eq_false (show ¬(0≤c.2.2.1∧c.2.2.1 < mlen m) from fun h=>h2 h.2),decide_eq_false h2]
   exact (runs_brT rfl).2 (.ret _)
 ·rw [fitsF,decide_eq_false h]
  exact (runs_brT (cne1 h)).2 (.ret _)
def fn456:(Medl×CSt)→Int:=fun (m,c)=>asksF m c
def sp456:FSpec:=⟨[yMedl,yCSt], [(.int .i64)],(@tt (Medl×CSt)),fn456⟩
theorem run456 {m:Medl} {c:CSt} (h:Ty.hass [yMedl,yCSt] (m,c)):Runs Empty.elim (t456 std m c) (fn456 (m,c)):=by
 exact asks1
theorem so456:FSpec.Sound Tryz.prog 251 sp456:=
 w456_ok.sound _ _ fun (m,c) _ h=>run456 h
def t462 (A:Alg) (m:Medl) (c:CSt):LT Int Empty:=
 .need (A.call (@tt Medl) m) (
 .br (A.cmp .neq (A.call fn366 m) 0)
 (.ret (A.call fn366 m))
 (.need (A.call (@tt (Medl×CSt)) (m,c)) (
  .br (A.not (A.call fn377 (m,c)))
  (.ret 40)
  (.ret 0))))
noncomputable def E462 (A:Alg):Info (Ty.Ts [(.int .i64)]):={ti:=tys,fns:=[(269,Tryz.f269)],sps:=[(82,sp366),(97,sp377)],stops:=[],cuts:=[],consts:=[],fin:=finD A [(.int .i64)]}
theorem t462_ok (A:Alg) (m:Medl) (c:CSt):run A (E462 A) 40 (startC 269 Tryz.f269 (dvals A [yMedl,yCSt] (m,c)))=(t462 A m c).tr Empty.elim:=by kernel_rfl
def w462:Walk Tryz.prog 269 [yMedl,yCSt] [(.int .i64)] Empty:=⟨fun (m,c)=>t462 std m c,Empty.elim⟩
theorem w462_ok:w462.Ok:=
 walk_ok (E:=E462 std) ⟨tys_fit,fns_cons Tryz.func269 (by kernel_rfl) (fns_nil),sps_cons so366 (sps_cons so377 (sps_nil)),by kernel_rfl⟩ rfl rfl rfl (by kernel_rfl) w462 Empty.elim 40 (fun (m,c)=>t462_ok std m c) (fun y=>y.elim)
theorem dasks1 {m:Medl} {c:CSt}:Runs Empty.elim (t462 std m c) (asksF m c):=by
 unfold t462 asksF
 refine runs_need.2 ⟨rfl,?_⟩
 rw [show std.call fn366 m=medlS m from rfl,medlS]
 cases hm:medlB m
 ·exact (runs_brT rfl).2 (.ret _)
 refine (runs_brF rfl).2 (runs_need.2 ⟨rfl,?_⟩)
 rw [show std.call fn377 (m,c)=fitsF m c from rfl]
 cases fitsF m c
 ·exact (runs_brT rfl).2 (.ret _)
 ·exact (runs_brF rfl).2 (.ret _)
def fn462:(Medl×CSt)→Int:=fun (m,c)=>asksF m c
def sp462:FSpec:=⟨[yMedl,yCSt], [(.int .i64)],(@tt (Medl×CSt)),fn462⟩
theorem run462 {m:Medl} {c:CSt} (h:Ty.hass [yMedl,yCSt] (m,c)):Runs Empty.elim (t462 std m c) (fn462 (m,c)):=by
 exact dasks1
theorem so462:FSpec.Sound Tryz.prog 269 sp462:=
 w462_ok.sound _ _ fun (m,c) _ h=>run462 h
def t468 (A:Alg) (m:Medl) (c:CSt) (mode:Int):LT Bool Empty:=
 .need (A.call (@tt (Medl×Int)) (m,mode)) (
 .br (A.call fn460 (m,mode))
 (.br (A.cmp .neq mode c.2.2.1)
  (.br (A.cmp .eql c.2.2.2.1 0)
  (.need (A.and (A.cmp .leq 0 c.2.2.1) (A.cmp .lss c.2.2.1 (A.len m.2.2.2.2.2.2.2))) (
   .need (A.and (A.cmp .leq 0 mode) (A.cmp .lss mode (A.len (A.nth yMode m.2.2.2.2.2.2.2 c.2.2.1:Mode).2.2))) (
   .ret (A.nth .bool (A.nth yMode m.2.2.2.2.2.2.2 c.2.2.1:Mode).2.2 mode:Bool))))
  (.ret false))
  (.ret false))
 (.ret false))
noncomputable def E468 (A:Alg):Info (Ty.Ts [.bool]):={ti:=tys,fns:=[(300,Tryz.f300)],sps:=[(266,sp460)],stops:=[],cuts:=[],consts:=[],fin:=finD A [.bool]}
theorem t468_ok (A:Alg) (m:Medl) (c:CSt) (mode:Int):run A (E468 A) 42 (startC 300 Tryz.f300 (dvals A [yMedl,yCSt,(.int .i64)] (m,c,mode)))=(t468 A m c mode).tr Empty.elim:=by kernel_rfl
def w468:Walk Tryz.prog 300 [yMedl,yCSt,(.int .i64)] [.bool] Empty:=⟨fun (m,c,mode)=>t468 std m c mode,Empty.elim⟩
theorem w468_ok:w468.Ok:=
 walk_ok (E:=E468 std) ⟨tys_fit,fns_cons Tryz.func300 (by kernel_rfl) (fns_nil),sps_cons so460 (sps_nil),by kernel_rfl⟩ rfl rfl rfl (by kernel_rfl) w468 Empty.elim 42 (fun (m,c,mode)=>t468_ok std m c mode) (fun y=>y.elim)
def mayF (m:Medl) (c:CSt) (k:Int):Bool:=decide (0≤k∧k < mlen m) && (decide (¬k=c.2.2.1) && (decide (c.2.2.2.1=0) && (std.nth .bool (std.nth yMode m.2.2.2.2.2.2.2 c.2.2.1:Mode).2.2 k:Bool)))
theorem cneq_dec {a b:Int}:std.cmp .neq a b=decide (¬a=b):=by rw [std_cmp_neq,Bool.eq_iff_iff]; simp
theorem may_tail {R Y:Type} {step:Y→LT R Y} {m:Medl} {c:CSt} {k:Int} {e:LT R Y} {r:R} {f:Bool→R} (h:asksF m c=0) (hk:0≤k∧k < mlen m) (hr:f (mayF m c k)=r) (hf:f false=r→Runs step e r) :
  Runs step (.br (std.cmp .neq k c.2.2.1) (.br (std.cmp .eql c.2.2.2.1 0) (.need (std.and (std.cmp .leq 0 c.2.2.1) (std.cmp .lss c.2.2.1 (std.len m.2.2.2.2.2.2.2))) (.need (std.and (std.cmp .leq 0 k) (std.cmp .lss k (std.len (std.nth yMode m.2.2.2.2.2.2.2 c.2.2.1:Mode).2.2))) (.ret (f (std.nth .bool (std.nth yMode m.2.2.2.2.2.2.2 c.2.2.1:Mode).2.2 k:Bool))))) e) e) r:=by
 obtain ⟨hm,_,hc,_⟩:=asks_zero h
 rw [mayF,decide_eq_true hk,Bool.true_and] at hr
 refine runs_if (p:=¬k=c.2.2.1) cneq_dec (fun h1=>runs_if (p:=c.2.2.2.1=0) eql_dec (fun h2=>runs_need.2 ⟨need_in hc.1 hc.2,runs_need.2 ⟨need_in hk.1 ?_,?_⟩⟩) fun h2=>hf ?_) fun h1=>hf ?_
 ·exact (mode_lens (mode_at hm hc.1 hc.2)).2.2 ▸ hk.2
 ·exact runs_r (by rw [←hr,decide_eq_true h1,decide_eq_true h2]; rfl) (.ret _)
 ·rw [←hr,decide_eq_false h2]; cases decide (¬k=c.2.2.1) <;> rfl
 ·rw [←hr,decide_eq_false h1]; rfl
theorem pmay1 {m:Medl} {c:CSt} {k:Int} (h:asksF m c=0):Runs Empty.elim (t468 std m c k) (mayF m c k):=by
 unfold t468
 refine runs_need.2 ⟨rfl,?_⟩
 rw [show std.call fn460 (m,k)=decide (0≤k∧k < mlen m) from rfl]
 by_cases hk:0≤k∧k < mlen m
 ·exact (runs_brT (decide_eq_true hk)).2 (may_tail (f:=id) h hk rfl fun e=>runs_r e (.ret _))
 ·exact (runs_brF (decide_eq_false hk)).2 (runs_r (by rw [mayF,decide_eq_false hk]; rfl) (.ret _))
def fn468:(Medl×CSt×Int)→Bool:=fun (m,c,k)=>mayF m c k
def pre468:(Medl×CSt×Int)→Bool:=fun (m,c,_)=>decide (asksF m c=0)
def sp468:FSpec:=⟨[yMedl,yCSt,(.int .i64)], [.bool],pre468,fn468⟩
theorem run468 {m:Medl} {c:CSt} {mode:Int} (h:Ty.hass [yMedl,yCSt,(.int .i64)] (m,c,mode)) (hp:pre468 (m,c,mode)=true):Runs Empty.elim (t468 std m c mode) (fn468 (m,c,mode)):=by
 exact pmay1 (of_decide_eq_true hp)
theorem so468:FSpec.Sound Tryz.prog 300 sp468:=
 w468_ok.sound _ _ fun (m,c,mode) hp h=>run468 h hp
def t463 (A:Alg) (m:Medl) (c:CSt) (mode:Int):LT Bool Empty:=
 .need (A.call (@tt Medl) m) (
 .br (A.cmp .eql (A.call fn366 m) 0)
 (.need (A.call (@tt (Medl×CSt)) (m,c)) (
  .br (A.call fn377 (m,c))
  (.br (A.cmp .geq mode 0)
   (.br (A.cmp .lss mode (A.len m.2.2.2.2.2.2.2))
   (.br (A.cmp .neq mode c.2.2.1)
    (.br (A.cmp .eql c.2.2.2.1 0)
    (.need (A.and (A.cmp .leq 0 c.2.2.1) (A.cmp .lss c.2.2.1 (A.len m.2.2.2.2.2.2.2))) (
     .need (A.and (A.cmp .leq 0 mode) (A.cmp .lss mode (A.len (A.nth yMode m.2.2.2.2.2.2.2 c.2.2.1:Mode).2.2))) (
     .ret (A.nth .bool (A.nth yMode m.2.2.2.2.2.2.2 c.2.2.1:Mode).2.2 mode:Bool))))
    (.ret false))
    (.ret false))
   (.ret false))
   (.ret false))
  (.ret false)))
 (.ret false))
noncomputable def E463 (A:Alg):Info (Ty.Ts [.bool]):={ti:=tys,fns:=[(270,Tryz.f270)],sps:=[(82,sp366),(97,sp377)],stops:=[],cuts:=[],consts:=[],fin:=finD A [.bool]}
theorem t463_ok (A:Alg) (m:Medl) (c:CSt) (mode:Int):run A (E463 A) 58 (startC 270 Tryz.f270 (dvals A [yMedl,yCSt,(.int .i64)] (m,c,mode)))=(t463 A m c mode).tr Empty.elim:=by kernel_rfl
def w463:Walk Tryz.prog 270 [yMedl,yCSt,(.int .i64)] [.bool] Empty:=⟨fun (m,c,mode)=>t463 std m c mode,Empty.elim⟩
theorem w463_ok:w463.Ok:=
 walk_ok (E:=E463 std) ⟨tys_fit,fns_cons Tryz.func270 (by kernel_rfl) (fns_nil),sps_cons so366 (sps_cons so377 (sps_nil)),by kernel_rfl⟩ rfl rfl rfl (by kernel_rfl) w463 Empty.elim 58 (fun (m,c,mode)=>t463_ok std m c mode) (fun y=>y.elim)
theorem dmay_1 {m:Medl} {c:CSt} {k:Int}:Runs Empty.elim (t463 std m c k) (decide (asksF m c=0) && mayF m c k):=by
 unfold t463
 refine runs_need.2 ⟨rfl,?_⟩
 rw [show std.call fn366 m=medlS m from rfl,medlS]
 cases hm:medlB m
 ·exact (runs_brF rfl).2 (runs_r (by rw [asksF,hm]; rfl) (.ret _))
 refine (runs_brT rfl).2 (runs_need.2 ⟨rfl,?_⟩)
 rw [show std.call fn377 (m,c)=fitsF m c from rfl]
 cases hf:fitsF m c
 ·exact (runs_brF rfl).2 (runs_r (by rw [asksF,hm,hf]; rfl) (.ret _))
 have h:=asks_yes hm hf
 rw [decide_eq_true h,Bool.true_and]
 refine (runs_brT rfl).2 (runs_if (p:=0≤k) rfl (fun h1=>runs_if (p:=k < mlen m) rfl (fun h2=>may_tail (f:=id) h ⟨h1,h2⟩ rfl fun e=>runs_r e (.ret _)) fun h2=>?_) fun h1=>?_)
 ·exact runs_r (by rw [mayF,decide_eq_false (by omega)]; rfl) (.ret _)
 ·exact runs_r (by rw [mayF,decide_eq_false (by omega)]; rfl) (.ret _)
def fn463:(Medl×CSt×Int)→Bool:=fun (m,c,k)=>decide (asksF m c=0) && mayF m c k
def sp463:FSpec:=⟨[yMedl,yCSt,(.int .i64)], [.bool],(@tt (Medl×CSt×Int)),fn463⟩
theorem run463 {m:Medl} {c:CSt} {mode:Int} (h:Ty.hass [yMedl,yCSt,(.int .i64)] (m,c,mode)):Runs Empty.elim (t463 std m c mode) (fn463 (m,c,mode)):=by
 exact dmay_1
theorem so463:FSpec.Sound Tryz.prog 270 sp463:=
 w463_ok.sound _ _ fun (m,c,mode) _ h=>run463 h
structure P457c0 where
 (a0:Int) (a2:Medl) (a3:CSt) (a4:Int) (a5:Medl) (a6:CSt) (a7:Medl) (a8:CSt) (a9:Int) (a10:Medl) (a11:Int) (a12:CSt)
inductive Y457 where
 | c0 (p:P457c0) (a1:Int)
noncomputable def cfg457:Y457→Cfg
 | .c0 p a1=>{frames:=[{fn:=299,n:=26,env:=(Env.put (Env.put (Env.put (Env.put (Env.put .leaf 0 (.yield 0)) 1 (.ptr 1 0)) 2 (.ptr 2 0)) 11 (.int .i64 false p.a0)) 12 (.int .i64 false a1)),todo:=[.inLoop (Code.way (bodyOf Tryz.f299) [1,1,0,0]),.inBlock 0],marks:=[],rnd:=none},{fn:=252,n:=16,env:=(Env.put .leaf 6 (.ptr 3 0)),todo:=[.inRF 0,.inBlock 0,.code (Code.way (bodyOf Tryz.f252) [1,1])],marks:=[4],rnd:=none}],mem:=[.loop {fn:=252,n:=16,env:=(Env.put (Env.put (Env.put (Env.put (Env.put (Env.put (Env.put (Env.put (Env.put (Env.put .leaf 0 (.agg [.int .i64 false p.a2.1,.int .i64 false p.a2.2.1,.int .i64 false p.a2.2.2.1,.int .i64 false p.a2.2.2.2.1,.int .i64 false p.a2.2.2.2.2.1,.int .i64 false p.a2.2.2.2.2.2.1,.sl .bool p.a2.2.2.2.2.2.2.1,.sl yMode p.a2.2.2.2.2.2.2.2])) 1 (.agg [.int .i64 false p.a3.1,.int .i64 false p.a3.2.1,.int .i64 false p.a3.2.2.1,.int .i64 false p.a3.2.2.2.1,.int .i64 false p.a3.2.2.2.2])) 2 (.int .i64 false p.a4)) 3 (.ptr 5 0)) 4 (.ptr 7 0)) 5 (.ptr 6 0)) 6 (.ptr 3 0)) 8 (.agg [.int .i64 false p.a5.1,.int .i64 false p.a5.2.1,.int .i64 false p.a5.2.2.1,.int .i64 false p.a5.2.2.2.1,.int .i64 false p.a5.2.2.2.2.1,.int .i64 false p.a5.2.2.2.2.2.1,.sl .bool p.a5.2.2.2.2.2.2.1,.sl yMode p.a5.2.2.2.2.2.2.2])) 9 (.agg [.int .i64 false p.a6.1,.int .i64 false p.a6.2.1,.int .i64 false p.a6.2.2.1,.int .i64 false p.a6.2.2.2.1,.int .i64 false p.a6.2.2.2.2])) 10 (.fn 299 [] [.ptr 1 0,.ptr 2 0])),params:=[11],assign:=(Code.way (bodyOf Tryz.f252) [1,0,1,0,0]),body:=(Code.way (bodyOf Tryz.f252) [1,0,1,0,1]),state:=0,pending:=none},.flat false [.int .i64 false p.a7.1,.int .i64 false p.a7.2.1,.int .i64 false p.a7.2.2.1,.int .i64 false p.a7.2.2.2.1,.int .i64 false p.a7.2.2.2.2.1,.int .i64 false p.a7.2.2.2.2.2.1,.sl .bool p.a7.2.2.2.2.2.2.1,.sl yMode p.a7.2.2.2.2.2.2.2],.flat false [.int .i64 false p.a8.1,.int .i64 false p.a8.2.1,.int .i64 false p.a8.2.2.1,.int .i64 false p.a8.2.2.2.1,.int .i64 false p.a8.2.2.2.2],.flat false [.int .i64 false p.a9],.dfr,.flat false [.int .i64 false p.a10.1,.int .i64 false p.a10.2.1,.int .i64 false p.a10.2.2.1,.int .i64 false p.a10.2.2.2.1,.int .i64 false p.a10.2.2.2.2.1,.int .i64 false p.a10.2.2.2.2.2.1,.sl .bool p.a10.2.2.2.2.2.2.1,.sl yMode p.a10.2.2.2.2.2.2.2],.flat false [.int .i64 false p.a11],.flat false [.int .i64 false p.a12.1,.int .i64 false p.a12.2.1,.int .i64 false p.a12.2.2.1,.int .i64 false p.a12.2.2.2.1,.int .i64 false p.a12.2.2.2.2],.dead]}
def t457 (A:Alg) (m:Medl) (c:CSt) (mode:Int):LT Int Y457:=
 .need (A.call (@tt (Medl×CSt)) (m,c)) (
 .br (A.cmp .neq (A.call fn456 (m,c)) 0)
 (.ret (-1))
 (.more (.c0 ⟨(A.len m.2.2.2.2.2.2.2),m,c,mode,m,c,m,c,0,m,mode,c⟩ 0)))
def s457 (A:Alg):Y457→LT Int Y457
 | .c0 p a1=>
  .br (A.cmp .lss a1 p.a0)
  (.need (A.call pre468 (p.a7,p.a8,a1)) (
   .br (A.call fn468 (p.a7,p.a8,a1))
   (.br (A.cmp .eql a1 p.a11)
    (.ret a1)
    (.more (.c0 p (A.bin .add .i64 a1 1))))
   (.more (.c0 p (A.bin .add .i64 a1 1)))))
  (.ret (-1))
noncomputable def E457 (A:Alg):Info (Ty.Ts [(.int .i64)]):={ti:=tys,fns:=[(252,Tryz.f252),(288,Tryz.f288),(299,Tryz.f299)],sps:=[(251,sp456),(300,sp468)],stops:=[⟨299,2, [[0,1,2,11,12], [6]]⟩],cuts:=[],consts:=[],fin:=finD A [(.int .i64)]}
theorem t457_ok (A:Alg) (m:Medl) (c:CSt) (mode:Int):run A (E457 A) 53 (startC 252 Tryz.f252 (dvals A [yMedl,yCSt,(.int .i64)] (m,c,mode)))=(t457 A m c mode).tr cfg457:=by kernel_rfl
theorem s457_ok (A:Alg):∀y,∃n,run A (E457 A) n (advance (E457 A).sps (cfg457 y))=(s457 A y).tr cfg457
 | .c0 p a1=>⟨55,by kernel_rfl⟩
def w457:Walk Tryz.prog 252 [yMedl,yCSt,(.int .i64)] [(.int .i64)] Y457:=⟨fun (m,c,mode)=>t457 std m c mode,s457 std⟩
theorem w457_ok:w457.Ok:=
 walk_ok (E:=E457 std) ⟨tys_fit,fns_cons Tryz.func252 (by kernel_rfl) (fns_cons Tryz.func288 (by kernel_rfl) (fns_cons Tryz.func299 (by kernel_rfl) (fns_nil))),sps_cons so456 (sps_cons so468 (sps_nil)),by kernel_rfl⟩ rfl rfl rfl (by kernel_rfl) w457 cfg457 53 (fun (m,c,mode)=>t457_ok std m c mode) (s457_ok std)
def tknF (m:Medl) (c:CSt) (k:Int):Int:=bif decide (asksF m c=0) && mayF m c k then k else -1
theorem tkn_loop {p:P457c0} {m:Medl} {c:CSt} {k:Int} (h0:p.a0=mlen m) (h7:p.a7=m) (h8:p.a8=c) (h11:p.a11=k) (h:asksF m c=0):∀(j i:Nat),m.2.2.2.2.2.2.2.length - i=j→i≤m.2.2.2.2.2.2.2.length→Runs (s457 std) (.more (.c0 p (i:Int))) (bif decide ((i:Int)≤k) && mayF m c k then k else -1):=by
 have hl:=(medl_in (asks_zero h).1).2.1
 unfold mlen at hl h0
 intro j
 induction j with
 | zero=>
  intro i hj hi
  rw [runs_more,s457,h0]
  refine (runs_brF (by rw [std_cmp_lss]; exact decide_eq_false (by omega))).2 (runs_r ?_ (.ret _))
  by_cases hk:(i:Int)≤k
  ·rw [mayF,decide_eq_false (show ¬(0≤k∧k < mlen m) by unfold mlen; omega),Bool.false_and,Bool.and_false]; rfl
  ·rw [decide_eq_false hk]; rfl
 | succ j ih=>
  intro i hj hi
  rw [runs_more,s457,h0,h7,h8,h11]
  refine (runs_brT (by rw [std_cmp_lss]; exact decide_eq_true (by omega))).2 (runs_need.2 ⟨by rw [std_call]; exact decide_eq_true h,?_⟩)
  rw [show std.call fn468 (m,c,(i:Int))=mayF m c i from rfl,inc1 (i:=i) (by omega)]
  have hn:=ih (i + 1) (by omega) (by omega)
  cases hm:mayF m c i
  ·refine (runs_brF rfl).2 (runs_r ?_ hn)
   by_cases hk:(i:Int)=k
   ·rw [←hk,hm,Bool.and_false,Bool.and_false]
   ·rw [show decide (((i + 1:Nat):Int)≤k)=decide ((i:Int)≤k) by rw [Bool.eq_iff_iff]; simp; omega]
  ·refine (runs_brT rfl).2 (runs_if (p:=(i:Int)=k) eql_dec (fun hk=>?_) fun hk=>?_)
   ·exact runs_r (by rw [←hk,hm,decide_eq_true (Int.le_refl _)]; rfl) (.ret _)
   ·exact runs_r (by rw [show decide (((i + 1:Nat):Int)≤k)=decide ((i:Int)≤k) by rw [Bool.eq_iff_iff]; simp; omega]) hn
theorem tkn1 {m:Medl} {c:CSt} {k:Int}:Runs (s457 std) (t457 std m c k) (tknF m c k):=by
 unfold t457 tknF
 refine runs_need.2 ⟨rfl,?_⟩
 rw [show std.call fn456 (m,c)=asksF m c from rfl]
 by_cases h:asksF m c=0
 ·rw [decide_eq_true h]
  refine (runs_brF (cne0 h)).2 (runs_r ?_ (tkn_loop (p:=⟨mlen m,m,c,k,m,c,m,c,0,m,k,c⟩) (k:=k) rfl rfl rfl rfl h m.2.2.2.2.2.2.2.length 0 rfl (by omega)))
  by_cases hk:0≤k
  ·rw [show decide (((0:Nat):Int)≤k)=true from decide_eq_true hk]
  ·rw [mayF,decide_eq_false (show ¬(0≤k∧k < mlen m) by omega),Bool.false_and,Bool.and_false,Bool.and_false]
 ·rw [decide_eq_false h]
  exact (runs_brT (cne1 h)).2 (.ret _)
def fn457:(Medl×CSt×Int)→Int:=fun (m,c,k)=>tknF m c k
def sp457:FSpec:=⟨[yMedl,yCSt,(.int .i64)], [(.int .i64)],(@tt (Medl×CSt×Int)),fn457⟩
theorem run457 {m:Medl} {c:CSt} {mode:Int} (h:Ty.hass [yMedl,yCSt,(.int .i64)] (m,c,mode)):Runs (s457 std) (t457 std m c mode) (fn457 (m,c,mode)):=by
 exact tkn1
theorem so457:FSpec.Sound Tryz.prog 252 sp457:=
 w457_ok.sound _ _ fun (m,c,mode) _ h=>run457 h
def t441 (A:Alg) (m:Medl) (c:CSt) (req:Int):LT (CSt×Int) Empty:=
 .need (A.call (@tt (Medl×CSt)) (m,c)) (
 .br (A.cmp .neq (A.call fn456 (m,c)) 0)
 (.ret ((0,0,0,0,0),(A.call fn456 (m,c))))
 (.br (A.cmp .lss req 0)
  (.ret ((0,0,0,0,0),100))
  (.br (A.cmp .gtr req (A.len m.2.2.2.2.2.2.2))
  (.ret ((0,0,0,0,0),100))
  (.br (A.cmp .gtr req 0)
   (.need (A.call (@tt (Medl×CSt×Int)) (m,c,(A.bin .sub .i64 req 1))) (
   .br (A.cmp .geq (A.call fn457 (m,c,(A.bin .sub .i64 req 1))) 0)
    (.ret ((c.1,c.2.1,c.2.2.1,req,c.2.2.2.2),0))
    (.ret (c,0))))
   (.ret (c,0))))))
noncomputable def E441 (A:Alg):Info (Ty.Ts [yCSt,(.int .i64)]):={ti:=tys,fns:=[(195,Tryz.f195)],sps:=[(251,sp456),(252,sp457)],stops:=[],cuts:=[],consts:=[],fin:=finD A [yCSt,(.int .i64)]}
theorem t441_ok (A:Alg) (m:Medl) (c:CSt) (req:Int):run A (E441 A) 69 (startC 195 Tryz.f195 (dvals A [yMedl,yCSt,(.int .i64)] (m,c,req)))=(t441 A m c req).tr Empty.elim:=by kernel_rfl
def w441:Walk Tryz.prog 195 [yMedl,yCSt,(.int .i64)] [yCSt,(.int .i64)] Empty:=⟨fun (m,c,req)=>t441 std m c req,Empty.elim⟩
theorem w441_ok:w441.Ok:=
 walk_ok (E:=E441 std) ⟨tys_fit,fns_cons Tryz.func195 (by kernel_rfl) (fns_nil),sps_cons so456 (sps_cons so457 (sps_nil)),by kernel_rfl⟩ rfl rfl rfl (by kernel_rfl) w441 Empty.elim 69 (fun (m,c,req)=>t441_ok std m c req) (fun y=>y.elim)
def takF (m:Medl) (c:CSt) (r:Int):CSt×Int:=bif decide (asksF m c=0) then (bif decide (0≤r∧r≤mlen m) then (bif decide (0 < r) && mayF m c (r - 1) then ((c.1,c.2.1,c.2.2.1,r,c.2.2.2.2),0) else (c,0)) else ((0,0,0,0,0),100)) else ((0,0,0,0,0),asksF m c)
theorem tak1 {m:Medl} {c:CSt} {r:Int}:Runs Empty.elim (t441 std m c r) (takF m c r):=by
 unfold t441 takF
 refine runs_need.2 ⟨rfl,?_⟩
 rw [show std.call fn456 (m,c)=asksF m c from rfl,show std.call fn457 (m,c,(std.bin .sub .i64 r 1))=tknF m c (std.bin .sub .i64 r 1) from rfl]
 by_cases h:asksF m c=0
 ·have hl:=(medl_in (asks_zero h).1).2.1
  rw [decide_eq_true h]
  refine (runs_brF (cne0 h)).2 (runs_if (p:=r < 0) rfl (fun h1=>?_) fun h1=>runs_if (p:=mlen m < r) rfl (fun h2=>?_) fun h2=>?_)
  ·exact runs_r (by rw [decide_eq_false (by omega)]; rfl) (.ret _)
  ·exact runs_r (by rw [decide_eq_false (by omega)]; rfl) (.ret _)
  ·rw [decide_eq_true (show 0≤r∧r≤mlen m by omega),std_sub,w64 (by omega) (by omega)]
   refine runs_if (p:=0 < r) rfl (fun h3=>runs_need.2 ⟨rfl,?_⟩) fun h3=>?_
   ·rw [decide_eq_true h3,tknF,decide_eq_true h,Bool.true_and]
    cases hm:mayF m c (r - 1)
    ·exact (runs_brF rfl).2 (.ret _)
    ·exact (runs_brT (by rw [cond_true,std_cmp_geq]; exact decide_eq_true (by omega))).2 (.ret _)
   ·exact runs_r (by rw [decide_eq_false h3]; rfl) (.ret _)
 ·rw [decide_eq_false h]
  exact (runs_brT (cne1 h)).2 (.ret _)
def fn441:(Medl×CSt×Int)→(CSt×Int):=fun (m,c,k)=>takF m c k
def sp441:FSpec:=⟨[yMedl,yCSt,(.int .i64)], [yCSt,(.int .i64)],(@tt (Medl×CSt×Int)),fn441⟩
theorem run441 {m:Medl} {c:CSt} {req:Int} (h:Ty.hass [yMedl,yCSt,(.int .i64)] (m,c,req)):Runs Empty.elim (t441 std m c req) (fn441 (m,c,req)):=by
 exact tak1
theorem so441:FSpec.Sound Tryz.prog 195 sp441:=
 w441_ok.sound _ _ fun (m,c,req) _ h=>run441 h
def t452 (A:Alg) (m:Medl) (c:CSt) (req:Int):LT (CSt×Int) Empty:=
 .need (A.call (@tt (Medl×CSt)) (m,c)) (
 .br (A.cmp .neq (A.call fn462 (m,c)) 0)
 (.ret ((0,0,0,0,0),(A.call fn462 (m,c))))
 (.br (A.cmp .lss req 0)
  (.ret ((0,0,0,0,0),100))
  (.br (A.cmp .gtr req (A.len m.2.2.2.2.2.2.2))
  (.ret ((0,0,0,0,0),100))
  (.br (A.cmp .gtr req 0)
   (.need (A.call (@tt (Medl×CSt×Int)) (m,c,(A.bin .sub .i64 req 1))) (
   .br (A.call fn463 (m,c,(A.bin .sub .i64 req 1)))
    (.ret ((c.1,c.2.1,c.2.2.1,req,c.2.2.2.2),0))
    (.ret (c,0))))
   (.ret (c,0))))))
noncomputable def E452 (A:Alg):Info (Ty.Ts [yCSt,(.int .i64)]):={ti:=tys,fns:=[(226,Tryz.f226)],sps:=[(269,sp462),(270,sp463)],stops:=[],cuts:=[],consts:=[],fin:=finD A [yCSt,(.int .i64)]}
theorem t452_ok (A:Alg) (m:Medl) (c:CSt) (req:Int):run A (E452 A) 68 (startC 226 Tryz.f226 (dvals A [yMedl,yCSt,(.int .i64)] (m,c,req)))=(t452 A m c req).tr Empty.elim:=by kernel_rfl
def w452:Walk Tryz.prog 226 [yMedl,yCSt,(.int .i64)] [yCSt,(.int .i64)] Empty:=⟨fun (m,c,req)=>t452 std m c req,Empty.elim⟩
theorem w452_ok:w452.Ok:=
 walk_ok (E:=E452 std) ⟨tys_fit,fns_cons Tryz.func226 (by kernel_rfl) (fns_nil),sps_cons so462 (sps_cons so463 (sps_nil)),by kernel_rfl⟩ rfl rfl rfl (by kernel_rfl) w452 Empty.elim 68 (fun (m,c,req)=>t452_ok std m c req) (fun y=>y.elim)
theorem dtak1 {m:Medl} {c:CSt} {r:Int}:Runs Empty.elim (t452 std m c r) (takF m c r):=by
 unfold t452 takF
 refine runs_need.2 ⟨rfl,?_⟩
 rw [show std.call fn462 (m,c)=asksF m c from rfl,show std.call fn463 (m,c,(std.bin .sub .i64 r 1))=(decide (asksF m c=0) && mayF m c (std.bin .sub .i64 r 1)) from rfl]
 by_cases h:asksF m c=0
 ·have hl:=(medl_in (asks_zero h).1).2.1
  rw [decide_eq_true h,Bool.true_and]
  refine (runs_brF (cne0 h)).2 (runs_if (p:=r < 0) rfl (fun h1=>?_) fun h1=>runs_if (p:=mlen m < r) rfl (fun h2=>?_) fun h2=>?_)
  ·exact runs_r (by rw [decide_eq_false (by omega)]; rfl) (.ret _)
  ·exact runs_r (by rw [decide_eq_false (by omega)]; rfl) (.ret _)
  ·rw [decide_eq_true (show 0≤r∧r≤mlen m by omega),std_sub,w64 (by omega) (by omega)]
   refine runs_if (p:=0 < r) rfl (fun h3=>runs_need.2 ⟨rfl,?_⟩) fun h3=>?_
   ·rw [decide_eq_true h3,Bool.true_and]
    cases hm:mayF m c (r - 1)
    ·exact (runs_brF rfl).2 (.ret _)
    ·exact (runs_brT rfl).2 (.ret _)
   ·exact runs_r (by rw [decide_eq_false h3]; rfl) (.ret _)
 ·rw [decide_eq_false h]
  exact (runs_brT (cne1 h)).2 (.ret _)
def fn452:(Medl×CSt×Int)→(CSt×Int):=fun (m,c,k)=>takF m c k
def sp452:FSpec:=⟨[yMedl,yCSt,(.int .i64)], [yCSt,(.int .i64)],(@tt (Medl×CSt×Int)),fn452⟩
theorem run452 {m:Medl} {c:CSt} {req:Int} (h:Ty.hass [yMedl,yCSt,(.int .i64)] (m,c,req)):Runs Empty.elim (t452 std m c req) (fn452 (m,c,req)):=by
 exact dtak1
theorem so452:FSpec.Sound Tryz.prog 226 sp452:=
 w452_ok.sound _ _ fun (m,c,req) _ h=>run452 h
open Go.Ev.Pl
def t453 (A:Alg) (m:Medl) (node:Int):LT Int Empty:=
 .need (A.call (@tt Medl) m) (
 .br (A.cmp .neq (A.call fn124 m) 0)
 (.ret (A.call fn124 m))
 (.need (A.call (@tt (Int×Int×Int)) (node,0,(A.bin .sub .i64 m.1 1))) (
  .br (A.not (A.call fn158 (node,0,(A.bin .sub .i64 m.1 1))))
  (.ret 2)
  (.ret 0))))
noncomputable def E453 (A:Alg):Info (Ty.Ts [(.int .i64)]):={ti:=tys,fns:=[(227,Tryz.f227)],sps:=[(81,sp124),(179,sp158)],stops:=[],cuts:=[],consts:=[],fin:=finD A [(.int .i64)]}
theorem t453_ok (A:Alg) (m:Medl) (node:Int):run A (E453 A) 41 (startC 227 Tryz.f227 (dvals A [yMedl,(.int .i64)] (m,node)))=(t453 A m node).tr Empty.elim:=by kernel_rfl
def w453:Walk Tryz.prog 227 [yMedl,(.int .i64)] [(.int .i64)] Empty:=⟨fun (m,node)=>t453 std m node,Empty.elim⟩
theorem w453_ok:w453.Ok:=
 walk_ok (E:=E453 std) ⟨tys_fit,fns_cons Tryz.func227 (by kernel_rfl) (fns_nil),sps_cons so124 (sps_cons so158 (sps_nil)),by kernel_rfl⟩ rfl rfl rfl (by kernel_rfl) w453 Empty.elim 41 (fun (m,node)=>t453_ok std m node) (fun y=>y.elim)
theorem need_at {α:Type} {l:List α} {i n:Int} (e:(l.length:Int)=n) (h0:0≤i) (h1:i < n):std.and (std.cmp .leq 0 i) (std.cmp .lss i (std.len l))=true:=need_in h0 (e ▸ h1)
def nodeF (m:Medl) (n:Int):Int:=bif medlB m then (bif decide (0≤n∧n≤m.1 - 1) then 0 else 2) else 70
theorem node_zero {m:Medl} {n:Int} (h:nodeF m n=0):medlB m=true∧0≤n∧n≤m.1 - 1:=by
 unfold nodeF at h
 cases hm:medlB m
 ·rw [hm,cond_false] at h; exact absurd h (by decide)
 ·by_cases hn:0≤n∧n≤m.1 - 1
  ·exact ⟨rfl,hn⟩
  ·rw [hm,decide_eq_false hn,cond_true,cond_false] at h; exact absurd h (by decide)
theorem pnode1 {m:Medl} {n:Int}:Runs Empty.elim (t453 std m n) (nodeF m n):=by
 unfold t453 nodeF
 refine runs_need.2 ⟨rfl,?_⟩
 rw [show std.call fn124 m=medlS m from rfl,medlS]
 cases hm:medlB m
 ·exact (runs_brT rfl).2 (.ret _)
 have hl:=(medl_in hm).1
 rw [std_sub,w64 (by omega) (by omega)]
 refine (runs_brF rfl).2 (runs_need.2 ⟨rfl,runs_in (fun h=>?_) fun h=>?_⟩)
 ·exact runs_r (by rw [decide_eq_false h]; rfl) (.ret _)
 ·exact runs_r (by rw [decide_eq_true h]; rfl) (.ret _)
def fn453:(Medl×Int)→Int:=fun (m,n)=>nodeF m n
def sp453:FSpec:=⟨[yMedl,(.int .i64)], [(.int .i64)],(@tt (Medl×Int)),fn453⟩
theorem run453 {m:Medl} {node:Int} (h:Ty.hass [yMedl,(.int .i64)] (m,node)):Runs Empty.elim (t453 std m node) (fn453 (m,node)):=by
 exact pnode1
theorem so453:FSpec.Sound Tryz.prog 227 sp453:=
 w453_ok.sound _ _ fun (m,node) _ h=>run453 h
def t436 (A:Alg) (m:Medl) (n:Int):LT Int Empty:=
 .need (A.call (@tt Medl) m) (
 .br (A.cmp .neq (A.call fn366 m) 0)
 (.ret (A.call fn366 m))
 (.br (A.cmp .lss n 0)
  (.ret 2)
  (.br (A.cmp .geq n m.1)
  (.ret 2)
  (.ret 0))))
noncomputable def E436 (A:Alg):Info (Ty.Ts [(.int .i64)]):={ti:=tys,fns:=[(190,Tryz.f190)],sps:=[(82,sp366)],stops:=[],cuts:=[],consts:=[],fin:=finD A [(.int .i64)]}
theorem t436_ok (A:Alg) (m:Medl) (n:Int):run A (E436 A) 43 (startC 190 Tryz.f190 (dvals A [yMedl,(.int .i64)] (m,n)))=(t436 A m n).tr Empty.elim:=by kernel_rfl
def w436:Walk Tryz.prog 190 [yMedl,(.int .i64)] [(.int .i64)] Empty:=⟨fun (m,n)=>t436 std m n,Empty.elim⟩
theorem w436_ok:w436.Ok:=
 walk_ok (E:=E436 std) ⟨tys_fit,fns_cons Tryz.func190 (by kernel_rfl) (fns_nil),sps_cons so366 (sps_nil),by kernel_rfl⟩ rfl rfl rfl (by kernel_rfl) w436 Empty.elim 43 (fun (m,n)=>t436_ok std m n) (fun y=>y.elim)
theorem dnode1 {m:Medl} {n:Int}:Runs Empty.elim (t436 std m n) (nodeF m n):=by
 unfold t436 nodeF
 refine runs_need.2 ⟨rfl,?_⟩
 rw [show std.call fn366 m=medlS m from rfl,medlS]
 cases hm:medlB m
 ·exact (runs_brT rfl).2 (.ret _)
 refine (runs_brF rfl).2 (runs_if (p:=n < 0) rfl (fun h=>?_) fun h1=>runs_if (p:=m.1≤n) rfl (fun h=>?_) fun h2=>?_)
 ·exact runs_r (by rw [decide_eq_false (by omega)]; rfl) (.ret _)
 ·exact runs_r (by rw [decide_eq_false (by omega)]; rfl) (.ret _)
 ·exact runs_r (by rw [decide_eq_true (by omega)]; rfl) (.ret _)
def fn436:(Medl×Int)→Int:=fun (m,n)=>nodeF m n
def sp436:FSpec:=⟨[yMedl,(.int .i64)], [(.int .i64)],(@tt (Medl×Int)),fn436⟩
theorem run436 {m:Medl} {n:Int} (h:Ty.hass [yMedl,(.int .i64)] (m,n)):Runs Empty.elim (t436 std m n) (fn436 (m,n)):=by
 exact dnode1
theorem so436:FSpec.Sound Tryz.prog 190 sp436:=
 w436_ok.sound _ _ fun (m,n) _ h=>run436 h
def t430 (A:Alg) (m:Medl) (node:Int):LT (Int×Int) Empty:=
 .need (A.call (@tt (Medl×Int)) (m,node)) (
 .br (A.cmp .neq (A.call fn453 (m,node)) 0)
 (.ret (0,(A.call fn453 (m,node))))
 (.ret ((A.bin .mul .i64 2 (A.bin .add .i64 node 1)),0)))
noncomputable def E430 (A:Alg):Info (Ty.Ts [(.int .i64),(.int .i64)]):={ti:=tys,fns:=[(158,Tryz.f158)],sps:=[(227,sp453)],stops:=[],cuts:=[],consts:=[],fin:=finD A [(.int .i64),(.int .i64)]}
theorem t430_ok (A:Alg) (m:Medl) (node:Int):run A (E430 A) 35 (startC 158 Tryz.f158 (dvals A [yMedl,(.int .i64)] (m,node)))=(t430 A m node).tr Empty.elim:=by kernel_rfl
def w430:Walk Tryz.prog 158 [yMedl,(.int .i64)] [(.int .i64),(.int .i64)] Empty:=⟨fun (m,node)=>t430 std m node,Empty.elim⟩
theorem w430_ok:w430.Ok:=
 walk_ok (E:=E430 std) ⟨tys_fit,fns_cons Tryz.func158 (by kernel_rfl) (fns_nil),sps_cons so453 (sps_nil),by kernel_rfl⟩ rfl rfl rfl (by kernel_rfl) w430 Empty.elim 35 (fun (m,node)=>t430_ok std m node) (fun y=>y.elim)
def rtyF (m:Medl) (n:Int):Int×Int:=bif decide (nodeF m n=0) then ((std.bin .mul .i64 2 (std.bin .add .i64 n 1)),0) else (0,nodeF m n)
theorem prty1 {m:Medl} {n:Int}:Runs Empty.elim (t430 std m n) (rtyF m n):=by
 unfold t430 rtyF
 refine runs_need.2 ⟨rfl,runs_if (p:=¬nodeF m n=0) cneq_dec (fun h=>?_) fun h=>?_⟩
 ·exact runs_r (by rw [decide_eq_false h]; rfl) (.ret _)
 ·exact runs_r (by rw [decide_eq_true (by omega)]; rfl) (.ret _)
def fn430:(Medl×Int)→(Int×Int):=fun (m,n)=>rtyF m n
def sp430:FSpec:=⟨[yMedl,(.int .i64)], [(.int .i64),(.int .i64)],(@tt (Medl×Int)),fn430⟩
theorem run430 {m:Medl} {node:Int} (h:Ty.hass [yMedl,(.int .i64)] (m,node)):Runs Empty.elim (t430 std m node) (fn430 (m,node)):=by
 exact prty1
theorem so430:FSpec.Sound Tryz.prog 158 sp430:=
 w430_ok.sound _ _ fun (m,node) _ h=>run430 h
def t375 (A:Alg) (m:Medl) (n:Int):LT (Int×Int) Empty:=
 .need (A.call (@tt (Medl×Int)) (m,n)) (
 .br (A.cmp .neq (A.call fn436 (m,n)) 0)
 (.ret (0,(A.call fn436 (m,n))))
 (.ret ((A.bin .add .i64 (A.bin .mul .i64 4 m.1) (A.bin .mul .i64 2 (A.bin .add .i64 n 1))),0)))
noncomputable def E375 (A:Alg):Info (Ty.Ts [(.int .i64),(.int .i64)]):={ti:=tys,fns:=[(95,Tryz.f95)],sps:=[(190,sp436)],stops:=[],cuts:=[],consts:=[],fin:=finD A [(.int .i64),(.int .i64)]}
theorem t375_ok (A:Alg) (m:Medl) (n:Int):run A (E375 A) 39 (startC 95 Tryz.f95 (dvals A [yMedl,(.int .i64)] (m,n)))=(t375 A m n).tr Empty.elim:=by kernel_rfl
def w375:Walk Tryz.prog 95 [yMedl,(.int .i64)] [(.int .i64),(.int .i64)] Empty:=⟨fun (m,n)=>t375 std m n,Empty.elim⟩
theorem w375_ok:w375.Ok:=
 walk_ok (E:=E375 std) ⟨tys_fit,fns_cons Tryz.func95 (by kernel_rfl) (fns_nil),sps_cons so436 (sps_nil),by kernel_rfl⟩ rfl rfl rfl (by kernel_rfl) w375 Empty.elim 39 (fun (m,n)=>t375_ok std m n) (fun y=>y.elim)
def lisF (m:Medl) (n:Int):Int×Int:=bif decide (nodeF m n=0) then ((std.bin .add .i64 (std.bin .mul .i64 4 m.1) (std.bin .mul .i64 2 (std.bin .add .i64 n 1))),0) else (0,nodeF m n)
theorem dlis1 {m:Medl} {n:Int}:Runs Empty.elim (t375 std m n) (lisF m n):=by
 unfold t375 lisF
 refine runs_need.2 ⟨rfl,runs_if (p:=¬nodeF m n=0) cneq_dec (fun h=>?_) fun h=>?_⟩
 ·exact runs_r (by rw [decide_eq_false h]; rfl) (.ret _)
 ·exact runs_r (by rw [decide_eq_true (by omega)]; rfl) (.ret _)
def fn375:(Medl×Int)→(Int×Int):=fun (m,n)=>lisF m n
def sp375:FSpec:=⟨[yMedl,(.int .i64)], [(.int .i64),(.int .i64)],(@tt (Medl×Int)),fn375⟩
theorem run375 {m:Medl} {n:Int} (h:Ty.hass [yMedl,(.int .i64)] (m,n)):Runs Empty.elim (t375 std m n) (fn375 (m,n)):=by
 exact dlis1
theorem so375:FSpec.Sound Tryz.prog 95 sp375:=
 w375_ok.sound _ _ fun (m,n) _ h=>run375 h
def t407 (A:Alg) (m:Medl) (node:Int):LT (Int×Int) Empty:=
 .need (A.call (@tt (Medl×Int)) (m,node)) (
 .br (A.cmp .neq (A.call fn430 (m,node)).2 0)
 (.ret (0,(A.call fn430 (m,node)).2))
 (.ret ((A.bin .add .i64 (A.bin .mul .i64 4 m.1) (A.call fn430 (m,node)).1),0)))
noncomputable def E407 (A:Alg):Info (Ty.Ts [(.int .i64),(.int .i64)]):={ti:=tys,fns:=[(128,Tryz.f128)],sps:=[(158,sp430)],stops:=[],cuts:=[],consts:=[],fin:=finD A [(.int .i64),(.int .i64)]}
theorem t407_ok (A:Alg) (m:Medl) (node:Int):run A (E407 A) 41 (startC 128 Tryz.f128 (dvals A [yMedl,(.int .i64)] (m,node)))=(t407 A m node).tr Empty.elim:=by kernel_rfl
def w407:Walk Tryz.prog 128 [yMedl,(.int .i64)] [(.int .i64),(.int .i64)] Empty:=⟨fun (m,node)=>t407 std m node,Empty.elim⟩
theorem w407_ok:w407.Ok:=
 walk_ok (E:=E407 std) ⟨tys_fit,fns_cons Tryz.func128 (by kernel_rfl) (fns_nil),sps_cons so430 (sps_nil),by kernel_rfl⟩ rfl rfl rfl (by kernel_rfl) w407 Empty.elim 41 (fun (m,node)=>t407_ok std m node) (fun y=>y.elim)
theorem plis1 {m:Medl} {n:Int}:Runs Empty.elim (t407 std m n) (lisF m n):=by
 unfold t407 lisF
 refine runs_need.2 ⟨rfl,?_⟩
 rw [show std.call fn430 (m,n)=rtyF m n from rfl,rtyF]
 by_cases h:nodeF m n=0
 ·rw [decide_eq_true h]; exact (runs_brF rfl).2 (.ret _)
 ·rw [decide_eq_false h]; exact (runs_brT (cne1 h)).2 (.ret _)
def fn407:(Medl×Int)→(Int×Int):=fun (m,n)=>lisF m n
def sp407:FSpec:=⟨[yMedl,(.int .i64)], [(.int .i64),(.int .i64)],(@tt (Medl×Int)),fn407⟩
theorem run407 {m:Medl} {node:Int} (h:Ty.hass [yMedl,(.int .i64)] (m,node)):Runs Empty.elim (t407 std m node) (fn407 (m,node)):=by
 exact plis1
theorem so407:FSpec.Sound Tryz.prog 128 sp407:=
 w407_ok.sound _ _ fun (m,node) _ h=>run407 h
def t447 (A:Alg) (m:Medl) (mode:Int) (node:Int):LT (Int×Int) Empty:=
 .need (A.call (@tt (Medl×Int)) (m,node)) (
 .br (A.cmp .neq (A.call fn453 (m,node)) 0)
 (.ret (0,(A.call fn453 (m,node))))
 (.need (A.call (@tt (Int×Int×Int)) (mode,0,(A.bin .sub .i64 (A.len m.2.2.2.2.2.2.2) 1))) (
  .br (A.not (A.call fn158 (mode,0,(A.bin .sub .i64 (A.len m.2.2.2.2.2.2.2) 1))))
  (.ret (0,2))
  (.need (A.and (A.cmp .leq 0 mode) (A.cmp .lss mode (A.len m.2.2.2.2.2.2.2))) (
   .need (A.and (A.cmp .leq 0 node) (A.cmp .lss node (A.len (A.nth yMode m.2.2.2.2.2.2.2 mode:Mode).2.1))) (
   .need (A.and (A.cmp .leq 0 node) (A.cmp .lss node (A.len (A.nth yMode m.2.2.2.2.2.2.2 mode:Mode).1))) (
    .need (A.call (@tt (Bool×Int)) ((A.nth .bool (A.nth yMode m.2.2.2.2.2.2.2 mode:Mode).2.1 node:Bool),(A.nth (.int .i64) (A.nth yMode m.2.2.2.2.2.2.2 mode:Mode).1 node:Int))) (
    .ret ((A.call fn183 ((A.nth .bool (A.nth yMode m.2.2.2.2.2.2.2 mode:Mode).2.1 node:Bool),(A.nth (.int .i64) (A.nth yMode m.2.2.2.2.2.2.2 mode:Mode).1 node:Int))),0)))))))))
noncomputable def E447 (A:Alg):Info (Ty.Ts [(.int .i64),(.int .i64)]):={ti:=tys,fns:=[(208,Tryz.f208)],sps:=[(179,sp158),(259,sp183),(227,sp453)],stops:=[],cuts:=[],consts:=[],fin:=finD A [(.int .i64),(.int .i64)]}
theorem t447_ok (A:Alg) (m:Medl) (mode:Int) (node:Int):run A (E447 A) 66 (startC 208 Tryz.f208 (dvals A [yMedl,(.int .i64),(.int .i64)] (m,mode,node)))=(t447 A m mode node).tr Empty.elim:=by kernel_rfl
def w447:Walk Tryz.prog 208 [yMedl,(.int .i64),(.int .i64)] [(.int .i64),(.int .i64)] Empty:=⟨fun (m,mode,node)=>t447 std m mode node,Empty.elim⟩
theorem w447_ok:w447.Ok:=
 walk_ok (E:=E447 std) ⟨tys_fit,fns_cons Tryz.func208 (by kernel_rfl) (fns_nil),sps_cons so158 (sps_cons so183 (sps_cons so453 (sps_nil))),by kernel_rfl⟩ rfl rfl rfl (by kernel_rfl) w447 Empty.elim 66 (fun (m,mode,node)=>t447_ok std m mode node) (fun y=>y.elim)
def kindF (m:Medl) (k n:Int):Int×Int:=bif decide (nodeF m n=0) then (bif decide (0≤k∧k≤mlen m - 1) then (fn183 ((std.nth .bool (std.nth yMode m.2.2.2.2.2.2.2 k:Mode).2.1 n:Bool),(std.nth (.int .i64) (std.nth yMode m.2.2.2.2.2.2.2 k:Mode).1 n:Int)),0) else (0,2)) else (0,nodeF m n)
theorem pkind1 {m:Medl} {k n:Int}:Runs Empty.elim (t447 std m k n) (kindF m k n):=by
 unfold t447 kindF
 refine runs_need.2 ⟨rfl,?_⟩
 rw [show std.call fn453 (m,n)=nodeF m n from rfl]
 by_cases h:nodeF m n=0
 ·obtain ⟨hm,h1,h2⟩:=node_zero h
  have hl:=(medl_in hm).2.1
  rw [decide_eq_true h]
  have e:std.bin .sub .i64 (mlen m) 1=mlen m - 1:=by rw [std_sub,w64 (by omega) (by omega)]
  rw [show std.bin .sub .i64 (std.len m.2.2.2.2.2.2.2) 1=mlen m - 1 from e]
  refine (runs_brF (cne0 h)).2 (runs_need.2 ⟨rfl,runs_in (fun h3=>?_) fun h3=>?_⟩)
  ·exact runs_r (by rw [decide_eq_false h3]; rfl) (.ret _)
  ·have hx:=mode_lens (mode_at hm h3.1 (show k < mlen m by omega))
   refine runs_need.2 ⟨need_in h3.1 (show k < mlen m by omega),runs_need.2 ⟨need_at hx.2.1 h1 (by omega),runs_need.2 ⟨need_at hx.1 h1 (by omega),runs_need.2 ⟨rfl,?_⟩⟩⟩⟩
   exact runs_r (by rw [decide_eq_true h3]; rfl) (.ret _)
 ·rw [decide_eq_false h]; exact (runs_brT (cne1 h)).2 (.ret _)
def fn447:(Medl×Int×Int)→(Int×Int):=fun (m,c,k)=>kindF m c k
def sp447:FSpec:=⟨[yMedl,(.int .i64),(.int .i64)], [(.int .i64),(.int .i64)],(@tt (Medl×Int×Int)),fn447⟩
theorem run447 {m:Medl} {mode:Int} {node:Int} (h:Ty.hass [yMedl,(.int .i64),(.int .i64)] (m,mode,node)):Runs Empty.elim (t447 std m mode node) (fn447 (m,mode,node)):=by
 exact pkind1
theorem so447:FSpec.Sound Tryz.prog 208 sp447:=
 w447_ok.sound _ _ fun (m,mode,node) _ h=>run447 h
def t439 (A:Alg) (m:Medl) (mode:Int) (n:Int):LT (Int×Int) Empty:=
 .need (A.call (@tt (Medl×Int)) (m,n)) (
 .br (A.cmp .neq (A.call fn436 (m,n)) 0)
 (.ret (0,(A.call fn436 (m,n))))
 (.br (A.cmp .lss mode 0)
  (.ret (0,2))
  (.br (A.cmp .geq mode (A.len m.2.2.2.2.2.2.2))
  (.ret (0,2))
  (.need (A.and (A.cmp .leq 0 mode) (A.cmp .lss mode (A.len m.2.2.2.2.2.2.2))) (
   .need (A.and (A.cmp .leq 0 n) (A.cmp .lss n (A.len (A.nth yMode m.2.2.2.2.2.2.2 mode:Mode).2.1))) (
   .need (A.and (A.cmp .leq 0 n) (A.cmp .lss n (A.len (A.nth yMode m.2.2.2.2.2.2.2 mode:Mode).1))) (
    .need (A.call (@tt (Bool×Int)) ((A.nth .bool (A.nth yMode m.2.2.2.2.2.2.2 mode:Mode).2.1 n:Bool),(A.nth (.int .i64) (A.nth yMode m.2.2.2.2.2.2.2 mode:Mode).1 n:Int))) (
    .ret ((A.call fn169 ((A.nth .bool (A.nth yMode m.2.2.2.2.2.2.2 mode:Mode).2.1 n:Bool),(A.nth (.int .i64) (A.nth yMode m.2.2.2.2.2.2.2 mode:Mode).1 n:Int))),0)))))))))
noncomputable def E439 (A:Alg):Info (Ty.Ts [(.int .i64),(.int .i64)]):={ti:=tys,fns:=[(193,Tryz.f193)],sps:=[(235,sp169),(190,sp436)],stops:=[],cuts:=[],consts:=[],fin:=finD A [(.int .i64),(.int .i64)]}
theorem t439_ok (A:Alg) (m:Medl) (mode:Int) (n:Int):run A (E439 A) 68 (startC 193 Tryz.f193 (dvals A [yMedl,(.int .i64),(.int .i64)] (m,mode,n)))=(t439 A m mode n).tr Empty.elim:=by kernel_rfl
def w439:Walk Tryz.prog 193 [yMedl,(.int .i64),(.int .i64)] [(.int .i64),(.int .i64)] Empty:=⟨fun (m,mode,n)=>t439 std m mode n,Empty.elim⟩
theorem w439_ok:w439.Ok:=
 walk_ok (E:=E439 std) ⟨tys_fit,fns_cons Tryz.func193 (by kernel_rfl) (fns_nil),sps_cons so169 (sps_cons so436 (sps_nil)),by kernel_rfl⟩ rfl rfl rfl (by kernel_rfl) w439 Empty.elim 68 (fun (m,mode,n)=>t439_ok std m mode n) (fun y=>y.elim)
theorem dkind1 {m:Medl} {k n:Int}:Runs Empty.elim (t439 std m k n) (kindF m k n):=by
 unfold t439 kindF
 refine runs_need.2 ⟨rfl,?_⟩
 rw [show std.call fn436 (m,n)=nodeF m n from rfl]
 by_cases h:nodeF m n=0
 ·obtain ⟨hm,h1,h2⟩:=node_zero h
  have hl:=(medl_in hm).2.1
  rw [decide_eq_true h]
  refine (runs_brF (cne0 h)).2 (runs_if (p:=k < 0) rfl (fun h3=>?_) fun h3=>runs_if (p:=mlen m≤k) rfl (fun h4=>?_) fun h4=>?_)
  ·exact runs_r (by rw [decide_eq_false (by omega)]; rfl) (.ret _)
  ·exact runs_r (by rw [decide_eq_false (by omega)]; rfl) (.ret _)
  ·have h5:0≤k∧k≤mlen m - 1:=by omega
   have hx:=mode_lens (mode_at hm h5.1 (show k < mlen m by omega))
   refine runs_need.2 ⟨need_in h5.1 (show k < mlen m by omega),runs_need.2 ⟨need_at hx.2.1 h1 (by omega),runs_need.2 ⟨need_at hx.1 h1 (by omega),runs_need.2 ⟨rfl,?_⟩⟩⟩⟩
   exact runs_r (by rw [decide_eq_true h5]; rfl) (.ret _)
 ·rw [decide_eq_false h]; exact (runs_brT (cne1 h)).2 (.ret _)
def fn439:(Medl×Int×Int)→(Int×Int):=fun (m,c,k)=>kindF m c k
def sp439:FSpec:=⟨[yMedl,(.int .i64),(.int .i64)], [(.int .i64),(.int .i64)],(@tt (Medl×Int×Int)),fn439⟩
theorem run439 {m:Medl} {mode:Int} {n:Int} (h:Ty.hass [yMedl,(.int .i64),(.int .i64)] (m,mode,n)):Runs Empty.elim (t439 std m mode n) (fn439 (m,mode,n)):=by
 exact dkind1
theorem so439:FSpec.Sound Tryz.prog 193 sp439:=
 w439_ok.sound _ _ fun (m,mode,n) _ h=>run439 h
def stepF (c:CSt) (n:Int):CSt×Int:=bif decide (chkS (c,n)=0) then (bif decide (c.2.1 + 1=n) then (bif decide (c.2.2.2.1=0) then (((c.1 + 1).tmod 256,0,c.2.2),0) else (((c.1 + 1).tmod 256,0,c.2.2.2.1 - 1,0,c.2.2.2.2),0)) else ((c.1,c.2.1 + 1,c.2.2),0)) else ((0,0,0,0,0),chkS (c,n))
def t455 (A:Alg) (node:Int):LT Int Empty:=
 .br (A.cmp .lss node 0)
 (.ret 0)
 (.br (A.cmp .geq node 8)
 (.ret 0)
 (.need (A.cmp .leq 0 node) (
  .ret (A.bin .shl .i64 1 node))))
noncomputable def E455 (A:Alg):Info (Ty.Ts [(.int .i64)]):={ti:=tys,fns:=[(250,Tryz.f250)],sps:=[],stops:=[],cuts:=[],consts:=[],fin:=finD A [(.int .i64)]}
theorem t455_ok (A:Alg) (node:Int):run A (E455 A) 28 (startC 250 Tryz.f250 (dvals A [(.int .i64)] node))=(t455 A node).tr Empty.elim:=by kernel_rfl
def w455:Walk Tryz.prog 250 [(.int .i64)] [(.int .i64)] Empty:=⟨fun node=>t455 std node,Empty.elim⟩
theorem w455_ok:w455.Ok:=
 walk_ok (E:=E455 std) ⟨tys_fit,fns_cons Tryz.func250 (by kernel_rfl) (fns_nil),sps_nil,by kernel_rfl⟩ rfl rfl rfl (by kernel_rfl) w455 Empty.elim 28 (fun node=>t455_ok std node) (fun y=>y.elim)
def bitF (n:Int):Int:=bif decide (0≤n∧n≤7) then std.bin .shl .i64 1 n else 0
theorem bit1 {n:Int}:Runs Empty.elim (t455 std n) (bitF n):=by
 unfold t455 bitF
 refine runs_if (p:=n < 0) rfl (fun h=>?_) fun h1=>runs_if (p:=8≤n) rfl (fun h=>?_) fun h2=>runs_need.2 ⟨decide_eq_true (by omega),?_⟩
 ·exact runs_r (by rw [decide_eq_false (by omega)]; rfl) (.ret _)
 ·exact runs_r (by rw [decide_eq_false (by omega)]; rfl) (.ret _)
 ·exact runs_r (by rw [decide_eq_true (by omega)]; rfl) (.ret _)
def fn455:Int→Int:=bitF
def sp455:FSpec:=⟨[(.int .i64)], [(.int .i64)],(@tt Int),fn455⟩
theorem run455 {node:Int} (h:Ty.hass [(.int .i64)] node):Runs Empty.elim (t455 std node) (fn455 node):=by
 exact bit1
theorem so455:FSpec.Sound Tryz.prog 250 sp455:=
 w455_ok.sound _ _ fun node _ h=>run455 h
def t435 (A:Alg) (c:CSt) (node:Int):LT Bool Empty:=
 .need (A.call (@tt Int) node) (
 .ret (A.cmp .neq (A.bin .and .i64 c.2.2.2.2 (A.call fn455 node)) 0))
noncomputable def E435 (A:Alg):Info (Ty.Ts [.bool]):={ti:=tys,fns:=[(188,Tryz.f188)],sps:=[(250,sp455)],stops:=[],cuts:=[],consts:=[],fin:=finD A [.bool]}
theorem t435_ok (A:Alg) (c:CSt) (node:Int):run A (E435 A) 21 (startC 188 Tryz.f188 (dvals A [yCSt,(.int .i64)] (c,node)))=(t435 A c node).tr Empty.elim:=by kernel_rfl
def w435:Walk Tryz.prog 188 [yCSt,(.int .i64)] [.bool] Empty:=⟨fun (c,node)=>t435 std c node,Empty.elim⟩
theorem w435_ok:w435.Ok:=
 walk_ok (E:=E435 std) ⟨tys_fit,fns_cons Tryz.func188 (by kernel_rfl) (fns_nil),sps_cons so455 (sps_nil),by kernel_rfl⟩ rfl rfl rfl (by kernel_rfl) w435 Empty.elim 21 (fun (c,node)=>t435_ok std c node) (fun y=>y.elim)
theorem and0 {x:Int}:std.bin .and .i64 x 0=0:=by
 show IntKind.i64.wrap (((BitVec.ofInt 64 x &&& BitVec.ofInt 64 0).toNat:Nat):Int)=0
 rw [show BitVec.ofInt 64 0=0#64 from rfl,BitVec.and_zero]; rfl
def hasF (c:CSt) (n:Int):Bool:=bif decide (0≤n∧n≤7) then std.cmp .neq (std.bin .and .i64 c.2.2.2.2 (std.bin .shl .i64 1 n)) 0 else false
theorem phas1 {c:CSt} {n:Int}:Runs Empty.elim (t435 std c n) (hasF c n):=by
 unfold t435 hasF
 refine runs_need.2 ⟨rfl,runs_r ?_ (.ret _)⟩
 rw [show std.call fn455 n=bitF n from rfl,bitF]
 cases decide (0≤n∧n≤7)
 ·rw [cond_false,cond_false,and0]; rfl
 ·rfl
def fn435:(CSt×Int)→Bool:=fun (m,c)=>hasF m c
def sp435:FSpec:=⟨[yCSt,(.int .i64)], [.bool],(@tt (CSt×Int)),fn435⟩
theorem run435 {c:CSt} {node:Int} (h:Ty.hass [yCSt,(.int .i64)] (c,node)):Runs Empty.elim (t435 std c node) (fn435 (c,node)):=by
 exact phas1
theorem so435:FSpec.Sound Tryz.prog 188 sp435:=
 w435_ok.sound _ _ fun (c,node) _ h=>run435 h
def t438 (A:Alg) (n:Int):LT Bool Empty:=
 .br (A.cmp .geq n 0)
 (.ret (A.cmp .lss n 8))
 (.ret false)
noncomputable def E438 (A:Alg):Info (Ty.Ts [.bool]):={ti:=tys,fns:=[(192,Tryz.f192)],sps:=[],stops:=[],cuts:=[],consts:=[],fin:=finD A [.bool]}
theorem t438_ok (A:Alg) (n:Int):run A (E438 A) 20 (startC 192 Tryz.f192 (dvals A [(.int .i64)] n))=(t438 A n).tr Empty.elim:=by kernel_rfl
def w438:Walk Tryz.prog 192 [(.int .i64)] [.bool] Empty:=⟨fun n=>t438 std n,Empty.elim⟩
theorem w438_ok:w438.Ok:=
 walk_ok (E:=E438 std) ⟨tys_fit,fns_cons Tryz.func192 (by kernel_rfl) (fns_nil),sps_nil,by kernel_rfl⟩ rfl rfl rfl (by kernel_rfl) w438 Empty.elim 20 (fun n=>t438_ok std n) (fun y=>y.elim)
def fn438:Int→Bool:=fun n=>(t438 std n).val (Ty.dflts [.bool])
def sp438:FSpec:=⟨[(.int .i64)], [.bool],(@tt Int),fn438⟩
theorem eqs438 (n:Int):(t438 std n).Eqs:=by simp only [t438,LT.Eqs,eqV,eqI,eqB,eqK,and_self,true_and,and_true]
theorem pre438_ok {n:Int} (h:Ty.hass [(.int .i64)] n):(t438 std n).pre=true:=by
 simp [t438,LT.pre,std_call,tt_eq]
theorem so438:FSpec.Sound Tryz.prog 192 sp438:=
 w438_ok.sound _ _ fun n _ h=>LT.runs (d:=Ty.dflts [.bool]) (eqs438 n) (pre438_ok h)
def t378 (A:Alg) (c:CSt) (n:Int):LT Bool Empty:=
 .need (A.call (@tt Int) n) (
 .br (A.call fn438 n)
 (.need (A.cmp .leq 0 (A.conv .u64 n)) (
  .ret (A.cmp .neq (A.bin .and .i64 c.2.2.2.2 (A.bin .shl .i64 1 (A.conv .u64 n))) 0)))
 (.ret false))
noncomputable def E378 (A:Alg):Info (Ty.Ts [.bool]):={ti:=tys,fns:=[(98,Tryz.f98)],sps:=[(192,sp438)],stops:=[],cuts:=[],consts:=[],fin:=finD A [.bool]}
theorem t378_ok (A:Alg) (c:CSt) (n:Int):run A (E378 A) 26 (startC 98 Tryz.f98 (dvals A [yCSt,(.int .i64)] (c,n)))=(t378 A c n).tr Empty.elim:=by kernel_rfl
def w378:Walk Tryz.prog 98 [yCSt,(.int .i64)] [.bool] Empty:=⟨fun (c,n)=>t378 std c n,Empty.elim⟩
theorem w378_ok:w378.Ok:=
 walk_ok (E:=E378 std) ⟨tys_fit,fns_cons Tryz.func98 (by kernel_rfl) (fns_nil),sps_cons so438 (sps_nil),by kernel_rfl⟩ rfl rfl rfl (by kernel_rfl) w378 Empty.elim 26 (fun (c,n)=>t378_ok std c n) (fun y=>y.elim)
theorem dhas1 {c:CSt} {n:Int}:Runs Empty.elim (t378 std c n) (hasF c n):=by
 unfold t378 hasF
 refine runs_need.2 ⟨rfl,?_⟩
 rw [show std.call fn438 n=(bif decide (0≤n) then decide (n < 8) else false) from rfl]
 by_cases h:0≤n∧n≤7
 ·have e:std.conv .u64 n=n:=by
   obtain ⟨k,rfl⟩:∃k:Nat,n=k:=⟨n.toNat,by omega⟩
   exact conv_nat (by omega)
  rw [decide_eq_true h,decide_eq_true h.1,decide_eq_true (show n < 8 by omega),e]
  exact (runs_brT rfl).2 (runs_need.2 ⟨decide_eq_true h.1,.ret _⟩)
 ·rw [decide_eq_false h]
  refine (runs_brF ?_).2 (.ret _)
  by_cases h1:0≤n
  ·rw [decide_eq_true h1,cond_true]; exact decide_eq_false (by omega)
  ·rw [decide_eq_false h1]; rfl
def fn378:(CSt×Int)→Bool:=fun (m,c)=>hasF m c
def sp378:FSpec:=⟨[yCSt,(.int .i64)], [.bool],(@tt (CSt×Int)),fn378⟩
theorem run378 {c:CSt} {n:Int} (h:Ty.hass [yCSt,(.int .i64)] (c,n)):Runs Empty.elim (t378 std c n) (fn378 (c,n)):=by
 exact dhas1
theorem so378:FSpec.Sound Tryz.prog 98 sp378:=
 w378_ok.sound _ _ fun (c,n) _ h=>run378 h
open Go.Ev.Pl
def inF (n:Node):Bool:=decide (2≤n.2.1∧n.2.1≤4)
def t336 (A:Alg) (n:Node):LT Bool Empty:=
 .br (A.cmp .geq n.2.1 2)
 (.ret (A.cmp .leq n.2.1 4))
 (.ret false)
noncomputable def E336 (A:Alg):Info (Ty.Ts [.bool]):={ti:=tys,fns:=[(44,Tryz.f44)],sps:=[],stops:=[],cuts:=[],consts:=[],fin:=finD A [.bool]}
theorem t336_ok (A:Alg) (n:Node):run A (E336 A) 23 (startC 44 Tryz.f44 (dvals A [yNode] n))=(t336 A n).tr Empty.elim:=by kernel_rfl
def w336:Walk Tryz.prog 44 [yNode] [.bool] Empty:=⟨fun n=>t336 std n,Empty.elim⟩
theorem w336_ok:w336.Ok:=
 walk_ok (E:=E336 std) ⟨tys_fit,fns_cons Tryz.func44 (by kernel_rfl) (fns_nil),sps_nil,by kernel_rfl⟩ rfl rfl rfl (by kernel_rfl) w336 Empty.elim 23 (fun n=>t336_ok std n) (fun y=>y.elim)
theorem din1 {n:Node}:Runs Empty.elim (t336 std n) (inF n):=by
 unfold t336 inF
 refine runs_if (p:=2≤n.2.1) rfl (fun h=>?_) fun h=>?_
 ·exact runs_r (by rw [std_cmp_leq,Bool.eq_iff_iff]; simp; omega) (.ret _)
 ·exact runs_r (decide_eq_false (by omega)).symm (.ret _)
def fn336:Node→Bool:=inF
def sp336:FSpec:=⟨[yNode], [.bool],(@tt Node),fn336⟩
theorem run336 {n:Node} (h:Ty.hass [yNode] n):Runs Empty.elim (t336 std n) (fn336 n):=by
 exact din1
theorem so336:FSpec.Sound Tryz.prog 44 sp336:=
 w336_ok.sound _ _ fun n _ h=>run336 h
def t392 (A:Alg) (m:Medl) (n:Node):LT Bool Empty:=
 .need (A.call (@tt Node) n) (
 .br (A.not (A.call fn336 n))
 (.br (A.and (A.cmp .eql n.2.2.1.1 0) (A.and (A.cmp .eql n.2.2.1.2.1 0) (A.and (A.cmp .eql n.2.2.1.2.2.1 0) (A.and (A.cmp .eql n.2.2.1.2.2.2.1 0) (A.and (A.cmp .eql n.2.2.1.2.2.2.2 0) true)))))
  (.ret (A.and (A.cmp .eql n.2.2.2.1.1 0) (A.and (A.cmp .eql n.2.2.2.1.2.1 0) (A.and (A.cmp .eql n.2.2.2.1.2.2.1 0) (A.and (A.cmp .eql n.2.2.2.1.2.2.2.1 0) (A.and (A.cmp .eql n.2.2.2.1.2.2.2.2.1 0) (A.and (A.cmp .eql n.2.2.2.1.2.2.2.2.2.1 0) (A.and (A.cmp .eql n.2.2.2.1.2.2.2.2.2.2 0) true))))))))
  (.ret false))
 (.need (A.call (@tt (Medl×CSt)) (m,n.2.2.1)) (
  .br (A.call fn377 (m,n.2.2.1))
  (.need (A.call (@tt ((Int×Int×Int×Int×Int×Int×Int))) n.2.2.2.1) (
   .br (A.cmp .eql (A.call fn35 n.2.2.2.1) 0)
   (.br (A.cmp .eql n.2.2.2.1.1 n.1)
    (.br (A.cmp .eql n.2.2.2.1.2.1 m.1)
    (.ret (A.cmp .eql n.2.2.1.2.2.2.2 n.2.2.2.1.2.2.1))
    (.ret false))
    (.ret false))
   (.ret false)))
  (.ret false))))
noncomputable def E392 (A:Alg):Info (Ty.Ts [.bool]):={ti:=tys,fns:=[(113,Tryz.f113)],sps:=[(201,sp35),(44,sp336),(97,sp377)],stops:=[],cuts:=[],consts:=[],fin:=finD A [.bool]}
theorem t392_ok (A:Alg) (m:Medl) (n:Node):run A (E392 A) 60 (startC 113 Tryz.f113 (dvals A [yMedl,yNode] (m,n)))=(t392 A m n).tr Empty.elim:=by kernel_rfl
def w392:Walk Tryz.prog 113 [yMedl,yNode] [.bool] Empty:=⟨fun (m,n)=>t392 std m n,Empty.elim⟩
theorem w392_ok:w392.Ok:=
 walk_ok (E:=E392 std) ⟨tys_fit,fns_cons Tryz.func113 (by kernel_rfl) (fns_nil),sps_cons so35 (sps_cons so336 (sps_cons so377 (sps_nil))),by kernel_rfl⟩ rfl rfl rfl (by kernel_rfl) w392 Empty.elim 60 (fun (m,n)=>t392_ok std m n) (fun y=>y.elim)
def zeroC (c:CSt):Bool:=std.and (std.cmp .eql c.1 0) (std.and (std.cmp .eql c.2.1 0) (std.and (std.cmp .eql c.2.2.1 0) (std.and (std.cmp .eql c.2.2.2.1 0) (std.and (std.cmp .eql c.2.2.2.2 0) true))))
def zeroV (v:Mbr):Bool:=std.and (std.cmp .eql v.1 0) (std.and (std.cmp .eql v.2.1 0) (std.and (std.cmp .eql v.2.2.1 0) (std.and (std.cmp .eql v.2.2.2.1 0) (std.and (std.cmp .eql v.2.2.2.2.1 0) (std.and (std.cmp .eql v.2.2.2.2.2.1 0) (std.and (std.cmp .eql v.2.2.2.2.2.2 0) true))))))
def cluF (m:Medl) (n:Node):Bool:=bif inF n then (fitsF m n.2.2.1 && (decide (fn35 n.2.2.2.1=0) && (decide (n.2.2.2.1.1=n.1) && (decide (n.2.2.2.1.2.1=m.1) && decide (n.2.2.1.2.2.2.2=n.2.2.2.1.2.2.1))))) else (zeroC n.2.2.1 && zeroV n.2.2.2.1)
theorem clu1 {m:Medl} {n:Node}:Runs Empty.elim (t392 std m n) (cluF m n):=by
 unfold t392 cluF
 refine runs_need.2 ⟨rfl,?_⟩
 rw [show std.call fn336 n=inF n from rfl]
 cases inF n
 ·refine (runs_brT rfl).2 ?_
  rw [cond_false]
  cases hz:zeroC n.2.2.1
  ·exact (runs_brF hz).2 (.ret _)
  ·exact (runs_brT hz).2 (.ret _)
 ·refine (runs_brF rfl).2 (runs_need.2 ⟨rfl,?_⟩)
  rw [show std.call fn377 (m,n.2.2.1)=fitsF m n.2.2.1 from rfl,cond_true]
  cases fitsF m n.2.2.1
  ·exact (runs_brF rfl).2 (.ret _)
  ·refine (runs_brT rfl).2 (runs_need.2 ⟨rfl,runs_if (p:=fn35 n.2.2.2.1=0) eql_dec (fun h1=>runs_if (p:=n.2.2.2.1.1=n.1) eql_dec (fun h2=>runs_if (p:=n.2.2.2.1.2.1=m.1) eql_dec (fun h3=>?_) fun h=>?_) fun h=>?_) fun h=>?_⟩)
   ·exact runs_r (by rw [decide_eq_true h1,decide_eq_true h2,decide_eq_true h3,eql_dec]; rfl) (.ret _)
   ·exact runs_r (by rw [decide_eq_true h1,decide_eq_true h2,decide_eq_false h]; rfl) (.ret _)
   ·exact runs_r (by rw [decide_eq_true h1,decide_eq_false h]; rfl) (.ret _)
   ·exact runs_r (by rw [decide_eq_false h]; rfl) (.ret _)
def fn392:(Medl×Node)→Bool:=fun (m,n)=>cluF m n
def sp392:FSpec:=⟨[yMedl,yNode], [.bool],(@tt (Medl×Node)),fn392⟩
theorem run392 {m:Medl} {n:Node} (h:Ty.hass [yMedl,yNode] (m,n)):Runs Empty.elim (t392 std m n) (fn392 (m,n)):=by
 exact clu1
theorem so392:FSpec.Sound Tryz.prog 113 sp392:=
 w392_ok.sound _ _ fun (m,n) _ h=>run392 h
def t393 (A:Alg) (m:Medl) (n:Node):LT Bool Empty:=
 .br (A.cmp .neq n.2.1 1)
 (.ret (A.cmp .eql n.2.2.2.2.1 0))
 (.need (A.call (@tt (Medl×Int)) (m,n.1)) (
 .br (A.cmp .geq n.2.2.2.2.1 1)
  (.ret (A.cmp .leq n.2.2.2.2.1 (A.call fn375 (m,n.1)).1))
  (.ret false)))
noncomputable def E393 (A:Alg):Info (Ty.Ts [.bool]):={ti:=tys,fns:=[(114,Tryz.f114)],sps:=[(95,sp375)],stops:=[],cuts:=[],consts:=[],fin:=finD A [.bool]}
theorem t393_ok (A:Alg) (m:Medl) (n:Node):run A (E393 A) 46 (startC 114 Tryz.f114 (dvals A [yMedl,yNode] (m,n)))=(t393 A m n).tr Empty.elim:=by kernel_rfl
def w393:Walk Tryz.prog 114 [yMedl,yNode] [.bool] Empty:=⟨fun (m,n)=>t393 std m n,Empty.elim⟩
theorem w393_ok:w393.Ok:=
 walk_ok (E:=E393 std) ⟨tys_fit,fns_cons Tryz.func114 (by kernel_rfl) (fns_nil),sps_cons so375 (sps_nil),by kernel_rfl⟩ rfl rfl rfl (by kernel_rfl) w393 Empty.elim 46 (fun (m,n)=>t393_ok std m n) (fun y=>y.elim)
def timF (m:Medl) (n:Node):Bool:=bif decide (n.2.1=1) then decide (1≤n.2.2.2.2.1∧n.2.2.2.2.1≤(lisF m n.1).1) else decide (n.2.2.2.2.1=0)
theorem tim1 {m:Medl} {n:Node}:Runs Empty.elim (t393 std m n) (timF m n):=by
 unfold t393 timF
 refine runs_if (p:=¬n.2.1=1) cneq_dec (fun h=>?_) fun h=>runs_need.2 ⟨rfl,?_⟩
 ·exact runs_r (by rw [decide_eq_false h,eql_dec]; rfl) (.ret _)
 ·rw [decide_eq_true (show n.2.1=1 by omega),show std.call fn375 (m,n.1)=lisF m n.1 from rfl,cond_true]
  refine runs_if (p:=1≤n.2.2.2.2.1) rfl (fun h1=>?_) fun h1=>?_
  ·exact runs_r (by rw [std_cmp_leq,Bool.eq_iff_iff]; simp; omega) (.ret _)
  ·exact runs_r (decide_eq_false (by omega)).symm (.ret _)
def fn393:(Medl×Node)→Bool:=fun (m,n)=>timF m n
def sp393:FSpec:=⟨[yMedl,yNode], [.bool],(@tt (Medl×Node)),fn393⟩
theorem run393 {m:Medl} {n:Node} (h:Ty.hass [yMedl,yNode] (m,n)):Runs Empty.elim (t393 std m n) (fn393 (m,n)):=by
 exact tim1
theorem so393:FSpec.Sound Tryz.prog 114 sp393:=
 w393_ok.sound _ _ fun (m,n) _ h=>run393 h
def t334 (A:Alg) (m:Medl) (n:Node):LT Int Empty:=
 .need (A.call (@tt Medl) m) (
 .br (A.cmp .neq (A.call fn366 m) 0)
 (.ret (A.call fn366 m))
 (.br (A.cmp .lss n.1 0)
  (.ret 180)
  (.br (A.cmp .geq n.1 m.1)
  (.ret 180)
  (.br (A.cmp .lss n.2.1 0)
   (.ret 180)
   (.br (A.cmp .gtr n.2.1 5)
   (.ret 180)
   (.br (A.cmp .lss n.2.2.2.2.2.2.1 0)
    (.ret 180)
    (.br (A.cmp .gtr n.2.2.2.2.2.2.1 2)
    (.ret 180)
    (.need (A.call (@tt Cni) n.2.2.2.2.2.2.2) (
     .br (A.cmp .neq (A.call fn391 n.2.2.2.2.2.2.2) 0)
     (.ret 180)
     (.br (A.cmp .neq n.2.2.2.2.2.2.2.1 n.1)
      (.ret 180)
      (.br (A.cmp .neq (A.len n.2.2.2.2.2.2.2.2.2.1) m.1)
      (.ret 180)
      (.br (A.cmp .eql n.2.1 2)
       (.need (A.and (A.cmp .leq 0 n.1) (A.cmp .lss n.1 (A.len m.2.2.2.2.2.2.1))) (
       .br (A.not (A.nth .bool m.2.2.2.2.2.2.1 n.1:Bool))
        (.ret 180)
        (.need (A.call (@tt (Medl×Node)) (m,n)) (
        .br (A.not (A.call fn392 (m,n)))
         (.ret 180)
         (.need (A.call (@tt (Medl×Node)) (m,n)) (
         .br (A.not (A.call fn393 (m,n)))
          (.ret 180)
          (.br n.2.2.2.2.2.1
          (.br (A.cmp .neq n.2.1 1)
           (.br (A.cmp .neq n.2.1 2)
           (.ret 180)
           (.ret 0))
           (.ret 0))
          (.ret 0))))))))
       (.need (A.call (@tt (Medl×Node)) (m,n)) (
       .br (A.not (A.call fn392 (m,n)))
        (.ret 180)
        (.need (A.call (@tt (Medl×Node)) (m,n)) (
        .br (A.not (A.call fn393 (m,n)))
         (.ret 180)
         (.br n.2.2.2.2.2.1
         (.br (A.cmp .neq n.2.1 1)
          (.br (A.cmp .neq n.2.1 2)
          (.ret 180)
          (.ret 0))
          (.ret 0))
         (.ret 0))))))))))))))))))
noncomputable def E334 (A:Alg):Info (Ty.Ts [(.int .i64)]):={ti:=tys,fns:=[(42,Tryz.f42)],sps:=[(82,sp366),(112,sp391),(113,sp392),(114,sp393)],stops:=[],cuts:=[],consts:=[],fin:=finD A [(.int .i64)]}
theorem t334_ok (A:Alg) (m:Medl) (n:Node):run A (E334 A) 137 (startC 42 Tryz.f42 (dvals A [yMedl,yNode] (m,n)))=(t334 A m n).tr Empty.elim:=by kernel_rfl
def w334:Walk Tryz.prog 42 [yMedl,yNode] [(.int .i64)] Empty:=⟨fun (m,n)=>t334 std m n,Empty.elim⟩
theorem w334_ok:w334.Ok:=
 walk_ok (E:=E334 std) ⟨tys_fit,fns_cons Tryz.func42 (by kernel_rfl) (fns_nil),sps_cons so366 (sps_cons so391 (sps_cons so392 (sps_cons so393 (sps_nil)))),by kernel_rfl⟩ rfl rfl rfl (by kernel_rfl) w334 Empty.elim 137 (fun (m,n)=>t334_ok std m n) (fun y=>y.elim)
def colF (m:Medl) (n:Node):Bool:=bif decide (n.2.1=2) then (std.nth .bool m.2.2.2.2.2.2.1 n.1:Bool) else true
def bngF (n:Node):Bool:=bif n.2.2.2.2.2.1 then decide (n.2.1=1∨n.2.1=2) else true
def nodB (m:Medl) (n:Node):Bool:=decide (0≤n.1∧n.1≤m.1 - 1) && (decide (0≤n.2.1∧n.2.1≤5) && (decide (0≤n.2.2.2.2.2.2.1∧n.2.2.2.2.2.2.1≤2) && (cniB n.2.2.2.2.2.2.2 && (decide (n.2.2.2.2.2.2.2.1=n.1) && (decide ((n.2.2.2.2.2.2.2.2.2.1.length:Int)=m.1) && (colF m n && (cluF m n && (timF m n && bngF n))))))))
def nodF (m:Medl) (n:Node):Int:=bif medlB m then (bif nodB m n then 0 else 180) else 70
theorem nod_iff {m:Medl} {n:Node}:nodB m n=true↔(0≤n.1∧n.1≤m.1 - 1)∧(0≤n.2.1∧n.2.1≤5)∧(0≤n.2.2.2.2.2.2.1∧n.2.2.2.2.2.2.1≤2)∧cniB n.2.2.2.2.2.2.2=true∧n.2.2.2.2.2.2.2.1=n.1∧(n.2.2.2.2.2.2.2.2.2.1.length:Int)=m.1∧colF m n=true∧cluF m n=true∧timF m n=true∧bngF n=true:=by
 unfold nodB; simp only [Bool.and_eq_true,decide_eq_true_eq]
theorem nod_zero {m:Medl} {n:Node} (h:nodF m n=0):medlB m=true∧nodB m n=true:=by
 unfold nodF at h
 cases hm:medlB m
 ·rw [hm,cond_false] at h; exact absurd h (by decide)
 ·cases hn:nodB m n
  ·rw [hm,hn,cond_true,cond_false] at h; exact absurd h (by decide)
  ·exact ⟨rfl,rfl⟩
section
variable {R Y:Type} {step:Y→LT R Y} {e:LT R Y} {x y:R} {G:Bool}
theorem runs_g {p:Prop} [Decidable p] {b:Bool} (hb:b=decide p) (h:G=true→¬p) (he:¬p→Runs step e (bif G then x else y)):Runs step (.br b (.ret y) e) (bif G then x else y):=by
 refine runs_if hb (fun hp=>?_) he
 cases G
 ·exact .ret _
 ·exact absurd hp (h rfl)
theorem runs_gb {b:Bool} (h:G=true→b=true) (he:b=true→Runs step e (bif G then x else y)):Runs step (.br (std.not b) (.ret y) e) (bif G then x else y):=by
 cases b
 ·cases G
  ·exact (runs_brT rfl).2 (.ret _)
  ·exact absurd (h rfl) (by decide)
 ·exact (runs_brF rfl).2 (he rfl)
theorem runs_gy (h:G=true):Runs step (.ret x) (bif G then x else y):=runs_r (by rw [h]; rfl) (.ret _)
end
theorem bng_t {Y:Type} {step:Y→LT Int Y} {n:Node} {G:Bool} (h1:G=true→bngF n=true) (h2:bngF n=true→G=true):Runs step (.br n.2.2.2.2.2.1 (.br (std.cmp .neq n.2.1 1) (.br (std.cmp .neq n.2.1 2) (.ret 180) (.ret 0)) (.ret 0)) (.ret 0)) (bif G then 0 else 180):=by
 unfold bngF at h1 h2
 cases hb:n.2.2.2.2.2.1
 ·rw [hb] at h1 h2
  exact (runs_brF rfl).2 (runs_gy (h2 rfl))
 ·rw [hb] at h1 h2
  simp only [cond_true,decide_eq_true_eq] at h1 h2
  refine (runs_brT rfl).2 (runs_if (p:=¬n.2.1=1) cneq_dec (fun h=>runs_g (p:=¬n.2.1=2) cneq_dec (fun g=>?_) fun g=>?_) fun h=>?_)
  ·have:=h1 g; omega
  ·exact runs_gy (h2 (by omega))
  ·exact runs_gy (h2 (by omega))
theorem col_t {R Y:Type} {step:Y→LT R Y} {m:Medl} {n:Node} {G:Bool} {e:LT R Y} {x y:R} (hm:medlB m=true) (hi:0≤n.1∧n.1≤m.1 - 1) (h1:G=true→colF m n=true) (h2:colF m n=true→Runs step e (bif G then x else y)) :
  Runs step (.br (std.cmp .eql n.2.1 2) (.need (std.and (std.cmp .leq 0 n.1) (std.cmp .lss n.1 (std.len m.2.2.2.2.2.2.1))) (.br (std.not (std.nth .bool m.2.2.2.2.2.2.1 n.1:Bool)) (.ret y) e)) e) (bif G then x else y):=by
 unfold colF at h1 h2
 refine runs_if (p:=n.2.1=2) eql_dec (fun h=>runs_need.2 ⟨need_at (medl_in hm).2.2.1 hi.1 (by omega),?_⟩) fun h=>?_
 ·rw [decide_eq_true h] at h1 h2
  exact runs_gb h1 h2
 ·rw [decide_eq_false h] at h2
  exact h2 rfl
theorem dchk_1 {m:Medl} {n:Node}:Runs Empty.elim (t334 std m n) (nodF m n):=by
 unfold t334 nodF
 refine runs_need.2 ⟨rfl,?_⟩
 rw [show std.call fn366 m=medlS m from rfl,medlS]
 cases hm:medlB m
 ·exact (runs_brT rfl).2 (.ret _)
 have hG:=@nod_iff m n
 rw [cond_true]
 generalize nodB m n=G at hG ⊢
 refine (runs_brF rfl).2 (runs_g (p:=n.1 < 0) rfl (fun g=>by have:=hG.1 g; omega) fun h1=>runs_g (p:=m.1≤n.1) rfl (fun g=>by have:=hG.1 g; omega) fun h2=>?_)
 refine runs_g (p:=n.2.1 < 0) rfl (fun g=>by have:=hG.1 g; omega) fun h3=>runs_g (p:=5 < n.2.1) rfl (fun g=>by have:=hG.1 g; omega) fun h4=>?_
 refine runs_g (p:=n.2.2.2.2.2.2.1 < 0) rfl (fun g=>by have:=hG.1 g; omega) fun h5=>runs_g (p:=2 < n.2.2.2.2.2.2.1) rfl (fun g=>by have:=hG.1 g; omega) fun h6=>runs_need.2 ⟨rfl,?_⟩
 refine runs_g (p:=¬cniS n.2.2.2.2.2.2.2=0) cneq_dec (fun g=>not_not_intro (cniS_zero.2 (hG.1 g).2.2.2.1)) fun h7=>?_
 refine runs_g (p:=¬n.2.2.2.2.2.2.2.1=n.1) cneq_dec (fun g=>by have:=hG.1 g; omega) fun h8=>?_
 refine runs_g (p:=¬(n.2.2.2.2.2.2.2.2.2.1.length:Int)=m.1) cneq_dec (fun g=>by have:=hG.1 g; omega) fun h9=>?_
 refine col_t hm (by omega) (fun g=>(hG.1 g).2.2.2.2.2.2.1) fun hc=>runs_need.2 ⟨rfl,runs_gb (b:=cluF m n) (fun g=>(hG.1 g).2.2.2.2.2.2.2.1) fun hd=>runs_need.2 ⟨rfl,runs_gb (b:=timF m n) (fun g=>(hG.1 g).2.2.2.2.2.2.2.2.1) fun he=>?_⟩⟩
 exact bng_t (fun g=>(hG.1 g).2.2.2.2.2.2.2.2.2) fun hb=>hG.2 ⟨by omega,by omega,by omega,cniS_zero.1 (Decidable.not_not.1 h7),by omega,by omega,hc,hd,he,hb⟩
def fn334:(Medl×Node)→Int:=fun (m,n)=>nodF m n
def sp334:FSpec:=⟨[yMedl,yNode], [(.int .i64)],(@tt (Medl×Node)),fn334⟩
theorem run334 {m:Medl} {n:Node} (h:Ty.hass [yMedl,yNode] (m,n)):Runs Empty.elim (t334 std m n) (fn334 (m,n)):=by
 exact dchk_1
theorem so334:FSpec.Sound Tryz.prog 42 sp334:=
 w334_ok.sound _ _ fun (m,n) _ h=>run334 h
open Go.Ev.Pl
def zNode:Node:=(0,0,(0,0,0,0,0),(0,0,0,0,0,0,0),0,false,0,0,([]:List Int),([]:List Msg),0,0)
def nnewF (m:Medl) (id:Int):Node×Int:=bif medlB m then (bif decide (0≤id∧id≤m.1 - 1) then ((id,0,(0,0,0,0,0),(0,0,0,0,0,0,0),0,false,0,id,([]:List Int),List.replicate m.1.toNat one255,4,(-1)),0) else (zNode,2)) else (zNode,70)
theorem nod_cni {m:Medl} {n:Node} (h:nodF m n=0):cniB n.2.2.2.2.2.2.2=true:=(nod_iff.1 (nod_zero h).2).2.2.2.1
theorem cni_out {c:Cni} (h:cniB c=true):¬8 < (c.2.1.length:Int):=by
 simp only [cniB,Bool.and_eq_true,decide_eq_true_eq] at h
 exact h.2.2.1
def t373 (A:Alg) (n:Node):LT Node Empty:=
 .need (A.call pre330 n.2.2.2.2.2.2.2) (
 .ret (n.1,n.2.1,n.2.2.1,n.2.2.2.1,n.2.2.2.2.1,n.2.2.2.2.2.1,n.2.2.2.2.2.2.1,(A.call fn330 n.2.2.2.2.2.2.2)))
noncomputable def E373 (A:Alg):Info (Ty.Ts [yNode]):={ti:=tys,fns:=[(93,Tryz.f93)],sps:=[(38,sp330)],stops:=[],cuts:=[],consts:=[],fin:=finD A [yNode]}
theorem t373_ok (A:Alg) (n:Node):run A (E373 A) 24 (startC 93 Tryz.f93 (dvals A [yNode] n))=(t373 A n).tr Empty.elim:=by kernel_rfl
def w373:Walk Tryz.prog 93 [yNode] [yNode] Empty:=⟨fun n=>t373 std n,Empty.elim⟩
theorem w373_ok:w373.Ok:=
 walk_ok (E:=E373 std) ⟨tys_fit,fns_cons Tryz.func93 (by kernel_rfl) (fns_nil),sps_cons so330 (sps_nil),by kernel_rfl⟩ rfl rfl rfl (by kernel_rfl) w373 Empty.elim 24 (fun n=>t373_ok std n) (fun y=>y.elim)
theorem down1 {n:Node} (h:cniB n.2.2.2.2.2.2.2=true):Runs Empty.elim (t373 std n) n:=runs_need.2 ⟨room_ok h,.ret _⟩
def fn373:Node→Node:=fun n=>n
def pre373:Node→Bool:=fun n=>cniB n.2.2.2.2.2.2.2
def sp373:FSpec:=⟨[yNode], [yNode],pre373,fn373⟩
theorem run373 {n:Node} (h:Ty.hass [yNode] n) (hp:pre373 n=true):Runs Empty.elim (t373 std n) (fn373 n):=by
 exact down1 hp
theorem so373:FSpec.Sound Tryz.prog 93 sp373:=
 w373_ok.sound _ _ fun n hp h=>run373 h hp
def powF (m:Medl) (n:Node) (on:Bool):Node×Int:=bif decide (nodF m n=0) then (bif on then (bif decide (n.2.1=0) then ((n.1,1,(0,0,0,0,0),(0,0,0,0,0,0,0),(lisF m n.1).1,n.2.2.2.2.2),0) else (zNode,181)) else nnewF m n.1) else (zNode,nodF m n)
theorem conv_8 {k:Int} (h:0≤k∧k≤8):std.conv .u64 k=k:=by
 obtain ⟨j,rfl⟩:∃j:Nat,k=j:=⟨k.toNat,by omega⟩
 exact conv_nat (by omega)
end Go.Ev.M
