/-
  PROVED: what metronomeref05.Parse, Good and Explicit compute. Conditions: none.
-/
import Derived.Test.YtafbddhnoacldaaGreatFc
namespace Go.Ev.M
open Go.Proofs
set_option maxRecDepth 100000
set_option linter.unusedVariables false
set_option linter.unusedSimpArgs false
open Go.Ev.Pl
def t105 (A:Alg) (bN:Int) (bB:List Int) (at1:Int) (width:Int):LT Int Empty:=
 .need (A.call (@tt ((Int×List Int)×Int×Int)) ((bN,bB),at1,width)) (
 .ret (A.conv .i64 (A.call fn141 ((bN,bB),at1,width)).1))
noncomputable def E105 (A:Alg):Info (Ty.Ts [(.int .i64)]):={ti:=tys,fns:=[(242,Tryz.f242)],sps:=[(285,sp141)],stops:=[],cuts:=[],consts:=[],fin:=finD A [(.int .i64)]}
theorem t105_ok (A:Alg) (bN:Int) (bB:List Int) (at1:Int) (width:Int):run A (E105 A) 29 (startC 242 Tryz.f242 (dvals A [(.struct [(.int .i64),(.slice (.int .u8))]),(.int .i64),(.int .i64)] ((bN,bB),at1,width)))=(t105 A bN bB at1 width).tr Empty.elim:=by kernel_rfl
def w105:Walk Tryz.prog 242 [(.struct [(.int .i64),(.slice (.int .u8))]),(.int .i64),(.int .i64)] [(.int .i64)] Empty:=⟨fun ((bN,bB),at1,width)=>t105 std bN bB at1 width,Empty.elim⟩
theorem w105_ok:w105.Ok:=
 walk_ok (E:=E105 std) ⟨tys_fit,fns_cons Tryz.func242 (by kernel_rfl) (fns_nil),sps_cons so141 (sps_nil),by kernel_rfl⟩ rfl rfl rfl (by kernel_rfl) w105 Empty.elim 29 (fun ((bN,bB),at1,width)=>t105_ok std bN bB at1 width) (fun y=>y.elim)
def fn105:((Int×List Int)×Int×Int)→Int:=fun ((bN,bB),at1,width)=>(t105 std bN bB at1 width).val (Ty.dflts [(.int .i64)])
def sp105:FSpec:=⟨[(.struct [(.int .i64),(.slice (.int .u8))]),(.int .i64),(.int .i64)], [(.int .i64)],(@tt ((Int×List Int)×Int×Int)),fn105⟩
theorem eqs105 (bN:Int) (bB:List Int) (at1:Int) (width:Int):(t105 std bN bB at1 width).Eqs:=by simp only [t105,LT.Eqs,and_self,true_and,and_true]
theorem pre105_ok {bN:Int} {bB:List Int} {at1:Int} {width:Int} (h:Ty.hass [(.struct [(.int .i64),(.slice (.int .u8))]),(.int .i64),(.int .i64)] ((bN,bB),at1,width)):(t105 std bN bB at1 width).pre=true:=by
 simp [t105,LT.pre,std_call,tt_eq]
theorem so105:FSpec.Sound Tryz.prog 242 sp105:=
 w105_ok.sound _ _ fun ((bN,bB),at1,width) _ h=>LT.runs (d:=Ty.dflts [(.int .i64)]) (eqs105 bN bB at1 width) (pre105_ok h)
theorem getd {n a w:Nat} {b:List Int} (hok:bsOk ((n:Int),b)=true) (h:a + w≤n) (hw:w≤61) (hn:n≤4096):std.call fn105 (((n:Int),b),(a:Int),(w:Int))=((fld (unpack n b) a w:Nat):Int):=by
 have hf:=fld_lt (unpack n b) a w
 have hp:2 ^ w≤2 ^ 61:=Nat.pow_le_pow_right (by decide) hw
 show std.conv .i64 (std.call fn141 (((n:Int),b),(a:Int),(w:Int))).1=_
 rw [get_in1 hok h (by omega) hn]
 exact conv_in (by omega)
theorem getd_err {n a w:Nat} {b:List Int} (hok:bsOk ((n:Int),b)=true) (h:n < a + w):std.call fn105 (((n:Int),b),(a:Int),(w:Int))=0:=by
 show std.conv .i64 (std.call fn138 (((n:Int),b),(a:Int),(w:Int))).1=0
 rw [get_err hok h]; rfl
theorem getd_bsP {l:List Bool} {a w:Nat} (hl:l.length≤4096) (h:a + w≤l.length) (hw:w≤61):std.call fn105 (bsP l,(a:Int),(w:Int))=((fld l a w:Nat):Int):=by
 have:=getd (n:=l.length) (b:=pack l) (bsP_ok hl) h hw hl
 rwa [unpack_pack] at this
structure P106c0 where
 (a0 a1:Int)
inductive Y106 where
 | c0 (p:P106c0) (a2:Int)
noncomputable def cfg106:Y106→Cfg
 | .c0 p a2=>{frames:=[{fn:=243,n:=19,env:=(Env.put (Env.put (Env.put .leaf 0 (.int .i64 false p.a0)) 1 (.int .i64 false p.a1)) 5 (.int .i64 false a2)),todo:=[.inLoop (Code.way (bodyOf Tryz.f243) [1,0,1,0,0]),.inBlock 0,.code (Code.way (bodyOf Tryz.f243) [1,1])],marks:=[],rnd:=none}],mem:=[.dead]}
def t106 (A:Alg) (n:Int) (kind:Int):LT Bool Y106:=
 .more (.c0 ⟨n,kind⟩ 0)
def s106 (A:Alg):Y106→LT Bool Y106
 | .c0 p a2=>
  .br (A.cmp .leq a2 8)
  (.br (A.cmp .gtr p.a0 0)
   (.need (A.call (@tt (Int×Int)) (p.a1,a2)) (
   .br (A.cmp .eql (A.call fn59 (p.a1,a2)) p.a0)
    (.ret true)
    (.more (.c0 p (A.bin .add .i64 a2 1)))))
   (.more (.c0 p (A.bin .add .i64 a2 1))))
  (.ret false)
noncomputable def E106 (A:Alg):Info (Ty.Ts [.bool]):={ti:=tys,fns:=[(243,Tryz.f243)],sps:=[(234,sp59)],stops:=[⟨243,2, [[0,1,5]]⟩],cuts:=[],consts:=[],fin:=finD A [.bool]}
theorem t106_ok (A:Alg) (n:Int) (kind:Int):run A (E106 A) 17 (startC 243 Tryz.f243 (dvals A [(.int .i64),(.int .i64)] (n,kind)))=(t106 A n kind).tr cfg106:=by kernel_rfl
theorem s106_ok (A:Alg):∀y,∃n,run A (E106 A) n (advance (E106 A).sps (cfg106 y))=(s106 A y).tr cfg106
 | .c0 p a2=>⟨36,by kernel_rfl⟩
def w106:Walk Tryz.prog 243 [(.int .i64),(.int .i64)] [.bool] Y106:=⟨fun (n,kind)=>t106 std n kind,s106 std⟩
theorem w106_ok:w106.Ok:=
 walk_ok (E:=E106 std) ⟨tys_fit,fns_cons Tryz.func243 (by kernel_rfl) (fns_nil),sps_cons so59 (sps_nil),by kernel_rfl⟩ rfl rfl rfl (by kernel_rfl) w106 cfg106 17 (fun (n,kind)=>t106_ok std n kind) (s106_ok std)
theorem long1 {n k:Int}:∀(j i:Nat) (p:P106c0),p.a0=n→p.a1=k→9 - i=j→i≤9→Runs (s106 std) (.more (.c0 p (i:Int))) (((List.range 9).drop i).any fun d=>decide (0 < n) && sizeS (k,(d:Int)) == n):=by
 intro j
 induction j with
 | zero=>
  intro i p h0 h1 hj hi
  have:i=9:=by omega
  subst this
  rw [runs_more,s106]
  exact (runs_brF rfl).2 (.ret _)
 | succ j ih=>
  intro i p h0 h1 hj hi
  have hi':i < (List.range 9).length:=by rw [List.length_range]; omega
  have hm:=ih (i + 1) p h0 h1 (by omega) (by omega)
  have hnext:=runs_c (congrArg LT.more (congrArg (Y106.c0 p) (inc1 (i:=i) (by omega)))) hm
  rw [runs_more,s106]
  refine (runs_brT (by rw [std_cmp_leq]; simp; omega)).2 ?_
  rw [List.drop_eq_getElem_cons hi',List.any_cons,List.getElem_range]
  by_cases hn:0 < n
  ·refine (runs_brT (by rw [h0,std_cmp_gtr]; simpa using hn)).2 (runs_need.2 ⟨rfl,?_⟩)
   have hs:std.call fn59 (p.a1,(i:Int))=sizeS (k,(i:Int)):=by rw [h1,std_call]; exact size_eqs.2
   rw [show decide (0 < n)=true from by simpa using hn,Bool.true_and]
   cases he:(sizeS (k,(i:Int)) == n)
   ·refine (runs_brF (by rw [std_cmp_eql,hs,h0]; exact he)).2 ?_
    rw [Bool.false_or]
    rw [show decide (0 < n)=true from by simpa using hn] at hnext
    simpa only [Bool.true_and] using hnext
   ·exact (runs_brT (by rw [std_cmp_eql,hs,h0]; exact he)).2 (.ret _)
  ·refine (runs_brF (by rw [h0,std_cmp_gtr]; simpa using hn)).2 ?_
   rw [show decide (0 < n)=false from by simpa using hn,Bool.false_and,Bool.false_or]
   rw [show decide (0 < n)=false from by simpa using hn] at hnext
   exact hnext
def fn106:(Int×Int)→Bool:=fun (n,k)=>(List.range 9).any fun d=>decide (0 < n) && sizeS (k,(d:Int)) == n
def sp106:FSpec:=⟨[(.int .i64),(.int .i64)], [.bool],(@tt (Int×Int)),fn106⟩
theorem run106 {n:Int} {kind:Int} (h:Ty.hass [(.int .i64),(.int .i64)] (n,kind)):Runs (s106 std) (t106 std n kind) (fn106 (n,kind)):=by
 exact long1 9 0 _ rfl rfl rfl (by omega)
theorem so106:FSpec.Sound Tryz.prog 243 sp106:=
 w106_ok.sound _ _ fun (n,kind) _ h=>run106 h
theorem long_fits {n:Nat}:fn106 ((n:Int),1)=fitsL n 1∧fn106 ((n:Int),2)=fitsL n 2∧fn106 ((n:Int),3)=fitsL n 3∧fn106 ((n:Int),4)=fitsL n 4:=by
 obtain ⟨f2,f4,f1,f3⟩:=fits_len (n:=n)
 have key:∀k:Int,fn106 ((n:Int),k)=true↔∃d:Nat,d < 9∧0 < n∧sizeS (k,(d:Int))=(n:Int):=by
  intro k
  rw [fn106,List.any_eq_true]
  constructor
  ·intro ⟨d,hd,h⟩
   rw [Bool.and_eq_true,decide_eq_true_eq,beq_iff_eq] at h
   exact ⟨d,List.mem_range.1 hd,by omega,h.2⟩
  ·intro ⟨d,hd,h1,h2⟩
   exact ⟨d,List.mem_range.2 hd,by rw [Bool.and_eq_true,decide_eq_true_eq,beq_iff_eq]; exact ⟨by omega,h2⟩⟩
 have sz:∀d:Nat,d < 9→sizeS (1,(d:Int))=(if d=0 then 40 else 0)∧sizeS (2,(d:Int))=29 + 8 * (d:Int)∧sizeS (3,(d:Int))=(if d=0 then 54 else 0)∧sizeS (4,(d:Int))=79 + 8 * (d:Int):=by
  intro d hd
  have hh:0≤(d:Int)∧(d:Int)≤8:=by omega
  have h0:((d:Int)=0)↔d=0:=by omega
  simp only [sizeS,if_pos hh,h0]
  refine ⟨rfl,rfl,rfl,rfl⟩
 refine ⟨?_,?_,?_,?_⟩ <;> rw [Bool.eq_iff_iff,key]
 ·rw [f1]
  constructor
  ·intro ⟨d,h1,h2,h3⟩; rw [(sz d h1).1] at h3; split at h3 <;> omega
  ·intro h; exact ⟨0,by decide,by omega,by rw [(sz 0 (by decide)).1]; simp; omega⟩
 ·rw [f2]
  constructor
  ·intro ⟨d,h1,h2,h3⟩; rw [(sz d h1).2.1] at h3; omega
  ·intro h; exact ⟨(n - 29) / 8,by omega,by omega,by rw [(sz _ (by omega)).2.1]; omega⟩
 ·rw [f3]
  constructor
  ·intro ⟨d,h1,h2,h3⟩; rw [(sz d h1).2.2.1] at h3; split at h3 <;> omega
  ·intro h; exact ⟨0,by decide,by omega,by rw [(sz 0 (by decide)).2.2.1]; simp; omega⟩
 ·rw [f4]
  constructor
  ·intro ⟨d,h1,h2,h3⟩; rw [(sz d h1).2.2.2] at h3; omega
  ·intro h; exact ⟨(n - 79) / 8,by omega,by omega,by rw [(sz _ (by omega)).2.2.2]; omega⟩
def t107 (A:Alg) (bN:Int) (bB:List Int) (kind:Int):LT Bool Empty:=
 .br (A.cmp .eql kind 1)
 (.need (A.call (@tt ((Int×List Int)×Int×Int)) ((bN,bB),13,3)) (
 .ret (A.cmp .eql (A.call fn105 ((bN,bB),13,3)) 0)))
 (.br (A.cmp .eql kind 3)
 (.need (A.call (@tt ((Int×List Int)×Int×Int)) ((bN,bB),5,1)) (
  .ret (A.cmp .eql (A.call fn105 ((bN,bB),5,1)) 0)))
 (.br (A.cmp .eql kind 4)
  (.need (A.call (@tt ((Int×List Int)×Int×Int)) ((bN,bB),5,2)) (
  .ret (A.cmp .eql (A.call fn105 ((bN,bB),5,2)) 0)))
  (.ret true)))
noncomputable def E107 (A:Alg):Info (Ty.Ts [.bool]):={ti:=tys,fns:=[(244,Tryz.f244)],sps:=[(242,sp105)],stops:=[],cuts:=[],consts:=[],fin:=finD A [.bool]}
theorem t107_ok (A:Alg) (bN:Int) (bB:List Int) (kind:Int):run A (E107 A) 42 (startC 244 Tryz.f244 (dvals A [(.struct [(.int .i64),(.slice (.int .u8))]),(.int .i64)] ((bN,bB),kind)))=(t107 A bN bB kind).tr Empty.elim:=by kernel_rfl
def w107:Walk Tryz.prog 244 [(.struct [(.int .i64),(.slice (.int .u8))]),(.int .i64)] [.bool] Empty:=⟨fun ((bN,bB),kind)=>t107 std bN bB kind,Empty.elim⟩
theorem w107_ok:w107.Ok:=
 walk_ok (E:=E107 std) ⟨tys_fit,fns_cons Tryz.func244 (by kernel_rfl) (fns_nil),sps_cons so105 (sps_nil),by kernel_rfl⟩ rfl rfl rfl (by kernel_rfl) w107 Empty.elim 42 (fun ((bN,bB),kind)=>t107_ok std bN bB kind) (fun y=>y.elim)
def fn107:((Int×List Int)×Int)→Bool:=fun ((bN,bB),kind)=>(t107 std bN bB kind).val (Ty.dflts [.bool])
def sp107:FSpec:=⟨[(.struct [(.int .i64),(.slice (.int .u8))]),(.int .i64)], [.bool],(@tt ((Int×List Int)×Int)),fn107⟩
theorem eqs107 (bN:Int) (bB:List Int) (kind:Int):(t107 std bN bB kind).Eqs:=by simp only [t107,LT.Eqs,and_self,true_and,and_true]
theorem pre107_ok {bN:Int} {bB:List Int} {kind:Int} (h:Ty.hass [(.struct [(.int .i64),(.slice (.int .u8))]),(.int .i64)] ((bN,bB),kind)):(t107 std bN bB kind).pre=true:=by
 simp [t107,LT.pre,std_call,tt_eq]
theorem so107:FSpec.Sound Tryz.prog 244 sp107:=
 w107_ok.sound _ _ fun ((bN,bB),kind) _ h=>LT.runs (d:=Ty.dflts [.bool]) (eqs107 bN bB kind) (pre107_ok h)
structure P110c0 where
 (a0 a1:Int) (a2:List Int)
structure P110c1 where
 (b1:Int) (b2:List Int)
inductive Y110 where
 | c0 (p:P110c0)
 | c1 (p:P110c1) (b0:Int) (b3:List Int)
noncomputable def cfg110:Y110→Cfg
 | .c0 p=>{frames:=[{fn:=247,n:=21,env:=(Env.put (Env.put (Env.put .leaf 1 (.int .i64 false p.a0)) 2 (.ptr 0 0)) 5 (.esl true)),todo:=[.inLoop (Code.way (bodyOf Tryz.f247) [1,1,0,0,0]),.inBlock 0,.code (Code.way (bodyOf Tryz.f247) [1,1,1])],marks:=[],rnd:=none}],mem:=[.flat false [.int .i64 false p.a1,.sl (.int .u8) p.a2],.dead]}
 | .c1 p b0 b3=>{frames:=[{fn:=247,n:=21,env:=(Env.put (Env.put (Env.put .leaf 1 (.int .i64 false b0)) 2 (.ptr 0 0)) 5 (.own 1)),todo:=[.inLoop (Code.way (bodyOf Tryz.f247) [1,1,0,0,0]),.inBlock 0,.code (Code.way (bodyOf Tryz.f247) [1,1,1])],marks:=[],rnd:=none}],mem:=[.flat false [.int .i64 false p.b1,.sl (.int .u8) p.b2],.arr false (.int .u8) b3,.dead]}
def t110 (A:Alg) (bN:Int) (bB:List Int) (at1:Int):LT (List Int) Y110:=
 .more (.c0 ⟨at1,bN,bB⟩)
def s110 (A:Alg):Y110→LT (List Int) Y110
 | .c0 p=>
  .br (A.cmp .leq (A.bin .add .i64 p.a0 8) p.a1)
  (.need (A.call (@tt ((Int×List Int)×Int×Int)) ((p.a1,p.a2),p.a0,8)) (
   .need (A.cmp .leq (A.len [(A.conv .u8 (A.call fn105 ((p.a1,p.a2),p.a0,8)))]) 70368744177664) (
   .more (.c1 ⟨p.a1,p.a2⟩ (A.bin .add .i64 p.a0 8) [(A.conv .u8 (A.call fn105 ((p.a1,p.a2),p.a0,8)))]))))
  (.ret ([]:List Int))
 | .c1 p b0 b3=>
  .br (A.cmp .leq (A.bin .add .i64 b0 8) p.b1)
  (.need (A.call (@tt ((Int×List Int)×Int×Int)) ((p.b1,p.b2),b0,8)) (
   .need (A.cmp .leq (A.len (A.app b3 [(A.conv .u8 (A.call fn105 ((p.b1,p.b2),b0,8)))])) 70368744177664) (
   .more (.c1 p (A.bin .add .i64 b0 8) (A.app b3 [(A.conv .u8 (A.call fn105 ((p.b1,p.b2),b0,8)))])))))
  (.ret b3)
noncomputable def E110 (A:Alg):Info (Ty.Ts [(.slice (.int .u8))]):={ti:=tys,fns:=[(247,Tryz.f247)],sps:=[(242,sp105)],stops:=[⟨247,2, [[1,2,5]]⟩],cuts:=[],consts:=[],fin:=finD A [(.slice (.int .u8))]}
theorem t110_ok (A:Alg) (bN:Int) (bB:List Int) (at1:Int):run A (E110 A) 18 (startC 247 Tryz.f247 (dvals A [(.struct [(.int .i64),(.slice (.int .u8))]),(.int .i64)] ((bN,bB),at1)))=(t110 A bN bB at1).tr cfg110:=by kernel_rfl
theorem s110_ok (A:Alg):∀y,∃n,run A (E110 A) n (advance (E110 A).sps (cfg110 y))=(s110 A y).tr cfg110
 | .c0 p=>⟨35,by kernel_rfl⟩
 | .c1 p b0 b3=>⟨35,by kernel_rfl⟩
def w110:Walk Tryz.prog 247 [(.struct [(.int .i64),(.slice (.int .u8))]),(.int .i64)] [(.slice (.int .u8))] Y110:=⟨fun ((bN,bB),at1)=>t110 std bN bB at1,s110 std⟩
theorem w110_ok:w110.Ok:=
 walk_ok (E:=E110 std) ⟨tys_fit,fns_cons Tryz.func247 (by kernel_rfl) (fns_nil),sps_cons so105 (sps_nil),by kernel_rfl⟩ rfl rfl rfl (by kernel_rfl) w110 cfg110 18 (fun ((bN,bB),at1)=>t110_ok std bN bB at1) (s110_ok std)
def dataF:Nat→(Int×List Int)→Int→List Int
 | 0,_,_=>[]
 | k + 1,b,a=>std.conv .u8 (fn105 (b,a,8)) :: dataF k b (a + 8)
theorem data_c1 {n:Int} {b:List Int} (hn:n≤4096):∀(k:Nat) (p:P110c1) (a:Int) (r:List Int),p.b1=n→p.b2=b→0≤a→a≤5000→((n - a) / 8).toNat=k→r.length≤10000 - k→k≤600→Runs (s110 std) (.more (.c1 p a r)) (r ++ dataF k (n,b) a):=by
 intro k
 induction k with
 | zero=>
  intro p a r h1 h2 h0 ha hk hr _
  rw [runs_more,s110]
  refine (runs_brF (by rw [h1,std_add,w64 (by omega) (by omega),std_cmp_leq]; simp; omega)).2 ?_
  rw [dataF,List.append_nil]
  exact .ret _
 | succ k ih=>
  intro p a r h1 h2 h0 ha hk hr hk6
  rw [runs_more,s110]
  have ea:std.bin .add .i64 a 8=a + 8:=by rw [std_add,w64 (by omega) (by omega)]
  refine (runs_brT (by rw [h1,ea,std_cmp_leq]; simp; omega)).2 (runs_need.2 ⟨rfl,runs_need.2 ⟨?_,?_⟩⟩)
  ·show decide (((r ++ [_]).length:Int)≤70368744177664)=true
   rw [List.length_append]; simp; omega
  ·have hm:=ih p (a + 8) (r ++ [std.conv .u8 (fn105 ((n,b),a,8))]) h1 h2 (by omega) (by omega) (by omega) (by rw [List.length_append]; simp; omega) (by omega)
   rw [List.append_assoc] at hm
   have e:(std.app r [(std.conv .u8 (std.call fn105 ((p.b1,p.b2),a,8)))]:List Int)=r ++ [std.conv .u8 (fn105 ((n,b),a,8))]:=by
    rw [h1,h2]; rfl
   exact runs_c (congrArg LT.more (congr (congrArg (Y110.c1 p) ea) e)) hm
theorem data1 {n a:Int} {b:List Int} (hp:(decide (n≤4096) && (decide (0≤a) && decide (a≤1000)))=true):Runs (s110 std) (t110 std n b a) (dataF ((n - a) / 8).toNat (n,b) a):=by
 simp only [Bool.and_eq_true,decide_eq_true_eq] at hp
 unfold t110
 rw [runs_more,s110]
 have ea:std.bin .add .i64 a 8=a + 8:=by rw [std_add,w64 (by omega) (by omega)]
 by_cases h:a + 8≤n
 ·refine (runs_brT (show std.cmp .leq (std.bin .add .i64 a 8) n=true by rw [ea,std_cmp_leq]; simpa using h)).2 (runs_need.2 ⟨rfl,runs_need.2 ⟨rfl,?_⟩⟩)
  have hm:=data_c1 (b:=b) hp.1 ((n - (a + 8)) / 8).toNat ⟨n,b⟩ (a + 8) [std.conv .u8 (fn105 ((n,b),a,8))] rfl rfl (by omega) (by omega) rfl (by simp; omega) (by omega)
  rw [show ((n - a) / 8).toNat=((n - (a + 8)) / 8).toNat + 1 from by omega,dataF]
  exact runs_c (congrArg LT.more (congr (congrArg (Y110.c1 _) ea) rfl)) hm
 ·refine (runs_brF (show std.cmp .leq (std.bin .add .i64 a 8) n=false by rw [ea,std_cmp_leq]; simpa using h)).2 ?_
  rw [show ((n - a) / 8).toNat=0 from by omega]
  exact .ret _
def fn110:((Int×List Int)×Int)→(List Int):=fun (b,a)=>dataF ((b.1 - a) / 8).toNat b a
def pre110:((Int×List Int)×Int)→Bool:=fun (b,a)=>decide (b.1≤4096) && (decide (0≤a) && decide (a≤1000))
def sp110:FSpec:=⟨[(.struct [(.int .i64),(.slice (.int .u8))]),(.int .i64)], [(.slice (.int .u8))],pre110,fn110⟩
theorem run110 {bN:Int} {bB:List Int} {at1:Int} (h:Ty.hass [(.struct [(.int .i64),(.slice (.int .u8))]),(.int .i64)] ((bN,bB),at1)) (hp:pre110 ((bN,bB),at1)=true):Runs (s110 std) (t110 std bN bB at1) (fn110 ((bN,bB),at1)):=by
 exact data1 hp
theorem so110:FSpec.Sound Tryz.prog 247 sp110:=
 w110_ok.sound _ _ fun ((bN,bB),at1) hp h=>run110 h hp
def t108 (A:Alg) (bN:Int) (bB:List Int):LT ((Int×Int×(Int×Int×Int×Int×Int)×Int×List Int)×Int) Empty:=
 .need (A.call (@tt ((Int×List Int)×(Int×List Int))) ((bN,bB),0,([]:List Int))) (
 .need (A.call (@tt ((Int×List Int)×Int×Int)) ((A.call fn109 ((bN,bB),0,([]:List Int))).1,2,3)) (
 .need (A.call (@tt ((Int×List Int)×Int×Int)) ((A.call fn109 ((bN,bB),0,([]:List Int))).1,5,8)) (
  .eqs (IntKind.i64=IntKind.i64∧((A.call fn109 ((bN,bB),0,([]:List Int))).2:Int)=(A.call fn109 ((bN,bB),0,([]:List Int))).2) (
  .ret ((1,0,((A.call fn105 ((A.call fn109 ((bN,bB),0,([]:List Int))).1,5,8)),0,0,0,0),(A.call fn105 ((A.call fn109 ((bN,bB),0,([]:List Int))).1,2,3)),([]:List Int)),(A.call fn109 ((bN,bB),0,([]:List Int))).2)))))
noncomputable def E108 (A:Alg):Info (Ty.Ts [(.struct [(.int .i64),(.int .i64),(.struct [(.int .i64),(.int .i64),(.int .i64),(.int .i64),(.int .i64)]),(.int .i64),(.slice (.int .u8))]),(.int .i64)]):={ti:=tys,fns:=[(245,Tryz.f245)],sps:=[(242,sp105),(246,sp109)],stops:=[],cuts:=[],consts:=[],fin:=finD A [(.struct [(.int .i64),(.int .i64),(.struct [(.int .i64),(.int .i64),(.int .i64),(.int .i64),(.int .i64)]),(.int .i64),(.slice (.int .u8))]),(.int .i64)]}
theorem t108_ok (A:Alg) (bN:Int) (bB:List Int):run A (E108 A) 36 (startC 245 Tryz.f245 (dvals A [(.struct [(.int .i64),(.slice (.int .u8))])] (bN,bB)))=(t108 A bN bB).tr Empty.elim:=by kernel_rfl
def w108:Walk Tryz.prog 245 [(.struct [(.int .i64),(.slice (.int .u8))])] [(.struct [(.int .i64),(.int .i64),(.struct [(.int .i64),(.int .i64),(.int .i64),(.int .i64),(.int .i64)]),(.int .i64),(.slice (.int .u8))]),(.int .i64)] Empty:=⟨fun (bN,bB)=>t108 std bN bB,Empty.elim⟩
theorem w108_ok:w108.Ok:=
 walk_ok (E:=E108 std) ⟨tys_fit,fns_cons Tryz.func245 (by kernel_rfl) (fns_nil),sps_cons so105 (sps_cons so109 (sps_nil)),by kernel_rfl⟩ rfl rfl rfl (by kernel_rfl) w108 Empty.elim 36 (fun (bN,bB)=>t108_ok std bN bB) (fun y=>y.elim)
def fn108:((Int×List Int))→((Int×Int×(Int×Int×Int×Int×Int)×Int×List Int)×Int):=fun (bN,bB)=>(t108 std bN bB).val (Ty.dflts [(.struct [(.int .i64),(.int .i64),(.struct [(.int .i64),(.int .i64),(.int .i64),(.int .i64),(.int .i64)]),(.int .i64),(.slice (.int .u8))]),(.int .i64)])
def sp108:FSpec:=⟨[(.struct [(.int .i64),(.slice (.int .u8))])], [(.struct [(.int .i64),(.int .i64),(.struct [(.int .i64),(.int .i64),(.int .i64),(.int .i64),(.int .i64)]),(.int .i64),(.slice (.int .u8))]),(.int .i64)],(@tt ((Int×List Int))),fn108⟩
theorem eqs108 (bN:Int) (bB:List Int):(t108 std bN bB).Eqs:=by simp only [t108,LT.Eqs,and_self,true_and,and_true]
theorem pre108_ok {bN:Int} {bB:List Int} (h:Ty.hass [(.struct [(.int .i64),(.slice (.int .u8))])] (bN,bB)):(t108 std bN bB).pre=true:=by
 simp [t108,LT.pre,std_call,tt_eq]
theorem so108:FSpec.Sound Tryz.prog 245 sp108:=
 w108_ok.sound _ _ fun (bN,bB) _ h=>LT.runs (d:=Ty.dflts [(.struct [(.int .i64),(.int .i64),(.struct [(.int .i64),(.int .i64),(.int .i64),(.int .i64),(.int .i64)]),(.int .i64),(.slice (.int .u8))]),(.int .i64)]) (eqs108 bN bB) (pre108_ok h)
theorem dataF_in {n:Nat} {b:List Int} (hok:bsOk ((n:Int),b)=true) (hn:n≤4096):∀(k a:Nat),a + 8 * k≤n→dataF k ((n:Int),b) (a:Int)=dataOf k ((unpack n b).drop a):=by
 intro k
 induction k with
 | zero=>intro a _; rfl
 | succ k ih=>
  intro a h
  have hf:=fld_lt (unpack n b) a 8
  rw [dataF,dataOf,List.drop_drop,←ih (a + 8) (by omega)]
  congr 1
  rw [show fn105 (((n:Int),b),(a:Int),8)=((fld (unpack n b) a 8:Nat):Int) from getd (w:=8) hok (by omega) (by decide) hn,std_conv,w8 (by omega) (by omega)]
  rfl
theorem openS_le {x u:Int×List Int} (hb:bytesOk x.2):(openS (x,u)).1.1≤4096:=by
 obtain ⟨n,b⟩:=x
 rw [openS]
 cases h1:(!bsOk (n,b) || !bsOk u)
 ·rw [cond_false]
  cases decide (n < 24)
  ·rw [cond_false]
   cases over (over 0 (bsL u)) (bsL (n,b)) != 0
   ·rw [Bool.or_eq_false_iff,Bool.not_eq_false',Bool.not_eq_false'] at h1
    have:=bsL_le h1.1
    show (((bsL (n,b)).take ((bsL (n,b)).length - 24)).length:Int)≤4096
    rw [List.length_take]; omega
   ·exact (by decide:(0:Int)≤4096)
  ·exact (by decide:(0:Int)≤4096)
 ·exact (by decide:(0:Int)≤4096)
theorem data_bsP {l:List Bool} {a k:Nat} (hl:l.length≤4096) (h:a + 8 * k≤l.length) (h2:l.length < a + 8 * k + 8):fn110 (bsP l,(a:Int))=dataOf k (l.drop a):=by
 have:=dataF_in (n:=l.length) (b:=pack l) (bsP_ok hl) hl k a h
 rw [unpack_pack] at this
 show dataF (((l.length:Int) - (a:Int)) / 8).toNat (bsP l) (a:Int)=_
 rw [show (((l.length:Int) - (a:Int)) / 8).toNat=k from by omega]
 exact this
theorem cold_eq {n:Nat} {b:List Int} (hok:bsOk ((n:Int),b)=true) (hn:n=40) (hz:over 0 (unpack n b)=0):fn108 ((n:Int),b)=((1,0,(((fld (unpack n b) 5 8:Nat):Int),0,0,0,0),((fld (unpack n b) 2 3:Nat):Int), []),0):=by
 have hl:(bsL ((n:Int),b)).length=n:=by rw [bsL_length]; rfl
 have ho:std.call fn109 (((n:Int),b),((0:Int),([]:List Int)))=(bsP ((unpack n b).take 16),0):=by
  rw [std_call,fn109,openS_eq (u:=(0, [])) hok rfl (by omega),hl,show over 0 (bsL ((0:Int),([]:List Int)))=0 from rfl,show bsL ((n:Int),b)=unpack n b from rfl,hz,show n - 24=16 from by omega]
  rfl
 have h16:((unpack n b).take 16).length=16:=by rw [List.length_take,unpack_length]; omega
 apply val_of_runs
 unfold t108
 refine runs_need.2 ⟨rfl,runs_need.2 ⟨rfl,runs_need.2 ⟨rfl,runs_eqs.2 ⟨⟨rfl,rfl⟩,?_⟩⟩⟩⟩
 have e1:std.call fn105 ((std.call fn109 (((n:Int),b),((0:Int),([]:List Int)))).1,5,8)=((fld (unpack n b) 5 8:Nat):Int):=by
  rw [ho]; exact (getd_bsP (a:=5) (w:=8) (by omega) (by omega) (by decide)).trans (by rw [fld_take (by decide)])
 have e2:std.call fn105 ((std.call fn109 (((n:Int),b),((0:Int),([]:List Int)))).1,2,3)=((fld (unpack n b) 2 3:Nat):Int):=by
  rw [ho]; exact (getd_bsP (a:=2) (w:=3) (by omega) (by omega) (by decide)).trans (by rw [fld_take (by decide)])
 rw [e1,e2,ho]
 exact .ret _
theorem cold_err {n:Nat} {b:List Int} (hok:bsOk ((n:Int),b)=true) (hn:n=40) (hz:(over 0 (unpack n b) != 0)=true):(fn108 ((n:Int),b)).2=21:=by
 have hl:(bsL ((n:Int),b)).length=n:=by rw [bsL_length]; rfl
 have ho:openS (((n:Int),b),((0:Int),([]:List Int)))=(zB,21):=by
  rw [openS_eq (u:=(0, [])) hok rfl (by omega),show over 0 (bsL ((0:Int),([]:List Int)))=0 from rfl,show bsL ((n:Int),b)=unpack n b from rfl,hz]
  rfl
 show (openS (((n:Int),b),((0:Int),([]:List Int)))).2=21
 rw [ho]
def t111 (A:Alg) (bN:Int) (bB:List Int) (kind:Int) (many:Int):LT ((Int×Int×(Int×Int×Int×Int×Int)×Int×List Int)×Int) Empty:=
 .need (A.call (@tt ((Int×List Int)×Int×Int)) ((bN,bB),0,many)) (
 .need (A.call (@tt ((Int×List Int)×(Int×List Int))) ((A.call fn142 ((bN,bB),0,many)).1,0,([]:List Int))) (
 .br (A.cmp .neq (A.call fn109 ((A.call fn142 ((bN,bB),0,many)).1,0,([]:List Int))).2 0)
  (.ret ((0,0,(0,0,0,0,0),0,([]:List Int)),(A.call fn109 ((A.call fn142 ((bN,bB),0,many)).1,0,([]:List Int))).2))
  (.need (A.call (@tt ((Int×List Int)×Int×Int)) ((A.call fn109 ((A.call fn142 ((bN,bB),0,many)).1,0,([]:List Int))).1,(A.bin .sub .i64 (A.call fn109 ((A.call fn142 ((bN,bB),0,many)).1,0,([]:List Int))).1.1 24),(A.call fn109 ((A.call fn142 ((bN,bB),0,many)).1,0,([]:List Int))).1.1)) (
  .need (A.call (@tt ((Int×List Int)×Int×Int)) ((bN,bB),2,3)) (
   .br (A.cmp .eql kind 4)
   (.need (A.call (@tt ((Int×List Int)×(Int×List Int))) ((bN,bB),(A.call fn142 ((A.call fn109 ((A.call fn142 ((bN,bB),0,many)).1,0,([]:List Int))).1,(A.bin .sub .i64 (A.call fn109 ((A.call fn142 ((bN,bB),0,many)).1,0,([]:List Int))).1.1 24),(A.call fn109 ((A.call fn142 ((bN,bB),0,many)).1,0,([]:List Int))).1.1)).1)) (
    .br (A.cmp .neq (A.call fn109 ((bN,bB),(A.call fn142 ((A.call fn109 ((A.call fn142 ((bN,bB),0,many)).1,0,([]:List Int))).1,(A.bin .sub .i64 (A.call fn109 ((A.call fn142 ((bN,bB),0,many)).1,0,([]:List Int))).1.1 24),(A.call fn109 ((A.call fn142 ((bN,bB),0,many)).1,0,([]:List Int))).1.1)).1)).2 0)
    (.ret ((0,0,(0,0,0,0,0),0,([]:List Int)),(A.call fn109 ((bN,bB),(A.call fn142 ((A.call fn109 ((A.call fn142 ((bN,bB),0,many)).1,0,([]:List Int))).1,(A.bin .sub .i64 (A.call fn109 ((A.call fn142 ((bN,bB),0,many)).1,0,([]:List Int))).1.1 24),(A.call fn109 ((A.call fn142 ((bN,bB),0,many)).1,0,([]:List Int))).1.1)).1)).2))
    (.need (A.call pre110 ((A.call fn109 ((bN,bB),(A.call fn142 ((A.call fn109 ((A.call fn142 ((bN,bB),0,many)).1,0,([]:List Int))).1,(A.bin .sub .i64 (A.call fn109 ((A.call fn142 ((bN,bB),0,many)).1,0,([]:List Int))).1.1 24),(A.call fn109 ((A.call fn142 ((bN,bB),0,many)).1,0,([]:List Int))).1.1)).1)).1,many)) (
     .need (A.call (@tt ((Int×List Int))) (A.call fn142 ((A.call fn109 ((A.call fn142 ((bN,bB),0,many)).1,0,([]:List Int))).1,(A.bin .sub .i64 (A.call fn109 ((A.call fn142 ((bN,bB),0,many)).1,0,([]:List Int))).1.1 24),(A.call fn109 ((A.call fn142 ((bN,bB),0,many)).1,0,([]:List Int))).1.1)).1) (
     .br (A.cmp .neq (A.call fn143 (A.call fn142 ((A.call fn109 ((A.call fn142 ((bN,bB),0,many)).1,0,([]:List Int))).1,(A.bin .sub .i64 (A.call fn109 ((A.call fn142 ((bN,bB),0,many)).1,0,([]:List Int))).1.1 24),(A.call fn109 ((A.call fn142 ((bN,bB),0,many)).1,0,([]:List Int))).1.1)).1).2 0)
      (.ret ((0,0,(0,0,0,0,0),0,([]:List Int)),51))
      (.ret ((kind,(A.call fn105 ((bN,bB),2,3)),(A.call fn143 (A.call fn142 ((A.call fn109 ((A.call fn142 ((bN,bB),0,many)).1,0,([]:List Int))).1,(A.bin .sub .i64 (A.call fn109 ((A.call fn142 ((bN,bB),0,many)).1,0,([]:List Int))).1.1 24),(A.call fn109 ((A.call fn142 ((bN,bB),0,many)).1,0,([]:List Int))).1.1)).1).1,0,(A.call fn110 ((A.call fn109 ((bN,bB),(A.call fn142 ((A.call fn109 ((A.call fn142 ((bN,bB),0,many)).1,0,([]:List Int))).1,(A.bin .sub .i64 (A.call fn109 ((A.call fn142 ((bN,bB),0,many)).1,0,([]:List Int))).1.1 24),(A.call fn109 ((A.call fn142 ((bN,bB),0,many)).1,0,([]:List Int))).1.1)).1)).1,many))),0)))))))
   (.need (A.call (@tt ((Int×List Int))) (A.call fn142 ((A.call fn109 ((A.call fn142 ((bN,bB),0,many)).1,0,([]:List Int))).1,(A.bin .sub .i64 (A.call fn109 ((A.call fn142 ((bN,bB),0,many)).1,0,([]:List Int))).1.1 24),(A.call fn109 ((A.call fn142 ((bN,bB),0,many)).1,0,([]:List Int))).1.1)).1) (
    .br (A.cmp .neq (A.call fn143 (A.call fn142 ((A.call fn109 ((A.call fn142 ((bN,bB),0,many)).1,0,([]:List Int))).1,(A.bin .sub .i64 (A.call fn109 ((A.call fn142 ((bN,bB),0,many)).1,0,([]:List Int))).1.1 24),(A.call fn109 ((A.call fn142 ((bN,bB),0,many)).1,0,([]:List Int))).1.1)).1).2 0)
    (.ret ((0,0,(0,0,0,0,0),0,([]:List Int)),51))
    (.ret ((kind,(A.call fn105 ((bN,bB),2,3)),(A.call fn143 (A.call fn142 ((A.call fn109 ((A.call fn142 ((bN,bB),0,many)).1,0,([]:List Int))).1,(A.bin .sub .i64 (A.call fn109 ((A.call fn142 ((bN,bB),0,many)).1,0,([]:List Int))).1.1 24),(A.call fn109 ((A.call fn142 ((bN,bB),0,many)).1,0,([]:List Int))).1.1)).1).1,0,([]:List Int)),0)))))))))
noncomputable def E111 (A:Alg):Info (Ty.Ts [(.struct [(.int .i64),(.int .i64),(.struct [(.int .i64),(.int .i64),(.int .i64),(.int .i64),(.int .i64)]),(.int .i64),(.slice (.int .u8))]),(.int .i64)]):={ti:=tys,fns:=[(248,Tryz.f248)],sps:=[(242,sp105),(246,sp109),(247,sp110),(286,sp142),(287,sp143)],stops:=[],cuts:=[],consts:=[],fin:=finD A [(.struct [(.int .i64),(.int .i64),(.struct [(.int .i64),(.int .i64),(.int .i64),(.int .i64),(.int .i64)]),(.int .i64),(.slice (.int .u8))]),(.int .i64)]}
theorem t111_ok (A:Alg) (bN:Int) (bB:List Int) (kind:Int) (many:Int):run A (E111 A) 134 (startC 248 Tryz.f248 (dvals A [(.struct [(.int .i64),(.slice (.int .u8))]),(.int .i64),(.int .i64)] ((bN,bB),kind,many)))=(t111 A bN bB kind many).tr Empty.elim:=by kernel_rfl
def w111:Walk Tryz.prog 248 [(.struct [(.int .i64),(.slice (.int .u8))]),(.int .i64),(.int .i64)] [(.struct [(.int .i64),(.int .i64),(.struct [(.int .i64),(.int .i64),(.int .i64),(.int .i64),(.int .i64)]),(.int .i64),(.slice (.int .u8))]),(.int .i64)] Empty:=⟨fun ((bN,bB),kind,many)=>t111 std bN bB kind many,Empty.elim⟩
theorem w111_ok:w111.Ok:=
 walk_ok (E:=E111 std) ⟨tys_fit,fns_cons Tryz.func248 (by kernel_rfl) (fns_nil),sps_cons so105 (sps_cons so109 (sps_cons so110 (sps_cons so142 (sps_cons so143 (sps_nil))))),by kernel_rfl⟩ rfl rfl rfl (by kernel_rfl) w111 Empty.elim 134 (fun ((bN,bB),kind,many)=>t111_ok std bN bB kind many) (fun y=>y.elim)
def fn111:((Int×List Int)×Int×Int)→((Int×Int×(Int×Int×Int×Int×Int)×Int×List Int)×Int):=fun ((bN,bB),kind,many)=>(t111 std bN bB kind many).val (Ty.dflts [(.struct [(.int .i64),(.int .i64),(.struct [(.int .i64),(.int .i64),(.int .i64),(.int .i64),(.int .i64)]),(.int .i64),(.slice (.int .u8))]),(.int .i64)])
def pre111:((Int×List Int)×Int×Int)→Bool:=fun (_,_,m)=>decide (0≤m) && decide (m≤1000)
def sp111:FSpec:=⟨[(.struct [(.int .i64),(.slice (.int .u8))]),(.int .i64),(.int .i64)], [(.struct [(.int .i64),(.int .i64),(.struct [(.int .i64),(.int .i64),(.int .i64),(.int .i64),(.int .i64)]),(.int .i64),(.slice (.int .u8))]),(.int .i64)],pre111,fn111⟩
theorem eqs111 (bN:Int) (bB:List Int) (kind:Int) (many:Int):(t111 std bN bB kind many).Eqs:=by simp only [t111,LT.Eqs,and_self,true_and,and_true]
theorem pre111_ok {bN:Int} {bB:List Int} {kind:Int} {many:Int} (h:Ty.hass [(.struct [(.int .i64),(.slice (.int .u8))]),(.int .i64),(.int .i64)] ((bN,bB),kind,many)) (hp:pre111 ((bN,bB),kind,many)=true):(t111 std bN bB kind many).pre=true:=by
 simp only [pre111,Bool.and_eq_true,decide_eq_true_eq] at hp
 have hb:=(has_bits h.1).2.2
 have ho:∀u,std.call pre110 ((std.call fn109 ((bN,bB),u)).1,many)=true:=fun u=>by
  have:=openS_le (x:=(bN,bB)) (u:=u) hb
  rw [std_call,std_call,pre110,fn109]; simp; omega
 simp [t111,LT.pre,std_call,tt_eq] at ho ⊢
 simp [ho]
theorem so111:FSpec.Sound Tryz.prog 248 sp111:=
 w111_ok.sound _ _ fun ((bN,bB),kind,many) hp h=>LT.runs (d:=Ty.dflts [(.struct [(.int .i64),(.int .i64),(.struct [(.int .i64),(.int .i64),(.int .i64),(.int .i64),(.int .i64)]),(.int .i64),(.slice (.int .u8))]),(.int .i64)]) (eqs111 bN bB kind many) (pre111_ok h hp)
theorem stated_3 {n:Nat} {b:List Int} (hok:bsOk ((n:Int),b)=true) (hn:n=54):fn111 (((n:Int),b),3,54)=bif over 0 (unpack n b) != 0 then (zeroF,21) else bif stOk (stOf (((unpack n b).drop 6).take 24)) then ((3,((fld (unpack n b) 2 3:Nat):Int),stOf (((unpack n b).drop 6).take 24),0, []),0) else (zeroF,51):=by
 have hlu:(unpack n b).length=n:=unpack_length n b
 have hql:(((unpack n b).drop 6).take 24).length=24:=by rw [List.length_take,List.length_drop,hlu]; omega
 have h30:((unpack n b).take 30).length=30:=by rw [List.length_take,hlu]; omega
 have e1:std.call fn142 (((n:Int),b),0,54)=(bsP (unpack n b),0):=by
  rw [std_call,fn142,sliceS]
  simp only [hok]
  rw [show decide ((n:Int) < 54)=false from by simp; omega]
  show (bsP (((unpack n b).take 54).drop 0),(0:Int))=_
  rw [List.drop_zero,List.take_of_length_le (by omega)]
 have e2:std.call fn109 (bsP (unpack n b),((0:Int),([]:List Int)))=bif over 0 (unpack n b) != 0 then (zB,21) else (bsP ((unpack n b).take 30),0):=by
  have:=openS_eq (n:=((unpack n b).length:Int)) (b:=pack (unpack n b)) (u:=(0, [])) (bsP_ok (by omega)) rfl (by rw [show (((unpack n b).length:Int),pack (unpack n b))=bsP (unpack n b) from rfl,bsL_bsP]; omega)
  rw [show (((unpack n b).length:Int),pack (unpack n b))=bsP (unpack n b) from rfl,bsL_bsP,hlu,show n - 24=30 from by omega,show over 0 (bsL ((0:Int),([]:List Int)))=0 from rfl] at this
  exact this
 have e3:std.call fn142 (bsP ((unpack n b).take 30),std.bin .sub .i64 (bsP ((unpack n b).take 30)).1 24,(bsP ((unpack n b).take 30)).1)=(bsP (((unpack n b).drop 6).take 24),0):=by
  have:=slice_tail (l:=(unpack n b).take 30) (by omega) (by omega)
  rw [h30,List.drop_take] at this
  exact this
 have e4:std.call fn105 (((n:Int),b),2,3)=((fld (unpack n b) 2 3:Nat):Int):=getd (a:=2) (w:=3) hok (by omega) (by decide) (by omega)
 have e5:std.call fn143 (bsP (((unpack n b).drop 6).take 24))=bif stOk (stOf (((unpack n b).drop 6).take 24)) then (stOf (((unpack n b).drop 6).take 24),0) else (zS,40):=stParse_24 hql
 apply val_of_runs
 unfold t111
 rw [e1]
 refine runs_need.2 ⟨rfl,runs_need.2 ⟨rfl,?_⟩⟩
 rw [e2]
 cases over 0 (unpack n b) != 0
 ·rw [cond_false,cond_false]
  refine (runs_brF rfl).2 ?_
  rw [e3,e4]
  refine runs_need.2 ⟨rfl,runs_need.2 ⟨rfl,(runs_brF rfl).2 (runs_need.2 ⟨rfl,?_⟩)⟩⟩
  rw [e5]
  cases stOk (stOf (((unpack n b).drop 6).take 24))
  ·exact (runs_brT rfl).2 (.ret _)
  ·exact (runs_brF rfl).2 (.ret _)
 ·exact (runs_brT rfl).2 (.ret _)
theorem stated_4 {n:Nat} {b:List Int} (hok:bsOk ((n:Int),b)=true) (hn:79≤n) (hn2:n≤143) (hn3:n % 8=7):fn111 (((n:Int),b),4,55)=bif over 0 ((unpack n b).take 55) != 0 then (zeroF,21) else bif over (over 0 (((unpack n b).drop 7).take 24)) (unpack n b) != 0 then (zeroF,21) else bif stOk (stOf (((unpack n b).drop 7).take 24)) then ((4,((fld (unpack n b) 2 3:Nat):Int),stOf (((unpack n b).drop 7).take 24),0,dataOf ((n - 79) / 8) ((unpack n b).drop 55)),0) else (zeroF,51):=by
 have hlu:(unpack n b).length=n:=unpack_length n b
 have hql:(((unpack n b).drop 7).take 24).length=24:=by rw [List.length_take,List.length_drop,hlu]; omega
 have h55:((unpack n b).take 55).length=55:=by rw [List.length_take,hlu]; omega
 have h31:((unpack n b).take 31).length=31:=by rw [List.length_take,hlu]; omega
 have hfl:((unpack n b).take (n - 24)).length=n - 24:=by rw [List.length_take,hlu]; omega
 have e1:std.call fn142 (((n:Int),b),0,55)=(bsP ((unpack n b).take 55),0):=by
  rw [std_call,fn142,sliceS]
  simp only [hok]
  rw [show decide ((n:Int) < 55)=false from by simp; omega]
  rfl
 have e2:std.call fn109 (bsP ((unpack n b).take 55),((0:Int),([]:List Int)))=bif over 0 ((unpack n b).take 55) != 0 then (zB,21) else (bsP ((unpack n b).take 31),0):=by
  have:=openS_eq (n:=(bsP ((unpack n b).take 55)).1) (b:=(bsP ((unpack n b).take 55)).2) (u:=(0, [])) (bsP_ok (l:=(unpack n b).take 55) (by omega)) rfl (by rw [show ((bsP ((unpack n b).take 55)).1,(bsP ((unpack n b).take 55)).2)=bsP ((unpack n b).take 55) from rfl,bsL_bsP]; omega)
  rw [show ((bsP ((unpack n b).take 55)).1,(bsP ((unpack n b).take 55)).2)=bsP ((unpack n b).take 55) from rfl,bsL_bsP,h55,List.take_take,show over 0 (bsL ((0:Int),([]:List Int)))=0 from rfl] at this
  exact this
 have e3:std.call fn142 (bsP ((unpack n b).take 31),std.bin .sub .i64 (bsP ((unpack n b).take 31)).1 24,(bsP ((unpack n b).take 31)).1)=(bsP (((unpack n b).drop 7).take 24),0):=by
  have:=slice_tail (l:=(unpack n b).take 31) (by omega) (by omega)
  rw [h31,List.drop_take] at this
  exact this
 have e4:std.call fn105 (((n:Int),b),2,3)=((fld (unpack n b) 2 3:Nat):Int):=getd (a:=2) (w:=3) hok (by omega) (by decide) (by omega)
 have e5:std.call fn143 (bsP (((unpack n b).drop 7).take 24))=bif stOk (stOf (((unpack n b).drop 7).take 24)) then (stOf (((unpack n b).drop 7).take 24),0) else (zS,40):=stParse_24 hql
 have e6:std.call fn109 (((n:Int),b),bsP (((unpack n b).drop 7).take 24))=bif over (over 0 (((unpack n b).drop 7).take 24)) (unpack n b) != 0 then (zB,21) else (bsP ((unpack n b).take (n - 24)),0):=by
  rw [std_call,fn109,openS_eq hok (bsP_ok (by omega)) (by rw [bsL_length]; exact (by omega:24≤n)),bsL_bsP]
  show (bif over (over 0 (((unpack n b).drop 7).take 24)) (unpack n b) != 0 then (zB,(21:Int)) else (bsP ((unpack n b).take ((unpack n b).length - 24)),0))=_
  rw [hlu]
 have e7:std.call fn110 (bsP ((unpack n b).take (n - 24)),55)=dataOf ((n - 79) / 8) ((unpack n b).drop 55):=by
  rw [std_call]
  refine (data_bsP (a:=55) (k:=(n - 79) / 8) (by omega) (by omega) (by omega)).trans ?_
  exact dataOf_take (by omega) (by omega)
 apply val_of_runs
 unfold t111
 rw [e1]
 refine runs_need.2 ⟨rfl,runs_need.2 ⟨rfl,?_⟩⟩
 rw [e2]
 cases over 0 ((unpack n b).take 55) != 0
 ·rw [cond_false,cond_false]
  refine (runs_brF rfl).2 ?_
  rw [e3,e4]
  refine runs_need.2 ⟨rfl,runs_need.2 ⟨rfl,(runs_brT rfl).2 (runs_need.2 ⟨rfl,?_⟩)⟩⟩
  rw [e6]
  cases over (over 0 (((unpack n b).drop 7).take 24)) (unpack n b) != 0
  ·rw [cond_false,cond_false]
   refine (runs_brF rfl).2 (runs_need.2 ⟨?_,runs_need.2 ⟨rfl,?_⟩⟩)
   ·rw [std_call,pre110]
    show (decide ((((unpack n b).take (n - 24)).length:Int)≤4096) && (decide ((0:Int)≤55) && decide ((55:Int)≤1000)))=true
    rw [hfl]; simp; omega
   ·rw [e5,e7]
    cases stOk (stOf (((unpack n b).drop 7).take 24))
    ·exact (runs_brT rfl).2 (.ret _)
    ·exact (runs_brF rfl).2 (.ret _)
  ·exact (runs_brT rfl).2 (.ret _)
 ·exact (runs_brT rfl).2 (.ret _)
open Go.Ev.Pl
def t52 (A:Alg) (bN:Int) (bB:List Int) (cTime:Int) (cPos:Int) (cMode:Int) (cNext:Int) (cMember:Int):LT ((Int×Int×(Int×Int×Int×Int×Int)×Int×List Int)×Int) Empty:=
 .need (A.call (@tt ((Int×List Int))) (bN,bB)) (
 .br (A.cmp .neq (A.call fn97 (bN,bB)) 0)
 (.ret ((0,0,(0,0,0,0,0),0,([]:List Int)),10))
 (.need (A.call (@tt ((Int×Int×Int×Int×Int)×Int)) ((cTime,cPos,cMode,cNext,cMember),8)) (
  .br (A.cmp .neq (A.call fn42 ((cTime,cPos,cMode,cNext,cMember),8)) 0)
  (.ret ((0,0,(0,0,0,0,0),0,([]:List Int)),40))
  (.need (A.call (@tt ((Int×List Int)×Int×Int)) ((bN,bB),0,2)) (
   .need (A.call (@tt (Int×Int)) (bN,(A.bin .add .i64 (A.call fn105 ((bN,bB),0,2)) 1))) (
   .br (A.not (A.call fn106 (bN,(A.bin .add .i64 (A.call fn105 ((bN,bB),0,2)) 1))))
    (.ret ((0,0,(0,0,0,0,0),0,([]:List Int)),51))
    (.need (A.call (@tt ((Int×List Int)×Int)) ((bN,bB),(A.bin .add .i64 (A.call fn105 ((bN,bB),0,2)) 1))) (
    .br (A.not (A.call fn107 ((bN,bB),(A.bin .add .i64 (A.call fn105 ((bN,bB),0,2)) 1))))
     (.ret ((0,0,(0,0,0,0,0),0,([]:List Int)),51))
     (.br (A.cmp .eql (A.bin .add .i64 (A.call fn105 ((bN,bB),0,2)) 1) 1)
     (.need (A.call (@tt ((Int×List Int))) (bN,bB)) (
      .br (A.cmp .neq (A.call fn108 (bN,bB)).2 0)
      (.ret ((0,0,(0,0,0,0,0),0,([]:List Int)),(A.call fn108 (bN,bB)).2))
      (.need (A.call (@tt ((Int×Int×(Int×Int×Int×Int×Int)×Int×List Int))) (A.call fn108 (bN,bB)).1) (
       .br (A.cmp .neq (A.call fn58 (A.call fn108 (bN,bB)).1) 0)
       (.ret ((0,0,(0,0,0,0,0),0,([]:List Int)),51))
       (.ret ((A.call fn108 (bN,bB)).1,0))))))
     (.br (A.cmp .eql (A.bin .add .i64 (A.call fn105 ((bN,bB),0,2)) 1) 2)
      (.need (A.call (@tt ((Int×Int×Int×Int×Int))) (cTime,cPos,cMode,cNext,cMember)) (
      .need (A.call (@tt ((Int×List Int)×(Int×List Int))) ((bN,bB),(A.call fn82 (cTime,cPos,cMode,cNext,cMember)).1)) (
       .need (A.call (@tt ((Int×List Int)×Int×Int)) ((bN,bB),2,3)) (
       .need (A.call pre110 ((A.call fn109 ((bN,bB),(A.call fn82 (cTime,cPos,cMode,cNext,cMember)).1)).1,5)) (
        .br (A.cmp .neq (A.call fn109 ((bN,bB),(A.call fn82 (cTime,cPos,cMode,cNext,cMember)).1)).2 0)
        (.ret ((0,0,(0,0,0,0,0),0,([]:List Int)),(A.call fn109 ((bN,bB),(A.call fn82 (cTime,cPos,cMode,cNext,cMember)).1)).2))
        (.need (A.call (@tt ((Int×Int×(Int×Int×Int×Int×Int)×Int×List Int))) ((A.bin .add .i64 (A.call fn105 ((bN,bB),0,2)) 1),(A.call fn105 ((bN,bB),2,3)),(cTime,cPos,cMode,cNext,cMember),0,(A.call fn110 ((A.call fn109 ((bN,bB),(A.call fn82 (cTime,cPos,cMode,cNext,cMember)).1)).1,5)))) (
         .br (A.cmp .neq (A.call fn58 ((A.bin .add .i64 (A.call fn105 ((bN,bB),0,2)) 1),(A.call fn105 ((bN,bB),2,3)),(cTime,cPos,cMode,cNext,cMember),0,(A.call fn110 ((A.call fn109 ((bN,bB),(A.call fn82 (cTime,cPos,cMode,cNext,cMember)).1)).1,5)))) 0)
         (.ret ((0,0,(0,0,0,0,0),0,([]:List Int)),51))
         (.ret (((A.bin .add .i64 (A.call fn105 ((bN,bB),0,2)) 1),(A.call fn105 ((bN,bB),2,3)),(cTime,cPos,cMode,cNext,cMember),0,(A.call fn110 ((A.call fn109 ((bN,bB),(A.call fn82 (cTime,cPos,cMode,cNext,cMember)).1)).1,5))),0)))))))))
      (.br (A.cmp .eql (A.bin .add .i64 (A.call fn105 ((bN,bB),0,2)) 1) 3)
      (.need (A.call pre111 ((bN,bB),(A.bin .add .i64 (A.call fn105 ((bN,bB),0,2)) 1),54)) (
       .br (A.cmp .neq (A.call fn111 ((bN,bB),(A.bin .add .i64 (A.call fn105 ((bN,bB),0,2)) 1),54)).2 0)
       (.ret ((0,0,(0,0,0,0,0),0,([]:List Int)),(A.call fn111 ((bN,bB),(A.bin .add .i64 (A.call fn105 ((bN,bB),0,2)) 1),54)).2))
       (.need (A.call (@tt ((Int×Int×(Int×Int×Int×Int×Int)×Int×List Int))) (A.call fn111 ((bN,bB),(A.bin .add .i64 (A.call fn105 ((bN,bB),0,2)) 1),54)).1) (
        .br (A.cmp .neq (A.call fn58 (A.call fn111 ((bN,bB),(A.bin .add .i64 (A.call fn105 ((bN,bB),0,2)) 1),54)).1) 0)
        (.ret ((0,0,(0,0,0,0,0),0,([]:List Int)),51))
        (.ret ((A.call fn111 ((bN,bB),(A.bin .add .i64 (A.call fn105 ((bN,bB),0,2)) 1),54)).1,0))))))
      (.need (A.call pre111 ((bN,bB),(A.bin .add .i64 (A.call fn105 ((bN,bB),0,2)) 1),55)) (
       .br (A.cmp .neq (A.call fn111 ((bN,bB),(A.bin .add .i64 (A.call fn105 ((bN,bB),0,2)) 1),55)).2 0)
       (.ret ((0,0,(0,0,0,0,0),0,([]:List Int)),(A.call fn111 ((bN,bB),(A.bin .add .i64 (A.call fn105 ((bN,bB),0,2)) 1),55)).2))
       (.need (A.call (@tt ((Int×Int×(Int×Int×Int×Int×Int)×Int×List Int))) (A.call fn111 ((bN,bB),(A.bin .add .i64 (A.call fn105 ((bN,bB),0,2)) 1),55)).1) (
        .br (A.cmp .neq (A.call fn58 (A.call fn111 ((bN,bB),(A.bin .add .i64 (A.call fn105 ((bN,bB),0,2)) 1),55)).1) 0)
        (.ret ((0,0,(0,0,0,0,0),0,([]:List Int)),51))
        (.ret ((A.call fn111 ((bN,bB),(A.bin .add .i64 (A.call fn105 ((bN,bB),0,2)) 1),55)).1,0)))))))))))))))))
noncomputable def E52 (A:Alg):Info (Ty.Ts [(.struct [(.int .i64),(.int .i64),(.struct [(.int .i64),(.int .i64),(.int .i64),(.int .i64),(.int .i64)]),(.int .i64),(.slice (.int .u8))]),(.int .i64)]):={ti:=tys,fns:=[(186,Tryz.f186)],sps:=[(189,sp42),(160,sp58),(161,sp82),(85,sp97),(242,sp105),(243,sp106),(244,sp107),(245,sp108),(246,sp109),(247,sp110),(248,sp111)],stops:=[],cuts:=[],consts:=[],fin:=finD A [(.struct [(.int .i64),(.int .i64),(.struct [(.int .i64),(.int .i64),(.int .i64),(.int .i64),(.int .i64)]),(.int .i64),(.slice (.int .u8))]),(.int .i64)]}
theorem t52_ok (A:Alg) (bN:Int) (bB:List Int) (cTime:Int) (cPos:Int) (cMode:Int) (cNext:Int) (cMember:Int):run A (E52 A) 145 (startC 186 Tryz.f186 (dvals A [(.struct [(.int .i64),(.slice (.int .u8))]),(.struct [(.int .i64),(.int .i64),(.int .i64),(.int .i64),(.int .i64)])] ((bN,bB),cTime,cPos,cMode,cNext,cMember)))=(t52 A bN bB cTime cPos cMode cNext cMember).tr Empty.elim:=by kernel_rfl
def w52:Walk Tryz.prog 186 [(.struct [(.int .i64),(.slice (.int .u8))]),(.struct [(.int .i64),(.int .i64),(.int .i64),(.int .i64),(.int .i64)])] [(.struct [(.int .i64),(.int .i64),(.struct [(.int .i64),(.int .i64),(.int .i64),(.int .i64),(.int .i64)]),(.int .i64),(.slice (.int .u8))]),(.int .i64)] Empty:=⟨fun ((bN,bB),cTime,cPos,cMode,cNext,cMember)=>t52 std bN bB cTime cPos cMode cNext cMember,Empty.elim⟩
theorem w52_ok:w52.Ok:=
 walk_ok (E:=E52 std) ⟨tys_fit,fns_cons Tryz.func186 (by kernel_rfl) (fns_nil),sps_cons so42 (sps_cons so58 (sps_cons so82 (sps_cons so97 (sps_cons so105 (sps_cons so106 (sps_cons so107 (sps_cons so108 (sps_cons so109 (sps_cons so110 (sps_cons so111 (sps_nil))))))))))),by kernel_rfl⟩ rfl rfl rfl (by kernel_rfl) w52 Empty.elim 145 (fun ((bN,bB),cTime,cPos,cMode,cNext,cMember)=>t52_ok std bN bB cTime cPos cMode cNext cMember) (fun y=>y.elim)
theorem parse1 {n t p m x s:Int} {b:List Int} (h:Ty.hass [(.struct [(.int .i64),(.slice (.int .u8))]),(.struct [(.int .i64),(.int .i64),(.int .i64),(.int .i64),(.int .i64)])] ((n,b),(t,p,m,x,s))):Runs Empty.elim (t52 std n b t p m x s) (parS ((n,b),(t,p,m,x,s))):=by
 have h1:=has_parse h
 have hb:=(has_bits h1).2.2
 have hl:=has_len h1
 unfold t52
 have hc:std.call fn97 (n,b)=bif bsOk (n,b) then 0 else 10:=rfl
 refine runs_need.2 ⟨rfl,?_⟩
 show Runs Empty.elim _ (bif !bsOk (n,b) then (zeroF,10) else bif !stOk (t,p,m,x,s) then (zeroF,40) else frOf (bsL (n,b)) (t,p,m,x,s))
 cases hok:bsOk (n,b)
 ·rw [hok] at hc
  exact (runs_brT (cne_t (by rw [hc]; decide))).2 (.ret _)
 rw [hok] at hc
 refine (runs_brF (cne_f hc)).2 (runs_need.2 ⟨rfl,?_⟩)
 rw [Bool.not_true,cond_false]
 have hchk:std.call fn42 ((t,p,m,x,s),8)=bif stOk (t,p,m,x,s) then 0 else 40:=chkS_8 (t,p,m,x,s)
 cases hst:stOk (t,p,m,x,s)
 ·rw [hst] at hchk
  exact (runs_brT (cne_t (by rw [hchk]; decide))).2 (.ret _)
 rw [hst] at hchk
 refine (runs_brF (cne_f hchk)).2 (runs_need.2 ⟨rfl,runs_need.2 ⟨rfl,?_⟩⟩)
 rw [Bool.not_true,cond_false]
 obtain ⟨h2,h3,h4⟩:=(bsOk_iff hb).1 hok
 obtain ⟨n,rfl⟩:=Int.eq_ofNat_of_zero_le h2
 have hn:n≤4096:=by omega
 have hun:bsL ((n:Int),b)=unpack n b:=rfl
 have hlen:(bsL ((n:Int),b)).length=n:=by rw [bsL_length]; rfl
 have hlu:(unpack n b).length=n:=unpack_length n b
 rw [hun]
 obtain ⟨hp1,hp2,hp3,hp4⟩:=long_fits (n:=n)
 obtain ⟨f2,f4,f1,f3⟩:=fits_len (n:=n)
 by_cases hs:n < 2
 ·have hK:std.bin .add .i64 (std.call fn105 (((n:Int),b),0,2)) 1=1:=by
   rw [show std.call fn105 (((n:Int),b),0,2)=0 from getd_err (a:=0) (w:=2) hok (by omega)]; rfl
  rw [hK,frOf_short (by omega)]
  refine (runs_brT (show std.not (std.call fn106 ((n:Int),1))=true from ?_)).2 (.ret _)
  rw [std_not,std_call,hp1,show fitsL n 1=false from by rw [←Bool.not_eq_true,f1]; omega]; rfl
 have hk:=kind_is (l:=unpack n b) (by omega)
 have hf:=fld_lt (unpack n b) 0 2
 have hK:std.bin .add .i64 (std.call fn105 (((n:Int),b),0,2)) 1=((fld (unpack n b) 0 2 + 1:Nat):Int):=by
  rw [show std.call fn105 (((n:Int),b),0,2)=_ from getd (a:=0) (w:=2) hok (by omega) (by decide) hn]; exact inc1 (by omega)
 rw [hK]
 have hzr:∀a w:Nat,a + w≤n→w≤8→std.cmp .eql (std.call fn105 (((n:Int),b),(a:Int),(w:Int))) 0=!(fld (unpack n b) a w != 0):=fun a w h5 h6=>by
  rw [getd hok h5 (by omega) hn,std_cmp_eql,Bool.eq_iff_iff]; simp
 have hcase:fld (unpack n b) 0 2=0∨fld (unpack n b) 0 2=1∨fld (unpack n b) 0 2=2∨fld (unpack n b) 0 2=3:=by omega
 rcases hcase with h0 | h0 | h0 | h0
 ·-- FrCold
  rw [h0] at hk ⊢
  rw [show ((0 + 1:Nat):Int)=1 from rfl]
  by_cases hfit:fitsL n 1=true
  ·have h40:=f1.1 hfit
   refine (runs_brF (show std.not (std.call fn106 ((n:Int),1))=false by rw [std_not,std_call,hp1,hfit]; rfl)).2 (runs_need.2 ⟨rfl,?_⟩)
   rw [frOf_1 hk (by omega)]
   have hz:std.not (std.call fn107 (((n:Int),b),1))=(fld (unpack n b) 13 3 != 0):=by
    show (!(std.cmp .eql (std.call fn105 (((n:Int),b),13,3)) 0))=_
    rw [show std.cmp .eql (std.call fn105 (((n:Int),b),13,3)) 0=_ from hzr 13 3 (by omega) (by decide),Bool.not_not]
   cases hzz:(fld (unpack n b) 13 3 != 0)
   ·refine (runs_brF (hz.trans hzz)).2 ((runs_brT rfl).2 (runs_need.2 ⟨rfl,?_⟩))
    cases hov:(over 0 (unpack n b) != 0)
    ·have hcd:std.call fn108 ((n:Int),b)=_:=cold_eq hok h40 (by simpa using hov)
     rw [hcd]
     have l1:=fld_lt (unpack n b) 2 3
     have l2:=fld_lt (unpack n b) 5 8
     refine (runs_brF rfl).2 (runs_need.2 ⟨rfl,?_⟩)
     have hfo:frOk (1,0,(((fld (unpack n b) 5 8:Nat):Int),0,0,0,0),((fld (unpack n b) 2 3:Nat):Int), [])=true:=by
      rw [frOk_iff,stOk_iff]; simp; omega
     have hch:std.call fn58 (1,0,(((fld (unpack n b) 5 8:Nat):Int),0,0,0,0),((fld (unpack n b) 2 3:Nat):Int), [])=0:=by
      rw [std_call,fn58_eq,hfo]; rfl
     exact (runs_brF (cne_f hch)).2 (.ret _)
    ·have hcd:(std.call fn108 ((n:Int),b)).2=21:=cold_err hok h40 hov
     refine (runs_brT (cne_t (by rw [hcd]; decide))).2 ?_
     exact runs_c (congrArg (fun z=>LT.ret (((0,0,(0,0,0,0,0),0,([]:List Int)):Int×Int×(Int×Int×Int×Int×Int)×Int×List Int),z)) hcd) (.ret _)
   ·exact (runs_brT (hz.trans hzz)).2 (.ret _)
  ·rw [Bool.not_eq_true] at hfit
   rw [frOf_unfit (by rw [hlu,hk]; exact hfit)]
   exact (runs_brT (show std.not (std.call fn106 ((n:Int),1))=true by rw [std_not,std_call,hp1,hfit]; rfl)).2 (.ret _)
 ·-- FrN
  rw [h0] at hk ⊢
  rw [show ((1 + 1:Nat):Int)=2 from rfl]
  by_cases hfit:fitsL n 2=true
  ·have h29:=f2.1 hfit
   refine (runs_brF (show std.not (std.call fn106 ((n:Int),2))=false by rw [std_not,std_call,hp2,hfit]; rfl)).2 (runs_need.2 ⟨rfl,(runs_brF rfl).2 ((runs_brF rfl).2 ((runs_brT rfl).2 ?_))⟩)
   rw [frOf_2 hk (by rw [hlu]; exact hfit)]
   have hsb:std.call fn82 (t,p,m,x,s)=(bsP (stBits (t,p,m,x,s)),0):=by rw [std_call,fn82,stBitsS,hst]; rfl
   have ho:std.call fn109 (((n:Int),b),bsP (stBits (t,p,m,x,s)))=bif over (over 0 (stBits (t,p,m,x,s))) (unpack n b) != 0 then (zB,21) else (bsP ((unpack n b).take (n - 24)),0):=by
    rw [std_call,fn109,openS_eq hok (bsP_ok (by rw [stBits_length]; decide)) (by rw [hlen]; omega),bsL_bsP,hun,hlu]
   have e2:std.call fn105 (((n:Int),b),2,3)=((fld (unpack n b) 2 3:Nat):Int):=getd (a:=2) (w:=3) hok (by omega) (by decide) hn
   have hfl:((unpack n b).take (n - 24)).length=n - 24:=by rw [List.length_take,hlu]; omega
   rw [hsb]
   refine runs_need.2 ⟨rfl,runs_need.2 ⟨rfl,runs_need.2 ⟨rfl,?_⟩⟩⟩
   rw [ho,e2]
   cases hov:(over (over 0 (stBits (t,p,m,x,s))) (unpack n b) != 0)
   ·rw [cond_false,cond_false]
    refine runs_need.2 ⟨?_,(runs_brF rfl).2 (runs_need.2 ⟨rfl,?_⟩)⟩
    ·rw [std_call,pre110]
     show (decide ((((unpack n b).take (n - 24)).length:Int)≤4096) && (decide ((0:Int)≤5) && decide ((5:Int)≤1000)))=true
     rw [hfl]; simp; omega
    have hdd:std.call fn110 (bsP ((unpack n b).take (n - 24)),5)=dataOf (((unpack n b).length - 29) / 8) ((unpack n b).drop 5):=by
     rw [std_call,hlu]
     refine (data_bsP (a:=5) (k:=(n - 29) / 8) (by omega) (by omega) (by omega)).trans ?_
     exact dataOf_take (by omega) (by omega)
    rw [hdd]
    have hfo:frOk (2,((fld (unpack n b) 2 3:Nat):Int),(t,p,m,x,s),0,dataOf (((unpack n b).length - 29) / 8) ((unpack n b).drop 5))=!decide (4 < fld (unpack n b) 2 3):=by
     rw [Bool.eq_iff_iff,frOk_iff,hst,dataOf_length]; simp; omega
    have hch:std.call fn58 (2,((fld (unpack n b) 2 3:Nat):Int),(t,p,m,x,s),0,dataOf (((unpack n b).length - 29) / 8) ((unpack n b).drop 5))=bif !decide (4 < fld (unpack n b) 2 3) then 0 else 50:=by
     rw [←hfo,std_call]; exact fn58_eq
    cases hd:decide (4 < fld (unpack n b) 2 3)
    ·rw [hd] at hch
     exact (runs_brF (cne_f hch)).2 (.ret _)
    ·rw [hd] at hch
     exact (runs_brT (cne_t (show std.call fn58 (2,((fld (unpack n b) 2 3:Nat):Int),(t,p,m,x,s),0,dataOf (((unpack n b).length - 29) / 8) ((unpack n b).drop 5))≠0 from by rw [hch]; exact (by decide:(50:Int)≠0)))).2 (.ret _)
   ·rw [cond_true,cond_true]
    refine runs_need.2 ⟨rfl,(runs_brT rfl).2 (.ret _)⟩
  ·rw [Bool.not_eq_true] at hfit
   rw [frOf_unfit (by rw [hlu,hk]; exact hfit)]
   exact (runs_brT (show std.not (std.call fn106 ((n:Int),2))=true by rw [std_not,std_call,hp2,hfit]; rfl)).2 (.ret _)
 ·-- kind 3
  rw [h0] at hk ⊢
  rw [show ((2 + 1:Nat):Int)=3 from rfl]
  by_cases hfit:fitsL n 3=true
  ·have hnn:=f3.1 hfit
   refine (runs_brF (show std.not (std.call fn106 ((n:Int),3))=false by rw [std_not,std_call,hp3,hfit]; rfl)).2 (runs_need.2 ⟨rfl,?_⟩)
   rw [frOf_3 hk (by omega)]
   have hz:std.not (std.call fn107 (((n:Int),b),3))=(fld (unpack n b) 5 1 != 0):=by
    show (!(std.cmp .eql (std.call fn105 (((n:Int),b),5,1)) 0))=_
    rw [show std.cmp .eql (std.call fn105 (((n:Int),b),5,1)) 0=_ from hzr 5 1 (by omega) (by decide),Bool.not_not]
   cases hzz:(fld (unpack n b) 5 1 != 0)
   ·refine (runs_brF (hz.trans hzz)).2 ((runs_brF rfl).2 ((runs_brF rfl).2 ((runs_brT rfl).2 (runs_need.2 ⟨rfl,?_⟩))))
    have hsd:std.call fn111 (((n:Int),b),3,54)=_:=stated_3 hok hnn
    rw [hsd]
    cases over 0 (unpack n b) != 0
    ·rw [cond_false,cond_false]
     cases hso:stOk (stOf (((unpack n b).drop 6).take 24))
     ·exact (runs_brT rfl).2 (.ret _)
     ·rw [cond_true]
      refine (runs_brF rfl).2 (runs_need.2 ⟨rfl,?_⟩)
      have hfo:frOk (3,((fld (unpack n b) 2 3:Nat):Int),stOf (((unpack n b).drop 6).take 24),0, [])=!decide (4 < fld (unpack n b) 2 3):=by
       have hso':=hso
       rw [stOf] at hso' ⊢
       rw [Bool.eq_iff_iff,frOk_iff,hso']; simp; omega
      have hch:std.call fn58 (3,((fld (unpack n b) 2 3:Nat):Int),stOf (((unpack n b).drop 6).take 24),0, [])=bif !decide (4 < fld (unpack n b) 2 3) then 0 else 50:=by
       rw [←hfo,std_call]; exact fn58_eq
      cases hd:decide (4 < fld (unpack n b) 2 3)
      ·rw [hd] at hch
       exact (runs_brF (cne_f hch)).2 (.ret _)
      ·rw [hd] at hch
       exact (runs_brT (cne_t (show std.call fn58 (3,((fld (unpack n b) 2 3:Nat):Int),stOf (((unpack n b).drop 6).take 24),0, [])≠0 from by rw [hch]; exact (by decide:(50:Int)≠0)))).2 (.ret _)
    ·exact (runs_brT rfl).2 (.ret _)
   ·exact (runs_brT (hz.trans hzz)).2 (.ret _)
  ·rw [Bool.not_eq_true] at hfit
   rw [frOf_unfit (by rw [hlu,hk]; exact hfit)]
   exact (runs_brT (show std.not (std.call fn106 ((n:Int),3))=true by rw [std_not,std_call,hp3,hfit]; rfl)).2 (.ret _)
 ·-- kind 4
  rw [h0] at hk ⊢
  rw [show ((3 + 1:Nat):Int)=4 from rfl]
  by_cases hfit:fitsL n 4=true
  ·have hnn:=f4.1 hfit
   refine (runs_brF (show std.not (std.call fn106 ((n:Int),4))=false by rw [std_not,std_call,hp4,hfit]; rfl)).2 (runs_need.2 ⟨rfl,?_⟩)
   rw [frOf_4 hk (by rw [hlu]; exact hfit),hlu]
   have hz:std.not (std.call fn107 (((n:Int),b),4))=(fld (unpack n b) 5 2 != 0):=by
    show (!(std.cmp .eql (std.call fn105 (((n:Int),b),5,2)) 0))=_
    rw [show std.cmp .eql (std.call fn105 (((n:Int),b),5,2)) 0=_ from hzr 5 2 (by omega) (by decide),Bool.not_not]
   cases hzz:(fld (unpack n b) 5 2 != 0)
   ·refine (runs_brF (hz.trans hzz)).2 ((runs_brF rfl).2 ((runs_brF rfl).2 ((runs_brF rfl).2 (runs_need.2 ⟨rfl,?_⟩))))
    have hsd:std.call fn111 (((n:Int),b),4,55)=_:=stated_4 hok hnn.1 hnn.2.1 hnn.2.2
    rw [hsd]
    cases over 0 ((unpack n b).take 55) != 0
    ·cases over (over 0 (((unpack n b).drop 7).take 24)) (unpack n b) != 0
     ·rw [cond_false,cond_false,Bool.or_false,cond_false,cond_false]
      cases hso:stOk (stOf (((unpack n b).drop 7).take 24))
      ·exact (runs_brT rfl).2 (.ret _)
      ·rw [cond_true]
       refine (runs_brF rfl).2 (runs_need.2 ⟨rfl,?_⟩)
       have hfo:frOk (4,((fld (unpack n b) 2 3:Nat):Int),stOf (((unpack n b).drop 7).take 24),0,dataOf ((n - 79) / 8) ((unpack n b).drop 55))=!decide (4 < fld (unpack n b) 2 3):=by
        have hso':=hso
        rw [stOf] at hso' ⊢
        rw [Bool.eq_iff_iff,frOk_iff,hso',dataOf_length]; simp; omega
       have hch:std.call fn58 (4,((fld (unpack n b) 2 3:Nat):Int),stOf (((unpack n b).drop 7).take 24),0,dataOf ((n - 79) / 8) ((unpack n b).drop 55))=bif !decide (4 < fld (unpack n b) 2 3) then 0 else 50:=by
        rw [←hfo,std_call]; exact fn58_eq
       cases hd:decide (4 < fld (unpack n b) 2 3)
       ·rw [hd] at hch
        exact (runs_brF (cne_f hch)).2 (.ret _)
       ·rw [hd] at hch
        exact (runs_brT (cne_t (show std.call fn58 (4,((fld (unpack n b) 2 3:Nat):Int),stOf (((unpack n b).drop 7).take 24),0,dataOf ((n - 79) / 8) ((unpack n b).drop 55))≠0 from by rw [hch]; exact (by decide:(50:Int)≠0)))).2 (.ret _)
     ·exact (runs_brT rfl).2 (.ret _)
    ·exact (runs_brT rfl).2 (.ret _)
   ·exact (runs_brT (hz.trans hzz)).2 (.ret _)
  ·rw [Bool.not_eq_true] at hfit
   rw [frOf_unfit (by rw [hlu,hk]; exact hfit)]
   exact (runs_brT (show std.not (std.call fn106 ((n:Int),4))=true by rw [std_not,std_call,hp4,hfit]; rfl)).2 (.ret _)
def fn52:((Int×List Int)×(Int×Int×Int×Int×Int))→((Int×Int×(Int×Int×Int×Int×Int)×Int×List Int)×Int):=parS
def sp52:FSpec:=⟨[(.struct [(.int .i64),(.slice (.int .u8))]),(.struct [(.int .i64),(.int .i64),(.int .i64),(.int .i64),(.int .i64)])], [(.struct [(.int .i64),(.int .i64),(.struct [(.int .i64),(.int .i64),(.int .i64),(.int .i64),(.int .i64)]),(.int .i64),(.slice (.int .u8))]),(.int .i64)],(@tt ((Int×List Int)×(Int×Int×Int×Int×Int))),fn52⟩
theorem run52 {bN:Int} {bB:List Int} {cTime:Int} {cPos:Int} {cMode:Int} {cNext:Int} {cMember:Int} (h:Ty.hass [(.struct [(.int .i64),(.slice (.int .u8))]),(.struct [(.int .i64),(.int .i64),(.int .i64),(.int .i64),(.int .i64)])] ((bN,bB),cTime,cPos,cMode,cNext,cMember)):Runs Empty.elim (t52 std bN bB cTime cPos cMode cNext cMember) (fn52 ((bN,bB),cTime,cPos,cMode,cNext,cMember)):=by
 exact parse1 h
theorem so52:FSpec.Sound Tryz.prog 186 sp52:=
 w52_ok.sound _ _ fun ((bN,bB),cTime,cPos,cMode,cNext,cMember) _ h=>run52 h
def t55 (A:Alg) (bN:Int) (bB:List Int):LT ((Int×Int×(Int×Int×Int×Int×Int)×Int×List Int)×Bool) Empty:=
 .need (A.call (@tt ((Int×List Int)×(Int×Int×Int×Int×Int))) ((bN,bB),0,0,0,0,0)) (
 .br (A.cmp .neq (A.call fn52 ((bN,bB),0,0,0,0,0)).2 0)
 (.ret ((0,0,(0,0,0,0,0),0,([]:List Int)),false))
 (.br (A.cmp .eql (A.call fn52 ((bN,bB),0,0,0,0,0)).1.1 2)
  (.ret ((0,0,(0,0,0,0,0),0,([]:List Int)),false))
  (.ret ((A.call fn52 ((bN,bB),0,0,0,0,0)).1,true))))
noncomputable def E55 (A:Alg):Info (Ty.Ts [(.struct [(.int .i64),(.int .i64),(.struct [(.int .i64),(.int .i64),(.int .i64),(.int .i64),(.int .i64)]),(.int .i64),(.slice (.int .u8))]),.bool]):={ti:=tys,fns:=[(86,Tryz.f86)],sps:=[(186,sp52)],stops:=[],cuts:=[],consts:=[],fin:=finD A [(.struct [(.int .i64),(.int .i64),(.struct [(.int .i64),(.int .i64),(.int .i64),(.int .i64),(.int .i64)]),(.int .i64),(.slice (.int .u8))]),.bool]}
theorem t55_ok (A:Alg) (bN:Int) (bB:List Int):run A (E55 A) 43 (startC 86 Tryz.f86 (dvals A [(.struct [(.int .i64),(.slice (.int .u8))])] (bN,bB)))=(t55 A bN bB).tr Empty.elim:=by kernel_rfl
def w55:Walk Tryz.prog 86 [(.struct [(.int .i64),(.slice (.int .u8))])] [(.struct [(.int .i64),(.int .i64),(.struct [(.int .i64),(.int .i64),(.int .i64),(.int .i64),(.int .i64)]),(.int .i64),(.slice (.int .u8))]),.bool] Empty:=⟨fun (bN,bB)=>t55 std bN bB,Empty.elim⟩
theorem w55_ok:w55.Ok:=
 walk_ok (E:=E55 std) ⟨tys_fit,fns_cons Tryz.func86 (by kernel_rfl) (fns_nil),sps_cons so52 (sps_nil),by kernel_rfl⟩ rfl rfl rfl (by kernel_rfl) w55 Empty.elim 43 (fun (bN,bB)=>t55_ok std bN bB) (fun y=>y.elim)
def fn55:((Int×List Int))→((Int×Int×(Int×Int×Int×Int×Int)×Int×List Int)×Bool):=fun (bN,bB)=>(t55 std bN bB).val (Ty.dflts [(.struct [(.int .i64),(.int .i64),(.struct [(.int .i64),(.int .i64),(.int .i64),(.int .i64),(.int .i64)]),(.int .i64),(.slice (.int .u8))]),.bool])
def sp55:FSpec:=⟨[(.struct [(.int .i64),(.slice (.int .u8))])], [(.struct [(.int .i64),(.int .i64),(.struct [(.int .i64),(.int .i64),(.int .i64),(.int .i64),(.int .i64)]),(.int .i64),(.slice (.int .u8))]),.bool],(@tt ((Int×List Int))),fn55⟩
theorem eqs55 (bN:Int) (bB:List Int):(t55 std bN bB).Eqs:=by simp only [t55,LT.Eqs,and_self,true_and,and_true]
theorem pre55_ok {bN:Int} {bB:List Int} (h:Ty.hass [(.struct [(.int .i64),(.slice (.int .u8))])] (bN,bB)):(t55 std bN bB).pre=true:=by
 simp [t55,LT.pre,std_call,tt_eq]
theorem so55:FSpec.Sound Tryz.prog 86 sp55:=
 w55_ok.sound _ _ fun (bN,bB) _ h=>LT.runs (d:=Ty.dflts [(.struct [(.int .i64),(.int .i64),(.struct [(.int .i64),(.int .i64),(.int .i64),(.int .i64),(.int .i64)]),(.int .i64),(.slice (.int .u8))]),.bool]) (eqs55 bN bB) (pre55_ok h)
theorem fn55_eq {b:Int×List Int}:fn55 b=explS b:=by
 obtain ⟨bn,bb⟩:=b
 simp only [fn55,t55,LT.val,explS,std_call,std_cmp_neq,std_cmp_eql,fn52]
 show (bif (parS ((bn,bb),zS)).2 != 0 then (zeroF,false) else bif (parS ((bn,bb),zS)).1.1 == 2 then (zeroF,false) else ((parS ((bn,bb),zS)).1,true))=_
 cases (parS ((bn,bb),zS)).2 != 0 <;> cases (parS ((bn,bb),zS)).1.1 == 2 <;> rfl
end Go.Ev.M
