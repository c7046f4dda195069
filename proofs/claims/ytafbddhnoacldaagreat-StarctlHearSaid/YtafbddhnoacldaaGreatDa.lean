/-
  PROVED: what metronomeref05.Encode computes. Conditions: none.
-/
import Derived.Test.YtafbddhnoacldaaGreatFc
import Derived.Test.YtafbddhnoacldaaGreatKa
namespace Go.Ev.M
open Go.Proofs
set_option maxRecDepth 100000
set_option linter.unusedVariables false
set_option linter.unusedSimpArgs false
open Go.Ev.Pl
def t83 (A:Alg) (bN:Int) (bB:List Int) (v:Int) (width:Int):LT ((Int×List Int)) Empty:=
 .need (A.call (@tt ((Int×List Int)×Int×Int)) ((bN,bB),(A.conv .u64 v),width)) (
 .ret (A.call fn125 ((bN,bB),(A.conv .u64 v),width)).1)
noncomputable def E83 (A:Alg):Info (Ty.Ts [(.struct [(.int .i64),(.slice (.int .u8))])]):={ti:=tys,fns:=[(162,Tryz.f162)],sps:=[(229,sp125)],stops:=[],cuts:=[],consts:=[],fin:=finD A [(.struct [(.int .i64),(.slice (.int .u8))])]}
theorem t83_ok (A:Alg) (bN:Int) (bB:List Int) (v:Int) (width:Int):run A (E83 A) 30 (startC 162 Tryz.f162 (dvals A [(.struct [(.int .i64),(.slice (.int .u8))]),(.int .i64),(.int .i64)] ((bN,bB),v,width)))=(t83 A bN bB v width).tr Empty.elim:=by kernel_rfl
def w83:Walk Tryz.prog 162 [(.struct [(.int .i64),(.slice (.int .u8))]),(.int .i64),(.int .i64)] [(.struct [(.int .i64),(.slice (.int .u8))])] Empty:=⟨fun ((bN,bB),v,width)=>t83 std bN bB v width,Empty.elim⟩
theorem w83_ok:w83.Ok:=
 walk_ok (E:=E83 std) ⟨tys_fit,fns_cons Tryz.func162 (by kernel_rfl) (fns_nil),sps_cons so125 (sps_nil),by kernel_rfl⟩ rfl rfl rfl (by kernel_rfl) w83 Empty.elim 30 (fun ((bN,bB),v,width)=>t83_ok std bN bB v width) (fun y=>y.elim)
def fn83:((Int×List Int)×Int×Int)→((Int×List Int)):=fun ((bN,bB),v,width)=>(t83 std bN bB v width).val (Ty.dflts [(.struct [(.int .i64),(.slice (.int .u8))])])
def sp83:FSpec:=⟨[(.struct [(.int .i64),(.slice (.int .u8))]),(.int .i64),(.int .i64)], [(.struct [(.int .i64),(.slice (.int .u8))])],(@tt ((Int×List Int)×Int×Int)),fn83⟩
theorem eqs83 (bN:Int) (bB:List Int) (v:Int) (width:Int):(t83 std bN bB v width).Eqs:=by simp only [t83,LT.Eqs,and_self,true_and,and_true]
theorem pre83_ok {bN:Int} {bB:List Int} {v:Int} {width:Int} (h:Ty.hass [(.struct [(.int .i64),(.slice (.int .u8))]),(.int .i64),(.int .i64)] ((bN,bB),v,width)):(t83 std bN bB v width).pre=true:=by
 simp [t83,LT.pre,std_call,tt_eq]
theorem so83:FSpec.Sound Tryz.prog 162 sp83:=
 w83_ok.sound _ _ fun ((bN,bB),v,width) _ h=>LT.runs (d:=Ty.dflts [(.struct [(.int .i64),(.slice (.int .u8))])]) (eqs83 bN bB v width) (pre83_ok h)
theorem putd {l:List Bool} {v w:Nat} (hv:v < 2 ^ w) (hw:w≤61) (hl:l.length + w≤4096):std.call fn83 (bsP l,(v:Int),(w:Int))=bsP (l ++ bitsOf v w):=by
 have hp:2 ^ w≤2 ^ 61:=Nat.pow_le_pow_right (by decide) hw
 show (fn125 (bsP l,std.conv .u64 (v:Int),(w:Int))).1=_
 rw [conv_nat (by omega),fn125,put_ok hv (by omega) hl]
structure P85c0 where
 (a0:List Int) (a4:Int)
inductive Y85 where
 | c0 (p:P85c0) (a1:Int) (a2:Int) (a3:List Int)
noncomputable def cfg85:Y85→Cfg
 | .c0 p a1 a2 a3=>{frames:=[{fn:=164,n:=20,env:=(Env.put (Env.put (Env.put (Env.put .leaf 1 (.sl (.int .u8) p.a0)) 2 (.ptr 0 0)) 4 (.ptr 1 0)) 5 (.int .i64 false a1)),todo:=[.inLoop (Code.way (bodyOf Tryz.f164) [1,0,1,0,0]),.inBlock 0,.code (Code.way (bodyOf Tryz.f164) [1,1])],marks:=[],rnd:=none}],mem:=[.flat false [.int .i64 false a2,.sl (.int .u8) a3],.flat false [.int .i64 false p.a4,.esl true],.dead]}
def t85 (A:Alg) (bN:Int) (bB:List Int) (data:List Int):LT ((Int×List Int)) Y85:=
 .more (.c0 ⟨data,0⟩ 0 bN bB)
def s85 (A:Alg):Y85→LT ((Int×List Int)) Y85
 | .c0 p a1 a2 a3=>
  .br (A.cmp .lss a1 (A.len p.a0))
  (.need (A.and (A.cmp .leq 0 a1) (A.cmp .lss a1 (A.len p.a0))) (
   .need (A.call (@tt ((Int×List Int)×Int×Int)) ((a2,a3),(A.conv .i64 (A.nth (.int .u8) p.a0 a1:Int)),8)) (
   .more (.c0 p (A.bin .add .i64 a1 1) (A.call fn83 ((a2,a3),(A.conv .i64 (A.nth (.int .u8) p.a0 a1:Int)),8)).1 (A.call fn83 ((a2,a3),(A.conv .i64 (A.nth (.int .u8) p.a0 a1:Int)),8)).2))))
  (.ret (a2,a3))
noncomputable def E85 (A:Alg):Info (Ty.Ts [(.struct [(.int .i64),(.slice (.int .u8))])]):={ti:=tys,fns:=[(164,Tryz.f164)],sps:=[(162,sp83)],stops:=[⟨164,2, [[1,2,4,5]]⟩],cuts:=[],consts:=[],fin:=finD A [(.struct [(.int .i64),(.slice (.int .u8))])]}
theorem t85_ok (A:Alg) (bN:Int) (bB:List Int) (data:List Int):run A (E85 A) 18 (startC 164 Tryz.f164 (dvals A [(.struct [(.int .i64),(.slice (.int .u8))]),(.slice (.int .u8))] ((bN,bB),data)))=(t85 A bN bB data).tr cfg85:=by kernel_rfl
theorem s85_ok (A:Alg):∀y,∃n,run A (E85 A) n (advance (E85 A).sps (cfg85 y))=(s85 A y).tr cfg85
 | .c0 p a1 a2 a3=>⟨34,by kernel_rfl⟩
def w85:Walk Tryz.prog 164 [(.struct [(.int .i64),(.slice (.int .u8))]),(.slice (.int .u8))] [(.struct [(.int .i64),(.slice (.int .u8))])] Y85:=⟨fun ((bN,bB),data)=>t85 std bN bB data,s85 std⟩
theorem w85_ok:w85.Ok:=
 walk_ok (E:=E85 std) ⟨tys_fit,fns_cons Tryz.func164 (by kernel_rfl) (fns_nil),sps_cons so83 (sps_nil),by kernel_rfl⟩ rfl rfl rfl (by kernel_rfl) w85 cfg85 18 (fun ((bN,bB),data)=>t85_ok std bN bB data) (s85_ok std)
theorem tail1 {data:List Int} (hd:data.length≤140737488355328) (hb:bytesOk data):∀(j i:Nat) (p:P85c0) (a2:Int) (a3:List Int),p.a0=data→data.length - i=j→i≤data.length→Runs (s85 std) (.more (.c0 p (i:Int) a2 a3)) ((data.drop i).foldl (fun b x=>fn83 (b,x,8)) (a2,a3)):=by
 intro j
 induction j with
 | zero=>
  intro i p a2 a3 h0 hj hi
  have:i=data.length:=by omega
  subst this
  rw [runs_more,s85]
  refine (runs_brF (by rw [show std.len p.a0=(data.length:Int) from by rw [h0]; rfl,lss_nat]; simp)).2 ?_
  rw [List.drop_length]
  exact .ret _
 | succ j ih=>
  intro i p a2 a3 h0 hj hi
  have hi':i < data.length:=by omega
  rw [runs_more,s85]
  refine (runs_brT (by rw [show std.len p.a0=(data.length:Int) from by rw [h0]; rfl,lss_nat]; simp; omega)).2 (runs_need.2 ⟨by rw [h0]; exact need_ix hi',runs_need.2 ⟨rfl,?_⟩⟩)
  have hx:=hb _ (List.getElem_mem hi')
  have hn:(std.nth (.int .u8) p.a0 (i:Int):Int)=data[i]:=by rw [h0]; exact getD_in hi' _
  have hc:std.conv .i64 (std.nth (.int .u8) p.a0 (i:Int):Int)=data[i]:=(congrArg (std.conv .i64) hn).trans (by rw [std_conv,w64 (by omega) (by omega)])
  have hm:=ih (i + 1) p (fn83 ((a2,a3),data[i],8)).1 (fn83 ((a2,a3),data[i],8)).2 h0 (by omega) (by omega)
  rw [List.drop_eq_getElem_cons hi',List.foldl_cons]
  have hg:std.call fn83 ((a2,a3),std.conv .i64 (std.nth (.int .u8) p.a0 (i:Int):Int),8)=fn83 ((a2,a3),data[i],8):=congrArg (fun z=>fn83 ((a2,a3),z,8)) hc
  exact runs_c (congrArg LT.more (congr (congr (congrArg (Y85.c0 p) (inc1 (by omega))) (congrArg (fun z=>z.1) hg)) (congrArg (fun z=>z.2) hg))) hm
theorem has_tail {n:Int} {b data:List Int} (h:Ty.hass [(.struct [(.int .i64),(.slice (.int .u8))]),(.slice (.int .u8))] ((n,b),data)):data.length≤140737488355328∧bytesOk data:=by
 have h2:data.length≤lenMax∧∀x∈data,0≤x∧x≤255:=h.2
 exact ⟨h2.1,h2.2⟩
def fn85:((Int×List Int)×List Int)→((Int×List Int)):=fun (b,d)=>d.foldl (fun b x=>fn83 (b,x,8)) b
def sp85:FSpec:=⟨[(.struct [(.int .i64),(.slice (.int .u8))]),(.slice (.int .u8))], [(.struct [(.int .i64),(.slice (.int .u8))])],(@tt ((Int×List Int)×List Int)),fn85⟩
theorem run85 {bN:Int} {bB:List Int} {data:List Int} (h:Ty.hass [(.struct [(.int .i64),(.slice (.int .u8))]),(.slice (.int .u8))] ((bN,bB),data)):Runs (s85 std) (t85 std bN bB data) (fn85 ((bN,bB),data)):=by
 exact tail1 (has_tail h).1 (has_tail h).2 data.length 0 _ bN bB rfl (by omega) (by omega)
theorem so85:FSpec.Sound Tryz.prog 164 sp85:=
 w85_ok.sound _ _ fun ((bN,bB),data) _ h=>run85 h
theorem tail_ok:∀{data:List Int} {l:List Bool},bytesOk data→l.length + 8 * data.length≤4096→data.foldl (fun b x=>fn83 (b,x,8)) (bsP l)=bsP (l ++ dataBits data):=by
 intro data
 induction data with
 | nil=>intro l _ _; rw [show dataBits []=[] from rfl,List.append_nil]; rfl
 | cons x data ih=>
  intro l hb hl
  rw [List.length_cons] at hl
  have hx:=hb x (List.mem_cons_self ..)
  obtain ⟨v,rfl⟩:=Int.eq_ofNat_of_zero_le hx.1
  rw [List.foldl_cons,show fn83 (bsP l,(v:Int),8)=bsP (l ++ bitsOf v 8) from putd (w:=8) (by omega) (by decide) (by omega),ih (fun z hz=>hb z (List.mem_cons_of_mem _ hz)) (by rw [List.length_append,bitsOf_length]; omega),show dataBits ((v:Int) :: data)=bitsOf v 8 ++ dataBits data from by rw [dataBits,List.flatMap_cons,Int.toNat_natCast]; rfl,List.append_assoc]
def t40 (A:Alg) (fKind:Int) (fReq:Int) (fCTime:Int) (fCPos:Int) (fCMode:Int) (fCNext:Int) (fCMember:Int) (fFrom:Int) (fData:List Int):LT ((Int×List Int)×Int) Empty:=
 .need (A.call (@tt ((Int×Int×(Int×Int×Int×Int×Int)×Int×List Int))) (fKind,fReq,(fCTime,fCPos,fCMode,fCNext,fCMember),fFrom,fData)) (
 .br (A.cmp .neq (A.call fn58 (fKind,fReq,(fCTime,fCPos,fCMode,fCNext,fCMember),fFrom,fData)) 0)
 (.ret ((0,([]:List Int)),(A.call fn58 (fKind,fReq,(fCTime,fCPos,fCMode,fCNext,fCMember),fFrom,fData))))
 (.need (A.call (@tt ((Int×Int×Int×Int×Int))) (fCTime,fCPos,fCMode,fCNext,fCMember)) (
  .need (A.call (@tt ((Int×List Int)×Int×Int)) ((0,([]:List Int)),(A.bin .sub .i64 fKind 1),2)) (
  .br (A.cmp .eql fKind 1)
   (.need (A.call (@tt ((Int×List Int)×Int×Int)) ((A.call fn83 ((0,([]:List Int)),(A.bin .sub .i64 fKind 1),2)),fFrom,3)) (
   .need (A.call (@tt ((Int×List Int)×Int×Int)) ((A.call fn83 ((A.call fn83 ((0,([]:List Int)),(A.bin .sub .i64 fKind 1),2)),fFrom,3)),fCTime,8)) (
    .need (A.call (@tt ((Int×List Int)×Int×Int)) ((A.call fn83 ((A.call fn83 ((A.call fn83 ((0,([]:List Int)),(A.bin .sub .i64 fKind 1),2)),fFrom,3)),fCTime,8)),0,3)) (
    .need (A.call (@tt ((Int×List Int)×(Int×List Int))) ((A.call fn83 ((A.call fn83 ((A.call fn83 ((A.call fn83 ((0,([]:List Int)),(A.bin .sub .i64 fKind 1),2)),fFrom,3)),fCTime,8)),0,3)),0,([]:List Int))) (
     .ret (A.call fn84 ((A.call fn83 ((A.call fn83 ((A.call fn83 ((A.call fn83 ((0,([]:List Int)),(A.bin .sub .i64 fKind 1),2)),fFrom,3)),fCTime,8)),0,3)),0,([]:List Int))))))))
   (.br (A.cmp .eql fKind 2)
   (.need (A.call (@tt ((Int×List Int)×Int×Int)) ((A.call fn83 ((0,([]:List Int)),(A.bin .sub .i64 fKind 1),2)),fReq,3)) (
    .need (A.call (@tt ((Int×List Int)×List Int)) ((A.call fn83 ((A.call fn83 ((0,([]:List Int)),(A.bin .sub .i64 fKind 1),2)),fReq,3)),fData)) (
    .need (A.call (@tt ((Int×List Int)×(Int×List Int))) ((A.call fn85 ((A.call fn83 ((A.call fn83 ((0,([]:List Int)),(A.bin .sub .i64 fKind 1),2)),fReq,3)),fData)),(A.call fn82 (fCTime,fCPos,fCMode,fCNext,fCMember)).1)) (
     .ret (A.call fn84 ((A.call fn85 ((A.call fn83 ((A.call fn83 ((0,([]:List Int)),(A.bin .sub .i64 fKind 1),2)),fReq,3)),fData)),(A.call fn82 (fCTime,fCPos,fCMode,fCNext,fCMember)).1))))))
   (.need (A.call (@tt ((Int×List Int)×Int×Int)) ((A.call fn83 ((0,([]:List Int)),(A.bin .sub .i64 fKind 1),2)),fReq,3)) (
    .need (A.call (@tt ((Int×List Int)×Int×Int)) ((A.call fn83 ((A.call fn83 ((0,([]:List Int)),(A.bin .sub .i64 fKind 1),2)),fReq,3)),0,(A.bin .sub .i64 fKind 2))) (
    .need (A.call (@tt (List (Int×List Int))) [(A.call fn83 ((A.call fn83 ((A.call fn83 ((0,([]:List Int)),(A.bin .sub .i64 fKind 1),2)),fReq,3)),0,(A.bin .sub .i64 fKind 2))),(A.call fn82 (fCTime,fCPos,fCMode,fCNext,fCMember)).1]) (
     .need (A.call (@tt ((Int×List Int)×(Int×List Int))) ((A.call fn86 [(A.call fn83 ((A.call fn83 ((A.call fn83 ((0,([]:List Int)),(A.bin .sub .i64 fKind 1),2)),fReq,3)),0,(A.bin .sub .i64 fKind 2))),(A.call fn82 (fCTime,fCPos,fCMode,fCNext,fCMember)).1]).1,0,([]:List Int))) (
     .br (A.cmp .eql fKind 3)
      (.ret (A.call fn84 ((A.call fn86 [(A.call fn83 ((A.call fn83 ((A.call fn83 ((0,([]:List Int)),(A.bin .sub .i64 fKind 1),2)),fReq,3)),0,(A.bin .sub .i64 fKind 2))),(A.call fn82 (fCTime,fCPos,fCMode,fCNext,fCMember)).1]).1,0,([]:List Int))))
      (.need (A.call (@tt ((Int×List Int)×List Int)) ((A.call fn84 ((A.call fn86 [(A.call fn83 ((A.call fn83 ((A.call fn83 ((0,([]:List Int)),(A.bin .sub .i64 fKind 1),2)),fReq,3)),0,(A.bin .sub .i64 fKind 2))),(A.call fn82 (fCTime,fCPos,fCMode,fCNext,fCMember)).1]).1,0,([]:List Int))).1,fData)) (
      .need (A.call (@tt ((Int×List Int)×(Int×List Int))) ((A.call fn85 ((A.call fn84 ((A.call fn86 [(A.call fn83 ((A.call fn83 ((A.call fn83 ((0,([]:List Int)),(A.bin .sub .i64 fKind 1),2)),fReq,3)),0,(A.bin .sub .i64 fKind 2))),(A.call fn82 (fCTime,fCPos,fCMode,fCNext,fCMember)).1]).1,0,([]:List Int))).1,fData)),(A.call fn82 (fCTime,fCPos,fCMode,fCNext,fCMember)).1)) (
       .ret (A.call fn84 ((A.call fn85 ((A.call fn84 ((A.call fn86 [(A.call fn83 ((A.call fn83 ((A.call fn83 ((0,([]:List Int)),(A.bin .sub .i64 fKind 1),2)),fReq,3)),0,(A.bin .sub .i64 fKind 2))),(A.call fn82 (fCTime,fCPos,fCMode,fCNext,fCMember)).1]).1,0,([]:List Int))).1,fData)),(A.call fn82 (fCTime,fCPos,fCMode,fCNext,fCMember)).1)))))))))))))))
noncomputable def E40 (A:Alg):Info (Ty.Ts [(.struct [(.int .i64),(.slice (.int .u8))]),(.int .i64)]):={ti:=tys,fns:=[(72,Tryz.f72)],sps:=[(160,sp58),(161,sp82),(162,sp83),(163,sp84),(164,sp85),(165,sp86)],stops:=[],cuts:=[],consts:=[],fin:=finD A [(.struct [(.int .i64),(.slice (.int .u8))]),(.int .i64)]}
theorem t40_ok (A:Alg) (fKind:Int) (fReq:Int) (fCTime:Int) (fCPos:Int) (fCMode:Int) (fCNext:Int) (fCMember:Int) (fFrom:Int) (fData:List Int):run A (E40 A) 131 (startC 72 Tryz.f72 (dvals A [(.struct [(.int .i64),(.int .i64),(.struct [(.int .i64),(.int .i64),(.int .i64),(.int .i64),(.int .i64)]),(.int .i64),(.slice (.int .u8))])] (fKind,fReq,(fCTime,fCPos,fCMode,fCNext,fCMember),fFrom,fData)))=(t40 A fKind fReq fCTime fCPos fCMode fCNext fCMember fFrom fData).tr Empty.elim:=by kernel_rfl
def w40:Walk Tryz.prog 72 [(.struct [(.int .i64),(.int .i64),(.struct [(.int .i64),(.int .i64),(.int .i64),(.int .i64),(.int .i64)]),(.int .i64),(.slice (.int .u8))])] [(.struct [(.int .i64),(.slice (.int .u8))]),(.int .i64)] Empty:=⟨fun (fKind,fReq,(fCTime,fCPos,fCMode,fCNext,fCMember),fFrom,fData)=>t40 std fKind fReq fCTime fCPos fCMode fCNext fCMember fFrom fData,Empty.elim⟩
theorem w40_ok:w40.Ok:=
 walk_ok (E:=E40 std) ⟨tys_fit,fns_cons Tryz.func72 (by kernel_rfl) (fns_nil),sps_cons so58 (sps_cons so82 (sps_cons so83 (sps_cons so84 (sps_cons so85 (sps_cons so86 (sps_nil)))))),by kernel_rfl⟩ rfl rfl rfl (by kernel_rfl) w40 Empty.elim 131 (fun (fKind,fReq,(fCTime,fCPos,fCMode,fCNext,fCMember),fFrom,fData)=>t40_ok std fKind fReq fCTime fCPos fCMode fCNext fCMember fFrom fData) (fun y=>y.elim)
theorem enc1d {k r t p m n s fr:Int} {d:List Int} (h:Ty.hass [.struct [(.int .i64),(.int .i64),(.struct [(.int .i64),(.int .i64),(.int .i64),(.int .i64),(.int .i64)]),(.int .i64),(.slice (.int .u8))]] (k,r,(t,p,m,n,s),fr,d)):Runs Empty.elim (t40 std k r t p m n s fr d) (encS (k,r,(t,p,m,n,s),fr,d)):=by
 have hb:=has_data h
 unfold t40
 rw [encS]
 refine runs_need.2 ⟨rfl,?_⟩
 have hchk:std.call fn58 (k,r,(t,p,m,n,s),fr,d)=bif frOk (k,r,(t,p,m,n,s),fr,d) then 0 else 50:=by rw [std_call]; exact fn58_eq
 cases hok:frOk (k,r,(t,p,m,n,s),fr,d)
 ·rw [hok] at hchk
  refine (runs_brT (cne_t (by rw [hchk]; decide))).2 ?_
  exact runs_c (congrArg (fun z=>LT.ret (((0,([]:List Int)):Int×List Int),z)) hchk) (.ret _)
 rw [hok] at hchk
 refine (runs_brF (cne_f hchk)).2 (runs_need.2 ⟨rfl,?_⟩)
 rw [cond_true]
 obtain ⟨hst,hr,hdl,hk⟩:=frOk_iff.1 hok
 have hst':=stOk_iff.1 hst
 obtain ⟨r,rfl⟩:=Int.eq_ofNat_of_zero_le hr.1
 obtain ⟨t,rfl⟩:=Int.eq_ofNat_of_zero_le hst'.1.1
 have hsl:=stBits_length ((t:Int),p,m,n,s)
 have hsb:std.call fn82 ((t:Int),p,m,n,s)=(bsP (stBits ((t:Int),p,m,n,s)),0):=by rw [std_call,fn82,stBitsS,hst]; rfl
 refine runs_need.2 ⟨rfl,?_⟩
 rw [hsb]
 dsimp only
 rcases hk with ⟨rfl,hr0,hd0,hf,hp0,hm0,hn0,hs0⟩ | ⟨rfl,rfl⟩ | ⟨rfl,hd0,rfl⟩ | ⟨rfl,rfl⟩
 ·obtain ⟨fr,rfl⟩:=Int.eq_ofNat_of_zero_le hf.1
  rw [List.length_eq_zero_iff.1 hd0]
  have q0:std.call fn83 (((0:Int),([]:List Int)),std.bin .sub .i64 1 1,2)=bsP ([] ++ bitsOf 0 2):=by
   exact putd (l:=[]) (v:=0) (w:=2) (by omega) (by decide) (by simp [bitsOf_length])
  have q1:std.call fn83 (bsP ([] ++ bitsOf 0 2),(fr:Int),3)=bsP ([] ++ bitsOf 0 2 ++ bitsOf fr 3):=by
   exact putd (l:=[] ++ bitsOf 0 2) (v:=fr) (w:=3) (by omega) (by decide) (by simp [bitsOf_length])
  have q2:std.call fn83 (bsP ([] ++ bitsOf 0 2 ++ bitsOf fr 3),(t:Int),8)=bsP ([] ++ bitsOf 0 2 ++ bitsOf fr 3 ++ bitsOf t 8):=by
   exact putd (l:=[] ++ bitsOf 0 2 ++ bitsOf fr 3) (v:=t) (w:=8) (by omega) (by decide) (by simp [bitsOf_length])
  have q3:std.call fn83 (bsP ([] ++ bitsOf 0 2 ++ bitsOf fr 3 ++ bitsOf t 8),0,3)=bsP ([] ++ bitsOf 0 2 ++ bitsOf fr 3 ++ bitsOf t 8 ++ bitsOf 0 3):=by
   exact putd (l:=[] ++ bitsOf 0 2 ++ bitsOf fr 3 ++ bitsOf t 8) (v:=0) (w:=3) (by omega) (by decide) (by simp [bitsOf_length])
  have hs:std.call fn84 (bsP ([] ++ bitsOf 0 2 ++ bitsOf fr 3 ++ bitsOf t 8 ++ bitsOf 0 3),((0:Int),([]:List Int)))=(bsP (sealL 0 ([] ++ bitsOf 0 2 ++ bitsOf fr 3 ++ bitsOf t 8 ++ bitsOf 0 3)),0):=by rw [std_call]; exact seal_ok (u:=[]) (by simp [bitsOf_length]) (by decide)
  refine (runs_brT rfl).2 ?_
  rw [q0,q1,q2,q3,hs]
  repeat (refine runs_need.2 ⟨rfl,?_⟩)
  refine runs_r ?_ (.ret _)
  show (bsP (sealL 0 ([] ++ bitsOf 0 2 ++ bitsOf fr 3 ++ bitsOf t 8 ++ bitsOf 0 3)),(0:Int))=(bsP (sealL 0 (bitsOf 0 2 ++ (bitsOf fr 3 ++ (bitsOf t 8 ++ bitsOf 0 3)))),0)
  simp only [List.nil_append,List.append_assoc]
 ·
  have q0:std.call fn83 (((0:Int),([]:List Int)),std.bin .sub .i64 2 1,2)=bsP ([] ++ bitsOf 1 2):=by
   exact putd (l:=[]) (v:=1) (w:=2) (by omega) (by decide) (by simp [bitsOf_length])
  have q1:std.call fn83 (bsP ([] ++ bitsOf 1 2),(r:Int),3)=bsP ([] ++ bitsOf 1 2 ++ bitsOf r 3):=by
   exact putd (l:=[] ++ bitsOf 1 2) (v:=r) (w:=3) (by omega) (by decide) (by simp [bitsOf_length])
  have ht:std.call fn85 (bsP ([] ++ bitsOf 1 2 ++ bitsOf r 3),d)=bsP ([] ++ bitsOf 1 2 ++ bitsOf r 3 ++ dataBits d):=by rw [std_call,fn85]; exact tail_ok hb (by simp [bitsOf_length]; omega)
  have hs:std.call fn84 (bsP ([] ++ bitsOf 1 2 ++ bitsOf r 3 ++ dataBits d),bsP (stBits ((t:Int),p,m,n,s)))=(bsP (sealL (over 0 (stBits ((t:Int),p,m,n,s))) ([] ++ bitsOf 1 2 ++ bitsOf r 3 ++ dataBits d)),0):=by rw [std_call]; exact seal_ok (by simp [bitsOf_length,dataBits_length]; omega) (by omega)
  refine (runs_brF rfl).2 ((runs_brT rfl).2 ?_)
  rw [q0,q1,ht,hs]
  repeat (refine runs_need.2 ⟨rfl,?_⟩)
  refine runs_r ?_ (.ret _)
  show (bsP (sealL (over 0 (stBits ((t:Int),p,m,n,s))) ([] ++ bitsOf 1 2 ++ bitsOf r 3 ++ dataBits d)),(0:Int))=(bsP (sealL (over 0 (stBits ((t:Int),p,m,n,s))) (bitsOf 1 2 ++ (bitsOf r 3 ++ dataBits d))),0)
  simp only [List.nil_append,List.append_assoc]
 ·rw [List.length_eq_zero_iff.1 hd0]
  have q0:std.call fn83 (((0:Int),([]:List Int)),std.bin .sub .i64 3 1,2)=bsP ([] ++ bitsOf 2 2):=by
   exact putd (l:=[]) (v:=2) (w:=2) (by omega) (by decide) (by simp [bitsOf_length])
  have q1:std.call fn83 (bsP ([] ++ bitsOf 2 2),(r:Int),3)=bsP ([] ++ bitsOf 2 2 ++ bitsOf r 3):=by
   exact putd (l:=[] ++ bitsOf 2 2) (v:=r) (w:=3) (by omega) (by decide) (by simp [bitsOf_length])
  have q2:std.call fn83 (bsP ([] ++ bitsOf 2 2 ++ bitsOf r 3),0,std.bin .sub .i64 3 2)=bsP ([] ++ bitsOf 2 2 ++ bitsOf r 3 ++ bitsOf 0 1):=by exact putd (l:=[] ++ bitsOf 2 2 ++ bitsOf r 3) (v:=0) (w:=1) (by omega) (by decide) (by simp [bitsOf_length])
  have hj:std.call fn86 [bsP ([] ++ bitsOf 2 2 ++ bitsOf r 3 ++ bitsOf 0 1),bsP (stBits ((t:Int),p,m,n,s))]=(bsP ([] ++ bitsOf 2 2 ++ bitsOf r 3 ++ bitsOf 0 1 ++ stBits ((t:Int),p,m,n,s)),0):=by rw [std_call]; exact join_ok (by simp [bitsOf_length,hsl])
  have hs:std.call fn84 (bsP ([] ++ bitsOf 2 2 ++ bitsOf r 3 ++ bitsOf 0 1 ++ stBits ((t:Int),p,m,n,s)),((0:Int),([]:List Int)))=(bsP (sealL 0 ([] ++ bitsOf 2 2 ++ bitsOf r 3 ++ bitsOf 0 1 ++ stBits ((t:Int),p,m,n,s))),0):=by rw [std_call]; exact seal_ok (u:=[]) (by simp [bitsOf_length,hsl]) (by decide)
  refine (runs_brF rfl).2 ((runs_brF rfl).2 ?_)
  rw [q0,q1,q2,hj]
  dsimp only
  rw [hs]
  repeat (refine runs_need.2 ⟨rfl,?_⟩)
  refine (runs_brT rfl).2 ?_
  refine runs_r ?_ (.ret _)
  show (bsP (sealL 0 ([] ++ bitsOf 2 2 ++ bitsOf r 3 ++ bitsOf 0 1 ++ stBits ((t:Int),p,m,n,s))),(0:Int))=(bsP (sealL 0 (bitsOf 2 2 ++ (bitsOf r 3 ++ (bitsOf 0 1 ++ stBits ((t:Int),p,m,n,s))))),0)
  simp only [List.nil_append,List.append_assoc]
 ·
  have q0:std.call fn83 (((0:Int),([]:List Int)),std.bin .sub .i64 4 1,2)=bsP ([] ++ bitsOf 3 2):=by
   exact putd (l:=[]) (v:=3) (w:=2) (by omega) (by decide) (by simp [bitsOf_length])
  have q1:std.call fn83 (bsP ([] ++ bitsOf 3 2),(r:Int),3)=bsP ([] ++ bitsOf 3 2 ++ bitsOf r 3):=by
   exact putd (l:=[] ++ bitsOf 3 2) (v:=r) (w:=3) (by omega) (by decide) (by simp [bitsOf_length])
  have q2:std.call fn83 (bsP ([] ++ bitsOf 3 2 ++ bitsOf r 3),0,std.bin .sub .i64 4 2)=bsP ([] ++ bitsOf 3 2 ++ bitsOf r 3 ++ bitsOf 0 2):=by exact putd (l:=[] ++ bitsOf 3 2 ++ bitsOf r 3) (v:=0) (w:=2) (by omega) (by decide) (by simp [bitsOf_length])
  have hj:std.call fn86 [bsP ([] ++ bitsOf 3 2 ++ bitsOf r 3 ++ bitsOf 0 2),bsP (stBits ((t:Int),p,m,n,s))]=(bsP ([] ++ bitsOf 3 2 ++ bitsOf r 3 ++ bitsOf 0 2 ++ stBits ((t:Int),p,m,n,s)),0):=by rw [std_call]; exact join_ok (by simp [bitsOf_length,hsl])
  have hs:std.call fn84 (bsP ([] ++ bitsOf 3 2 ++ bitsOf r 3 ++ bitsOf 0 2 ++ stBits ((t:Int),p,m,n,s)),((0:Int),([]:List Int)))=(bsP (sealL 0 ([] ++ bitsOf 3 2 ++ bitsOf r 3 ++ bitsOf 0 2 ++ stBits ((t:Int),p,m,n,s))),0):=by rw [std_call]; exact seal_ok (u:=[]) (by simp [bitsOf_length,hsl]) (by decide)
  have ht:std.call fn85 (bsP (sealL 0 ([] ++ bitsOf 3 2 ++ bitsOf r 3 ++ bitsOf 0 2 ++ stBits ((t:Int),p,m,n,s))),d)=bsP (sealL 0 ([] ++ bitsOf 3 2 ++ bitsOf r 3 ++ bitsOf 0 2 ++ stBits ((t:Int),p,m,n,s)) ++ dataBits d):=by rw [std_call,fn85]; exact tail_ok hb (by rw [sealL_length]; simp [bitsOf_length,hsl]; omega)
  have hs2:std.call fn84 (bsP (sealL 0 ([] ++ bitsOf 3 2 ++ bitsOf r 3 ++ bitsOf 0 2 ++ stBits ((t:Int),p,m,n,s)) ++ dataBits d),bsP (stBits ((t:Int),p,m,n,s)))=(bsP (sealL (over 0 (stBits ((t:Int),p,m,n,s))) (sealL 0 ([] ++ bitsOf 3 2 ++ bitsOf r 3 ++ bitsOf 0 2 ++ stBits ((t:Int),p,m,n,s)) ++ dataBits d)),0):=by rw [std_call]; exact seal_ok (by rw [List.length_append,sealL_length]; simp [bitsOf_length,dataBits_length,hsl]; omega) (by omega)
  refine (runs_brF rfl).2 ((runs_brF rfl).2 ?_)
  rw [q0,q1,q2,hj]
  dsimp only
  rw [hs]
  dsimp only
  rw [ht,hs2]
  repeat (refine runs_need.2 ⟨rfl,?_⟩)
  refine (runs_brF rfl).2 ?_
  repeat (refine runs_need.2 ⟨rfl,?_⟩)
  refine runs_r ?_ (.ret _)
  show (bsP (sealL (over 0 (stBits ((t:Int),p,m,n,s))) (sealL 0 ([] ++ bitsOf 3 2 ++ bitsOf r 3 ++ bitsOf 0 2 ++ stBits ((t:Int),p,m,n,s)) ++ dataBits d)),(0:Int))=(bsP (sealL (over 0 (stBits ((t:Int),p,m,n,s))) (sealL 0 (bitsOf 3 2 ++ (bitsOf r 3 ++ (bitsOf 0 2 ++ stBits ((t:Int),p,m,n,s)))) ++ dataBits d)),0)
  simp only [List.nil_append,List.append_assoc]
def fn40:((Int×Int×(Int×Int×Int×Int×Int)×Int×List Int))→((Int×List Int)×Int):=encS
def sp40:FSpec:=⟨[(.struct [(.int .i64),(.int .i64),(.struct [(.int .i64),(.int .i64),(.int .i64),(.int .i64),(.int .i64)]),(.int .i64),(.slice (.int .u8))])], [(.struct [(.int .i64),(.slice (.int .u8))]),(.int .i64)],(@tt ((Int×Int×(Int×Int×Int×Int×Int)×Int×List Int))),fn40⟩
theorem run40 {fKind:Int} {fReq:Int} {fCTime:Int} {fCPos:Int} {fCMode:Int} {fCNext:Int} {fCMember:Int} {fFrom:Int} {fData:List Int} (h:Ty.hass [(.struct [(.int .i64),(.int .i64),(.struct [(.int .i64),(.int .i64),(.int .i64),(.int .i64),(.int .i64)]),(.int .i64),(.slice (.int .u8))])] (fKind,fReq,(fCTime,fCPos,fCMode,fCNext,fCMember),fFrom,fData)):Runs Empty.elim (t40 std fKind fReq fCTime fCPos fCMode fCNext fCMember fFrom fData) (fn40 (fKind,fReq,(fCTime,fCPos,fCMode,fCNext,fCMember),fFrom,fData)):=by
 exact enc1d h
theorem so40:FSpec.Sound Tryz.prog 72 sp40:=
 w40_ok.sound _ _ fun (fKind,fReq,(fCTime,fCPos,fCMode,fCNext,fCMember),fFrom,fData) _ h=>run40 h
end Go.Ev.M
