/-
  PROVED: what metronomeref05.Encode computes. Conditions: none.
-/
import Derived.Test.YteldjjjcdpnnbaaFc
import Derived.Test.YteldjjjcdpnnbaaKa
namespace Go.Ev.M
open Go.Proofs
set_option maxRecDepth 100000
set_option linter.unusedVariables false
set_option linter.unusedSimpArgs false
open Go.Ev.Pl
def t83(A:cH)(bN:Int)(bB:List Int)(v:Int)(width:Int):LT ((Int×List Int)) Empty:=.need (A.k (@tt ((Int×List Int)×Int×Int)) ((bN,bB),(A.v .u64 v),width)) (.ret (A.k dA ((bN,bB),(A.v .u64 v),width)).1)
def bK:((Int×List Int)×Int×Int)→((Int×List Int)):=fun((bN,bB),v,width)=>(t83 ai bN bB v width).val (Ty.dC [(.struct [yI,yB])])
def Mv:aH:=⟨[(.struct [yI,yB]),yI,yI], [(.struct [yI,yB])],(@tt ((Int×List Int)×Int×Int)),bK⟩
theorem JJ:Sd 13 Mv:=aV aJ iC true 30 [] (fun A ((bN,bB),v,width)=>t83 A bN bB v width) (fc Try.func13 fz) (sc B6 sz) (fun(((bN,bB),v,width):(Int×List Int)×Int×Int) hp h=>by
 show(t83 ai bN bB v width).pre=true
 simp[t83,LT.pre,ap,fo])
theorem oo{l:List Bool}{v w:Nat}(hv:v<2^w)(hw:w≤61)(hl:l.length+w≤4096):ai.k bK (aU l,(v:Int),(w:Int))=aU (l++bitsOf v w):=by
 have hp:2^w≤2^61:=Nat.pow_le_pow_right (by decide) hw
 show(dA (aU l,ai.v .u64 (v:Int),(w:Int))).1=_
 rw[cK (by omega),dA,kq hv (by omega) hl]
structure FK where
 (a0:List Int) (a4:Int)
inductive Js where
 | c0 (p:FK) (a1:Int) (a2:Int) (a3:List Int)
noncomputable def Iu:Js→iH
 | .c0 p a1 a2 a3=>⟨[⟨15,20,(en [(1,.sl yU p.a0),(2,.ptr 0 0),(4,.ptr 1 0),(5,vi a1)]),[.inLoop (cw Try.f15 [1,0,1,0,0]),.inBlock 0,.code (cw Try.f15 [1,1])],[],none⟩],[.flat false [vi a2,.sl yU a3],.flat false [vi p.a4,.du true],.dead]⟩
def t85(A:cH)(bN:Int)(bB:List Int)(data:List Int):LT ((Int×List Int)) Js:=.more (.c0 ⟨data,0⟩ 0 bN bB)
def JM(A:cH):Js→LT ((Int×List Int)) Js
 | .c0 p a1 a2 a3=>.br (A.c .lss a1 (A.l p.a0)) (.need (A.and (A.c .leq 0 a1) (A.c .lss a1 (A.l p.a0))) (.need (A.k (@tt ((Int×List Int)×Int×Int)) ((a2,a3),(A.v .i64 (A.n yU p.a0 a1:Int)),8)) (.more (.c0 p (A.b .add .i64 a1 1) (A.k bK ((a2,a3),(A.v .i64 (A.n yU p.a0 a1:Int)),8)).1 (A.k bK ((a2,a3),(A.v .i64 (A.n yU p.a0 a1:Int)),8)).2)))) (.ret (a2,a3))
theorem Ia{data:List Int}(hd:data.length≤140737488355328)(hb:aT data):∀(j i:Nat) (p:FK) (a2:Int) (a3:List Int),p.a0=data→data.length-i=j→i≤data.length→aA (JM ai) (.more (.c0 p (i:Int) a2 a3)) ((data.drop i).foldl (fun b x=>bK (b,x,8)) (a2,a3)):=by
 intro j
 induction j with
 | zero=>
   intro i p a2 a3 h0 hj hi
   have:i=data.length:=by omega
   subst this
   rw[ao,JM]
   refine(ah (by rw[show ai.l p.a0=(data.length:Int) from by rw[h0];rfl,aN];simp)).2 ?_
   rw[List.drop_length]
   exact .ret _
 | succ j ih=>
   intro i p a2 a3 h0 hj hi
   have hi':i<data.length:=by omega
   rw[ao,JM]
   refine(aj (by rw[show ai.l p.a0=(data.length:Int) from by rw[h0];rfl,aN];simp;omega)).2 (af.2 ⟨by rw[h0];exact gB hi',af.2 ⟨rfl,?_⟩⟩)
   have hx:=hb _ (List.getElem_mem hi')
   have hn:(ai.n (.int .u8) p.a0 (i:Int):Int)=data[i]:=by rw[h0];exact getD_in hi' _
   have hc:ai.v .i64 (ai.n (.int .u8) p.a0 (i:Int):Int)=data[i]:=(congrArg (ai.v .i64) hn).trans (by rw[aZ,ji (by omega) (by omega)])
   have hm:=ih (i+1) p (bK ((a2,a3),data[i],8)).1 (bK ((a2,a3),data[i],8)).2 h0 (by omega) (by omega)
   rw[List.drop_eq_getElem_cons hi',List.foldl_cons]
   have hg:ai.k bK ((a2,a3),ai.v .i64 (ai.n (.int .u8) p.a0 (i:Int):Int),8)=bK ((a2,a3),data[i],8):=congrArg (fun z=>bK ((a2,a3),z,8)) hc
   exact aW (congrArg LT.more (congr (congr (congrArg (Js.c0 p) (fH (by omega))) (congrArg (fun z=>z.1) hg)) (congrArg (fun z=>z.2) hg))) hm
theorem wO{n:Int}{b data:List Int}(h:Ty.cr [(.struct [(.int .i64),(.slice (.int .u8))]),(.slice (.int .u8))] ((n,b),data)):data.length≤140737488355328∧aT data:=by
 have h2:data.length≤b_∧∀x∈data,0≤x∧x≤255:=h.2
 exact⟨h2.1,h2.2⟩
def tc:((Int×List Int)×List Int)→((Int×List Int)):=fun(b,d)=>d.foldl (fun b x=>bK (b,x,8)) b
def KF:aH:=⟨[(.struct [yI,yB]),yB], [(.struct [yI,yB])],(@tt ((Int×List Int)×List Int)),tc⟩
theorem M8:Sd 15 KF:=aX aJ iC true 18 [⟨15,2, [[1,2,4,5]]⟩] [] (fun A ((bN,bB),data)=>t85 A bN bB data) JM Iu (fc Try.func15 fz) (sc JJ sz) (fun A y=>match y with |.c0 p a1 a2 a3=>⟨34,by kernel_rfl,by kernel_rfl⟩) fun(((bN,bB),data):(Int×List Int)×List Int) hp h=>by
 show aA (JM ai) (t85 ai bN bB data) (tc ((bN,bB),data))
 exact Ia (wO h).1 (wO h).2 data.length 0 _ bN bB rfl (by omega) (by omega)
theorem yR:∀{data:List Int} {l:List Bool},aT data→l.length+8*data.length≤4096→data.foldl (fun b x=>bK (b,x,8)) (aU l)=aU (l++aB data):=by
 intro data
 induction data with
 | nil=>intro l _ _;rw[show aB []=[] from rfl,List.append_nil];rfl
 | cons x data ih=>
   intro l hb hl
   rw[List.length_cons] at hl
   have hx:=hb x (List.mem_cons_self ..)
   obtain⟨v,rfl⟩:=Int.eq_ofNat_of_zero_le hx.1
   rw[List.foldl_cons,show bK (aU l,(v:Int),8)=aU (l++bitsOf v 8) from oo (w:=8) (by omega) (by decide) (by omega),ih (fun z hz=>hb z (List.mem_cons_of_mem _ hz)) (by rw[List.length_append,ak];omega),show aB ((v:Int)::data)=bitsOf v 8++aB data from by rw[aB,List.flatMap_cons,Int.toNat_natCast];rfl,List.append_assoc]
def t40(A:cH)(fKind:Int)(fReq:Int)(fCTime:Int)(fCPos:Int)(fCMode:Int)(fCNext:Int)(fCMember:Int)(fFrom:Int)(fData:List Int):LT ((Int×List Int)×Int) Empty:=.need (A.k (@tt ((Int×Int×(Int×Int×Int×Int×Int)×Int×List Int))) (fKind,fReq,(fCTime,fCPos,fCMode,fCNext,fCMember),fFrom,fData)) (.br (A.c .neq (A.k zT (fKind,fReq,(fCTime,fCPos,fCMode,fCNext,fCMember),fFrom,fData)) 0) (.ret ((0,([]:List Int)),(A.k zT (fKind,fReq,(fCTime,fCPos,fCMode,fCNext,fCMember),fFrom,fData)))) (.need (A.k (@tt ((Int×Int×Int×Int×Int))) (fCTime,fCPos,fCMode,fCNext,fCMember)) (.need (A.k (@tt ((Int×List Int)×Int×Int)) ((0,([]:List Int)),(A.b .sub .i64 fKind 1),2)) (.br (A.c .eql fKind 1) (.need (A.k (@tt ((Int×List Int)×Int×Int)) ((A.k bK ((0,([]:List Int)),(A.b .sub .i64 fKind 1),2)),fFrom,3)) (.need (A.k (@tt ((Int×List Int)×Int×Int)) ((A.k bK ((A.k bK ((0,([]:List Int)),(A.b .sub .i64 fKind 1),2)),fFrom,3)),fCTime,8)) (.need (A.k (@tt ((Int×List Int)×Int×Int)) ((A.k bK ((A.k bK ((A.k bK ((0,([]:List Int)),(A.b .sub .i64 fKind 1),2)),fFrom,3)),fCTime,8)),0,3)) (.need (A.k (@tt ((Int×List Int)×(Int×List Int))) ((A.k bK ((A.k bK ((A.k bK ((A.k bK ((0,([]:List Int)),(A.b .sub .i64 fKind 1),2)),fFrom,3)),fCTime,8)),0,3)),0,([]:List Int))) (.ret (A.k ou ((A.k bK ((A.k bK ((A.k bK ((A.k bK ((0,([]:List Int)),(A.b .sub .i64 fKind 1),2)),fFrom,3)),fCTime,8)),0,3)),0,([]:List Int)))))))) (.br (A.c .eql fKind 2) (.need (A.k (@tt ((Int×List Int)×Int×Int)) ((A.k bK ((0,([]:List Int)),(A.b .sub .i64 fKind 1),2)),fReq,3)) (.need (A.k (@tt ((Int×List Int)×List Int)) ((A.k bK ((A.k bK ((0,([]:List Int)),(A.b .sub .i64 fKind 1),2)),fReq,3)),fData)) (.need (A.k (@tt ((Int×List Int)×(Int×List Int))) ((A.k tc ((A.k bK ((A.k bK ((0,([]:List Int)),(A.b .sub .i64 fKind 1),2)),fReq,3)),fData)),(A.k ol (fCTime,fCPos,fCMode,fCNext,fCMember)).1)) (.ret (A.k ou ((A.k tc ((A.k bK ((A.k bK ((0,([]:List Int)),(A.b .sub .i64 fKind 1),2)),fReq,3)),fData)),(A.k ol (fCTime,fCPos,fCMode,fCNext,fCMember)).1)))))) (.need (A.k (@tt ((Int×List Int)×Int×Int)) ((A.k bK ((0,([]:List Int)),(A.b .sub .i64 fKind 1),2)),fReq,3)) (.need (A.k (@tt ((Int×List Int)×Int×Int)) ((A.k bK ((A.k bK ((0,([]:List Int)),(A.b .sub .i64 fKind 1),2)),fReq,3)),0,(A.b .sub .i64 fKind 2))) (.need (A.k (@tt (List (Int×List Int))) [(A.k bK ((A.k bK ((A.k bK ((0,([]:List Int)),(A.b .sub .i64 fKind 1),2)),fReq,3)),0,(A.b .sub .i64 fKind 2))),(A.k ol (fCTime,fCPos,fCMode,fCNext,fCMember)).1]) (.need (A.k (@tt ((Int×List Int)×(Int×List Int))) ((A.k vg [(A.k bK ((A.k bK ((A.k bK ((0,([]:List Int)),(A.b .sub .i64 fKind 1),2)),fReq,3)),0,(A.b .sub .i64 fKind 2))),(A.k ol (fCTime,fCPos,fCMode,fCNext,fCMember)).1]).1,0,([]:List Int))) (.br (A.c .eql fKind 3) (.ret (A.k ou ((A.k vg [(A.k bK ((A.k bK ((A.k bK ((0,([]:List Int)),(A.b .sub .i64 fKind 1),2)),fReq,3)),0,(A.b .sub .i64 fKind 2))),(A.k ol (fCTime,fCPos,fCMode,fCNext,fCMember)).1]).1,0,([]:List Int)))) (.need (A.k (@tt ((Int×List Int)×List Int)) ((A.k ou ((A.k vg [(A.k bK ((A.k bK ((A.k bK ((0,([]:List Int)),(A.b .sub .i64 fKind 1),2)),fReq,3)),0,(A.b .sub .i64 fKind 2))),(A.k ol (fCTime,fCPos,fCMode,fCNext,fCMember)).1]).1,0,([]:List Int))).1,fData)) (.need (A.k (@tt ((Int×List Int)×(Int×List Int))) ((A.k tc ((A.k ou ((A.k vg [(A.k bK ((A.k bK ((A.k bK ((0,([]:List Int)),(A.b .sub .i64 fKind 1),2)),fReq,3)),0,(A.b .sub .i64 fKind 2))),(A.k ol (fCTime,fCPos,fCMode,fCNext,fCMember)).1]).1,0,([]:List Int))).1,fData)),(A.k ol (fCTime,fCPos,fCMode,fCNext,fCMember)).1)) (.ret (A.k ou ((A.k tc ((A.k ou ((A.k vg [(A.k bK ((A.k bK ((A.k bK ((0,([]:List Int)),(A.b .sub .i64 fKind 1),2)),fReq,3)),0,(A.b .sub .i64 fKind 2))),(A.k ol (fCTime,fCPos,fCMode,fCNext,fCMember)).1]).1,0,([]:List Int))).1,fData)),(A.k ol (fCTime,fCPos,fCMode,fCNext,fCMember)).1)))))))))))))))
theorem IQ{k r t p m n s fr:Int}{d:List Int}(h:Ty.cr [.struct [(.int .i64),(.int .i64),(.struct [(.int .i64),(.int .i64),(.int .i64),(.int .i64),(.int .i64)]),(.int .i64),(.slice (.int .u8))]] (k,r,(t,p,m,n,s),fr,d)):aA Empty.elim (t40 ai k r t p m n s fr d) (encS (k,r,(t,p,m,n,s),fr,d)):=by
 have hb:=BM h
 unfold t40
 rw[encS]
 refine af.2 ⟨rfl,?_⟩
 have hchk:ai.k zT (k,r,(t,p,m,n,s),fr,d)=bif eB (k,r,(t,p,m,n,s),fr,d) then 0 else 50:=by rw[ap];exact EB
 cases hok:eB (k,r,(t,p,m,n,s),fr,d)
 ·rw[hok] at hchk
  refine(aj (ei (by rw[hchk];decide))).2 ?_
  exact aW (congrArg (fun z=>LT.ret (((0,([]:List Int)):Int×List Int),z)) hchk) (.ret _)
 rw[hok] at hchk
 refine(ah (cf hchk)).2 (af.2 ⟨rfl,?_⟩)
 rw[cond_true]
 obtain⟨hst,hr,hdl,hk⟩:=fO.1 hok
 have hst':=jq.1 hst
 obtain⟨r,rfl⟩:=Int.eq_ofNat_of_zero_le hr.1
 obtain⟨t,rfl⟩:=Int.eq_ofNat_of_zero_le hst'.1.1
 have hsl:=dy ((t:Int),p,m,n,s)
 have hsb:ai.k ol ((t:Int),p,m,n,s)=(aU (aF ((t:Int),p,m,n,s)),0):=by rw[ap,ol,iX,hst];rfl
 refine af.2 ⟨rfl,?_⟩
 rw[hsb]
 dsimp only
 rcases hk with ⟨rfl,hr0,hd0,hf,hp0,hm0,hn0,hs0⟩|⟨rfl,rfl⟩|⟨rfl,hd0,rfl⟩|⟨rfl,rfl⟩
 ·obtain⟨fr,rfl⟩:=Int.eq_ofNat_of_zero_le hf.1
  rw[List.length_eq_zero_iff.1 hd0]
  have q0:ai.k bK (((0:Int),([]:List Int)),ai.b .sub .i64 1 1,2)=aU ([]++bitsOf 0 2):=by
   exact oo (l:=[]) (v:=0) (w:=2) (by omega) (by decide) (by simp[ak])
  have q1:ai.k bK (aU ([]++bitsOf 0 2),(fr:Int),3)=aU ([]++bitsOf 0 2++bitsOf fr 3):=by
   exact oo (l:=[]++bitsOf 0 2) (v:=fr) (w:=3) (by omega) (by decide) (by simp[ak])
  have q2:ai.k bK (aU ([]++bitsOf 0 2++bitsOf fr 3),(t:Int),8)=aU ([]++bitsOf 0 2++bitsOf fr 3++bitsOf t 8):=by
   exact oo (l:=[]++bitsOf 0 2++bitsOf fr 3) (v:=t) (w:=8) (by omega) (by decide) (by simp[ak])
  have q3:ai.k bK (aU ([]++bitsOf 0 2++bitsOf fr 3++bitsOf t 8),0,3)=aU ([]++bitsOf 0 2++bitsOf fr 3++bitsOf t 8++bitsOf 0 3):=by
   exact oo (l:=[]++bitsOf 0 2++bitsOf fr 3++bitsOf t 8) (v:=0) (w:=3) (by omega) (by decide) (by simp[ak])
  have hs:ai.k ou (aU ([]++bitsOf 0 2++bitsOf fr 3++bitsOf t 8++bitsOf 0 3),((0:Int),([]:List Int)))=(aU (aC 0 ([]++bitsOf 0 2++bitsOf fr 3++bitsOf t 8++bitsOf 0 3)),0):=by rw[ap];exact nt (u:=[]) (by simp[ak]) (by decide)
  refine(aj rfl).2 ?_
  rw[q0,q1,q2,q3,hs]
  repeat (refine af.2 ⟨rfl,?_⟩)
  refine oJ ?_ (.ret _)
  show(aU (aC 0 ([]++bitsOf 0 2++bitsOf fr 3++bitsOf t 8++bitsOf 0 3)),(0:Int))=(aU (aC 0 (bitsOf 0 2++(bitsOf fr 3++(bitsOf t 8++bitsOf 0 3)))),0)
  simp only[List.nil_append,List.append_assoc]
 ·
  have q0:ai.k bK (((0:Int),([]:List Int)),ai.b .sub .i64 2 1,2)=aU ([]++bitsOf 1 2):=by
   exact oo (l:=[]) (v:=1) (w:=2) (by omega) (by decide) (by simp[ak])
  have q1:ai.k bK (aU ([]++bitsOf 1 2),(r:Int),3)=aU ([]++bitsOf 1 2++bitsOf r 3):=by
   exact oo (l:=[]++bitsOf 1 2) (v:=r) (w:=3) (by omega) (by decide) (by simp[ak])
  have ht:ai.k tc (aU ([]++bitsOf 1 2++bitsOf r 3),d)=aU ([]++bitsOf 1 2++bitsOf r 3++aB d):=by rw[ap,tc];exact yR hb (by simp[ak];omega)
  have hs:ai.k ou (aU ([]++bitsOf 1 2++bitsOf r 3++aB d),aU (aF ((t:Int),p,m,n,s)))=(aU (aC (over 0 (aF ((t:Int),p,m,n,s))) ([]++bitsOf 1 2++bitsOf r 3++aB d)),0):=by rw[ap];exact nt (by simp[ak,dP];omega) (by omega)
  refine(ah rfl).2 ((aj rfl).2 ?_)
  rw[q0,q1,ht,hs]
  repeat (refine af.2 ⟨rfl,?_⟩)
  refine oJ ?_ (.ret _)
  show(aU (aC (over 0 (aF ((t:Int),p,m,n,s))) ([]++bitsOf 1 2++bitsOf r 3++aB d)),(0:Int))=(aU (aC (over 0 (aF ((t:Int),p,m,n,s))) (bitsOf 1 2++(bitsOf r 3++aB d))),0)
  simp only[List.nil_append,List.append_assoc]
 ·rw[List.length_eq_zero_iff.1 hd0]
  have q0:ai.k bK (((0:Int),([]:List Int)),ai.b .sub .i64 3 1,2)=aU ([]++bitsOf 2 2):=by
   exact oo (l:=[]) (v:=2) (w:=2) (by omega) (by decide) (by simp[ak])
  have q1:ai.k bK (aU ([]++bitsOf 2 2),(r:Int),3)=aU ([]++bitsOf 2 2++bitsOf r 3):=by
   exact oo (l:=[]++bitsOf 2 2) (v:=r) (w:=3) (by omega) (by decide) (by simp[ak])
  have q2:ai.k bK (aU ([]++bitsOf 2 2++bitsOf r 3),0,ai.b .sub .i64 3 2)=aU ([]++bitsOf 2 2++bitsOf r 3++bitsOf 0 1):=by exact oo (l:=[]++bitsOf 2 2++bitsOf r 3) (v:=0) (w:=1) (by omega) (by decide) (by simp[ak])
  have hj:ai.k vg [aU ([]++bitsOf 2 2++bitsOf r 3++bitsOf 0 1),aU (aF ((t:Int),p,m,n,s))]=(aU ([]++bitsOf 2 2++bitsOf r 3++bitsOf 0 1++aF ((t:Int),p,m,n,s)),0):=by rw[ap];exact zy (by simp[ak,hsl])
  have hs:ai.k ou (aU ([]++bitsOf 2 2++bitsOf r 3++bitsOf 0 1++aF ((t:Int),p,m,n,s)),((0:Int),([]:List Int)))=(aU (aC 0 ([]++bitsOf 2 2++bitsOf r 3++bitsOf 0 1++aF ((t:Int),p,m,n,s))),0):=by rw[ap];exact nt (u:=[]) (by simp[ak,hsl]) (by decide)
  refine(ah rfl).2 ((ah rfl).2 ?_)
  rw[q0,q1,q2,hj]
  dsimp only
  rw[hs]
  repeat (refine af.2 ⟨rfl,?_⟩)
  refine(aj rfl).2 ?_
  refine oJ ?_ (.ret _)
  show(aU (aC 0 ([]++bitsOf 2 2++bitsOf r 3++bitsOf 0 1++aF ((t:Int),p,m,n,s))),(0:Int))=(aU (aC 0 (bitsOf 2 2++(bitsOf r 3++(bitsOf 0 1++aF ((t:Int),p,m,n,s))))),0)
  simp only[List.nil_append,List.append_assoc]
 ·
  have q0:ai.k bK (((0:Int),([]:List Int)),ai.b .sub .i64 4 1,2)=aU ([]++bitsOf 3 2):=by
   exact oo (l:=[]) (v:=3) (w:=2) (by omega) (by decide) (by simp[ak])
  have q1:ai.k bK (aU ([]++bitsOf 3 2),(r:Int),3)=aU ([]++bitsOf 3 2++bitsOf r 3):=by
   exact oo (l:=[]++bitsOf 3 2) (v:=r) (w:=3) (by omega) (by decide) (by simp[ak])
  have q2:ai.k bK (aU ([]++bitsOf 3 2++bitsOf r 3),0,ai.b .sub .i64 4 2)=aU ([]++bitsOf 3 2++bitsOf r 3++bitsOf 0 2):=by exact oo (l:=[]++bitsOf 3 2++bitsOf r 3) (v:=0) (w:=2) (by omega) (by decide) (by simp[ak])
  have hj:ai.k vg [aU ([]++bitsOf 3 2++bitsOf r 3++bitsOf 0 2),aU (aF ((t:Int),p,m,n,s))]=(aU ([]++bitsOf 3 2++bitsOf r 3++bitsOf 0 2++aF ((t:Int),p,m,n,s)),0):=by rw[ap];exact zy (by simp[ak,hsl])
  have hs:ai.k ou (aU ([]++bitsOf 3 2++bitsOf r 3++bitsOf 0 2++aF ((t:Int),p,m,n,s)),((0:Int),([]:List Int)))=(aU (aC 0 ([]++bitsOf 3 2++bitsOf r 3++bitsOf 0 2++aF ((t:Int),p,m,n,s))),0):=by rw[ap];exact nt (u:=[]) (by simp[ak,hsl]) (by decide)
  have ht:ai.k tc (aU (aC 0 ([]++bitsOf 3 2++bitsOf r 3++bitsOf 0 2++aF ((t:Int),p,m,n,s))),d)=aU (aC 0 ([]++bitsOf 3 2++bitsOf r 3++bitsOf 0 2++aF ((t:Int),p,m,n,s))++aB d):=by rw[ap,tc];exact yR hb (by rw[bQ];simp[ak,hsl];omega)
  have hs2:ai.k ou (aU (aC 0 ([]++bitsOf 3 2++bitsOf r 3++bitsOf 0 2++aF ((t:Int),p,m,n,s))++aB d),aU (aF ((t:Int),p,m,n,s)))=(aU (aC (over 0 (aF ((t:Int),p,m,n,s))) (aC 0 ([]++bitsOf 3 2++bitsOf r 3++bitsOf 0 2++aF ((t:Int),p,m,n,s))++aB d)),0):=by rw[ap];exact nt (by rw[List.length_append,bQ];simp[ak,dP,hsl];omega) (by omega)
  refine(ah rfl).2 ((ah rfl).2 ?_)
  rw[q0,q1,q2,hj]
  dsimp only
  rw[hs]
  dsimp only
  rw[ht,hs2]
  repeat (refine af.2 ⟨rfl,?_⟩)
  refine(ah rfl).2 ?_
  repeat (refine af.2 ⟨rfl,?_⟩)
  refine oJ ?_ (.ret _)
  show(aU (aC (over 0 (aF ((t:Int),p,m,n,s))) (aC 0 ([]++bitsOf 3 2++bitsOf r 3++bitsOf 0 2++aF ((t:Int),p,m,n,s))++aB d)),(0:Int))=(aU (aC (over 0 (aF ((t:Int),p,m,n,s))) (aC 0 (bitsOf 3 2++(bitsOf r 3++(bitsOf 0 2++aF ((t:Int),p,m,n,s))))++aB d)),0)
  simp only[List.nil_append,List.append_assoc]
def Ac:((Int×Int×(Int×Int×Int×Int×Int)×Int×List Int))→((Int×List Int)×Int):=encS
def L6:aH:=⟨[(.struct [yI,yI,(.struct [yI,yI,yI,yI,yI]),yI,yB])], [(.struct [yI,yB]),yI],(@tt ((Int×Int×(Int×Int×Int×Int×Int)×Int×List Int))),Ac⟩
theorem LW:Sd 4 L6:=gj aJ iC true 131 [] (fun A (fKind,fReq,(fCTime,fCPos,fCMode,fCNext,fCMember),fFrom,fData)=>t40 A fKind fReq fCTime fCPos fCMode fCNext fCMember fFrom fData) (fc Try.func4 fz) (sc LH (sc ML (sc JJ (sc KH (sc M8 (sc LZ sz)))))) fun(fKind,fReq,(fCTime,fCPos,fCMode,fCNext,fCMember),fFrom,fData) hp h=>IQ h
end Go.Ev.M
