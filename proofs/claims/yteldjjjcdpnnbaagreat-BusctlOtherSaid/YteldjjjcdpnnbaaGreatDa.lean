/-
  PROVED: what metronomeref05.Encode computes. Conditions: none.
-/
import Derived.Test.YteldjjjcdpnnbaaGreatFc
import Derived.Test.YteldjjjcdpnnbaaGreatKa
namespace Go.Ev.M
open Go.Proofs
set_option maxRecDepth 100000
set_option linter.unusedVariables false
set_option linter.unusedSimpArgs false
open Go.Ev.Pl
def t83(A:a_)(bN:Int)(bB:List Int)(v:Int)(width:Int):LT ((Int×List Int)) Empty:=.need (A.k (@tt ((Int×List Int)×Int×Int)) ((bN,bB),(A.v .u64 v),width)) (.ret (A.k eY ((bN,bB),(A.v .u64 v),width)).1)
def cJ:((Int×List Int)×Int×Int)→((Int×List Int)):=fun((bN,bB),v,width)=>(t83 aj bN bB v width).val (Ty.bF [(.struct [yI,yB])])
def aa6:aC:=⟨[(.struct [yI,yB]),yI,yI], [(.struct [yI,yB])],(@tt ((Int×List Int)×Int×Int)),cJ⟩
theorem WI:Sd 130 aa6:=aH ap cm true 30 [] (fun A ((bN,bB),v,width)=>t83 A bN bB v width) (fc Tryz.func130 fz) (sc Hr sz) (fun(((bN,bB),v,width):(Int×List Int)×Int×Int) hp h=>by
 show(t83 aj bN bB v width).pre=true
 simp[t83,LT.pre,ak,bK])
theorem rm{l:List Bool}{v w:Nat}(hv:v<2^w)(hw:w≤61)(hl:l.length+w≤4096):aj.k cJ (bq l,(v:Int),(w:Int))=bq (l++bitsOf v w):=by
 have hp:2^w≤2^61:=Nat.pow_le_pow_right (by decide) hw
 show(eY (bq l,aj.v .u64 (v:Int),(w:Int))).1=_
 rw[dI (by omega),eY,ng hv (by omega) hl]
structure Mw where
 (a0:List Int) (a4:Int)
inductive VJ where
 | c0 (p:Mw) (a1:Int) (a2:Int) (a3:List Int)
noncomputable def V4:VJ→fJ
 | .c0 p a1 a2 a3=>⟨[⟨132,20,(en [(1,.sl yU p.a0),(2,.ptr 0 0),(4,.ptr 1 0),(5,vi a1)]),[.inLoop (cw Tryz.f132 [1,0,1,0,0]),.inBlock 0,.code (cw Tryz.f132 [1,1])],[],none⟩],[.flat false [vi a2,.sl yU a3],.flat false [vi p.a4,.bZ true],.dead]⟩
def t85(A:a_)(bN:Int)(bB:List Int)(data:List Int):LT ((Int×List Int)) VJ:=.more (.c0 ⟨data,0⟩ 0 bN bB)
def Vh(A:a_):VJ→LT ((Int×List Int)) VJ
 | .c0 p a1 a2 a3=>.br (A.c .lss a1 (A.l p.a0)) (.need (A.and (A.c .leq 0 a1) (A.c .lss a1 (A.l p.a0))) (.need (A.k (@tt ((Int×List Int)×Int×Int)) ((a2,a3),(A.v .i64 (A.n yU p.a0 a1:Int)),8)) (.more (.c0 p (A.b .add .i64 a1 1) (A.k cJ ((a2,a3),(A.v .i64 (A.n yU p.a0 a1:Int)),8)).1 (A.k cJ ((a2,a3),(A.v .i64 (A.n yU p.a0 a1:Int)),8)).2)))) (.ret (a2,a3))
theorem VH{data:List Int}(hd:data.length≤140737488355328)(hb:bJ data):∀(j i:Nat) (p:Mw) (a2:Int) (a3:List Int),p.a0=data→data.length-i=j→i≤data.length→aF (Vh aj) (.more (.c0 p (i:Int) a2 a3)) ((data.drop i).foldl (fun b x=>cJ (b,x,8)) (a2,a3)):=by
 intro j
 induction j with
 | zero=>
   intro i p a2 a3 h0 hj hi
   have:i=data.length:=by omega
   subst this
   rw[al,Vh]
   refine(ah (by rw[show aj.l p.a0=(data.length:Int) from by rw[h0];rfl,aL];simp)).2 ?_
   rw[List.drop_length]
   exact .ret _
 | succ j ih=>
   intro i p a2 a3 h0 hj hi
   have hi':i<data.length:=by omega
   rw[al,Vh]
   refine(ai (by rw[show aj.l p.a0=(data.length:Int) from by rw[h0];rfl,aL];simp;omega)).2 (af.2 ⟨by rw[h0];exact aO hi',af.2 ⟨rfl,?_⟩⟩)
   have hx:=hb _ (List.getElem_mem hi')
   have hn:(aj.n (.int .u8) p.a0 (i:Int):Int)=data[i]:=by rw[h0];exact getD_in hi' _
   have hc:aj.v .i64 (aj.n (.int .u8) p.a0 (i:Int):Int)=data[i]:=(congrArg (aj.v .i64) hn).trans (by rw[aU,gg (by omega) (by omega)])
   have hm:=ih (i+1) p (cJ ((a2,a3),data[i],8)).1 (cJ ((a2,a3),data[i],8)).2 h0 (by omega) (by omega)
   rw[List.drop_eq_getElem_cons hi',List.foldl_cons]
   have hg:aj.k cJ ((a2,a3),aj.v .i64 (aj.n (.int .u8) p.a0 (i:Int):Int),8)=cJ ((a2,a3),data[i],8):=congrArg (fun z=>cJ ((a2,a3),z,8)) hc
   exact aX (congrArg LT.more (congr (congr (congrArg (VJ.c0 p) (cn (by omega))) (congrArg (fun z=>z.1) hg)) (congrArg (fun z=>z.2) hg))) hm
theorem Af{n:Int}{b data:List Int}(h:Ty.cY [(.struct [(.int .i64),(.slice (.int .u8))]),(.slice (.int .u8))] ((n,b),data)):data.length≤140737488355328∧bJ data:=by
 have h2:data.length≤dp∧∀x∈data,0≤x∧x≤255:=h.2
 exact⟨h2.1,h2.2⟩
def vP:((Int×List Int)×List Int)→((Int×List Int)):=fun(b,d)=>d.foldl (fun b x=>cJ (b,x,8)) b
def aaj:aC:=⟨[(.struct [yI,yB]),yB], [(.struct [yI,yB])],(@tt ((Int×List Int)×List Int)),vP⟩
theorem aa_:Sd 132 aaj:=aK ap cm true 18 [⟨132,2, [[1,2,4,5]]⟩] [] (fun A ((bN,bB),data)=>t85 A bN bB data) Vh V4 (fc Tryz.func132 fz) (sc WI sz) (fun A y=>match y with |.c0 p a1 a2 a3=>⟨34,by kernel_rfl,by kernel_rfl⟩) fun(((bN,bB),data):(Int×List Int)×List Int) hp h=>by
 show aF (Vh aj) (t85 aj bN bB data) (vP ((bN,bB),data))
 exact VH (Af h).1 (Af h).2 data.length 0 _ bN bB rfl (by omega) (by omega)
theorem Cq:∀{data:List Int} {l:List Bool},bJ data→l.length+8*data.length≤4096→data.foldl (fun b x=>cJ (b,x,8)) (bq l)=bq (l++bW data):=by
 intro data
 induction data with
 | nil=>intro l _ _;rw[show bW []=[] from rfl,List.append_nil];rfl
 | cons x data ih=>
   intro l hb hl
   rw[List.length_cons] at hl
   have hx:=hb x (List.mem_cons_self ..)
   obtain⟨v,rfl⟩:=Int.eq_ofNat_of_zero_le hx.1
   rw[List.foldl_cons,show cJ (bq l,(v:Int),8)=bq (l++bitsOf v 8) from rm (w:=8) (by omega) (by decide) (by omega),ih (fun z hz=>hb z (List.mem_cons_of_mem _ hz)) (by rw[List.length_append,aI];omega),show bW ((v:Int)::data)=bitsOf v 8++bW data from by rw[bW,List.flatMap_cons,Int.toNat_natCast];rfl,List.append_assoc]
def t40(A:a_)(fKind:Int)(fReq:Int)(fCTime:Int)(fCPos:Int)(fCMode:Int)(fCNext:Int)(fCMember:Int)(fFrom:Int)(fData:List Int):LT ((Int×List Int)×Int) Empty:=.need (A.k (@tt ((Int×Int×(Int×Int×Int×Int×Int)×Int×List Int))) (fKind,fReq,(fCTime,fCPos,fCMode,fCNext,fCMember),fFrom,fData)) (.br (A.c .neq (A.k mU (fKind,fReq,(fCTime,fCPos,fCMode,fCNext,fCMember),fFrom,fData)) 0) (.ret ((0,([]:List Int)),(A.k mU (fKind,fReq,(fCTime,fCPos,fCMode,fCNext,fCMember),fFrom,fData)))) (.need (A.k (@tt ((Int×Int×Int×Int×Int))) (fCTime,fCPos,fCMode,fCNext,fCMember)) (.need (A.k (@tt ((Int×List Int)×Int×Int)) ((0,([]:List Int)),(A.b .sub .i64 fKind 1),2)) (.br (A.c .eql fKind 1) (.need (A.k (@tt ((Int×List Int)×Int×Int)) ((A.k cJ ((0,([]:List Int)),(A.b .sub .i64 fKind 1),2)),fFrom,3)) (.need (A.k (@tt ((Int×List Int)×Int×Int)) ((A.k cJ ((A.k cJ ((0,([]:List Int)),(A.b .sub .i64 fKind 1),2)),fFrom,3)),fCTime,8)) (.need (A.k (@tt ((Int×List Int)×Int×Int)) ((A.k cJ ((A.k cJ ((A.k cJ ((0,([]:List Int)),(A.b .sub .i64 fKind 1),2)),fFrom,3)),fCTime,8)),0,3)) (.need (A.k (@tt ((Int×List Int)×(Int×List Int))) ((A.k cJ ((A.k cJ ((A.k cJ ((A.k cJ ((0,([]:List Int)),(A.b .sub .i64 fKind 1),2)),fFrom,3)),fCTime,8)),0,3)),0,([]:List Int))) (.ret (A.k ry ((A.k cJ ((A.k cJ ((A.k cJ ((A.k cJ ((0,([]:List Int)),(A.b .sub .i64 fKind 1),2)),fFrom,3)),fCTime,8)),0,3)),0,([]:List Int)))))))) (.br (A.c .eql fKind 2) (.need (A.k (@tt ((Int×List Int)×Int×Int)) ((A.k cJ ((0,([]:List Int)),(A.b .sub .i64 fKind 1),2)),fReq,3)) (.need (A.k (@tt ((Int×List Int)×List Int)) ((A.k cJ ((A.k cJ ((0,([]:List Int)),(A.b .sub .i64 fKind 1),2)),fReq,3)),fData)) (.need (A.k (@tt ((Int×List Int)×(Int×List Int))) ((A.k vP ((A.k cJ ((A.k cJ ((0,([]:List Int)),(A.b .sub .i64 fKind 1),2)),fReq,3)),fData)),(A.k jV (fCTime,fCPos,fCMode,fCNext,fCMember)).1)) (.ret (A.k ry ((A.k vP ((A.k cJ ((A.k cJ ((0,([]:List Int)),(A.b .sub .i64 fKind 1),2)),fReq,3)),fData)),(A.k jV (fCTime,fCPos,fCMode,fCNext,fCMember)).1)))))) (.need (A.k (@tt ((Int×List Int)×Int×Int)) ((A.k cJ ((0,([]:List Int)),(A.b .sub .i64 fKind 1),2)),fReq,3)) (.need (A.k (@tt ((Int×List Int)×Int×Int)) ((A.k cJ ((A.k cJ ((0,([]:List Int)),(A.b .sub .i64 fKind 1),2)),fReq,3)),0,(A.b .sub .i64 fKind 2))) (.need (A.k (@tt (List (Int×List Int))) [(A.k cJ ((A.k cJ ((A.k cJ ((0,([]:List Int)),(A.b .sub .i64 fKind 1),2)),fReq,3)),0,(A.b .sub .i64 fKind 2))),(A.k jV (fCTime,fCPos,fCMode,fCNext,fCMember)).1]) (.need (A.k (@tt ((Int×List Int)×(Int×List Int))) ((A.k xS [(A.k cJ ((A.k cJ ((A.k cJ ((0,([]:List Int)),(A.b .sub .i64 fKind 1),2)),fReq,3)),0,(A.b .sub .i64 fKind 2))),(A.k jV (fCTime,fCPos,fCMode,fCNext,fCMember)).1]).1,0,([]:List Int))) (.br (A.c .eql fKind 3) (.ret (A.k ry ((A.k xS [(A.k cJ ((A.k cJ ((A.k cJ ((0,([]:List Int)),(A.b .sub .i64 fKind 1),2)),fReq,3)),0,(A.b .sub .i64 fKind 2))),(A.k jV (fCTime,fCPos,fCMode,fCNext,fCMember)).1]).1,0,([]:List Int)))) (.need (A.k (@tt ((Int×List Int)×List Int)) ((A.k ry ((A.k xS [(A.k cJ ((A.k cJ ((A.k cJ ((0,([]:List Int)),(A.b .sub .i64 fKind 1),2)),fReq,3)),0,(A.b .sub .i64 fKind 2))),(A.k jV (fCTime,fCPos,fCMode,fCNext,fCMember)).1]).1,0,([]:List Int))).1,fData)) (.need (A.k (@tt ((Int×List Int)×(Int×List Int))) ((A.k vP ((A.k ry ((A.k xS [(A.k cJ ((A.k cJ ((A.k cJ ((0,([]:List Int)),(A.b .sub .i64 fKind 1),2)),fReq,3)),0,(A.b .sub .i64 fKind 2))),(A.k jV (fCTime,fCPos,fCMode,fCNext,fCMember)).1]).1,0,([]:List Int))).1,fData)),(A.k jV (fCTime,fCPos,fCMode,fCNext,fCMember)).1)) (.ret (A.k ry ((A.k vP ((A.k ry ((A.k xS [(A.k cJ ((A.k cJ ((A.k cJ ((0,([]:List Int)),(A.b .sub .i64 fKind 1),2)),fReq,3)),0,(A.b .sub .i64 fKind 2))),(A.k jV (fCTime,fCPos,fCMode,fCNext,fCMember)).1]).1,0,([]:List Int))).1,fData)),(A.k jV (fCTime,fCPos,fCMode,fCNext,fCMember)).1)))))))))))))))
theorem SD{k r t p m n s fr:Int}{d:List Int}(h:Ty.cY [.struct [(.int .i64),(.int .i64),(.struct [(.int .i64),(.int .i64),(.int .i64),(.int .i64),(.int .i64)]),(.int .i64),(.slice (.int .u8))]] (k,r,(t,p,m,n,s),fr,d)):aF Empty.elim (t40 aj k r t p m n s fr d) (encS (k,r,(t,p,m,n,s),fr,d)):=by
 have hb:=FD h
 unfold t40
 rw[encS]
 refine af.2 ⟨rfl,?_⟩
 have hchk:aj.k mU (k,r,(t,p,m,n,s),fr,d)=bif fj (k,r,(t,p,m,n,s),fr,d) then 0 else 50:=by rw[ak];exact pJ
 cases hok:fj (k,r,(t,p,m,n,s),fr,d)
 ·rw[hok] at hchk
  refine(ai (dd (by rw[hchk];decide))).2 ?_
  exact aX (congrArg (fun z=>LT.ret (((0,([]:List Int)):Int×List Int),z)) hchk) (.ret _)
 rw[hok] at hchk
 refine(ah (bO hchk)).2 (af.2 ⟨rfl,?_⟩)
 rw[cond_true]
 obtain⟨hst,hr,hdl,hk⟩:=fS.1 hok
 have hst':=kM.1 hst
 obtain⟨r,rfl⟩:=Int.eq_ofNat_of_zero_le hr.1
 obtain⟨t,rfl⟩:=Int.eq_ofNat_of_zero_le hst'.1.1
 have hsl:=kr ((t:Int),p,m,n,s)
 have hsb:aj.k jV ((t:Int),p,m,n,s)=(bq (bf ((t:Int),p,m,n,s)),0):=by rw[ak,jV,jm,hst];rfl
 refine af.2 ⟨rfl,?_⟩
 rw[hsb]
 dsimp only
 rcases hk with ⟨rfl,hr0,hd0,hf,hp0,hm0,hn0,hs0⟩|⟨rfl,rfl⟩|⟨rfl,hd0,rfl⟩|⟨rfl,rfl⟩
 ·obtain⟨fr,rfl⟩:=Int.eq_ofNat_of_zero_le hf.1
  rw[List.length_eq_zero_iff.1 hd0]
  have q0:aj.k cJ (((0:Int),([]:List Int)),aj.b .sub .i64 1 1,2)=bq ([]++bitsOf 0 2):=by
   exact rm (l:=[]) (v:=0) (w:=2) (by omega) (by decide) (by simp[aI])
  have q1:aj.k cJ (bq ([]++bitsOf 0 2),(fr:Int),3)=bq ([]++bitsOf 0 2++bitsOf fr 3):=by
   exact rm (l:=[]++bitsOf 0 2) (v:=fr) (w:=3) (by omega) (by decide) (by simp[aI])
  have q2:aj.k cJ (bq ([]++bitsOf 0 2++bitsOf fr 3),(t:Int),8)=bq ([]++bitsOf 0 2++bitsOf fr 3++bitsOf t 8):=by
   exact rm (l:=[]++bitsOf 0 2++bitsOf fr 3) (v:=t) (w:=8) (by omega) (by decide) (by simp[aI])
  have q3:aj.k cJ (bq ([]++bitsOf 0 2++bitsOf fr 3++bitsOf t 8),0,3)=bq ([]++bitsOf 0 2++bitsOf fr 3++bitsOf t 8++bitsOf 0 3):=by
   exact rm (l:=[]++bitsOf 0 2++bitsOf fr 3++bitsOf t 8) (v:=0) (w:=3) (by omega) (by decide) (by simp[aI])
  have hs:aj.k ry (bq ([]++bitsOf 0 2++bitsOf fr 3++bitsOf t 8++bitsOf 0 3),((0:Int),([]:List Int)))=(bq (dE 0 ([]++bitsOf 0 2++bitsOf fr 3++bitsOf t 8++bitsOf 0 3)),0):=by rw[ak];exact pz (u:=[]) (by simp[aI]) (by decide)
  refine(ai rfl).2 ?_
  rw[q0,q1,q2,q3,hs]
  repeat (refine af.2 ⟨rfl,?_⟩)
  refine ax ?_ (.ret _)
  show(bq (dE 0 ([]++bitsOf 0 2++bitsOf fr 3++bitsOf t 8++bitsOf 0 3)),(0:Int))=(bq (dE 0 (bitsOf 0 2++(bitsOf fr 3++(bitsOf t 8++bitsOf 0 3)))),0)
  simp only[List.nil_append,List.append_assoc]
 ·
  have q0:aj.k cJ (((0:Int),([]:List Int)),aj.b .sub .i64 2 1,2)=bq ([]++bitsOf 1 2):=by
   exact rm (l:=[]) (v:=1) (w:=2) (by omega) (by decide) (by simp[aI])
  have q1:aj.k cJ (bq ([]++bitsOf 1 2),(r:Int),3)=bq ([]++bitsOf 1 2++bitsOf r 3):=by
   exact rm (l:=[]++bitsOf 1 2) (v:=r) (w:=3) (by omega) (by decide) (by simp[aI])
  have ht:aj.k vP (bq ([]++bitsOf 1 2++bitsOf r 3),d)=bq ([]++bitsOf 1 2++bitsOf r 3++bW d):=by rw[ak,vP];exact Cq hb (by simp[aI];omega)
  have hs:aj.k ry (bq ([]++bitsOf 1 2++bitsOf r 3++bW d),bq (bf ((t:Int),p,m,n,s)))=(bq (dE (over 0 (bf ((t:Int),p,m,n,s))) ([]++bitsOf 1 2++bitsOf r 3++bW d)),0):=by rw[ak];exact pz (by simp[aI,lV];omega) (by omega)
  refine(ah rfl).2 ((ai rfl).2 ?_)
  rw[q0,q1,ht,hs]
  repeat (refine af.2 ⟨rfl,?_⟩)
  refine ax ?_ (.ret _)
  show(bq (dE (over 0 (bf ((t:Int),p,m,n,s))) ([]++bitsOf 1 2++bitsOf r 3++bW d)),(0:Int))=(bq (dE (over 0 (bf ((t:Int),p,m,n,s))) (bitsOf 1 2++(bitsOf r 3++bW d))),0)
  simp only[List.nil_append,List.append_assoc]
 ·rw[List.length_eq_zero_iff.1 hd0]
  have q0:aj.k cJ (((0:Int),([]:List Int)),aj.b .sub .i64 3 1,2)=bq ([]++bitsOf 2 2):=by
   exact rm (l:=[]) (v:=2) (w:=2) (by omega) (by decide) (by simp[aI])
  have q1:aj.k cJ (bq ([]++bitsOf 2 2),(r:Int),3)=bq ([]++bitsOf 2 2++bitsOf r 3):=by
   exact rm (l:=[]++bitsOf 2 2) (v:=r) (w:=3) (by omega) (by decide) (by simp[aI])
  have q2:aj.k cJ (bq ([]++bitsOf 2 2++bitsOf r 3),0,aj.b .sub .i64 3 2)=bq ([]++bitsOf 2 2++bitsOf r 3++bitsOf 0 1):=by exact rm (l:=[]++bitsOf 2 2++bitsOf r 3) (v:=0) (w:=1) (by omega) (by decide) (by simp[aI])
  have hj:aj.k xS [bq ([]++bitsOf 2 2++bitsOf r 3++bitsOf 0 1),bq (bf ((t:Int),p,m,n,s))]=(bq ([]++bitsOf 2 2++bitsOf r 3++bitsOf 0 1++bf ((t:Int),p,m,n,s)),0):=by rw[ak];exact CX (by simp[aI,hsl])
  have hs:aj.k ry (bq ([]++bitsOf 2 2++bitsOf r 3++bitsOf 0 1++bf ((t:Int),p,m,n,s)),((0:Int),([]:List Int)))=(bq (dE 0 ([]++bitsOf 2 2++bitsOf r 3++bitsOf 0 1++bf ((t:Int),p,m,n,s))),0):=by rw[ak];exact pz (u:=[]) (by simp[aI,hsl]) (by decide)
  refine(ah rfl).2 ((ah rfl).2 ?_)
  rw[q0,q1,q2,hj]
  dsimp only
  rw[hs]
  repeat (refine af.2 ⟨rfl,?_⟩)
  refine(ai rfl).2 ?_
  refine ax ?_ (.ret _)
  show(bq (dE 0 ([]++bitsOf 2 2++bitsOf r 3++bitsOf 0 1++bf ((t:Int),p,m,n,s))),(0:Int))=(bq (dE 0 (bitsOf 2 2++(bitsOf r 3++(bitsOf 0 1++bf ((t:Int),p,m,n,s))))),0)
  simp only[List.nil_append,List.append_assoc]
 ·
  have q0:aj.k cJ (((0:Int),([]:List Int)),aj.b .sub .i64 4 1,2)=bq ([]++bitsOf 3 2):=by
   exact rm (l:=[]) (v:=3) (w:=2) (by omega) (by decide) (by simp[aI])
  have q1:aj.k cJ (bq ([]++bitsOf 3 2),(r:Int),3)=bq ([]++bitsOf 3 2++bitsOf r 3):=by
   exact rm (l:=[]++bitsOf 3 2) (v:=r) (w:=3) (by omega) (by decide) (by simp[aI])
  have q2:aj.k cJ (bq ([]++bitsOf 3 2++bitsOf r 3),0,aj.b .sub .i64 4 2)=bq ([]++bitsOf 3 2++bitsOf r 3++bitsOf 0 2):=by exact rm (l:=[]++bitsOf 3 2++bitsOf r 3) (v:=0) (w:=2) (by omega) (by decide) (by simp[aI])
  have hj:aj.k xS [bq ([]++bitsOf 3 2++bitsOf r 3++bitsOf 0 2),bq (bf ((t:Int),p,m,n,s))]=(bq ([]++bitsOf 3 2++bitsOf r 3++bitsOf 0 2++bf ((t:Int),p,m,n,s)),0):=by rw[ak];exact CX (by simp[aI,hsl])
  have hs:aj.k ry (bq ([]++bitsOf 3 2++bitsOf r 3++bitsOf 0 2++bf ((t:Int),p,m,n,s)),((0:Int),([]:List Int)))=(bq (dE 0 ([]++bitsOf 3 2++bitsOf r 3++bitsOf 0 2++bf ((t:Int),p,m,n,s))),0):=by rw[ak];exact pz (u:=[]) (by simp[aI,hsl]) (by decide)
  have ht:aj.k vP (bq (dE 0 ([]++bitsOf 3 2++bitsOf r 3++bitsOf 0 2++bf ((t:Int),p,m,n,s))),d)=bq (dE 0 ([]++bitsOf 3 2++bitsOf r 3++bitsOf 0 2++bf ((t:Int),p,m,n,s))++bW d):=by rw[ak,vP];exact Cq hb (by rw[lf];simp[aI,hsl];omega)
  have hs2:aj.k ry (bq (dE 0 ([]++bitsOf 3 2++bitsOf r 3++bitsOf 0 2++bf ((t:Int),p,m,n,s))++bW d),bq (bf ((t:Int),p,m,n,s)))=(bq (dE (over 0 (bf ((t:Int),p,m,n,s))) (dE 0 ([]++bitsOf 3 2++bitsOf r 3++bitsOf 0 2++bf ((t:Int),p,m,n,s))++bW d)),0):=by rw[ak];exact pz (by rw[List.length_append,lf];simp[aI,lV,hsl];omega) (by omega)
  refine(ah rfl).2 ((ah rfl).2 ?_)
  rw[q0,q1,q2,hj]
  dsimp only
  rw[hs]
  dsimp only
  rw[ht,hs2]
  repeat (refine af.2 ⟨rfl,?_⟩)
  refine(ah rfl).2 ?_
  repeat (refine af.2 ⟨rfl,?_⟩)
  refine ax ?_ (.ret _)
  show(bq (dE (over 0 (bf ((t:Int),p,m,n,s))) (dE 0 ([]++bitsOf 3 2++bitsOf r 3++bitsOf 0 2++bf ((t:Int),p,m,n,s))++bW d)),(0:Int))=(bq (dE (over 0 (bf ((t:Int),p,m,n,s))) (dE 0 (bitsOf 3 2++(bitsOf r 3++(bitsOf 0 2++bf ((t:Int),p,m,n,s))))++bW d)),0)
  simp only[List.nil_append,List.append_assoc]
def R9:((Int×Int×(Int×Int×Int×Int×Int)×Int×List Int))→((Int×List Int)×Int):=encS
def Y1:aC:=⟨[(.struct [yI,yI,(.struct [yI,yI,yI,yI,yI]),yI,yB])], [(.struct [yI,yB]),yI],(@tt ((Int×Int×(Int×Int×Int×Int×Int)×Int×List Int))),R9⟩
theorem aaL:Sd 55 Y1:=aM ap cm true 131 [] (fun A (fKind,fReq,(fCTime,fCPos,fCMode,fCNext,fCMember),fFrom,fData)=>t40 A fKind fReq fCTime fCPos fCMode fCNext fCMember fFrom fData) (fc Tryz.func55 fz) (sc RY (sc U_ (sc WI (sc aal (sc aa_ (sc aaR sz)))))) fun(fKind,fReq,(fCTime,fCPos,fCMode,fCNext,fCMember),fFrom,fData) hp h=>SD h
end Go.Ev.M
