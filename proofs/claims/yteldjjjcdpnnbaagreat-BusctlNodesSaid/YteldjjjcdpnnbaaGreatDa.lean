/-
  PROVED: what metronomeref05.Encode computes. Conditions: none.
-/
import Derived.Test.YteldjjjcdpnnbaaGreatFc
import Derived.Test.YteldjjjcdpnnbaaGreatKa
namespace Go.Ev.M
open Go.Proofs
set_option maxRecDepth 100000
set_option linter.unusedVariables false
set_option linter.unusedSimpArgs false
open Go.Ev.Pl
def t83(A:bg)(bN:Int)(bB:List Int)(v:Int)(width:Int):LT ((Int×List Int)) Empty:=.need (A.k (@tt ((Int×List Int)×Int×Int)) ((bN,bB),(A.v .u64 v),width)) (.ret (A.k dV ((bN,bB),(A.v .u64 v),width)).1)
def bZ:((Int×List Int)×Int×Int)→((Int×List Int)):=fun((bN,bB),v,width)=>(t83 ai bN bB v width).val (Ty.da [(.struct [yI,yB])])
def Uf:aB:=⟨[(.struct [yI,yB]),yI,yI], [(.struct [yI,yB])],(@tt ((Int×List Int)×Int×Int)),bZ⟩
theorem Oz:Sd 130 Uf:=aJ ar cO true 30 [] (fun A ((bN,bB),v,width)=>t83 A bN bB v width) (fc Tryz.func130 fz) (sc Ep sz) (fun(((bN,bB),v,width):(Int×List Int)×Int×Int) hp h=>by
 show(t83 ai bN bB v width).pre=true
 simp[t83,LT.pre,ap,dI])
theorem pP{l:List Bool}{v w:Nat}(hv:v<2^w)(hw:w≤61)(hl:l.length+w≤4096):ai.k bZ (bJ l,(v:Int),(w:Int))=bJ (l++bitsOf v w):=by
 have hp:2^w≤2^61:=Nat.pow_le_pow_right (by decide) hw
 show(dV (bJ l,ai.v .u64 (v:Int),(w:Int))).1=_
 rw[dd (by omega),dV,lm hv (by omega) hl]
structure Ik where
 (a0:List Int) (a4:Int)
inductive RV where
 | c0 (p:Ik) (a1:Int) (a2:Int) (a3:List Int)
noncomputable def RY:RV→fE
 | .c0 p a1 a2 a3=>⟨[⟨132,20,(en [(1,.sl yU p.a0),(2,.ptr 0 0),(4,.ptr 1 0),(5,vi a1)]),[.inLoop (cw Tryz.f132 [1,0,1,0,0]),.inBlock 0,.code (cw Tryz.f132 [1,1])],[],none⟩],[.flat false [vi a2,.sl yU a3],.flat false [vi p.a4,.dz true],.dead]⟩
def t85(A:bg)(bN:Int)(bB:List Int)(data:List Int):LT ((Int×List Int)) RV:=.more (.c0 ⟨data,0⟩ 0 bN bB)
def OX(A:bg):RV→LT ((Int×List Int)) RV
 | .c0 p a1 a2 a3=>.br (A.c .lss a1 (A.l p.a0)) (.need (A.and (A.c .leq 0 a1) (A.c .lss a1 (A.l p.a0))) (.need (A.k (@tt ((Int×List Int)×Int×Int)) ((a2,a3),(A.v .i64 (A.n yU p.a0 a1:Int)),8)) (.more (.c0 p (A.b .add .i64 a1 1) (A.k bZ ((a2,a3),(A.v .i64 (A.n yU p.a0 a1:Int)),8)).1 (A.k bZ ((a2,a3),(A.v .i64 (A.n yU p.a0 a1:Int)),8)).2)))) (.ret (a2,a3))
theorem M_{data:List Int}(hd:data.length≤140737488355328)(hb:bE data):∀(j i:Nat) (p:Ik) (a2:Int) (a3:List Int),p.a0=data→data.length-i=j→i≤data.length→aC (OX ai) (.more (.c0 p (i:Int) a2 a3)) ((data.drop i).foldl (fun b x=>bZ (b,x,8)) (a2,a3)):=by
 intro j
 induction j with
 | zero=>
   intro i p a2 a3 h0 hj hi
   have:i=data.length:=by omega
   subst this
   rw[ak,OX]
   refine(ah (by rw[show ai.l p.a0=(data.length:Int) from by rw[h0];rfl,aI];simp)).2 ?_
   rw[List.drop_length]
   exact .ret _
 | succ j ih=>
   intro i p a2 a3 h0 hj hi
   have hi':i<data.length:=by omega
   rw[ak,OX]
   refine(aj (by rw[show ai.l p.a0=(data.length:Int) from by rw[h0];rfl,aI];simp;omega)).2 (af.2 ⟨by rw[h0];exact aL hi',af.2 ⟨rfl,?_⟩⟩)
   have hx:=hb _ (List.getElem_mem hi')
   have hn:(ai.n (.int .u8) p.a0 (i:Int):Int)=data[i]:=by rw[h0];exact getD_in hi' _
   have hc:ai.v .i64 (ai.n (.int .u8) p.a0 (i:Int):Int)=data[i]:=(congrArg (ai.v .i64) hn).trans (by rw[bL,gh (by omega) (by omega)])
   have hm:=ih (i+1) p (bZ ((a2,a3),data[i],8)).1 (bZ ((a2,a3),data[i],8)).2 h0 (by omega) (by omega)
   rw[List.drop_eq_getElem_cons hi',List.foldl_cons]
   have hg:ai.k bZ ((a2,a3),ai.v .i64 (ai.n (.int .u8) p.a0 (i:Int):Int),8)=bZ ((a2,a3),data[i],8):=congrArg (fun z=>bZ ((a2,a3),z,8)) hc
   exact aZ (congrArg LT.more (congr (congr (congrArg (RV.c0 p) (cK (by omega))) (congrArg (fun z=>z.1) hg)) (congrArg (fun z=>z.2) hg))) hm
theorem xD{n:Int}{b data:List Int}(h:Ty.dH [(.struct [(.int .i64),(.slice (.int .u8))]),(.slice (.int .u8))] ((n,b),data)):data.length≤140737488355328∧bE data:=by
 have h2:data.length≤cr∧∀x∈data,0≤x∧x≤255:=h.2
 exact⟨h2.1,h2.2⟩
def uo:((Int×List Int)×List Int)→((Int×List Int)):=fun(b,d)=>d.foldl (fun b x=>bZ (b,x,8)) b
def Tl:aB:=⟨[(.struct [yI,yB]),yB], [(.struct [yI,yB])],(@tt ((Int×List Int)×List Int)),uo⟩
theorem Um:Sd 132 Tl:=aH ar cO true 18 [⟨132,2, [[1,2,4,5]]⟩] [] (fun A ((bN,bB),data)=>t85 A bN bB data) OX RY (fc Tryz.func132 fz) (sc Oz sz) (fun A y=>match y with |.c0 p a1 a2 a3=>⟨34,by kernel_rfl,by kernel_rfl⟩) fun(((bN,bB),data):(Int×List Int)×List Int) hp h=>by
 show aC (OX ai) (t85 ai bN bB data) (uo ((bN,bB),data))
 exact M_ (xD h).1 (xD h).2 data.length 0 _ bN bB rfl (by omega) (by omega)
theorem zZ:∀{data:List Int} {l:List Bool},bE data→l.length+8*data.length≤4096→data.foldl (fun b x=>bZ (b,x,8)) (bJ l)=bJ (l++bM data):=by
 intro data
 induction data with
 | nil=>intro l _ _;rw[show bM []=[] from rfl,List.append_nil];rfl
 | cons x data ih=>
   intro l hb hl
   rw[List.length_cons] at hl
   have hx:=hb x (List.mem_cons_self ..)
   obtain⟨v,rfl⟩:=Int.eq_ofNat_of_zero_le hx.1
   rw[List.foldl_cons,show bZ (bJ l,(v:Int),8)=bJ (l++bitsOf v 8) from pP (w:=8) (by omega) (by decide) (by omega),ih (fun z hz=>hb z (List.mem_cons_of_mem _ hz)) (by rw[List.length_append,aA];omega),show bM ((v:Int)::data)=bitsOf v 8++bM data from by rw[bM,List.flatMap_cons,Int.toNat_natCast];rfl,List.append_assoc]
def t40(A:bg)(fKind:Int)(fReq:Int)(fCTime:Int)(fCPos:Int)(fCMode:Int)(fCNext:Int)(fCMember:Int)(fFrom:Int)(fData:List Int):LT ((Int×List Int)×Int) Empty:=.need (A.k (@tt ((Int×Int×(Int×Int×Int×Int×Int)×Int×List Int))) (fKind,fReq,(fCTime,fCPos,fCMode,fCNext,fCMember),fFrom,fData)) (.br (A.c .neq (A.k Bw (fKind,fReq,(fCTime,fCPos,fCMode,fCNext,fCMember),fFrom,fData)) 0) (.ret ((0,([]:List Int)),(A.k Bw (fKind,fReq,(fCTime,fCPos,fCMode,fCNext,fCMember),fFrom,fData)))) (.need (A.k (@tt ((Int×Int×Int×Int×Int))) (fCTime,fCPos,fCMode,fCNext,fCMember)) (.need (A.k (@tt ((Int×List Int)×Int×Int)) ((0,([]:List Int)),(A.b .sub .i64 fKind 1),2)) (.br (A.c .eql fKind 1) (.need (A.k (@tt ((Int×List Int)×Int×Int)) ((A.k bZ ((0,([]:List Int)),(A.b .sub .i64 fKind 1),2)),fFrom,3)) (.need (A.k (@tt ((Int×List Int)×Int×Int)) ((A.k bZ ((A.k bZ ((0,([]:List Int)),(A.b .sub .i64 fKind 1),2)),fFrom,3)),fCTime,8)) (.need (A.k (@tt ((Int×List Int)×Int×Int)) ((A.k bZ ((A.k bZ ((A.k bZ ((0,([]:List Int)),(A.b .sub .i64 fKind 1),2)),fFrom,3)),fCTime,8)),0,3)) (.need (A.k (@tt ((Int×List Int)×(Int×List Int))) ((A.k bZ ((A.k bZ ((A.k bZ ((A.k bZ ((0,([]:List Int)),(A.b .sub .i64 fKind 1),2)),fFrom,3)),fCTime,8)),0,3)),0,([]:List Int))) (.ret (A.k o3 ((A.k bZ ((A.k bZ ((A.k bZ ((A.k bZ ((0,([]:List Int)),(A.b .sub .i64 fKind 1),2)),fFrom,3)),fCTime,8)),0,3)),0,([]:List Int)))))))) (.br (A.c .eql fKind 2) (.need (A.k (@tt ((Int×List Int)×Int×Int)) ((A.k bZ ((0,([]:List Int)),(A.b .sub .i64 fKind 1),2)),fReq,3)) (.need (A.k (@tt ((Int×List Int)×List Int)) ((A.k bZ ((A.k bZ ((0,([]:List Int)),(A.b .sub .i64 fKind 1),2)),fReq,3)),fData)) (.need (A.k (@tt ((Int×List Int)×(Int×List Int))) ((A.k uo ((A.k bZ ((A.k bZ ((0,([]:List Int)),(A.b .sub .i64 fKind 1),2)),fReq,3)),fData)),(A.k oL (fCTime,fCPos,fCMode,fCNext,fCMember)).1)) (.ret (A.k o3 ((A.k uo ((A.k bZ ((A.k bZ ((0,([]:List Int)),(A.b .sub .i64 fKind 1),2)),fReq,3)),fData)),(A.k oL (fCTime,fCPos,fCMode,fCNext,fCMember)).1)))))) (.need (A.k (@tt ((Int×List Int)×Int×Int)) ((A.k bZ ((0,([]:List Int)),(A.b .sub .i64 fKind 1),2)),fReq,3)) (.need (A.k (@tt ((Int×List Int)×Int×Int)) ((A.k bZ ((A.k bZ ((0,([]:List Int)),(A.b .sub .i64 fKind 1),2)),fReq,3)),0,(A.b .sub .i64 fKind 2))) (.need (A.k (@tt (List (Int×List Int))) [(A.k bZ ((A.k bZ ((A.k bZ ((0,([]:List Int)),(A.b .sub .i64 fKind 1),2)),fReq,3)),0,(A.b .sub .i64 fKind 2))),(A.k oL (fCTime,fCPos,fCMode,fCNext,fCMember)).1]) (.need (A.k (@tt ((Int×List Int)×(Int×List Int))) ((A.k vY [(A.k bZ ((A.k bZ ((A.k bZ ((0,([]:List Int)),(A.b .sub .i64 fKind 1),2)),fReq,3)),0,(A.b .sub .i64 fKind 2))),(A.k oL (fCTime,fCPos,fCMode,fCNext,fCMember)).1]).1,0,([]:List Int))) (.br (A.c .eql fKind 3) (.ret (A.k o3 ((A.k vY [(A.k bZ ((A.k bZ ((A.k bZ ((0,([]:List Int)),(A.b .sub .i64 fKind 1),2)),fReq,3)),0,(A.b .sub .i64 fKind 2))),(A.k oL (fCTime,fCPos,fCMode,fCNext,fCMember)).1]).1,0,([]:List Int)))) (.need (A.k (@tt ((Int×List Int)×List Int)) ((A.k o3 ((A.k vY [(A.k bZ ((A.k bZ ((A.k bZ ((0,([]:List Int)),(A.b .sub .i64 fKind 1),2)),fReq,3)),0,(A.b .sub .i64 fKind 2))),(A.k oL (fCTime,fCPos,fCMode,fCNext,fCMember)).1]).1,0,([]:List Int))).1,fData)) (.need (A.k (@tt ((Int×List Int)×(Int×List Int))) ((A.k uo ((A.k o3 ((A.k vY [(A.k bZ ((A.k bZ ((A.k bZ ((0,([]:List Int)),(A.b .sub .i64 fKind 1),2)),fReq,3)),0,(A.b .sub .i64 fKind 2))),(A.k oL (fCTime,fCPos,fCMode,fCNext,fCMember)).1]).1,0,([]:List Int))).1,fData)),(A.k oL (fCTime,fCPos,fCMode,fCNext,fCMember)).1)) (.ret (A.k o3 ((A.k uo ((A.k o3 ((A.k vY [(A.k bZ ((A.k bZ ((A.k bZ ((0,([]:List Int)),(A.b .sub .i64 fKind 1),2)),fReq,3)),0,(A.b .sub .i64 fKind 2))),(A.k oL (fCTime,fCPos,fCMode,fCNext,fCMember)).1]).1,0,([]:List Int))).1,fData)),(A.k oL (fCTime,fCPos,fCMode,fCNext,fCMember)).1)))))))))))))))
theorem OU{k r t p m n s fr:Int}{d:List Int}(h:Ty.dH [.struct [(.int .i64),(.int .i64),(.struct [(.int .i64),(.int .i64),(.int .i64),(.int .i64),(.int .i64)]),(.int .i64),(.slice (.int .u8))]] (k,r,(t,p,m,n,s),fr,d)):aC Empty.elim (t40 ai k r t p m n s fr d) (encS (k,r,(t,p,m,n,s),fr,d)):=by
 have hb:=C3 h
 unfold t40
 rw[encS]
 refine af.2 ⟨rfl,?_⟩
 have hchk:ai.k Bw (k,r,(t,p,m,n,s),fr,d)=bif fe (k,r,(t,p,m,n,s),fr,d) then 0 else 50:=by rw[ap];exact Gu
 cases hok:fe (k,r,(t,p,m,n,s),fr,d)
 ·rw[hok] at hchk
  refine(aj (dX (by rw[hchk];decide))).2 ?_
  exact aZ (congrArg (fun z=>LT.ret (((0,([]:List Int)):Int×List Int),z)) hchk) (.ret _)
 rw[hok] at hchk
 refine(ah (cn hchk)).2 (af.2 ⟨rfl,?_⟩)
 rw[cond_true]
 obtain⟨hst,hr,hdl,hk⟩:=iW.1 hok
 have hst':=lJ.1 hst
 obtain⟨r,rfl⟩:=Int.eq_ofNat_of_zero_le hr.1
 obtain⟨t,rfl⟩:=Int.eq_ofNat_of_zero_le hst'.1.1
 have hsl:=mq ((t:Int),p,m,n,s)
 have hsb:ai.k oL ((t:Int),p,m,n,s)=(bJ (aV ((t:Int),p,m,n,s)),0):=by rw[ap,oL,jg,hst];rfl
 refine af.2 ⟨rfl,?_⟩
 rw[hsb]
 dsimp only
 rcases hk with ⟨rfl,hr0,hd0,hf,hp0,hm0,hn0,hs0⟩|⟨rfl,rfl⟩|⟨rfl,hd0,rfl⟩|⟨rfl,rfl⟩
 ·obtain⟨fr,rfl⟩:=Int.eq_ofNat_of_zero_le hf.1
  rw[List.length_eq_zero_iff.1 hd0]
  have q0:ai.k bZ (((0:Int),([]:List Int)),ai.b .sub .i64 1 1,2)=bJ ([]++bitsOf 0 2):=by
   exact pP (l:=[]) (v:=0) (w:=2) (by omega) (by decide) (by simp[aA])
  have q1:ai.k bZ (bJ ([]++bitsOf 0 2),(fr:Int),3)=bJ ([]++bitsOf 0 2++bitsOf fr 3):=by
   exact pP (l:=[]++bitsOf 0 2) (v:=fr) (w:=3) (by omega) (by decide) (by simp[aA])
  have q2:ai.k bZ (bJ ([]++bitsOf 0 2++bitsOf fr 3),(t:Int),8)=bJ ([]++bitsOf 0 2++bitsOf fr 3++bitsOf t 8):=by
   exact pP (l:=[]++bitsOf 0 2++bitsOf fr 3) (v:=t) (w:=8) (by omega) (by decide) (by simp[aA])
  have q3:ai.k bZ (bJ ([]++bitsOf 0 2++bitsOf fr 3++bitsOf t 8),0,3)=bJ ([]++bitsOf 0 2++bitsOf fr 3++bitsOf t 8++bitsOf 0 3):=by
   exact pP (l:=[]++bitsOf 0 2++bitsOf fr 3++bitsOf t 8) (v:=0) (w:=3) (by omega) (by decide) (by simp[aA])
  have hs:ai.k o3 (bJ ([]++bitsOf 0 2++bitsOf fr 3++bitsOf t 8++bitsOf 0 3),((0:Int),([]:List Int)))=(bJ (cN 0 ([]++bitsOf 0 2++bitsOf fr 3++bitsOf t 8++bitsOf 0 3)),0):=by rw[ap];exact nR (u:=[]) (by simp[aA]) (by decide)
  refine(aj rfl).2 ?_
  rw[q0,q1,q2,q3,hs]
  repeat (refine af.2 ⟨rfl,?_⟩)
  refine ao ?_ (.ret _)
  show(bJ (cN 0 ([]++bitsOf 0 2++bitsOf fr 3++bitsOf t 8++bitsOf 0 3)),(0:Int))=(bJ (cN 0 (bitsOf 0 2++(bitsOf fr 3++(bitsOf t 8++bitsOf 0 3)))),0)
  simp only[List.nil_append,List.append_assoc]
 ·
  have q0:ai.k bZ (((0:Int),([]:List Int)),ai.b .sub .i64 2 1,2)=bJ ([]++bitsOf 1 2):=by
   exact pP (l:=[]) (v:=1) (w:=2) (by omega) (by decide) (by simp[aA])
  have q1:ai.k bZ (bJ ([]++bitsOf 1 2),(r:Int),3)=bJ ([]++bitsOf 1 2++bitsOf r 3):=by
   exact pP (l:=[]++bitsOf 1 2) (v:=r) (w:=3) (by omega) (by decide) (by simp[aA])
  have ht:ai.k uo (bJ ([]++bitsOf 1 2++bitsOf r 3),d)=bJ ([]++bitsOf 1 2++bitsOf r 3++bM d):=by rw[ap,uo];exact zZ hb (by simp[aA];omega)
  have hs:ai.k o3 (bJ ([]++bitsOf 1 2++bitsOf r 3++bM d),bJ (aV ((t:Int),p,m,n,s)))=(bJ (cN (over 0 (aV ((t:Int),p,m,n,s))) ([]++bitsOf 1 2++bitsOf r 3++bM d)),0):=by rw[ap];exact nR (by simp[aA,ku];omega) (by omega)
  refine(ah rfl).2 ((aj rfl).2 ?_)
  rw[q0,q1,ht,hs]
  repeat (refine af.2 ⟨rfl,?_⟩)
  refine ao ?_ (.ret _)
  show(bJ (cN (over 0 (aV ((t:Int),p,m,n,s))) ([]++bitsOf 1 2++bitsOf r 3++bM d)),(0:Int))=(bJ (cN (over 0 (aV ((t:Int),p,m,n,s))) (bitsOf 1 2++(bitsOf r 3++bM d))),0)
  simp only[List.nil_append,List.append_assoc]
 ·rw[List.length_eq_zero_iff.1 hd0]
  have q0:ai.k bZ (((0:Int),([]:List Int)),ai.b .sub .i64 3 1,2)=bJ ([]++bitsOf 2 2):=by
   exact pP (l:=[]) (v:=2) (w:=2) (by omega) (by decide) (by simp[aA])
  have q1:ai.k bZ (bJ ([]++bitsOf 2 2),(r:Int),3)=bJ ([]++bitsOf 2 2++bitsOf r 3):=by
   exact pP (l:=[]++bitsOf 2 2) (v:=r) (w:=3) (by omega) (by decide) (by simp[aA])
  have q2:ai.k bZ (bJ ([]++bitsOf 2 2++bitsOf r 3),0,ai.b .sub .i64 3 2)=bJ ([]++bitsOf 2 2++bitsOf r 3++bitsOf 0 1):=by exact pP (l:=[]++bitsOf 2 2++bitsOf r 3) (v:=0) (w:=1) (by omega) (by decide) (by simp[aA])
  have hj:ai.k vY [bJ ([]++bitsOf 2 2++bitsOf r 3++bitsOf 0 1),bJ (aV ((t:Int),p,m,n,s))]=(bJ ([]++bitsOf 2 2++bitsOf r 3++bitsOf 0 1++aV ((t:Int),p,m,n,s)),0):=by rw[ap];exact AB (by simp[aA,hsl])
  have hs:ai.k o3 (bJ ([]++bitsOf 2 2++bitsOf r 3++bitsOf 0 1++aV ((t:Int),p,m,n,s)),((0:Int),([]:List Int)))=(bJ (cN 0 ([]++bitsOf 2 2++bitsOf r 3++bitsOf 0 1++aV ((t:Int),p,m,n,s))),0):=by rw[ap];exact nR (u:=[]) (by simp[aA,hsl]) (by decide)
  refine(ah rfl).2 ((ah rfl).2 ?_)
  rw[q0,q1,q2,hj]
  dsimp only
  rw[hs]
  repeat (refine af.2 ⟨rfl,?_⟩)
  refine(aj rfl).2 ?_
  refine ao ?_ (.ret _)
  show(bJ (cN 0 ([]++bitsOf 2 2++bitsOf r 3++bitsOf 0 1++aV ((t:Int),p,m,n,s))),(0:Int))=(bJ (cN 0 (bitsOf 2 2++(bitsOf r 3++(bitsOf 0 1++aV ((t:Int),p,m,n,s))))),0)
  simp only[List.nil_append,List.append_assoc]
 ·
  have q0:ai.k bZ (((0:Int),([]:List Int)),ai.b .sub .i64 4 1,2)=bJ ([]++bitsOf 3 2):=by
   exact pP (l:=[]) (v:=3) (w:=2) (by omega) (by decide) (by simp[aA])
  have q1:ai.k bZ (bJ ([]++bitsOf 3 2),(r:Int),3)=bJ ([]++bitsOf 3 2++bitsOf r 3):=by
   exact pP (l:=[]++bitsOf 3 2) (v:=r) (w:=3) (by omega) (by decide) (by simp[aA])
  have q2:ai.k bZ (bJ ([]++bitsOf 3 2++bitsOf r 3),0,ai.b .sub .i64 4 2)=bJ ([]++bitsOf 3 2++bitsOf r 3++bitsOf 0 2):=by exact pP (l:=[]++bitsOf 3 2++bitsOf r 3) (v:=0) (w:=2) (by omega) (by decide) (by simp[aA])
  have hj:ai.k vY [bJ ([]++bitsOf 3 2++bitsOf r 3++bitsOf 0 2),bJ (aV ((t:Int),p,m,n,s))]=(bJ ([]++bitsOf 3 2++bitsOf r 3++bitsOf 0 2++aV ((t:Int),p,m,n,s)),0):=by rw[ap];exact AB (by simp[aA,hsl])
  have hs:ai.k o3 (bJ ([]++bitsOf 3 2++bitsOf r 3++bitsOf 0 2++aV ((t:Int),p,m,n,s)),((0:Int),([]:List Int)))=(bJ (cN 0 ([]++bitsOf 3 2++bitsOf r 3++bitsOf 0 2++aV ((t:Int),p,m,n,s))),0):=by rw[ap];exact nR (u:=[]) (by simp[aA,hsl]) (by decide)
  have ht:ai.k uo (bJ (cN 0 ([]++bitsOf 3 2++bitsOf r 3++bitsOf 0 2++aV ((t:Int),p,m,n,s))),d)=bJ (cN 0 ([]++bitsOf 3 2++bitsOf r 3++bitsOf 0 2++aV ((t:Int),p,m,n,s))++bM d):=by rw[ap,uo];exact zZ hb (by rw[jV];simp[aA,hsl];omega)
  have hs2:ai.k o3 (bJ (cN 0 ([]++bitsOf 3 2++bitsOf r 3++bitsOf 0 2++aV ((t:Int),p,m,n,s))++bM d),bJ (aV ((t:Int),p,m,n,s)))=(bJ (cN (over 0 (aV ((t:Int),p,m,n,s))) (cN 0 ([]++bitsOf 3 2++bitsOf r 3++bitsOf 0 2++aV ((t:Int),p,m,n,s))++bM d)),0):=by rw[ap];exact nR (by rw[List.length_append,jV];simp[aA,ku,hsl];omega) (by omega)
  refine(ah rfl).2 ((ah rfl).2 ?_)
  rw[q0,q1,q2,hj]
  dsimp only
  rw[hs]
  dsimp only
  rw[ht,hs2]
  repeat (refine af.2 ⟨rfl,?_⟩)
  refine(ah rfl).2 ?_
  repeat (refine af.2 ⟨rfl,?_⟩)
  refine ao ?_ (.ret _)
  show(bJ (cN (over 0 (aV ((t:Int),p,m,n,s))) (cN 0 ([]++bitsOf 3 2++bitsOf r 3++bitsOf 0 2++aV ((t:Int),p,m,n,s))++bM d)),(0:Int))=(bJ (cN (over 0 (aV ((t:Int),p,m,n,s))) (cN 0 (bitsOf 3 2++(bitsOf r 3++(bitsOf 0 2++aV ((t:Int),p,m,n,s))))++bM d)),0)
  simp only[List.nil_append,List.append_assoc]
def RI:((Int×Int×(Int×Int×Int×Int×Int)×Int×List Int))→((Int×List Int)×Int):=encS
def T6:aB:=⟨[(.struct [yI,yI,(.struct [yI,yI,yI,yI,yI]),yI,yB])], [(.struct [yI,yB]),yI],(@tt ((Int×Int×(Int×Int×Int×Int×Int)×Int×List Int))),RI⟩
theorem Vx:Sd 55 T6:=aG ar cO true 131 [] (fun A (fKind,fReq,(fCTime,fCPos,fCMode,fCNext,fCMember),fFrom,fData)=>t40 A fKind fReq fCTime fCPos fCMode fCNext fCMember fFrom fData) (fc Tryz.func55 fz) (sc VM (sc Ut (sc Oz (sc TB (sc Um (sc Uk sz)))))) fun(fKind,fReq,(fCTime,fCPos,fCMode,fCNext,fCMember),fFrom,fData) hp h=>OU h
end Go.Ev.M
