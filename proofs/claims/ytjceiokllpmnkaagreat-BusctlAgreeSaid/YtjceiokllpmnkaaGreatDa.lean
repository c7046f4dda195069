/-
  PROVED: what metronomeref05.Encode computes. Conditions: none.
-/
import Derived.Test.YtjceiokllpmnkaaGreatFc
import Derived.Test.YtjceiokllpmnkaaGreatKa
namespace Go.Ev.M
open Go.Proofs
set_option maxRecDepth 100000
set_option linter.unusedVariables false
set_option linter.unusedSimpArgs false
open Go.Ev.Pl
def t83(A:bu)(bN:Int)(bB:List Int)(v:Int)(width:Int):LT ((Int×List Int)) Empty:=.need (A.k (@tt ((Int×List Int)×Int×Int)) ((bN,bB),(A.v .u64 v),width)) (.ret (A.k eB ((bN,bB),(A.v .u64 v),width)).1)
def bZ:((Int×List Int)×Int×Int)→((Int×List Int)):=fun((bN,bB),v,width)=>(t83 ah bN bB v width).val (Ty.bV [(.struct [yI,yB])])
def W_:aC:=⟨[(.struct [yI,yB]),yI,yI], [(.struct [yI,yB])],(@tt ((Int×List Int)×Int×Int)),bZ⟩
theorem Vs:Sd 167 W_:=aK au dC true 30 [] (fun A ((bN,bB),v,width)=>t83 A bN bB v width) (fc Tryz.func167 fz) (sc FJ sz) (fun(((bN,bB),v,width):(Int×List Int)×Int×Int) hp h=>by
 show(t83 ah bN bB v width).pre=true
 simp[t83,LT.pre,al,cB])
theorem qG{l:List Bool}{v w:Nat}(hv:v<2^w)(hw:w≤61)(hl:l.length+w≤4096):ah.k bZ (bM l,(v:Int),(w:Int))=bM (l++bitsOf v w):=by
 have hp:2^w≤2^61:=Nat.pow_le_pow_right (by decide) hw
 show(eB (bM l,ah.v .u64 (v:Int),(w:Int))).1=_
 rw[dE (by omega),eB,lQ hv (by omega) hl]
structure JM where
 (a0:List Int) (a4:Int)
inductive Tn where
 | c0 (p:JM) (a1:Int) (a2:Int) (a3:List Int)
noncomputable def OY:Tn→f_
 | .c0 p a1 a2 a3=>⟨[⟨169,20,(en [(1,.sl yU p.a0),(2,.ptr 0 0),(4,.ptr 1 0),(5,vi a1)]),[.inLoop (cw Tryz.f169 [1,0,1,0,0]),.inBlock 0,.code (cw Tryz.f169 [1,1])],[],none⟩],[.flat false [vi a2,.sl yU a3],.flat false [vi p.a4,.dp true],.dead]⟩
def t85(A:bu)(bN:Int)(bB:List Int)(data:List Int):LT ((Int×List Int)) Tn:=.more (.c0 ⟨data,0⟩ 0 bN bB)
def Ow(A:bu):Tn→LT ((Int×List Int)) Tn
 | .c0 p a1 a2 a3=>.br (A.c .lss a1 (A.l p.a0)) (.need (A.and (A.c .leq 0 a1) (A.c .lss a1 (A.l p.a0))) (.need (A.k (@tt ((Int×List Int)×Int×Int)) ((a2,a3),(A.v .i64 (A.n yU p.a0 a1:Int)),8)) (.more (.c0 p (A.b .add .i64 a1 1) (A.k bZ ((a2,a3),(A.v .i64 (A.n yU p.a0 a1:Int)),8)).1 (A.k bZ ((a2,a3),(A.v .i64 (A.n yU p.a0 a1:Int)),8)).2)))) (.ret (a2,a3))
theorem TX{data:List Int}(hd:data.length≤140737488355328)(hb:bF data):∀(j i:Nat) (p:JM) (a2:Int) (a3:List Int),p.a0=data→data.length-i=j→i≤data.length→aD (Ow ah) (.more (.c0 p (i:Int) a2 a3)) ((data.drop i).foldl (fun b x=>bZ (b,x,8)) (a2,a3)):=by
 intro j
 induction j with
 | zero=>
   intro i p a2 a3 h0 hj hi
   have:i=data.length:=by omega
   subst this
   rw[ak,Ow]
   refine(ai (by rw[show ah.l p.a0=(data.length:Int) from by rw[h0];rfl,aG];simp)).2 ?_
   rw[List.drop_length]
   exact .ret _
 | succ j ih=>
   intro i p a2 a3 h0 hj hi
   have hi':i<data.length:=by omega
   rw[ak,Ow]
   refine(aj (by rw[show ah.l p.a0=(data.length:Int) from by rw[h0];rfl,aG];simp;omega)).2 (af.2 ⟨by rw[h0];exact bH hi',af.2 ⟨rfl,?_⟩⟩)
   have hx:=hb _ (List.getElem_mem hi')
   have hn:(ah.n (.int .u8) p.a0 (i:Int):Int)=data[i]:=by rw[h0];exact getD_in hi' _
   have hc:ah.v .i64 (ah.n (.int .u8) p.a0 (i:Int):Int)=data[i]:=(congrArg (ah.v .i64) hn).trans (by rw[aY,fU (by omega) (by omega)])
   have hm:=ih (i+1) p (bZ ((a2,a3),data[i],8)).1 (bZ ((a2,a3),data[i],8)).2 h0 (by omega) (by omega)
   rw[List.drop_eq_getElem_cons hi',List.foldl_cons]
   have hg:ah.k bZ ((a2,a3),ah.v .i64 (ah.n (.int .u8) p.a0 (i:Int):Int),8)=bZ ((a2,a3),data[i],8):=congrArg (fun z=>bZ ((a2,a3),z,8)) hc
   exact aT (congrArg LT.more (congr (congr (congrArg (Tn.c0 p) (dI (by omega))) (congrArg (fun z=>z.1) hg)) (congrArg (fun z=>z.2) hg))) hm
theorem zV{n:Int}{b data:List Int}(h:Ty.du [(.struct [(.int .i64),(.slice (.int .u8))]),(.slice (.int .u8))] ((n,b),data)):data.length≤140737488355328∧bF data:=by
 have h2:data.length≤cv∧∀x∈data,0≤x∧x≤255:=h.2
 exact⟨h2.1,h2.2⟩
def vq:((Int×List Int)×List Int)→((Int×List Int)):=fun(b,d)=>d.foldl (fun b x=>bZ (b,x,8)) b
def WI:aC:=⟨[(.struct [yI,yB]),yB], [(.struct [yI,yB])],(@tt ((Int×List Int)×List Int)),vq⟩
theorem YA:Sd 169 WI:=aJ au dC true 18 [⟨169,2, [[1,2,4,5]]⟩] [] (fun A ((bN,bB),data)=>t85 A bN bB data) Ow OY (fc Tryz.func169 fz) (sc Vs sz) (fun A y=>match y with |.c0 p a1 a2 a3=>⟨34,by kernel_rfl,by kernel_rfl⟩) fun(((bN,bB),data):(Int×List Int)×List Int) hp h=>by
 show aD (Ow ah) (t85 ah bN bB data) (vq ((bN,bB),data))
 exact TX (zV h).1 (zV h).2 data.length 0 _ bN bB rfl (by omega) (by omega)
theorem BF:∀{data:List Int} {l:List Bool},bF data→l.length+8*data.length≤4096→data.foldl (fun b x=>bZ (b,x,8)) (bM l)=bM (l++bO data):=by
 intro data
 induction data with
 | nil=>intro l _ _;rw[show bO []=[] from rfl,List.append_nil];rfl
 | cons x data ih=>
   intro l hb hl
   rw[List.length_cons] at hl
   have hx:=hb x (List.mem_cons_self ..)
   obtain⟨v,rfl⟩:=Int.eq_ofNat_of_zero_le hx.1
   rw[List.foldl_cons,show bZ (bM l,(v:Int),8)=bM (l++bitsOf v 8) from qG (w:=8) (by omega) (by decide) (by omega),ih (fun z hz=>hb z (List.mem_cons_of_mem _ hz)) (by rw[List.length_append,ay];omega),show bO ((v:Int)::data)=bitsOf v 8++bO data from by rw[bO,List.flatMap_cons,Int.toNat_natCast];rfl,List.append_assoc]
def t40(A:bu)(fKind:Int)(fReq:Int)(fCTime:Int)(fCPos:Int)(fCMode:Int)(fCNext:Int)(fCMember:Int)(fFrom:Int)(fData:List Int):LT ((Int×List Int)×Int) Empty:=.need (A.k (@tt ((Int×Int×(Int×Int×Int×Int×Int)×Int×List Int))) (fKind,fReq,(fCTime,fCPos,fCMode,fCNext,fCMember),fFrom,fData)) (.br (A.c .neq (A.k C4 (fKind,fReq,(fCTime,fCPos,fCMode,fCNext,fCMember),fFrom,fData)) 0) (.ret ((0,([]:List Int)),(A.k C4 (fKind,fReq,(fCTime,fCPos,fCMode,fCNext,fCMember),fFrom,fData)))) (.need (A.k (@tt ((Int×Int×Int×Int×Int))) (fCTime,fCPos,fCMode,fCNext,fCMember)) (.need (A.k (@tt ((Int×List Int)×Int×Int)) ((0,([]:List Int)),(A.b .sub .i64 fKind 1),2)) (.br (A.c .eql fKind 1) (.need (A.k (@tt ((Int×List Int)×Int×Int)) ((A.k bZ ((0,([]:List Int)),(A.b .sub .i64 fKind 1),2)),fFrom,3)) (.need (A.k (@tt ((Int×List Int)×Int×Int)) ((A.k bZ ((A.k bZ ((0,([]:List Int)),(A.b .sub .i64 fKind 1),2)),fFrom,3)),fCTime,8)) (.need (A.k (@tt ((Int×List Int)×Int×Int)) ((A.k bZ ((A.k bZ ((A.k bZ ((0,([]:List Int)),(A.b .sub .i64 fKind 1),2)),fFrom,3)),fCTime,8)),0,3)) (.need (A.k (@tt ((Int×List Int)×(Int×List Int))) ((A.k bZ ((A.k bZ ((A.k bZ ((A.k bZ ((0,([]:List Int)),(A.b .sub .i64 fKind 1),2)),fFrom,3)),fCTime,8)),0,3)),0,([]:List Int))) (.ret (A.k qN ((A.k bZ ((A.k bZ ((A.k bZ ((A.k bZ ((0,([]:List Int)),(A.b .sub .i64 fKind 1),2)),fFrom,3)),fCTime,8)),0,3)),0,([]:List Int)))))))) (.br (A.c .eql fKind 2) (.need (A.k (@tt ((Int×List Int)×Int×Int)) ((A.k bZ ((0,([]:List Int)),(A.b .sub .i64 fKind 1),2)),fReq,3)) (.need (A.k (@tt ((Int×List Int)×List Int)) ((A.k bZ ((A.k bZ ((0,([]:List Int)),(A.b .sub .i64 fKind 1),2)),fReq,3)),fData)) (.need (A.k (@tt ((Int×List Int)×(Int×List Int))) ((A.k vq ((A.k bZ ((A.k bZ ((0,([]:List Int)),(A.b .sub .i64 fKind 1),2)),fReq,3)),fData)),(A.k qR (fCTime,fCPos,fCMode,fCNext,fCMember)).1)) (.ret (A.k qN ((A.k vq ((A.k bZ ((A.k bZ ((0,([]:List Int)),(A.b .sub .i64 fKind 1),2)),fReq,3)),fData)),(A.k qR (fCTime,fCPos,fCMode,fCNext,fCMember)).1)))))) (.need (A.k (@tt ((Int×List Int)×Int×Int)) ((A.k bZ ((0,([]:List Int)),(A.b .sub .i64 fKind 1),2)),fReq,3)) (.need (A.k (@tt ((Int×List Int)×Int×Int)) ((A.k bZ ((A.k bZ ((0,([]:List Int)),(A.b .sub .i64 fKind 1),2)),fReq,3)),0,(A.b .sub .i64 fKind 2))) (.need (A.k (@tt (List (Int×List Int))) [(A.k bZ ((A.k bZ ((A.k bZ ((0,([]:List Int)),(A.b .sub .i64 fKind 1),2)),fReq,3)),0,(A.b .sub .i64 fKind 2))),(A.k qR (fCTime,fCPos,fCMode,fCNext,fCMember)).1]) (.need (A.k (@tt ((Int×List Int)×(Int×List Int))) ((A.k xY [(A.k bZ ((A.k bZ ((A.k bZ ((0,([]:List Int)),(A.b .sub .i64 fKind 1),2)),fReq,3)),0,(A.b .sub .i64 fKind 2))),(A.k qR (fCTime,fCPos,fCMode,fCNext,fCMember)).1]).1,0,([]:List Int))) (.br (A.c .eql fKind 3) (.ret (A.k qN ((A.k xY [(A.k bZ ((A.k bZ ((A.k bZ ((0,([]:List Int)),(A.b .sub .i64 fKind 1),2)),fReq,3)),0,(A.b .sub .i64 fKind 2))),(A.k qR (fCTime,fCPos,fCMode,fCNext,fCMember)).1]).1,0,([]:List Int)))) (.need (A.k (@tt ((Int×List Int)×List Int)) ((A.k qN ((A.k xY [(A.k bZ ((A.k bZ ((A.k bZ ((0,([]:List Int)),(A.b .sub .i64 fKind 1),2)),fReq,3)),0,(A.b .sub .i64 fKind 2))),(A.k qR (fCTime,fCPos,fCMode,fCNext,fCMember)).1]).1,0,([]:List Int))).1,fData)) (.need (A.k (@tt ((Int×List Int)×(Int×List Int))) ((A.k vq ((A.k qN ((A.k xY [(A.k bZ ((A.k bZ ((A.k bZ ((0,([]:List Int)),(A.b .sub .i64 fKind 1),2)),fReq,3)),0,(A.b .sub .i64 fKind 2))),(A.k qR (fCTime,fCPos,fCMode,fCNext,fCMember)).1]).1,0,([]:List Int))).1,fData)),(A.k qR (fCTime,fCPos,fCMode,fCNext,fCMember)).1)) (.ret (A.k qN ((A.k vq ((A.k qN ((A.k xY [(A.k bZ ((A.k bZ ((A.k bZ ((0,([]:List Int)),(A.b .sub .i64 fKind 1),2)),fReq,3)),0,(A.b .sub .i64 fKind 2))),(A.k qR (fCTime,fCPos,fCMode,fCNext,fCMember)).1]).1,0,([]:List Int))).1,fData)),(A.k qR (fCTime,fCPos,fCMode,fCNext,fCMember)).1)))))))))))))))
theorem Qg{k r t p m n s fr:Int}{d:List Int}(h:Ty.du [.struct [(.int .i64),(.int .i64),(.struct [(.int .i64),(.int .i64),(.int .i64),(.int .i64),(.int .i64)]),(.int .i64),(.slice (.int .u8))]] (k,r,(t,p,m,n,s),fr,d)):aD Empty.elim (t40 ah k r t p m n s fr d) (encS (k,r,(t,p,m,n,s),fr,d)):=by
 have hb:=GR h
 unfold t40
 rw[encS]
 refine af.2 ⟨rfl,?_⟩
 have hchk:ah.k C4 (k,r,(t,p,m,n,s),fr,d)=bif fF (k,r,(t,p,m,n,s),fr,d) then 0 else 50:=by rw[al];exact Hw
 cases hok:fF (k,r,(t,p,m,n,s),fr,d)
 ·rw[hok] at hchk
  refine(aj (eU (by rw[hchk];decide))).2 ?_
  exact aT (congrArg (fun z=>LT.ret (((0,([]:List Int)):Int×List Int),z)) hchk) (.ret _)
 rw[hok] at hchk
 refine(ai (cr hchk)).2 (af.2 ⟨rfl,?_⟩)
 rw[cond_true]
 obtain⟨hst,hr,hdl,hk⟩:=jr.1 hok
 have hst':=mo.1 hst
 obtain⟨r,rfl⟩:=Int.eq_ofNat_of_zero_le hr.1
 obtain⟨t,rfl⟩:=Int.eq_ofNat_of_zero_le hst'.1.1
 have hsl:=nP ((t:Int),p,m,n,s)
 have hsb:ah.k qR ((t:Int),p,m,n,s)=(bM (aW ((t:Int),p,m,n,s)),0):=by rw[al,qR,jU,hst];rfl
 refine af.2 ⟨rfl,?_⟩
 rw[hsb]
 dsimp only
 rcases hk with ⟨rfl,hr0,hd0,hf,hp0,hm0,hn0,hs0⟩|⟨rfl,rfl⟩|⟨rfl,hd0,rfl⟩|⟨rfl,rfl⟩
 ·obtain⟨fr,rfl⟩:=Int.eq_ofNat_of_zero_le hf.1
  rw[List.length_eq_zero_iff.1 hd0]
  have q0:ah.k bZ (((0:Int),([]:List Int)),ah.b .sub .i64 1 1,2)=bM ([]++bitsOf 0 2):=by
   exact qG (l:=[]) (v:=0) (w:=2) (by omega) (by decide) (by simp[ay])
  have q1:ah.k bZ (bM ([]++bitsOf 0 2),(fr:Int),3)=bM ([]++bitsOf 0 2++bitsOf fr 3):=by
   exact qG (l:=[]++bitsOf 0 2) (v:=fr) (w:=3) (by omega) (by decide) (by simp[ay])
  have q2:ah.k bZ (bM ([]++bitsOf 0 2++bitsOf fr 3),(t:Int),8)=bM ([]++bitsOf 0 2++bitsOf fr 3++bitsOf t 8):=by
   exact qG (l:=[]++bitsOf 0 2++bitsOf fr 3) (v:=t) (w:=8) (by omega) (by decide) (by simp[ay])
  have q3:ah.k bZ (bM ([]++bitsOf 0 2++bitsOf fr 3++bitsOf t 8),0,3)=bM ([]++bitsOf 0 2++bitsOf fr 3++bitsOf t 8++bitsOf 0 3):=by
   exact qG (l:=[]++bitsOf 0 2++bitsOf fr 3++bitsOf t 8) (v:=0) (w:=3) (by omega) (by decide) (by simp[ay])
  have hs:ah.k qN (bM ([]++bitsOf 0 2++bitsOf fr 3++bitsOf t 8++bitsOf 0 3),((0:Int),([]:List Int)))=(bM (dn 0 ([]++bitsOf 0 2++bitsOf fr 3++bitsOf t 8++bitsOf 0 3)),0):=by rw[al];exact pF (u:=[]) (by simp[ay]) (by decide)
  refine(aj rfl).2 ?_
  rw[q0,q1,q2,q3,hs]
  repeat (refine af.2 ⟨rfl,?_⟩)
  refine aH ?_ (.ret _)
  show(bM (dn 0 ([]++bitsOf 0 2++bitsOf fr 3++bitsOf t 8++bitsOf 0 3)),(0:Int))=(bM (dn 0 (bitsOf 0 2++(bitsOf fr 3++(bitsOf t 8++bitsOf 0 3)))),0)
  simp only[List.nil_append,List.append_assoc]
 ·
  have q0:ah.k bZ (((0:Int),([]:List Int)),ah.b .sub .i64 2 1,2)=bM ([]++bitsOf 1 2):=by
   exact qG (l:=[]) (v:=1) (w:=2) (by omega) (by decide) (by simp[ay])
  have q1:ah.k bZ (bM ([]++bitsOf 1 2),(r:Int),3)=bM ([]++bitsOf 1 2++bitsOf r 3):=by
   exact qG (l:=[]++bitsOf 1 2) (v:=r) (w:=3) (by omega) (by decide) (by simp[ay])
  have ht:ah.k vq (bM ([]++bitsOf 1 2++bitsOf r 3),d)=bM ([]++bitsOf 1 2++bitsOf r 3++bO d):=by rw[al,vq];exact BF hb (by simp[ay];omega)
  have hs:ah.k qN (bM ([]++bitsOf 1 2++bitsOf r 3++bO d),bM (aW ((t:Int),p,m,n,s)))=(bM (dn (over 0 (aW ((t:Int),p,m,n,s))) ([]++bitsOf 1 2++bitsOf r 3++bO d)),0):=by rw[al];exact pF (by simp[ay,lz];omega) (by omega)
  refine(ai rfl).2 ((aj rfl).2 ?_)
  rw[q0,q1,ht,hs]
  repeat (refine af.2 ⟨rfl,?_⟩)
  refine aH ?_ (.ret _)
  show(bM (dn (over 0 (aW ((t:Int),p,m,n,s))) ([]++bitsOf 1 2++bitsOf r 3++bO d)),(0:Int))=(bM (dn (over 0 (aW ((t:Int),p,m,n,s))) (bitsOf 1 2++(bitsOf r 3++bO d))),0)
  simp only[List.nil_append,List.append_assoc]
 ·rw[List.length_eq_zero_iff.1 hd0]
  have q0:ah.k bZ (((0:Int),([]:List Int)),ah.b .sub .i64 3 1,2)=bM ([]++bitsOf 2 2):=by
   exact qG (l:=[]) (v:=2) (w:=2) (by omega) (by decide) (by simp[ay])
  have q1:ah.k bZ (bM ([]++bitsOf 2 2),(r:Int),3)=bM ([]++bitsOf 2 2++bitsOf r 3):=by
   exact qG (l:=[]++bitsOf 2 2) (v:=r) (w:=3) (by omega) (by decide) (by simp[ay])
  have q2:ah.k bZ (bM ([]++bitsOf 2 2++bitsOf r 3),0,ah.b .sub .i64 3 2)=bM ([]++bitsOf 2 2++bitsOf r 3++bitsOf 0 1):=by exact qG (l:=[]++bitsOf 2 2++bitsOf r 3) (v:=0) (w:=1) (by omega) (by decide) (by simp[ay])
  have hj:ah.k xY [bM ([]++bitsOf 2 2++bitsOf r 3++bitsOf 0 1),bM (aW ((t:Int),p,m,n,s))]=(bM ([]++bitsOf 2 2++bitsOf r 3++bitsOf 0 1++aW ((t:Int),p,m,n,s)),0):=by rw[al];exact B5 (by simp[ay,hsl])
  have hs:ah.k qN (bM ([]++bitsOf 2 2++bitsOf r 3++bitsOf 0 1++aW ((t:Int),p,m,n,s)),((0:Int),([]:List Int)))=(bM (dn 0 ([]++bitsOf 2 2++bitsOf r 3++bitsOf 0 1++aW ((t:Int),p,m,n,s))),0):=by rw[al];exact pF (u:=[]) (by simp[ay,hsl]) (by decide)
  refine(ai rfl).2 ((ai rfl).2 ?_)
  rw[q0,q1,q2,hj]
  dsimp only
  rw[hs]
  repeat (refine af.2 ⟨rfl,?_⟩)
  refine(aj rfl).2 ?_
  refine aH ?_ (.ret _)
  show(bM (dn 0 ([]++bitsOf 2 2++bitsOf r 3++bitsOf 0 1++aW ((t:Int),p,m,n,s))),(0:Int))=(bM (dn 0 (bitsOf 2 2++(bitsOf r 3++(bitsOf 0 1++aW ((t:Int),p,m,n,s))))),0)
  simp only[List.nil_append,List.append_assoc]
 ·
  have q0:ah.k bZ (((0:Int),([]:List Int)),ah.b .sub .i64 4 1,2)=bM ([]++bitsOf 3 2):=by
   exact qG (l:=[]) (v:=3) (w:=2) (by omega) (by decide) (by simp[ay])
  have q1:ah.k bZ (bM ([]++bitsOf 3 2),(r:Int),3)=bM ([]++bitsOf 3 2++bitsOf r 3):=by
   exact qG (l:=[]++bitsOf 3 2) (v:=r) (w:=3) (by omega) (by decide) (by simp[ay])
  have q2:ah.k bZ (bM ([]++bitsOf 3 2++bitsOf r 3),0,ah.b .sub .i64 4 2)=bM ([]++bitsOf 3 2++bitsOf r 3++bitsOf 0 2):=by exact qG (l:=[]++bitsOf 3 2++bitsOf r 3) (v:=0) (w:=2) (by omega) (by decide) (by simp[ay])
  have hj:ah.k xY [bM ([]++bitsOf 3 2++bitsOf r 3++bitsOf 0 2),bM (aW ((t:Int),p,m,n,s))]=(bM ([]++bitsOf 3 2++bitsOf r 3++bitsOf 0 2++aW ((t:Int),p,m,n,s)),0):=by rw[al];exact B5 (by simp[ay,hsl])
  have hs:ah.k qN (bM ([]++bitsOf 3 2++bitsOf r 3++bitsOf 0 2++aW ((t:Int),p,m,n,s)),((0:Int),([]:List Int)))=(bM (dn 0 ([]++bitsOf 3 2++bitsOf r 3++bitsOf 0 2++aW ((t:Int),p,m,n,s))),0):=by rw[al];exact pF (u:=[]) (by simp[ay,hsl]) (by decide)
  have ht:ah.k vq (bM (dn 0 ([]++bitsOf 3 2++bitsOf r 3++bitsOf 0 2++aW ((t:Int),p,m,n,s))),d)=bM (dn 0 ([]++bitsOf 3 2++bitsOf r 3++bitsOf 0 2++aW ((t:Int),p,m,n,s))++bO d):=by rw[al,vq];exact BF hb (by rw[kX];simp[ay,hsl];omega)
  have hs2:ah.k qN (bM (dn 0 ([]++bitsOf 3 2++bitsOf r 3++bitsOf 0 2++aW ((t:Int),p,m,n,s))++bO d),bM (aW ((t:Int),p,m,n,s)))=(bM (dn (over 0 (aW ((t:Int),p,m,n,s))) (dn 0 ([]++bitsOf 3 2++bitsOf r 3++bitsOf 0 2++aW ((t:Int),p,m,n,s))++bO d)),0):=by rw[al];exact pF (by rw[List.length_append,kX];simp[ay,lz,hsl];omega) (by omega)
  refine(ai rfl).2 ((ai rfl).2 ?_)
  rw[q0,q1,q2,hj]
  dsimp only
  rw[hs]
  dsimp only
  rw[ht,hs2]
  repeat (refine af.2 ⟨rfl,?_⟩)
  refine(ai rfl).2 ?_
  repeat (refine af.2 ⟨rfl,?_⟩)
  refine aH ?_ (.ret _)
  show(bM (dn (over 0 (aW ((t:Int),p,m,n,s))) (dn 0 ([]++bitsOf 3 2++bitsOf r 3++bitsOf 0 2++aW ((t:Int),p,m,n,s))++bO d)),(0:Int))=(bM (dn (over 0 (aW ((t:Int),p,m,n,s))) (dn 0 (bitsOf 3 2++(bitsOf r 3++(bitsOf 0 2++aW ((t:Int),p,m,n,s))))++bO d)),0)
  simp only[List.nil_append,List.append_assoc]
def OM:((Int×Int×(Int×Int×Int×Int×Int)×Int×List Int))→((Int×List Int)×Int):=encS
def Xv:aC:=⟨[(.struct [yI,yI,(.struct [yI,yI,yI,yI,yI]),yI,yB])], [(.struct [yI,yB]),yI],(@tt ((Int×Int×(Int×Int×Int×Int×Int)×Int×List Int))),OM⟩
theorem Xj:Sd 88 Xv:=aQ au dC true 131 [] (fun A (fKind,fReq,(fCTime,fCPos,fCMode,fCNext,fCMember),fFrom,fData)=>t40 A fKind fReq fCTime fCPos fCMode fCNext fCMember fFrom fData) (fc Tryz.func88 fz) (sc Y7 (sc V2 (sc Vs (sc W0 (sc YA (sc Wi sz)))))) fun(fKind,fReq,(fCTime,fCPos,fCMode,fCNext,fCMember),fFrom,fData) hp h=>Qg h
end Go.Ev.M
