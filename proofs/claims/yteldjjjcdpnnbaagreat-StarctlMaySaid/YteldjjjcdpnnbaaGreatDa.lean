/-
  PROVED: what metronomeref05.Encode computes. Conditions: none.
-/
import Derived.Test.YteldjjjcdpnnbaaGreatFc
import Derived.Test.YteldjjjcdpnnbaaGreatKa
namespace Go.Ev.M
open Go.Proofs
set_option maxRecDepth 100000
set_option linter.unusedVariables false
set_option linter.unusedSimpArgs false
open Go.Ev.Pl
def t83(A:bi)(bN:Int)(bB:List Int)(v:Int)(width:Int):LT ((Int×List Int)) Empty:=.need (A.k (@tt ((Int×List Int)×Int×Int)) ((bN,bB),(A.v .u64 v),width)) (.ret (A.k fE ((bN,bB),(A.v .u64 v),width)).1)
def cX:((Int×List Int)×Int×Int)→((Int×List Int)):=fun((bN,bB),v,width)=>(t83 aj bN bB v width).val (Ty.bZ [(.struct [yI,yB])])
def aaD:aD:=⟨[(.struct [yI,yB]),yI,yI], [(.struct [yI,yB])],(@tt ((Int×List Int)×Int×Int)),cX⟩
theorem YY:Sd 130 aaD:=aM au cK true 30 [] (fun A ((bN,bB),v,width)=>t83 A bN bB v width) (fc Tryz.func130 fz) (sc KP sz) (fun(((bN,bB),v,width):(Int×List Int)×Int×Int) hp h=>by
 show(t83 aj bN bB v width).pre=true
 simp[t83,LT.pre,ap,cN])
theorem sL{l:List Bool}{v w:Nat}(hv:v<2^w)(hw:w≤61)(hl:l.length+w≤4096):aj.k cX (bS l,(v:Int),(w:Int))=bS (l++bitsOf v w):=by
 have hp:2^w≤2^61:=Nat.pow_le_pow_right (by decide) hw
 show(fE (bS l,aj.v .u64 (v:Int),(w:Int))).1=_
 rw[dY (by omega),fE,oc hv (by omega) hl]
structure OL where
 (a0:List Int) (a4:Int)
inductive Ua where
 | c0 (p:OL) (a1:Int) (a2:Int) (a3:List Int)
noncomputable def UL:Ua→gB
 | .c0 p a1 a2 a3=>⟨[⟨132,20,(en [(1,.sl yU p.a0),(2,.ptr 0 0),(4,.ptr 1 0),(5,vi a1)]),[.inLoop (cw Tryz.f132 [1,0,1,0,0]),.inBlock 0,.code (cw Tryz.f132 [1,1])],[],none⟩],[.flat false [vi a2,.sl yU a3],.flat false [vi p.a4,.bK true],.dead]⟩
def t85(A:bi)(bN:Int)(bB:List Int)(data:List Int):LT ((Int×List Int)) Ua:=.more (.c0 ⟨data,0⟩ 0 bN bB)
def VU(A:bi):Ua→LT ((Int×List Int)) Ua
 | .c0 p a1 a2 a3=>.br (A.c .lss a1 (A.l p.a0)) (.need (A.and (A.c .leq 0 a1) (A.c .lss a1 (A.l p.a0))) (.need (A.k (@tt ((Int×List Int)×Int×Int)) ((a2,a3),(A.v .i64 (A.n yU p.a0 a1:Int)),8)) (.more (.c0 p (A.b .add .i64 a1 1) (A.k cX ((a2,a3),(A.v .i64 (A.n yU p.a0 a1:Int)),8)).1 (A.k cX ((a2,a3),(A.v .i64 (A.n yU p.a0 a1:Int)),8)).2)))) (.ret (a2,a3))
theorem T9{data:List Int}(hd:data.length≤140737488355328)(hb:bp data):∀(j i:Nat) (p:OL) (a2:Int) (a3:List Int),p.a0=data→data.length-i=j→i≤data.length→aA (VU aj) (.more (.c0 p (i:Int) a2 a3)) ((data.drop i).foldl (fun b x=>cX (b,x,8)) (a2,a3)):=by
 intro j
 induction j with
 | zero=>
   intro i p a2 a3 h0 hj hi
   have:i=data.length:=by omega
   subst this
   rw[al,VU]
   refine(ah (by rw[show aj.l p.a0=(data.length:Int) from by rw[h0];rfl,aO];simp)).2 ?_
   rw[List.drop_length]
   exact .ret _
 | succ j ih=>
   intro i p a2 a3 h0 hj hi
   have hi':i<data.length:=by omega
   rw[al,VU]
   refine(ai (by rw[show aj.l p.a0=(data.length:Int) from by rw[h0];rfl,aO];simp;omega)).2 (af.2 ⟨by rw[h0];exact bT hi',af.2 ⟨rfl,?_⟩⟩)
   have hx:=hb _ (List.getElem_mem hi')
   have hn:(aj.n (.int .u8) p.a0 (i:Int):Int)=data[i]:=by rw[h0];exact getD_in hi' _
   have hc:aj.v .i64 (aj.n (.int .u8) p.a0 (i:Int):Int)=data[i]:=(congrArg (aj.v .i64) hn).trans (by rw[bu,fI (by omega) (by omega)])
   have hm:=ih (i+1) p (cX ((a2,a3),data[i],8)).1 (cX ((a2,a3),data[i],8)).2 h0 (by omega) (by omega)
   rw[List.drop_eq_getElem_cons hi',List.foldl_cons]
   have hg:aj.k cX ((a2,a3),aj.v .i64 (aj.n (.int .u8) p.a0 (i:Int):Int),8)=cX ((a2,a3),data[i],8):=congrArg (fun z=>cX ((a2,a3),z,8)) hc
   exact bl (congrArg LT.more (congr (congr (congrArg (Ua.c0 p) (eu (by omega))) (congrArg (fun z=>z.1) hg)) (congrArg (fun z=>z.2) hg))) hm
theorem B8{n:Int}{b data:List Int}(h:Ty.dK [(.struct [(.int .i64),(.slice (.int .u8))]),(.slice (.int .u8))] ((n,b),data)):data.length≤140737488355328∧bp data:=by
 have h2:data.length≤dx∧∀x∈data,0≤x∧x≤255:=h.2
 exact⟨h2.1,h2.2⟩
def yp:((Int×List Int)×List Int)→((Int×List Int)):=fun(b,d)=>d.foldl (fun b x=>cX (b,x,8)) b
def abG:aD:=⟨[(.struct [yI,yB]),yB], [(.struct [yI,yB])],(@tt ((Int×List Int)×List Int)),yp⟩
theorem ac9:Sd 132 abG:=aL au cK true 18 [⟨132,2, [[1,2,4,5]]⟩] [] (fun A ((bN,bB),data)=>t85 A bN bB data) VU UL (fc Tryz.func132 fz) (sc YY sz) (fun A y=>match y with |.c0 p a1 a2 a3=>⟨34,by kernel_rfl,by kernel_rfl⟩) fun(((bN,bB),data):(Int×List Int)×List Int) hp h=>by
 show aA (VU aj) (t85 aj bN bB data) (yp ((bN,bB),data))
 exact T9 (B8 h).1 (B8 h).2 data.length 0 _ bN bB rfl (by omega) (by omega)
theorem EQ:∀{data:List Int} {l:List Bool},bp data→l.length+8*data.length≤4096→data.foldl (fun b x=>cX (b,x,8)) (bS l)=bS (l++aU data):=by
 intro data
 induction data with
 | nil=>intro l _ _;rw[show aU []=[] from rfl,List.append_nil];rfl
 | cons x data ih=>
   intro l hb hl
   rw[List.length_cons] at hl
   have hx:=hb x (List.mem_cons_self ..)
   obtain⟨v,rfl⟩:=Int.eq_ofNat_of_zero_le hx.1
   rw[List.foldl_cons,show cX (bS l,(v:Int),8)=bS (l++bitsOf v 8) from sL (w:=8) (by omega) (by decide) (by omega),ih (fun z hz=>hb z (List.mem_cons_of_mem _ hz)) (by rw[List.length_append,ao];omega),show aU ((v:Int)::data)=bitsOf v 8++aU data from by rw[aU,List.flatMap_cons,Int.toNat_natCast];rfl,List.append_assoc]
def t40(A:bi)(fKind:Int)(fReq:Int)(fCTime:Int)(fCPos:Int)(fCMode:Int)(fCNext:Int)(fCMember:Int)(fFrom:Int)(fData:List Int):LT ((Int×List Int)×Int) Empty:=.need (A.k (@tt ((Int×Int×(Int×Int×Int×Int×Int)×Int×List Int))) (fKind,fReq,(fCTime,fCPos,fCMode,fCNext,fCMember),fFrom,fData)) (.br (A.c .neq (A.k Gp (fKind,fReq,(fCTime,fCPos,fCMode,fCNext,fCMember),fFrom,fData)) 0) (.ret ((0,([]:List Int)),(A.k Gp (fKind,fReq,(fCTime,fCPos,fCMode,fCNext,fCMember),fFrom,fData)))) (.need (A.k (@tt ((Int×Int×Int×Int×Int))) (fCTime,fCPos,fCMode,fCNext,fCMember)) (.need (A.k (@tt ((Int×List Int)×Int×Int)) ((0,([]:List Int)),(A.b .sub .i64 fKind 1),2)) (.br (A.c .eql fKind 1) (.need (A.k (@tt ((Int×List Int)×Int×Int)) ((A.k cX ((0,([]:List Int)),(A.b .sub .i64 fKind 1),2)),fFrom,3)) (.need (A.k (@tt ((Int×List Int)×Int×Int)) ((A.k cX ((A.k cX ((0,([]:List Int)),(A.b .sub .i64 fKind 1),2)),fFrom,3)),fCTime,8)) (.need (A.k (@tt ((Int×List Int)×Int×Int)) ((A.k cX ((A.k cX ((A.k cX ((0,([]:List Int)),(A.b .sub .i64 fKind 1),2)),fFrom,3)),fCTime,8)),0,3)) (.need (A.k (@tt ((Int×List Int)×(Int×List Int))) ((A.k cX ((A.k cX ((A.k cX ((A.k cX ((0,([]:List Int)),(A.b .sub .i64 fKind 1),2)),fFrom,3)),fCTime,8)),0,3)),0,([]:List Int))) (.ret (A.k sO ((A.k cX ((A.k cX ((A.k cX ((A.k cX ((0,([]:List Int)),(A.b .sub .i64 fKind 1),2)),fFrom,3)),fCTime,8)),0,3)),0,([]:List Int)))))))) (.br (A.c .eql fKind 2) (.need (A.k (@tt ((Int×List Int)×Int×Int)) ((A.k cX ((0,([]:List Int)),(A.b .sub .i64 fKind 1),2)),fReq,3)) (.need (A.k (@tt ((Int×List Int)×List Int)) ((A.k cX ((A.k cX ((0,([]:List Int)),(A.b .sub .i64 fKind 1),2)),fReq,3)),fData)) (.need (A.k (@tt ((Int×List Int)×(Int×List Int))) ((A.k yp ((A.k cX ((A.k cX ((0,([]:List Int)),(A.b .sub .i64 fKind 1),2)),fReq,3)),fData)),(A.k su (fCTime,fCPos,fCMode,fCNext,fCMember)).1)) (.ret (A.k sO ((A.k yp ((A.k cX ((A.k cX ((0,([]:List Int)),(A.b .sub .i64 fKind 1),2)),fReq,3)),fData)),(A.k su (fCTime,fCPos,fCMode,fCNext,fCMember)).1)))))) (.need (A.k (@tt ((Int×List Int)×Int×Int)) ((A.k cX ((0,([]:List Int)),(A.b .sub .i64 fKind 1),2)),fReq,3)) (.need (A.k (@tt ((Int×List Int)×Int×Int)) ((A.k cX ((A.k cX ((0,([]:List Int)),(A.b .sub .i64 fKind 1),2)),fReq,3)),0,(A.b .sub .i64 fKind 2))) (.need (A.k (@tt (List (Int×List Int))) [(A.k cX ((A.k cX ((A.k cX ((0,([]:List Int)),(A.b .sub .i64 fKind 1),2)),fReq,3)),0,(A.b .sub .i64 fKind 2))),(A.k su (fCTime,fCPos,fCMode,fCNext,fCMember)).1]) (.need (A.k (@tt ((Int×List Int)×(Int×List Int))) ((A.k Ad [(A.k cX ((A.k cX ((A.k cX ((0,([]:List Int)),(A.b .sub .i64 fKind 1),2)),fReq,3)),0,(A.b .sub .i64 fKind 2))),(A.k su (fCTime,fCPos,fCMode,fCNext,fCMember)).1]).1,0,([]:List Int))) (.br (A.c .eql fKind 3) (.ret (A.k sO ((A.k Ad [(A.k cX ((A.k cX ((A.k cX ((0,([]:List Int)),(A.b .sub .i64 fKind 1),2)),fReq,3)),0,(A.b .sub .i64 fKind 2))),(A.k su (fCTime,fCPos,fCMode,fCNext,fCMember)).1]).1,0,([]:List Int)))) (.need (A.k (@tt ((Int×List Int)×List Int)) ((A.k sO ((A.k Ad [(A.k cX ((A.k cX ((A.k cX ((0,([]:List Int)),(A.b .sub .i64 fKind 1),2)),fReq,3)),0,(A.b .sub .i64 fKind 2))),(A.k su (fCTime,fCPos,fCMode,fCNext,fCMember)).1]).1,0,([]:List Int))).1,fData)) (.need (A.k (@tt ((Int×List Int)×(Int×List Int))) ((A.k yp ((A.k sO ((A.k Ad [(A.k cX ((A.k cX ((A.k cX ((0,([]:List Int)),(A.b .sub .i64 fKind 1),2)),fReq,3)),0,(A.b .sub .i64 fKind 2))),(A.k su (fCTime,fCPos,fCMode,fCNext,fCMember)).1]).1,0,([]:List Int))).1,fData)),(A.k su (fCTime,fCPos,fCMode,fCNext,fCMember)).1)) (.ret (A.k sO ((A.k yp ((A.k sO ((A.k Ad [(A.k cX ((A.k cX ((A.k cX ((0,([]:List Int)),(A.b .sub .i64 fKind 1),2)),fReq,3)),0,(A.b .sub .i64 fKind 2))),(A.k su (fCTime,fCPos,fCMode,fCNext,fCMember)).1]).1,0,([]:List Int))).1,fData)),(A.k su (fCTime,fCPos,fCMode,fCNext,fCMember)).1)))))))))))))))
theorem Uw{k r t p m n s fr:Int}{d:List Int}(h:Ty.dK [.struct [(.int .i64),(.int .i64),(.struct [(.int .i64),(.int .i64),(.int .i64),(.int .i64),(.int .i64)]),(.int .i64),(.slice (.int .u8))]] (k,r,(t,p,m,n,s),fr,d)):aA Empty.elim (t40 aj k r t p m n s fr d) (encS (k,r,(t,p,m,n,s),fr,d)):=by
 have hb:=IB h
 unfold t40
 rw[encS]
 refine af.2 ⟨rfl,?_⟩
 have hchk:aj.k Gp (k,r,(t,p,m,n,s),fr,d)=bif eX (k,r,(t,p,m,n,s),fr,d) then 0 else 50:=by rw[ap];exact Nv
 cases hok:eX (k,r,(t,p,m,n,s),fr,d)
 ·rw[hok] at hchk
  refine(ai (fL (by rw[hchk];decide))).2 ?_
  exact bl (congrArg (fun z=>LT.ret (((0,([]:List Int)):Int×List Int),z)) hchk) (.ret _)
 rw[hok] at hchk
 refine(ah (dw hchk)).2 (af.2 ⟨rfl,?_⟩)
 rw[cond_true]
 obtain⟨hst,hr,hdl,hk⟩:=jI.1 hok
 have hst':=jD.1 hst
 obtain⟨r,rfl⟩:=Int.eq_ofNat_of_zero_le hr.1
 obtain⟨t,rfl⟩:=Int.eq_ofNat_of_zero_le hst'.1.1
 have hsl:=ia ((t:Int),p,m,n,s)
 have hsb:aj.k su ((t:Int),p,m,n,s)=(bS (aW ((t:Int),p,m,n,s)),0):=by rw[ap,su,kM,hst];rfl
 refine af.2 ⟨rfl,?_⟩
 rw[hsb]
 dsimp only
 rcases hk with ⟨rfl,hr0,hd0,hf,hp0,hm0,hn0,hs0⟩|⟨rfl,rfl⟩|⟨rfl,hd0,rfl⟩|⟨rfl,rfl⟩
 ·obtain⟨fr,rfl⟩:=Int.eq_ofNat_of_zero_le hf.1
  rw[List.length_eq_zero_iff.1 hd0]
  have q0:aj.k cX (((0:Int),([]:List Int)),aj.b .sub .i64 1 1,2)=bS ([]++bitsOf 0 2):=by
   exact sL (l:=[]) (v:=0) (w:=2) (by omega) (by decide) (by simp[ao])
  have q1:aj.k cX (bS ([]++bitsOf 0 2),(fr:Int),3)=bS ([]++bitsOf 0 2++bitsOf fr 3):=by
   exact sL (l:=[]++bitsOf 0 2) (v:=fr) (w:=3) (by omega) (by decide) (by simp[ao])
  have q2:aj.k cX (bS ([]++bitsOf 0 2++bitsOf fr 3),(t:Int),8)=bS ([]++bitsOf 0 2++bitsOf fr 3++bitsOf t 8):=by
   exact sL (l:=[]++bitsOf 0 2++bitsOf fr 3) (v:=t) (w:=8) (by omega) (by decide) (by simp[ao])
  have q3:aj.k cX (bS ([]++bitsOf 0 2++bitsOf fr 3++bitsOf t 8),0,3)=bS ([]++bitsOf 0 2++bitsOf fr 3++bitsOf t 8++bitsOf 0 3):=by
   exact sL (l:=[]++bitsOf 0 2++bitsOf fr 3++bitsOf t 8) (v:=0) (w:=3) (by omega) (by decide) (by simp[ao])
  have hs:aj.k sO (bS ([]++bitsOf 0 2++bitsOf fr 3++bitsOf t 8++bitsOf 0 3),((0:Int),([]:List Int)))=(bS (aV 0 ([]++bitsOf 0 2++bitsOf fr 3++bitsOf t 8++bitsOf 0 3)),0):=by rw[ap];exact qP (u:=[]) (by simp[ao]) (by decide)
  refine(ai rfl).2 ?_
  rw[q0,q1,q2,q3,hs]
  repeat (refine af.2 ⟨rfl,?_⟩)
  refine ay ?_ (.ret _)
  show(bS (aV 0 ([]++bitsOf 0 2++bitsOf fr 3++bitsOf t 8++bitsOf 0 3)),(0:Int))=(bS (aV 0 (bitsOf 0 2++(bitsOf fr 3++(bitsOf t 8++bitsOf 0 3)))),0)
  simp only[List.nil_append,List.append_assoc]
 ·
  have q0:aj.k cX (((0:Int),([]:List Int)),aj.b .sub .i64 2 1,2)=bS ([]++bitsOf 1 2):=by
   exact sL (l:=[]) (v:=1) (w:=2) (by omega) (by decide) (by simp[ao])
  have q1:aj.k cX (bS ([]++bitsOf 1 2),(r:Int),3)=bS ([]++bitsOf 1 2++bitsOf r 3):=by
   exact sL (l:=[]++bitsOf 1 2) (v:=r) (w:=3) (by omega) (by decide) (by simp[ao])
  have ht:aj.k yp (bS ([]++bitsOf 1 2++bitsOf r 3),d)=bS ([]++bitsOf 1 2++bitsOf r 3++aU d):=by rw[ap,yp];exact EQ hb (by simp[ao];omega)
  have hs:aj.k sO (bS ([]++bitsOf 1 2++bitsOf r 3++aU d),bS (aW ((t:Int),p,m,n,s)))=(bS (aV (over 0 (aW ((t:Int),p,m,n,s))) ([]++bitsOf 1 2++bitsOf r 3++aU d)),0):=by rw[ap];exact qP (by simp[ao,fQ];omega) (by omega)
  refine(ah rfl).2 ((ai rfl).2 ?_)
  rw[q0,q1,ht,hs]
  repeat (refine af.2 ⟨rfl,?_⟩)
  refine ay ?_ (.ret _)
  show(bS (aV (over 0 (aW ((t:Int),p,m,n,s))) ([]++bitsOf 1 2++bitsOf r 3++aU d)),(0:Int))=(bS (aV (over 0 (aW ((t:Int),p,m,n,s))) (bitsOf 1 2++(bitsOf r 3++aU d))),0)
  simp only[List.nil_append,List.append_assoc]
 ·rw[List.length_eq_zero_iff.1 hd0]
  have q0:aj.k cX (((0:Int),([]:List Int)),aj.b .sub .i64 3 1,2)=bS ([]++bitsOf 2 2):=by
   exact sL (l:=[]) (v:=2) (w:=2) (by omega) (by decide) (by simp[ao])
  have q1:aj.k cX (bS ([]++bitsOf 2 2),(r:Int),3)=bS ([]++bitsOf 2 2++bitsOf r 3):=by
   exact sL (l:=[]++bitsOf 2 2) (v:=r) (w:=3) (by omega) (by decide) (by simp[ao])
  have q2:aj.k cX (bS ([]++bitsOf 2 2++bitsOf r 3),0,aj.b .sub .i64 3 2)=bS ([]++bitsOf 2 2++bitsOf r 3++bitsOf 0 1):=by exact sL (l:=[]++bitsOf 2 2++bitsOf r 3) (v:=0) (w:=1) (by omega) (by decide) (by simp[ao])
  have hj:aj.k Ad [bS ([]++bitsOf 2 2++bitsOf r 3++bitsOf 0 1),bS (aW ((t:Int),p,m,n,s))]=(bS ([]++bitsOf 2 2++bitsOf r 3++bitsOf 0 1++aW ((t:Int),p,m,n,s)),0):=by rw[ap];exact E5 (by simp[ao,hsl])
  have hs:aj.k sO (bS ([]++bitsOf 2 2++bitsOf r 3++bitsOf 0 1++aW ((t:Int),p,m,n,s)),((0:Int),([]:List Int)))=(bS (aV 0 ([]++bitsOf 2 2++bitsOf r 3++bitsOf 0 1++aW ((t:Int),p,m,n,s))),0):=by rw[ap];exact qP (u:=[]) (by simp[ao,hsl]) (by decide)
  refine(ah rfl).2 ((ah rfl).2 ?_)
  rw[q0,q1,q2,hj]
  dsimp only
  rw[hs]
  repeat (refine af.2 ⟨rfl,?_⟩)
  refine(ai rfl).2 ?_
  refine ay ?_ (.ret _)
  show(bS (aV 0 ([]++bitsOf 2 2++bitsOf r 3++bitsOf 0 1++aW ((t:Int),p,m,n,s))),(0:Int))=(bS (aV 0 (bitsOf 2 2++(bitsOf r 3++(bitsOf 0 1++aW ((t:Int),p,m,n,s))))),0)
  simp only[List.nil_append,List.append_assoc]
 ·
  have q0:aj.k cX (((0:Int),([]:List Int)),aj.b .sub .i64 4 1,2)=bS ([]++bitsOf 3 2):=by
   exact sL (l:=[]) (v:=3) (w:=2) (by omega) (by decide) (by simp[ao])
  have q1:aj.k cX (bS ([]++bitsOf 3 2),(r:Int),3)=bS ([]++bitsOf 3 2++bitsOf r 3):=by
   exact sL (l:=[]++bitsOf 3 2) (v:=r) (w:=3) (by omega) (by decide) (by simp[ao])
  have q2:aj.k cX (bS ([]++bitsOf 3 2++bitsOf r 3),0,aj.b .sub .i64 4 2)=bS ([]++bitsOf 3 2++bitsOf r 3++bitsOf 0 2):=by exact sL (l:=[]++bitsOf 3 2++bitsOf r 3) (v:=0) (w:=2) (by omega) (by decide) (by simp[ao])
  have hj:aj.k Ad [bS ([]++bitsOf 3 2++bitsOf r 3++bitsOf 0 2),bS (aW ((t:Int),p,m,n,s))]=(bS ([]++bitsOf 3 2++bitsOf r 3++bitsOf 0 2++aW ((t:Int),p,m,n,s)),0):=by rw[ap];exact E5 (by simp[ao,hsl])
  have hs:aj.k sO (bS ([]++bitsOf 3 2++bitsOf r 3++bitsOf 0 2++aW ((t:Int),p,m,n,s)),((0:Int),([]:List Int)))=(bS (aV 0 ([]++bitsOf 3 2++bitsOf r 3++bitsOf 0 2++aW ((t:Int),p,m,n,s))),0):=by rw[ap];exact qP (u:=[]) (by simp[ao,hsl]) (by decide)
  have ht:aj.k yp (bS (aV 0 ([]++bitsOf 3 2++bitsOf r 3++bitsOf 0 2++aW ((t:Int),p,m,n,s))),d)=bS (aV 0 ([]++bitsOf 3 2++bitsOf r 3++bitsOf 0 2++aW ((t:Int),p,m,n,s))++aU d):=by rw[ap,yp];exact EQ hb (by rw[dh];simp[ao,hsl];omega)
  have hs2:aj.k sO (bS (aV 0 ([]++bitsOf 3 2++bitsOf r 3++bitsOf 0 2++aW ((t:Int),p,m,n,s))++aU d),bS (aW ((t:Int),p,m,n,s)))=(bS (aV (over 0 (aW ((t:Int),p,m,n,s))) (aV 0 ([]++bitsOf 3 2++bitsOf r 3++bitsOf 0 2++aW ((t:Int),p,m,n,s))++aU d)),0):=by rw[ap];exact qP (by rw[List.length_append,dh];simp[ao,fQ,hsl];omega) (by omega)
  refine(ah rfl).2 ((ah rfl).2 ?_)
  rw[q0,q1,q2,hj]
  dsimp only
  rw[hs]
  dsimp only
  rw[ht,hs2]
  repeat (refine af.2 ⟨rfl,?_⟩)
  refine(ah rfl).2 ?_
  repeat (refine af.2 ⟨rfl,?_⟩)
  refine ay ?_ (.ret _)
  show(bS (aV (over 0 (aW ((t:Int),p,m,n,s))) (aV 0 ([]++bitsOf 3 2++bitsOf r 3++bitsOf 0 2++aW ((t:Int),p,m,n,s))++aU d)),(0:Int))=(bS (aV (over 0 (aW ((t:Int),p,m,n,s))) (aV 0 (bitsOf 3 2++(bitsOf r 3++(bitsOf 0 2++aW ((t:Int),p,m,n,s))))++aU d)),0)
  simp only[List.nil_append,List.append_assoc]
def oX:((Int×Int×(Int×Int×Int×Int×Int)×Int×List Int))→((Int×List Int)×Int):=encS
def aa8:aD:=⟨[(.struct [yI,yI,(.struct [yI,yI,yI,yI,yI]),yI,yB])], [(.struct [yI,yB]),yI],(@tt ((Int×Int×(Int×Int×Int×Int×Int)×Int×List Int))),oX⟩
theorem RJ:Sd 55 aa8:=aK au cK true 131 [] (fun A (fKind,fReq,(fCTime,fCPos,fCMode,fCNext,fCMember),fFrom,fData)=>t40 A fKind fReq fCTime fCPos fCMode fCNext fCMember fFrom fData) (fc Tryz.func55 fz) (sc abp (sc acF (sc YY (sc abH (sc ac9 (sc abD sz)))))) fun(fKind,fReq,(fCTime,fCPos,fCMode,fCNext,fCMember),fFrom,fData) hp h=>Uw h
end Go.Ev.M
