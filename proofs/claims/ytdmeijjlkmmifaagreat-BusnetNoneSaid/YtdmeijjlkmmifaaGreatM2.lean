/-
  PROVED: what functions of the program compute, part 2. Conditions: none.
-/
import Derived.Test.YtdmeijjlkmmifaaGreatM1
import Derived.Shelf.SlicesE.Clone
import Derived.Shelf.SlSortCmp.NoneTotal
set_option linter.unusedVariables false
set_option linter.unusedSimpArgs false
namespace Go.Ev.M
open Go.Proofs
set_option maxRecDepth 100000
open Go.Ev.Pl
noncomputable section
abbrev iJ(m:ax):Int:=(m.2.2.2.2.2.2.2.length:Int)
variable{c:fB}
theorem wV{k:Int}(h:rQ (c,k)=0):(4<=k/\k<=8)/\(0<=c.1/\c.1<=255)/\(0<=c.2.1/\c.2.1<=k-1)/\(0<=c.2.2.1/\c.2.2.1<=3)/\(0<=c.2.2.2.1/\c.2.2.2.1<=4)/\(0<=c.2.2.2.2/\c.2.2.2.2<=2^k.toNat-1):=by
 rw[rQ] at h;cases h1:decide (k<4)||decide (8<k)
 all_goals grind
def jr(m:ax)(c:fB):Bool:=decide (rQ (c,m.1)=0)&&(decide (c.2.2.1<iJ m)&&decide (c.2.2.2.1<=iJ m))
def nH(m:ax)(c:fB):Int:=bif dq m then(bif jr m c then 0 else 40) else 70
variable{m:ax}
theorem x8(h:nH m c=0):dq m=true/\rQ (c,m.1)=0/\(0<=c.2.2.1/\c.2.2.1<iJ m)/\c.2.2.2.1<=iJ m:=by
 unfold nH at h;cases hm:dq m
 ·simp_all
 ·cases hf:jr m c
  ·simp_all
  ·simp[jr,fQ,sK] at hf
   exact⟨rfl,hf.1,⟨(wV hf.1).2.2.2.1.1,hf.2.1⟩,hf.2.2⟩
theorem WZ(h:dq m=true)(f:jr m c=true):nH m c=0:=by rw[nH,h,f];rfl
theorem iP(h:dq m=true):(4<=m.1/\m.1<=8)/\(1<=iJ m/\iJ m<=4)/\(m.2.2.2.2.2.2.1.length:Int)=m.1/\m.2.2.2.2.2.2.2.all (o4 m)=true:=by
 have:=Y_ h
 simp_all
variable{i:Int}
theorem Bg(h:dq m=true)(f:0<=i)(g:i<iJ m):o4 m (af.n fv m.2.2.2.2.2.2.2 i:Mode)=true:=by
 obtain⟨k,rfl⟩:∃k:Nat,i=k:=⟨i.toNat,by omega⟩;have c:k<m.2.2.2.2.2.2.2.length:=by simp_all
 rw[show(af.n fv m.2.2.2.2.2.2.2 (k:Int):Mode)=m.2.2.2.2.2.2.2[k] from fL c _];exact bG.1 (iP h).2.2.2 _ (dF c)
theorem vg{x:Mode}(h:o4 m x=true):(x.1.length:Int)=m.1/\(x.2.1.length:Int)=m.1/\(x.2.2.length:Int)=iJ m:=by
 simp only[o4] at h
 simp_all
variable{α:Type}
theorem yk{l:List α}(c:0<=i)(f:i<(l.length:Int)):af.and (af.bU 0 i) (af.bD i (af.l l))=true:=by
 rw[d_,aC,aV,bl];simp_all
variable{x:Int}
theorem IJ(h:x=0):af.cr x 0=false:=by rw[h];rfl
theorem wY(h:¬x=0):af.cr x 0=true:=by rw[bZ];simp_all
theorem am4(h:¬x=0):af.bK x 0=false:=by rw[bd];simp_all
theorem Xb(h:x=0):af.bK x 0=true:=by rw[h];rfl
def as5(A:aS)(m:ax)(c:fB):LT Bool Empty:=.br (A.bK (A.k auB (c,m.1)) 0) (.br (A.bD c.2.2.1 (A.l m.2.2.2.2.2.2.2)) (.ret (A.bU c.2.2.2.1 (A.l m.2.2.2.2.2.2.2))) (.ret false)) (.ret false)
theorem ani:aW Empty.elim (as5 af m c) (jr m c):=by
 unfold as5;by_cases h:rQ (c,m.1)=0
 ·rw[jr,da h]
  refine(al (Xb h)).2 (bi (p:=c.2.2.1<iJ m) rfl (λf=>?_) λf=>?_)
  ·exact aQ (by rw[da f];rfl) (.ret _)
  ·exact aQ (by grind) (.ret _)
 ·rw[jr,gI h]
  exact(ak (am4 h)).2 (.ret _)
def as7(A:aS)(m:ax)(c:fB):LT Bool Empty:=.br (A.bK (A.k xj (c,m.1)) 0) (.br (A.bD c.2.2.1 (A.l m.2.2.2.2.2.2.2)) (.ret (A.bU c.2.2.2.1 (A.l m.2.2.2.2.2.2.2))) (.ret false)) (.ret false)
theorem akD:aW Empty.elim (as7 af m c) (jr m c):=ani
def R8:(ax×fB)->Bool:=λ(m,c)=>jr m c
def arB:aM:=.all [bM,ir] [.bool] R8
theorem agL:Sd 183 arB:=fa (b_ ar dK sl 37 [] (λA (m,c)=>as7 A m c) (kz (fc Tryz.func183 fz) (sc Mg sz)) λ(m,c) f h=>akD)
def amh(A:aS)(m:ax)(n:Int):LT Bool Empty:=.br (A.qP n 0) (.ret (A.bD n (A.l m.2.2.2.2.2.2.2))) (.ret false)
def isF(m:ax)(n:Int):Bool:=decide (0<=n/\n<iJ m)
theorem is1{n:Int}:aW Empty.elim (amh af m n) (isF m n):=by
 unfold amh isF;refine bi (p:=0<=n) rfl (λh=>?_) λh=>?_
 ·exact aQ (by rw[gE,d_,aV];simp_all) (.ret _)
 ·exact aQ (gI (by omega)).symm (.ret _)
def JM:(ax×Int)->Bool:=λ(m,c)=>isF m c
def ar3:aM:=.all [bM,yI] [.bool] JM
theorem aaH:Sd 312 ar3:=fa (b_ ar dK sl 24 [] (λA (m,n)=>amh A m n) (kz (fc Tryz.func312 fz) sz) λ(m,n) c h=>is1)
def amf(A:aS)(m:ax)(c:fB):LT Int Empty:=.br (A.cr (A.k jM m) 0) (.ret (A.k jM m)) (.br (A.cr (A.k xj (c,m.1)) 0) (.ret 40) (.br (A.not (A.k JM (m,c.2.2.1))) (.ret 40) (.br (A.jw c.2.2.2.1 (A.l m.2.2.2.2.2.2.2)) (.ret 40) (.ret 0))))
theorem amW:aW Empty.elim (amf af m c) (nH m c):=by
 unfold amf nH;rw[show af.k jM m=mZ m from rfl,mZ];cases hm:dq m
 ·exact(al rfl).2 (.ret _)
 refine(ak rfl).2 (?_);by_cases h:rQ (c,m.1)=0
 ·have g:=(wV h).2.2.2.1.1
  rw[jr,da h];refine(ak (IJ h)).2 (?_);rw[show af.k JM (m,c.2.2.1)=decide (0<=c.2.2.1/\c.2.2.1<iJ m) from rfl];by_cases f:c.2.2.1<iJ m
  ·rw[da (show 0<=c.2.2.1/\c.2.2.1<iJ m from⟨g,f⟩),da f]
   refine(ak rfl).2 (bi (p:=iJ m<c.2.2.2.1) rfl (λi=>?_) λi=>?_)
   ·exact aQ (by grind) (.ret _)
   ·exact aQ (by simp_all) (.ret _)
  ·rw[gI (show ¬(0<=c.2.2.1/\c.2.2.1<iJ m) from λh=>f h.2),gI f]
   exact(al rfl).2 (.ret _)
 ·rw[jr,gI h]
  exact(al (wY h)).2 (.ret _)
def AY:(ax×fB)->Int:=λ(m,c)=>nH m c
def ar0:aM:=.all [bM,ir] [yI] AY
theorem aaG:Sd 292 ar0:=fa (b_ ar dK sl 56 [] (λA (m,c)=>amf A m c) (kz (fc Tryz.func292 fz) (sc Mg (sc BF (sc aaH sz)))) λ(m,c) f h=>amW)
def ami(A:aS)(m:ax)(c:fB)(f:Int):LT Bool Empty:=.br (A.k JM (m,f)) (.br (A.cr f c.2.2.1) (.br (A.bK c.2.2.2.1 0) (.ap (A.and (A.bU 0 c.2.2.1) (A.bD c.2.2.1 (A.l m.2.2.2.2.2.2.2))) (.ap (A.and (A.bU 0 f) (A.bD f (A.l (A.n fv m.2.2.2.2.2.2.2 c.2.2.1:Mode).2.2))) (.ret (A.n .bool (A.n fv m.2.2.2.2.2.2.2 c.2.2.1:Mode).2.2 f:Bool)))) (.ret false)) (.ret false)) (.ret false)
def yN(m:ax)(c:fB)(k:Int):Bool:=decide (0<=k/\k<iJ m)&&(decide (¬k=c.2.2.1)&&(decide (c.2.2.2.1=0)&&(af.n .bool (af.n fv m.2.2.2.2.2.2.2 c.2.2.1:Mode).2.2 k:Bool)))
variable{a b:Int}
theorem dM:af.cr a b=decide (¬a=b):=by rw[bZ,gE];simp
variable{Y:Type}
theorem Y9{R:Type}{step:Y->LT R Y}{k:Int}{e:LT R Y}{r:R}{f:Bool->R}(h:nH m c=0)(i:0<=k/\k<iJ m)(q:f (yN m c k)=r)(j:f false=r->aW step e r):
  aW step (.br (af.cr k c.2.2.1) (.br (af.bK c.2.2.2.1 0) (.ap (af.and (af.bU 0 c.2.2.1) (af.bD c.2.2.1 (af.l m.2.2.2.2.2.2.2))) (.ap (af.and (af.bU 0 k) (af.bD k (af.l (af.n fv m.2.2.2.2.2.2.2 c.2.2.1:Mode).2.2))) (.ret (f (af.n .bool (af.n fv m.2.2.2.2.2.2.2 c.2.2.1:Mode).2.2 k:Bool))))) e) e) r:=by
 obtain⟨o,_,g,_⟩:=x8 h;rw[yN,da i,cY] at q;refine bi (p:=¬k=c.2.2.1) dM (λl=>bi (p:=c.2.2.2.1=0) dE (λn=>au.2 ⟨yk g.1 g.2,au.2 ⟨yk i.1 ?_,?_⟩⟩) λn=>j ?_) λl=>j ?_
 ·exact(vg (Bg o g.1 g.2)).2.2▸i.2
 ·exact aQ (by grind) (.ret _)
 all_goals grind
theorem aoX{k:Int}(h:nH m c=0):aW Empty.elim (ami af m c k) (yN m c k):=by
 unfold ami;by_cases g:0<=k/\k<iJ m
 ·exact(al (da g)).2 (Y9 (f:=id) h g rfl λe=>aQ e (.ret _))
 ·exact(ak (gI g)).2 (aQ (by rw[yN,gI g];rfl) (.ret _))
def X9:(ax×fB×Int)->Bool:=λ(m,c,k)=>yN m c k
def ZL:(ax×fB×Int)->Bool:=λ(m,c,_)=>decide (nH m c=0)
def ar6:aM:=⟨[bM,ir,yI], [.bool],ZL,X9,false⟩
theorem ap7:Sd 335 ar6:=b_ ar dK sl 42 [] (λA (m,c,f)=>ami A m c f) (kz (fc Tryz.func335 fz) (sc aaH sz)) λ((m,c,f):ax×fB×Int) g h=>aoX (of_decide_eq_true g)
structure V8 where
 (a0:Int) (a2:ax) (a3:fB) (a4:Int) (a5:ax) (a6:fB) (a7:ax) (a8:fB) (a9:Int) (jd:ax) (kU:Int) (a12:fB)
inductive acF where
 | c0 (p:V8) (a1:Int)
noncomputable def aiG:acF->iH
 | .c0 p a1=>⟨[⟨334,26,(en [(0,.yield 0),(1,.ptr 1 0),(2,.ptr 2 0),(11,vi p.a0),(12,vi a1)]),sk Tryz.f334 [1,1,0,0],[],none⟩,⟨293,16,(en [(6,.ptr 3 0)]),[.oI 0,.inBlock 0,.code (cw Tryz.f293 [1,1])],[4],none⟩],[.loop ⟨293,16,(en [(0,.agg (dc bM p.a2)),(1,.agg (dc ir p.a3)),(2,vi p.a4),(3,.ptr 5 0),(4,.ptr 7 0),(5,.ptr 6 0),(6,.ptr 3 0),(8,.agg (dc bM p.a5)),(9,.agg (dc ir p.a6)),(10,.fn 334 [] [.ptr 1 0,.ptr 2 0])]),[11],(cw Tryz.f293 [1,0,1,0,0]),(cw Tryz.f293 [1,0,1,0,1]),0,none⟩,.ay false (dc bM p.a7),.ay false (dc ir p.a8),.ay false [vi p.a9],.It,.ay false (dc bM p.jd),.ay false [vi p.kU],.ay false (dc ir p.a12),.aZ]⟩
def amg(A:aS)(m:ax)(c:fB)(f:Int):LT Int acF:=.br (A.cr (A.k AY (m,c)) 0) (.ret (-1)) (.ao (.c0 ⟨(A.l m.2.2.2.2.2.2.2),m,c,f,m,c,m,c,0,m,f,c⟩ 0))
def aaa(A:aS):acF->LT Int acF
 | .c0 p a1=>.br (A.bD a1 p.a0) (.ap (A.k ZL (p.a7,p.a8,a1)) (.br (A.k X9 (p.a7,p.a8,a1)) (.br (A.bK a1 p.kU) (.ret a1) (.ao (.c0 p (A.b .add .i64 a1 1)))) (.ao (.c0 p (A.b .add .i64 a1 1))))) (.ret (-1))
def Q_(m:ax)(c:fB)(k:Int):Int:=bif decide (nH m c=0)&&yN m c k then k else -1
theorem abR{p:V8}{k:Int}(f:p.a0=iJ m)(o:p.a7=m)(q:p.a8=c)(g:p.kU=k)(h:nH m c=0):∀(j i:Nat),m.2.2.2.2.2.2.2.length-i=j->i<=m.2.2.2.2.2.2.2.length->aW (aaa af) (.ao (.c0 p (i:Int))) (bif decide ((i:Int)<=k)&&yN m c k then k else -1):=by
 have v:=(iP (x8 h).1).2.1;unfold iJ at v f;intro j
 induction j with
 | zero=>
   intro i u r;rw[aB,aaa,f];refine(ak (by rw[aV];grind)).2 (aQ ?_ (.ret _));by_cases l:(i:Int)<=k
   ·rw[yN,gI (show ¬(0<=k/\k<iJ m) by unfold iJ;omega),gn,dI];rfl
   grind
 | succ j ih=>
   intro i u r;rw[aB,aaa,f,o,q,g];refine(al (by rw[aV];grind)).2 (au.2 ⟨by rw[bo];exact da h,?_⟩);rw[show af.k X9 (m,c,(i:Int))=yN m c i from rfl,iC (i:=i) (by omega)];have n:=ih (i+1) (by omega) (by omega);cases hm:yN m c i
   ·refine(ak rfl).2 (aQ ?_ n)
    grind
   ·refine(al rfl).2 (bi (p:=(i:Int)=k) dE (λl=>?_) λl=>?_)
    ·exact aQ (by rw[<-l,hm,da (aj _)];rfl) (.ret _)
    ·exact aQ (by rw[show decide (((i+1:Nat):Int)<=k)=decide ((i:Int)<=k) by rw[gE];simp;omega]) n
theorem av_{k:Int}:aW (aaa af) (amg af m c k) (Q_ m c k):=by
 unfold amg Q_;rw[show af.k AY (m,c)=nH m c from rfl];by_cases h:nH m c=0
 ·rw[da h]
  refine(ak (IJ h)).2 (aQ ?_ (abR (p:=⟨iJ m,m,c,k,m,c,m,c,0,m,k,c⟩) (k:=k) rfl rfl rfl rfl h m.2.2.2.2.2.2.2.length 0 rfl (by omega)));by_cases f:0<=k
  ·simp_all
  ·rw[yN,gI (show ¬(0<=k/\k<iJ m) by omega),gn,dI,dI]
 ·rw[gI h]
  exact(al (wY h)).2 (.ret _)
def JL:(ax×fB×Int)->Int:=λ(m,c,k)=>Q_ m c k
def ar1:aM:=.all [bM,ir,yI] [yI] JL
theorem agT:Sd 293 ar1:=fa (bp ar dK sl 53 [⟨334,2, [[0,1,2,11,12], [6]]⟩] [] (λA (m,c,f)=>amg A m c f) aaa aiG (kz (fc Tryz.func293 (fc Tryz.func324 (fc Tryz.func334 fz))) (sc aaG (sc ap7 sz))) (λA y=>match y with |.c0 p a1=>⟨55,sl,by kernel_rfl⟩) λ(m,c,f) g h=>av_)
def amb(A:aS)(m:ax)(c:fB)(f:Int):LT (Int×Int) Empty:=.br (A.cr (A.k AY (m,c)) 0) (.ret (0,(A.k AY (m,c)))) (.br (A.cr f (-1)) (.br (A.not (A.k JM (m,f))) (.ret (0,100)) (.br (A.bD f 0) (.ret (0,0)) (.ret ((A.b .add .i64 (A.k JL (m,c,f)) 1),0)))) (.br (A.bD f 0) (.ret (0,0)) (.ret ((A.b .add .i64 (A.k JL (m,c,f)) 1),0))))
def EY(m:ax)(c:fB)(w:Int):Int×Int:=bif decide (nH m c=0) then(bif decide (-1<=w/\w<iJ m) then(bif yN m c w then(w+1,0) else(0,0)) else(0,100)) else(0,nH m c)
theorem amV{w:Int}:aW Empty.elim (amb af m c w) (EY m c w):=by
 unfold amb EY;rw[show af.k AY (m,c)=nH m c from rfl,show af.k JM (m,w)=decide (0<=w/\w<iJ m) from rfl,show af.k JL (m,c,w)=Q_ m c w from rfl];by_cases h:nH m c=0
 ·have i:=(iP (x8 h).1).2.1
  rw[da h];refine(ak (IJ h)).2 (bi (p:=¬w = -1) dM (λg=>?_) λg=>?_)
  ·by_cases f:0<=w/\w<iJ m
   ·rw[da f,da (show -1<=w/\w<iJ m by omega)]
    refine(ak rfl).2 ((ak (by rw[aV];simp_all)).2 (aQ ?_ (.ret _)));rw[Q_,da h];cases yN m c w
    ·rfl
    ·rw[cY,cond_true,cond_true,cond_true,cond_true,gz,lC (by omega) (by omega)]
   ·rw[gI f,gI (show ¬(-1<=w/\w<iJ m) by omega)]
    exact(al rfl).2 (.ret _)
  ·have f:w = -1:=by omega
   subst f;exact(al rfl).2 (.ret _)
 ·rw[gI h]
  exact(al (wY h)).2 (.ret _)
def Nx:(ax×fB×Int)->(Int×Int):=λ(m,c,k)=>EY m c k
def arW:aM:=.all [bM,ir,yI] [yI,yI] Nx
theorem ap1:Sd 270 arW:=fa (b_ ar dK sl 60 [] (λA (m,c,f)=>amb A m c f) (kz (fc Tryz.func270 fz) (sc aaG (sc agT (sc aaH sz)))) λ(m,c,f) g h=>amV)
def al9(A:aS)(m:ax)(c:fB)(f:Int):LT (fB×Int) Empty:=.br (A.cr (A.k AY (m,c)) 0) (.ret ((0,0,0,0,0),(A.k AY (m,c)))) (.br (A.bD f 0) (.ret ((0,0,0,0,0),100)) (.br (A.jw f (A.l m.2.2.2.2.2.2.2)) (.ret ((0,0,0,0,0),100)) (.br (A.jw f 0) (.br (A.qP (A.k JL (m,c,(A.b .sub .i64 f 1))) 0) (.ret ((c.1,c.2.1,c.2.2.1,f,c.2.2.2.2),0)) (.ret (c,0))) (.ret (c,0)))))
def Em(m:ax)(c:fB)(r:Int):fB×Int:=bif decide (nH m c=0) then(bif decide (0<=r/\r<=iJ m) then(bif decide (0<r)&&yN m c (r-1) then((c.1,c.2.1,c.2.2.1,r,c.2.2.2.2),0) else(c,0)) else((0,0,0,0,0),100)) else((0,0,0,0,0),nH m c)
theorem avH{r:Int}:aW Empty.elim (al9 af m c r) (Em m c r):=by
 unfold al9 Em;rw[show af.k AY (m,c)=nH m c from rfl,show af.k JL (m,c,(af.b .sub .i64 r 1))=Q_ m c (af.b .sub .i64 r 1) from rfl];by_cases h:nH m c=0
 ·have j:=(iP (x8 h).1).2.1
  refine(ak (IJ h)).2 (bi (p:=r<0) rfl (λg=>?_) λg=>bi (p:=iJ m<r) rfl (λi=>?_) λi=>?_)
  ·exact aQ (by grind) (.ret _)
  ·exact aQ (by grind) (.ret _)
  ·rw[da (show 0<=r/\r<=iJ m by omega),gg,lC (by omega) (by omega)]
   refine bi (p:=0<r) rfl (λf=>?_) λf=>?_
   ·rw[da f,Q_,da h,cY]
    cases hm:yN m c (r-1)
    ·exact(ak rfl).2 (.ret _)
    ·exact(al (by rw[cond_true,lM];grind)).2 (.ret _)
   ·exact aQ (by grind) (.ret _)
 ·rw[gI h]
  exact(al (wY h)).2 (.ret _)
def AX:(ax×fB×Int)->(fB×Int):=λ(m,c,k)=>Em m c k
def arR:aM:=.all [bM,ir,yI] [ir,yI] AX
theorem aaE:Sd 241 arR:=fa (b_ ar dK sl 69 [] (λA (m,c,f)=>al9 A m c f) (kz (fc Tryz.func241 fz) (sc aaG (sc agT sz))) λ(m,c,f) g h=>avH)
def amd(A:aS)(m:ax)(node:Int):LT Int Empty:=.br (A.cr (A.k jM m) 0) (.ret (A.k jM m)) (.br (A.not (A.k kE (node,0,(A.b .sub .i64 m.1 1)))) (.ret 2) (.ret 0))
theorem yj{l:List α}{n:Int}(e:(l.length:Int)=n)(c:0<=i)(f:i<n):af.and (af.bU 0 i) (af.bD i (af.l l))=true:=yk c (e▸f)
def pR(m:ax)(n:Int):Int:=bif dq m then(bif decide (0<=n/\n<=m.1-1) then 0 else 2) else 70
theorem J9{n:Int}(h:pR m n=0):dq m=true/\0<=n/\n<=m.1-1:=by
 unfold pR at h
 grind
theorem akG{n:Int}:aW Empty.elim (amd af m n) (pR m n):=by
 unfold amd pR;rw[show af.k jM m=mZ m from rfl,mZ];cases hm:dq m
 ·exact(al rfl).2 (.ret _)
 have c:=(iP hm).1;rw[gg,lC (by omega) (by omega)];refine(ak rfl).2 (ja (λh=>?_) λh=>?_)
 ·exact aQ (by grind) (.ret _)
 ·exact aQ (by simp_all) (.ret _)
def Ny:(ax×Int)->Int:=λ(m,n)=>pR m n
def arY:aM:=.all [bM,yI] [yI] Ny
theorem agS:Sd 291 arY:=fa (b_ ar dK sl 41 [] (λA (m,node)=>amd A m node) (kz (fc Tryz.func291 fz) (sc BF (sc OF sz))) λ(m,node) c h=>akG)
def al6(A:aS)(m:ax)(node:Int):LT (Int×Int) Empty:=.br (A.cr (A.k Ny (m,node)) 0) (.ret (0,(A.k Ny (m,node)))) (.ret ((A.b .mul .i64 2 (A.b .add .i64 node 1)),0))
def I_(m:ax)(n:Int):Int×Int:=bif decide (pR m n=0) then((af.b .mul .i64 2 (af.b .add .i64 n 1)),0) else(0,pR m n)
theorem ao5{n:Int}:aW Empty.elim (al6 af m n) (I_ m n):=by
 unfold al6 I_;refine bi (p:=¬pR m n=0) dM (λh=>?_) λh=>?_
 ·exact aQ (by rw[gI h];rfl) (.ret _)
 ·exact aQ (by simp_all) (.ret _)
def JK:(ax×Int)->(Int×Int):=λ(m,n)=>I_ m n
def arM:aM:=.all [bM,yI] [yI,yI] JK
theorem agO:Sd 239 arM:=fa (b_ ar dK sl 35 [] (λA (m,node)=>al6 A m node) (kz (fc Tryz.func239 fz) (sc agS sz)) λ(m,node) c h=>ao5)
def vG(m:ax)(n:Int):Int×Int:=bif decide (pR m n=0) then((af.b .add .i64 (af.b .mul .i64 4 m.1) (af.b .mul .i64 2 (af.b .add .i64 n 1))),0) else(0,pR m n)
def al0(A:aS)(m:ax)(node:Int):LT (Int×Int) Empty:=.br (A.cr (A.k JK (m,node)).2 0) (.ret (0,(A.k JK (m,node)).2)) (.ret ((A.b .add .i64 (A.b .mul .i64 4 m.1) (A.k JK (m,node)).1),0))
theorem aoV{n:Int}:aW Empty.elim (al0 af m n) (vG m n):=by
 unfold al0 vG;rw[show af.k JK (m,n)=I_ m n from rfl,I_];by_cases h:pR m n=0
 ·rw[da h];exact(ak rfl).2 (.ret _)
 ·rw[gI h];exact(al (wY h)).2 (.ret _)
def af3:(ax×Int)->(Int×Int):=λ(m,n)=>vG m n
def arF:aM:=.all [bM,yI] [yI,yI] af3
theorem apS:Sd 191 arF:=fa (b_ ar dK sl 41 [] (λA (m,node)=>al0 A m node) (kz (fc Tryz.func191 fz) (sc agO sz)) λ(m,node) c h=>aoV)
def ama(A:aS)(m:ax)(c:Int)(node:Int):LT (Int×Int) Empty:=.br (A.cr (A.k Ny (m,node)) 0) (.ret (0,(A.k Ny (m,node)))) (.br (A.not (A.k kE (c,0,(A.b .sub .i64 (A.l m.2.2.2.2.2.2.2) 1)))) (.ret (0,2)) (.ap (A.and (A.bU 0 c) (A.bD c (A.l m.2.2.2.2.2.2.2))) (.ap (A.and (A.bU 0 node) (A.bD node (A.l (A.n fv m.2.2.2.2.2.2.2 c:Mode).2.1))) (.ap (A.and (A.bU 0 node) (A.bD node (A.l (A.n fv m.2.2.2.2.2.2.2 c:Mode).1))) (.ret ((A.k sO ((A.n .bool (A.n fv m.2.2.2.2.2.2.2 c:Mode).2.1 node:Bool),(A.n yI (A.n fv m.2.2.2.2.2.2.2 c:Mode).1 node:Int))),0))))))
def kS(m:ax)(k n:Int):Int×Int:=bif decide (pR m n=0) then(bif decide (0<=k/\k<=iJ m-1) then(sO ((af.n .bool (af.n fv m.2.2.2.2.2.2.2 k:Mode).2.1 n:Bool),(af.n (.int .i64) (af.n fv m.2.2.2.2.2.2.2 k:Mode).1 n:Int)),0) else(0,2)) else(0,pR m n)
theorem akE{k n:Int}:aW Empty.elim (ama af m k n) (kS m k n):=by
 unfold ama kS;by_cases h:pR m n=0
 ·obtain⟨g,f,j⟩:=J9 h
  have l:=(iP g).2.1;rw[da h];have e:af.b .sub .i64 (iJ m) 1=iJ m-1:=by rw[gg,lC (by omega) (by omega)]
  rw[show af.b .sub .i64 (af.l m.2.2.2.2.2.2.2) 1=iJ m-1 from e];refine(ak (IJ h)).2 (ja (λc=>?_) λc=>?_)
  ·exact aQ (by grind) (.ret _)
  ·have i:=vg (Bg g c.1 (show k<iJ m by omega))
   refine au.2 ⟨yk c.1 (show k<iJ m by omega),au.2 ⟨yj i.2.1 f (by omega),au.2 ⟨yj i.1 f (by omega),?_⟩⟩⟩;exact aQ (by rw[da c];rfl) (.ret _)
 ·rw[gI h];exact(al (wY h)).2 (.ret _)
def y_:(ax×Int×Int)->(Int×Int):=λ(m,c,k)=>kS m c k
def arV:aM:=.all [bM,yI,yI] [yI,yI] y_
theorem agR:Sd 242 arV:=fa (b_ ar dK sl 66 [] (λA (m,c,node)=>ama A m c node) (kz (fc Tryz.func242 fz) (sc OF (sc agI (sc agS sz)))) λ(m,c,node) f h=>akE)
def al4(A:aS)(c:fB)(n:Int):LT (fB×Int) Empty:=.br (A.cr (A.k xj (c,n)) 0) (.ret ((0,0,0,0,0),(A.k xj (c,n)))) (.br (A.bK (A.b .add .i64 c.2.1 1) n) (.br (A.cr c.2.2.2.1 0) (.ret (((A.b .and .i64 (A.b .add .i64 c.1 1) 255),0,(A.b .sub .i64 c.2.2.2.1 1),0,c.2.2.2.2),0)) (.ret (((A.b .and .i64 (A.b .add .i64 c.1 1) 255),0,c.2.2),0))) (.ret ((c.1,(A.b .add .i64 c.2.1 1),c.2.2),0)))
theorem ah9:∀k:Fin 256,af.b .and .i64 ((k.val:Int)+1) 255=((k.val:Int)+1).tmod 256:=by decide +kernel
def p_(c:fB)(n:Int):fB×Int:=bif decide (rQ (c,n)=0) then(bif decide (c.2.1+1=n) then(bif decide (c.2.2.2.1=0) then(((c.1+1).tmod 256,0,c.2.2),0) else(((c.1+1).tmod 256,0,c.2.2.2.1-1,0,c.2.2.2.2),0)) else((c.1,c.2.1+1,c.2.2),0)) else((0,0,0,0,0),rQ (c,n))
theorem akK{n:Int}:aW Empty.elim (al4 af c n) (p_ c n):=by
 unfold al4 p_;by_cases h:rQ (c,n)=0
 ·obtain⟨m,o,q,r,u,v⟩:=wV h
  have f:af.b .add .i64 c.1 1=c.1+1:=by rw[gz,lC (by omega) (by omega)]
  have i:af.b .add .i64 c.2.1 1=c.2.1+1:=by rw[gz,lC (by omega) (by omega)]
  have j:af.b .sub .i64 c.2.2.2.1 1=c.2.2.2.1-1:=by rw[gg,lC (by omega) (by omega)]
  have l:af.b .and .i64 (c.1+1) 255=(c.1+1).tmod 256:=by
   have:=ah9 ⟨c.1.toNat,by omega⟩
   grind
  rw[da h,f,i,j,l];refine(ak (IJ h)).2 (bi (p:=c.2.1+1=n) dE (λh=>bi (p:=¬c.2.2.2.1=0) dM (λg=>?_) λg=>?_) λh=>?_)
  ·exact aQ (by simp_all) (.ret _)
  ·exact aQ (by simp_all) (.ret _)
  ·exact aQ (by simp_all) (.ret _)
 ·rw[gI h];exact(al (wY h)).2 (.ret _)
def af4:(fB×Int)->(fB×Int):=λ(m,c)=>p_ m c
def arK:aM:=.all [ir,yI] [ir,yI] af4
theorem apW:Sd 150 arK:=fa (b_ ar dK sl 80 [] (λA (c,n)=>al4 A c n) (kz (fc Tryz.func150 fz) (sc Mg sz)) λ(c,n) f h=>akK)
def ame(A:aS)(node:Int):LT Int Empty:=.br (A.bD node 0) (.ret 0) (.br (A.qP node 8) (.ret 0) (.ap (A.bU 0 node) (.ret (A.b .shl .i64 1 node))))
def W4(n:Int):Int:=bif decide (0<=n/\n<=7) then af.b .shl .i64 1 n else 0
theorem aus{n:Int}:aW Empty.elim (ame af n) (W4 n):=by
 unfold ame W4;refine bi (p:=n<0) rfl (λh=>?_) λc=>bi (p:=8<=n) rfl (λh=>?_) λf=>au.2 ⟨da (by omega),?_⟩
 ·exact aQ (by grind) (.ret _)
 ·exact aQ (by grind) (.ret _)
 ·exact aQ (by grind) (.ret _)
def X7:Int->Int:=W4
def arZ:aM:=.all [yI] [yI] X7
theorem ap3:Sd 197 arZ:=fa (b_ ar dK sl 28 [] (λA node=>ame A node) (kz (fc Tryz.func197 fz) sz) λnode c h=>aus)
def al7(A:aS)(c:fB)(node:Int):LT Bool Empty:=.ret (A.cr (A.b .and .i64 c.2.2.2.2 (A.k X7 node)) 0)
theorem aup:af.b .and .i64 x 0=0:=by
 show IntKind.i64.wrap (((BitVec.ofInt 64 x &&& BitVec.ofInt 64 0).toNat:Nat):Int)=0;rw[show BitVec.ofInt 64 0=0#64 from rfl,BitVec.and_zero];rfl
def Ut(c:fB)(n:Int):Bool:=bif decide (0<=n/\n<=7) then af.cr (af.b .and .i64 c.2.2.2.2 (af.b .shl .i64 1 n)) 0 else false
theorem aoS{n:Int}:aW Empty.elim (al7 af c n) (Ut c n):=by
 unfold al7 Ut;refine aQ ?_ (.ret _);rw[show af.k X7 n=W4 n from rfl,W4];cases decide (0<=n/\n<=7)
 ·rw[cond_false,cond_false,aup];rfl
 ·rfl
def Sf:(fB×Int)->Bool:=λ(m,c)=>Ut m c
def arP:aM:=.all [ir,yI] [.bool] Sf
theorem agP:Sd 145 arP:=fa (b_ ar dK sl 21 [] (λA (c,node)=>al7 A c node) (kz (fc Tryz.func145 fz) (sc ap3 sz)) λ(c,node) f h=>aoS)
def as4(A:aS)(m:ax)(id:Int):LT Int Empty:=.ret (A.k af3 (m,id)).1
def DD:(ax×Int)->Int:=λ(m,id)=>(as4 af m id).val (Ty.aR [yI])
def arw:aM:=.all [bM,yI] [yI] DD
theorem OH:Sd 140 arw:=fa (aP ar dK sl 27 [] (λA (m,id)=>as4 A m id) (kz (fc Tryz.func140 fz) (sc apS sz)) (λ_ _ _=>LT.bE (by kernel_rfl)))
def as8(A:aS)(m:ax)(id:Int):LT Int Empty:=.ret (A.k JK (m,id)).1
def X4:(ax×Int)->Int:=λ(m,id)=>(as8 af m id).val (Ty.aR [yI])
def arI:aM:=.all [bM,yI] [yI] X4
theorem apU:Sd 222 arI:=fa (aP ar dK sl 27 [] (λA (m,id)=>as8 A m id) (kz (fc Tryz.func222 fz) (sc agO sz)) (λ_ _ _=>LT.bE (by kernel_rfl)))
def as6(A:aS)(n:Int)(c:Int)(f:Int):LT Bool Empty:=.br (A.qP n c) (.ret (A.bU n f)) (.ret false)
def AU:(Int×Int×Int)->Bool:=λ(n,c,f)=>(as6 af n c f).val (Ty.aR [.bool])
def arz:aM:=.all [yI,yI,yI] [.bool] AU
theorem TE:Sd 79 arz:=fa (aP ar dK sl 22 [] (λA (n,c,f)=>as6 A n c f) (kz (fc Tryz.func79 fz) sz) (λ_ _ _=>LT.bE (by kernel_rfl)))
def alK(A:aS)(n:Node):LT Bool Empty:=.ret (A.k AU (n.2.1,2,4))
theorem SH:AU=kE:=rfl
def kM(n:Node):Bool:=decide (2<=n.2.1/\n.2.1<=4)
variable{n:Node}
theorem auU:aW Empty.elim (alK af n) (kM n):=by
 unfold alK kM;exact aQ (by rw[SH,bo,su,gE];simp) (.ret _)
def lY:Node->Bool:=kM
def ark:aM:=.all [fA] [.bool] lY
theorem BG:Sd 96 ark:=fa (b_ ar dK sl 18 [] (λA n=>alK A n) (kz (fc Tryz.func96 fz) (sc TE sz)) λn c h=>auU)
def TY(c:fB):Bool:=af.and (af.bK c.1 0) (af.and (af.bK c.2.1 0) (af.and (af.bK c.2.2.1 0) (af.and (af.bK c.2.2.2.1 0) (af.and (af.bK c.2.2.2.2 0) true))))
def zeroV(v:vq):Bool:=af.and (af.bK v.1 0) (af.and (af.bK v.2.1 0) (af.and (af.bK v.2.2.1 0) (af.and (af.bK v.2.2.2.1 0) (af.and (af.bK v.2.2.2.2.1 0) (af.and (af.bK v.2.2.2.2.2.1 0) (af.and (af.bK v.2.2.2.2.2.2 0) true))))))
def zG(m:ax)(n:Node):Bool:=bif kM n then(jr m n.2.2.1&&(decide (vA n.2.2.2.1=0)&&(decide (n.2.2.2.1.1=n.1)&&(decide (n.2.2.2.1.2.1=m.1)&&decide (n.2.2.1.2.2.2.2=n.2.2.2.1.2.2.1))))) else(TY n.2.2.1&&zeroV n.2.2.2.1)
def C7(m:ax)(n:Node):Bool:=bif decide (n.2.1=1) then decide (1<=n.2.2.2.2.1/\n.2.2.2.2.1<=(vG m n.1).1) else decide (n.2.2.2.2.1=0)
def KN(m:ax)(n:Node):Bool:=bif decide (n.2.1=2) then(af.n .bool m.2.2.2.2.2.2.1 n.1:Bool) else true
def Eb(n:Node):Bool:=bif n.2.2.2.2.2.1 then decide (n.2.1=1\/n.2.1=2) else true
def UE(m:ax)(n:Node):Bool:=decide (0<=n.1/\n.1<=m.1-1)&&(decide (0<=n.2.1/\n.2.1<=5)&&(decide (0<=n.2.2.2.2.2.2.1/\n.2.2.2.2.2.2.1<=2)&&(iI n.2.2.2.2.2.2.2&&(decide (n.2.2.2.2.2.2.2.1=n.1)&&(decide ((n.2.2.2.2.2.2.2.2.2.1.length:Int)=m.1)&&(KN m n&&(zG m n&&(C7 m n&&Eb n))))))))
def cZ(m:ax)(n:Node):Int:=bif dq m then(bif UE m n then 0 else 180) else 70
theorem fH{m:ax}{n:Node}:UE m n=true↔(0<=n.1/\n.1<=m.1-1)/\(0<=n.2.1/\n.2.1<=5)/\(0<=n.2.2.2.2.2.2.1/\n.2.2.2.2.2.2.1<=2)/\iI n.2.2.2.2.2.2.2=true/\n.2.2.2.2.2.2.2.1=n.1/\(n.2.2.2.2.2.2.2.2.2.1.length:Int)=m.1/\KN m n=true/\zG m n=true/\C7 m n=true/\Eb n=true:=by
 unfold UE;simp_all
theorem df(h:cZ m n=0):dq m=true/\UE m n=true:=by
 unfold cZ at h
 grind
section
variable {R Y:Type} {step:Y->LT R Y} {e:LT R Y} {x y:R} {G:Bool}
theorem vV{p:Prop}[Decidable p]{b:Bool}(c:b=decide p)(h:G=true->¬p)(f:¬p->aW step e (bif G then x else y)):aW step (.br b (.ret y) e) (bif G then x else y):=by
 refine bi c (λg=>?_) f;cases G
 ·exact .ret _
 simp_all
theorem ED{b:Bool}(h:G=true->b=true)(c:b=true->aW step e (bif G then x else y)):aW step (.br (af.not b) (.ret y) e) (bif G then x else y):=by
 cases b
 ·cases G
  ·exact(al rfl).2 (.ret _)
  simp_all
 ·exact(ak rfl).2 (c rfl)
theorem EE{u:Int}(h:G=true->a<=u/\u<=b)(c:a<=u/\u<=b->aW step e (bif G then x else y)):aW step (.br (af.not (af.k kE (u,a,b))) (.ret y) e) (bif G then x else y):=by
 refine ja (λf=>?_) c;cases G
 ·exact .ret _
 simp_all
theorem LZ(h:G=true):aW step (.ret x) (bif G then x else y):=aQ (by rw[h];rfl) (.ret _)
end
variable{G:Bool}
theorem amZ{step:Y->LT Int Y}(f:G=true->Eb n=true)(c:Eb n=true->G=true):aW step (.br n.2.2.2.2.2.1 (.br (af.cr n.2.1 1) (.br (af.cr n.2.1 2) (.ret 180) (.ret 0)) (.ret 0)) (.ret 0)) (bif G then 0 else 180):=by
 unfold Eb at f c;cases hb:n.2.2.2.2.2.1
 ·rw[hb] at f c
  exact(ak rfl).2 (LZ (c rfl))
 ·rw[hb] at f c
  simp at f c;refine(al rfl).2 (bi (p:=¬n.2.1=1) dM (λh=>vV (p:=¬n.2.1=2) dM (λg=>?_) λg=>?_) λh=>?_)
  ·simp_all
  ·exact LZ (c (by omega))
  ·exact LZ (c (by omega))
theorem afX{R:Type}{step:Y->LT R Y}{e:LT R Y}{x y:R}(i:dq m=true)(g:0<=n.1/\n.1<=m.1-1)(f:G=true->KN m n=true)(c:KN m n=true->aW step e (bif G then x else y)):
  aW step (.br (af.bK n.2.1 2) (.ap (af.and (af.bU 0 n.1) (af.bD n.1 (af.l m.2.2.2.2.2.2.1))) (.br (af.not (af.n .bool m.2.2.2.2.2.2.1 n.1:Bool)) (.ret y) e)) e) (bif G then x else y):=by
 unfold KN at f c;refine bi (p:=n.2.1=2) dE (λh=>au.2 ⟨yj (iP i).2.2.1 g.1 (by omega),?_⟩) λh=>?_
 ·rw[da h] at f c
  exact ED f c
 ·rw[gI h] at c
  grind
structure VY where
 (a0:ax) (a1:Node)
structure aht where
 (b0:ax) (b1:Node)
structure ahu where
 (c0:Node)
inductive acw where
 | c0 (p:VY)
 | c1 (p:aht)
 | c2 (p:ahu)
noncomputable def aiu:acw->iH
 | .c0 p=>⟨[⟨125,160,(en [(2,.ptr 0 0),(3,.ptr 1 0)]),(.code (cw Tryz.f125 [1,1,1,0,0,0,0,0,0,0,0,0,1,0,0])::sk Tryz.f125 [1,1,1,0,0,0,0,0,0,0,0,0,1,0,0]),[],none⟩],[.ay false (dc bM p.a0),.ay false (dc fA p.a1),.aZ]⟩
 | .c1 p=>⟨[⟨125,160,(en [(2,.ptr 0 0),(3,.ptr 1 0)]),(.code (cw Tryz.f125 [1,1,1,0,0,0,0,0,0,0,0,0,1,1,1,0,0])::sk Tryz.f125 [1,1,1,0,0,0,0,0,0,0,0,0,1,1,1,0,0]),[],none⟩],[.ay false (dc bM p.b0),.ay false (dc fA p.b1),.aZ]⟩
 | .c2 p=>⟨[⟨125,160,(en [(3,.ptr 0 0)]),(.code (cw Tryz.f125 [1,1,1,0,0,0,0,0,0,0,0,0,1,1,1,1,0])::sk Tryz.f125 [1,1,1,0,0,0,0,0,0,0,0,0,1,1,1,1,0]),[],none⟩],[.ay false (dc fA p.c0),.aZ]⟩
def alJ(A:aS)(m:ax)(n:Node):LT Int acw:=.br (A.cr (A.k jM m) 0) (.ret (A.k jM m)) (.br (A.not (A.k AU (n.1,0,(A.b .sub .i64 m.1 1)))) (.ret 180) (.br (A.not (A.k AU (n.2.1,0,5))) (.ret 180) (.br (A.not (A.k AU (n.2.2.2.2.2.2.1,0,2))) (.ret 180) (.br (A.cr (A.k qZ n.2.2.2.2.2.2.2) 0) (.ret 180) (.br (A.cr n.2.2.2.2.2.2.2.1 n.1) (.ret 180) (.br (A.cr (A.l n.2.2.2.2.2.2.2.2.2.1) m.1) (.ret 180) (.br (A.k lY n) (.br (A.not (A.k R8 (m,n.2.2.1))) (.ret 180) (.br (A.cr (A.k rz n.2.2.2.1) 0) (.ret 180) (.br (A.cr n.2.2.2.1.1 n.1) (.ret 180) (.br (A.cr n.2.2.2.1.2.1 m.1) (.ret 180) (.br (A.cr n.2.2.1.2.2.2.2 n.2.2.2.1.2.2.1) (.ret 180) (.ao (.c0 ⟨m,n⟩))))))) (.ao (.c0 ⟨m,n⟩)))))))))
def L4(A:aS):acw->LT Int acw
 | .c0 p=>.br (A.not (A.k lY p.a1)) (.br (A.not (A.and (A.bK p.a1.2.2.1.1 0) (A.and (A.bK p.a1.2.2.1.2.1 0) (A.and (A.bK p.a1.2.2.1.2.2.1 0) (A.and (A.bK p.a1.2.2.1.2.2.2.1 0) (A.and (A.bK p.a1.2.2.1.2.2.2.2 0) true)))))) (.ret 180) (.br (A.not (A.and (A.bK p.a1.2.2.2.1.1 0) (A.and (A.bK p.a1.2.2.2.1.2.1 0) (A.and (A.bK p.a1.2.2.2.1.2.2.1 0) (A.and (A.bK p.a1.2.2.2.1.2.2.2.1 0) (A.and (A.bK p.a1.2.2.2.1.2.2.2.2.1 0) (A.and (A.bK p.a1.2.2.2.1.2.2.2.2.2.1 0) (A.and (A.bK p.a1.2.2.2.1.2.2.2.2.2.2 0) true)))))))) (.ret 180) (.br (A.bK p.a1.2.1 2) (.ap (A.and (A.bU 0 p.a1.1) (A.bD p.a1.1 (A.l p.a0.2.2.2.2.2.2.1))) (.br (A.not (A.n .bool p.a0.2.2.2.2.2.2.1 p.a1.1:Bool)) (.ret 180) (.ao (.c1 ⟨p.a0,p.a1⟩)))) (.ao (.c1 ⟨p.a0,p.a1⟩))))) (.br (A.bK p.a1.2.1 2) (.ap (A.and (A.bU 0 p.a1.1) (A.bD p.a1.1 (A.l p.a0.2.2.2.2.2.2.1))) (.br (A.not (A.n .bool p.a0.2.2.2.2.2.2.1 p.a1.1:Bool)) (.ret 180) (.ao (.c1 ⟨p.a0,p.a1⟩)))) (.ao (.c1 ⟨p.a0,p.a1⟩)))
 | .c1 p=>.br (A.bK p.b1.2.1 1) (.br (A.not (A.k AU (p.b1.2.2.2.2.1,1,(A.k DD (p.b0,p.b1.1))))) (.ret 180) (.br (A.cr p.b1.2.1 1) (.br (A.cr p.b1.2.2.2.2.1 0) (.ret 180) (.ao (.c2 ⟨p.b1⟩))) (.ao (.c2 ⟨p.b1⟩)))) (.br (A.cr p.b1.2.1 1) (.br (A.cr p.b1.2.2.2.2.1 0) (.ret 180) (.ao (.c2 ⟨p.b1⟩))) (.ao (.c2 ⟨p.b1⟩)))
 | .c2 p=>.br p.c0.2.2.2.2.2.1 (.br (A.cr p.c0.2.1 1) (.br (A.cr p.c0.2.1 2) (.ret 180) (.ret 0)) (.ret 0)) (.ret 0)
theorem Td(j:G=true->C7 m n=true/\Eb n=true)(l:C7 m n=true->Eb n=true->G=true):aW (L4 af) (.ao (.c1 ⟨m,n⟩)) (bif G then 0 else 180):=by
 have f:C7 m n=true->aW (L4 af) (.ao (.c2 ⟨n⟩)) (bif G then 0 else 180):=λc=>by
  rw[aB,L4];exact amZ (λg=>(j g).2) (l c)
 rw[aB,L4];have c:=λg=>(j g).1;unfold C7 at c f;refine bi (p:=n.2.1=1) dE (λh=>?_) λh=>?_
 ·rw[da h,cond_true] at c f
  refine EE (λg=>of_decide_eq_true (c g)) λi=>?_;exact bi (p:=¬n.2.1=1) dM (λk=>absurd h k) λ_=>f (da i)
 ·rw[gI h,cond_false] at c f
  exact bi (p:=¬n.2.1=1) dM (λ_=>vV (p:=¬n.2.2.2.2.1=0) dM (λg=>not_not_intro (of_decide_eq_true (c g))) λi=>f (da (dx.1 i))) λk=>absurd h k
theorem aep(l:dq m=true)(j:0<=n.1/\n.1<=m.1-1)(h:kM n=true->zG m n=true)(c:G=true->KN m n=true/\zG m n=true/\C7 m n=true/\Eb n=true)(f:KN m n=true->zG m n=true->C7 m n=true->Eb n=true->G=true):aW (L4 af) (.ao (.c0 ⟨m,n⟩)) (bif G then 0 else 180):=by
 rw[aB,L4];rw[show af.k lY (⟨m,n⟩:VY).a1=kM n from rfl];have i:=λg=>(c g).2.1;unfold zG at i h f;cases hn:kM n
 ·rw[hn,cond_false] at i f
  refine(al rfl).2 (ED (b:=TY n.2.2.1) (λg=>?_) λo=>ED (b:=zeroV n.2.2.2.1) (λg=>?_) λp=>?_)
  ·simp_all
  ·simp_all
  ·exact afX l j (λg=>(c g).1) λk=>Td (λg=>(c g).2.2) λa b=>f k (by simp_all) a b
 ·rw[hn,cond_true] at i h f
  exact(ak rfl).2 (afX l j (λg=>(c g).1) λk=>Td (λg=>(c g).2.2) λa b=>f k (h rfl) a b)
theorem akC:aW (L4 af) (alJ af m n) (cZ m n):=by
 unfold alJ cZ;rw[show af.k jM m=mZ m from rfl,mZ];cases hm:dq m
 ·exact(al rfl).2 (.ret _)
 have f:=@fH m n;have z:=(iP hm).1;rw[cond_true,SH,gg,lC (by omega) (by omega)];generalize UE m n=G at f ⊢;refine(ak rfl).2 (EE (λg=>(f.1 g).1) λl=>EE (λg=>(f.1 g).2.1) λo=>EE (λg=>(f.1 g).2.2.1) λq=>?_);refine vV (p:=¬zH n.2.2.2.2.2.2.2=0) dM (λg=>not_not_intro (JF.2 (f.1 g).2.2.2.1)) λr=>?_;refine vV (p:=¬n.2.2.2.2.2.2.2.1=n.1) dM (λg=>by simp_all) λu=>?_;refine vV (p:=¬(n.2.2.2.2.2.2.2.2.2.1.length:Int)=m.1) dM (λg=>by simp_all) λv=>?_;have j:(kM n=true->zG m n=true)->aW (L4 af) (.ao (.c0 ⟨m,n⟩)) (bif G then 0 else 180):=λh=>aep hm l h (λg=>(f.1 g).2.2.2.2.2.2) λa b c d=>f.2 ⟨l,o,q,JF.1 (dx.1 r),by omega,by omega,a,b,c,d⟩;rw[show af.k lY n=kM n from rfl];have i:=λg=>(f.1 g).2.2.2.2.2.2.2.1;unfold zG at i j;cases hn:kM n
 ·exact(ak rfl).2 (j λk=>absurd (hn.symm.trans k) (by decide))
 ·rw[hn,cond_true] at i
  simp at i j;refine(al rfl).2 (ED (b:=jr m n.2.2.1) (λg=>(i g).1) λA=>?_);rw[bo,chk];refine vV (p:=¬vA n.2.2.2.1=0) dM (λg=>not_not_intro (i g).2.1) λB=>?_;refine vV (p:=¬n.2.2.2.1.1=n.1) dM (λg=>not_not_intro (i g).2.2.1) λC=>?_;refine vV (p:=¬n.2.2.2.1.2.1=m.1) dM (λg=>not_not_intro (i g).2.2.2.1) λD=>?_;refine vV (p:=¬n.2.2.1.2.2.2.2=n.2.2.2.1.2.2.1) dM (λg=>not_not_intro (i g).2.2.2.2) λE=>?_
  simp_all
def X1:(ax×Node)->Int:=λ(m,n)=>cZ m n
def arj:aM:=.all [bM,fA] [yI] X1
theorem apD:Sd 125 arj:=fa (bp ar dK sl 151 [] [⟨125,8, [[2,3]]⟩,⟨125,10, [[2,3]]⟩,⟨125,11, [[3]]⟩] (λA (m,n)=>alJ A m n) L4 aiu (kz (fc Tryz.func125 fz) (sc QY (sc BF (sc BG (sc OH (sc TE (sc Kk (sc agL sz)))))))) (λA y=>match y with |.c0 p=>⟨51,sl,by kernel_rfl⟩|.c1 p=>⟨39,sl,by kernel_rfl⟩|.c2 p=>⟨27,sl,by kernel_rfl⟩) λ(m,n) c h=>akC)
def alI(A:aS)(m:ax)(id:Int):LT (Node×Int) Empty:=.br (A.cr (A.k jM m) 0) (.ret ((0,0,(0,0,0,0,0),(0,0,0,0,0,0,0),0,false,0,0,([]:List Int),([]:List iN),0,0),(A.k jM m))) (.br (A.cr (A.k R7 (id,m.1)).2 0) (.ret ((0,0,(0,0,0,0,0),(0,0,0,0,0,0,0),0,false,0,0,([]:List Int),([]:List iN),0,0),2)) (.ret ((id,0,(0,0,0,0,0),(0,0,0,0,0,0,0),0,false,0,(A.k R7 (id,m.1)).1),0)))
def jY:Node:=(0,0,(0,0,0,0,0),(0,0,0,0,0,0,0),0,false,0,0,([]:List Int),([]:List iN),0,0)
def rK(m:ax)(id:Int):Node×Int:=bif dq m then(bif decide (0<=id/\id<=m.1-1) then((id,0,(0,0,0,0,0),(0,0,0,0,0,0,0),0,false,0,id,([]:List Int),List.replicate m.1.toNat GB,4,(-1)),0) else(jY,2)) else(jY,70)
theorem akF{id:Int}:aW Empty.elim (alI af m id) (rK m id):=by
 unfold alI rK;rw[show af.k jM m=mZ m from rfl,mZ];cases hm:dq m
 ·exact(al rfl).2 (.ret _)
 refine(ak rfl).2 (?_);rw[show af.k R7 (id,m.1)=Zk id m.1 from rfl,Zk,da (iP hm).1,cond_true,cond_true];cases decide (0<=id/\id<=m.1-1)
 ·exact(al rfl).2 (.ret _)
 ·exact(ak rfl).2 (.ret _)
def wA:(ax×Int)->(Node×Int):=λ(m,n)=>rK m n
def ari:aM:=.all [bM,yI] [fA,yI] wA
theorem agK:Sd 77 ari:=fa (b_ ar dK sl 55 [] (λA (m,id)=>alI A m id) (kz (fc Tryz.func77 fz) (sc BF (sc apP sz))) λ(m,id) c h=>akF)
def alT(A:aS)(m:ax)(n:Node)(c:Bool):LT (Node×Int) Empty:=.br (A.cr (A.k X1 (m,n)) 0) (.ret ((0,0,(0,0,0,0,0),(0,0,0,0,0,0,0),0,false,0,0,([]:List Int),([]:List iN),0,0),(A.k X1 (m,n)))) (.br (A.not c) (.ret ((0,0,(0,0,0,0,0),(0,0,0,0,0,0,0),0,false,0,0,([]:List Int),([]:List iN),0,0),181)) (.ret ((n.1,n.2.1,n.2.2.1,n.2.2.2.1,n.2.2.2.2.1,n.2.2.2.2.2.1,n.2.2.2.2.2.2.1,(A.k FY (n.2.2.2.2.2.2.2,n.2.2.2.2.2.2.2.2.1)).1),(A.k FY (n.2.2.2.2.2.2.2,n.2.2.2.2.2.2.2.2.1)).2)))
def m_(m:ax)(n:Node)(w:Bool):Node×Int:=bif decide (cZ m n=0) then(bif w then(n,0) else(jY,181)) else(jY,cZ m n)
theorem Bi(h:cZ m n=0):iI n.2.2.2.2.2.2.2=true:=(fH.1 (df h).2).2.2.2.1
theorem adw{c:jm}(h:iI c=true):¬8<(c.2.1.length:Int):=by
 simp[iI,fQ,sK] at h;omega
theorem ao0{w:Bool}:aW Empty.elim (alT af m n w) (m_ m n w):=by
 unfold alT m_;by_cases h:cZ m n=0
 ·rw[da h]
  refine(ak (IJ h)).2 ?_;cases w
  ·exact(al rfl).2 (.ret _)
  ·refine(ak rfl).2 (?_)
   rw[show af.k FY (n.2.2.2.2.2.2.2,n.2.2.2.2.2.2.2.2.1)=VC n.2.2.2.2.2.2.2 n.2.2.2.2.2.2.2.2.1 from rfl,VC,Bi h,gI (adw (Bi h))];exact .ret _
 ·rw[gI h];exact(al (wY h)).2 (.ret _)
def j_:(ax×Node×Bool)->(Node×Int):=λ(m,c,k)=>m_ m c k
def aru:aM:=.all [bM,fA,.bool] [fA,yI] j_
theorem D4:Sd 78 aru:=fa (b_ ar dK sl 64 [] (λA (m,n,c)=>alT A m n c) (kz (fc Tryz.func78 fz) (sc apD (sc agM sz))) λ(m,n,c) f h=>ao0)
abbrev Hy(A:aS)(m:ax)(n:Node):=(A.k j_ (m,n,(A.bK n.2.1 0)))
def alM(A:aS)(m:ax)(n:Node)(on:Bool):LT (Node×Int) Empty:=.br (A.not on) (.br (A.cr (A.k j_ (m,n,true)).2 0) (.ret ((0,0,(0,0,0,0,0),(0,0,0,0,0,0,0),0,false,0,0,([]:List Int),([]:List iN),0,0),(A.k j_ (m,n,true)).2)) (.br (A.not on) (.ret (A.k wA (m,(A.k j_ (m,n,true)).1.1))) (.ret (((A.k j_ (m,n,true)).1.1,1,(0,0,0,0,0),(0,0,0,0,0,0,0),(A.k DD (m,(A.k j_ (m,n,true)).1.1)),(A.k j_ (m,n,true)).1.2.2.2.2.2),0)))) (.br (A.cr (Hy A m n).2 0) (.ret ((0,0,(0,0,0,0,0),(0,0,0,0,0,0,0),0,false,0,0,([]:List Int),([]:List iN),0,0),(Hy A m n).2)) (.br (A.not on) (.ret (A.k wA (m,(Hy A m n).1.1))) (.ret (((Hy A m n).1.1,1,(0,0,0,0,0),(0,0,0,0,0,0,0),(A.k DD (m,(Hy A m n).1.1)),(Hy A m n).1.2.2.2.2.2),0))))
theorem acf(h:TY c=true):c=(0,0,0,0,0):=by
 obtain⟨a,b,d,e,f⟩:=c;simp[TY,bl,bd] at h
 simp_all
theorem acg{c:vq}(h:zeroV c=true):c=(0,0,0,0,0,0,0):=by
 obtain⟨a,b,d,e,f,g,i⟩:=c;simp[zeroV,bl,bd] at h
 simp_all
theorem SZ(h:cZ m n=0)(f:¬(2<=n.2.1/\n.2.1<=4)):n.2.2.1=(0,0,0,0,0)/\n.2.2.2.1=(0,0,0,0,0,0,0):=by
 have c:=(fH.1 (df h).2).2.2.2.2.2.2.2.1;rw[zG,kM,gI f,cond_false,fQ] at c;exact⟨acf c.1,acg c.2⟩
theorem S7(h:cZ m n=0)(c:¬n.2.1=1):n.2.2.2.2.1=0:=by
 have f:=(fH.1 (df h).2).2.2.2.2.2.2.2.2.1;rw[C7,gI c] at f
 simp_all
def jv(m:ax)(n:Node)(on:Bool):Node×Int:=bif decide (cZ m n=0) then(bif on then(bif decide (n.2.1=0) then((n.1,1,(0,0,0,0,0),(0,0,0,0,0,0,0),(vG m n.1).1,n.2.2.2.2.2),0) else(jY,181)) else rK m n.1) else(jY,cZ m n)
theorem ao3{on:Bool}:aW Empty.elim (alM af m n on) (jv m n on):=by
 unfold alM Hy jv;rw[show af.k j_ (m,n,true)=m_ m n true from rfl,show af.k j_ (m,n,af.bK n.2.1 0)=m_ m n (af.bK n.2.1 0) from rfl,dE,m_,m_];by_cases h:cZ m n=0
 ·rw[da h]
  cases on
  ·exact(al rfl).2 ((ak rfl).2 ((al rfl).2 (.ret _)))
  ·refine(ak rfl).2 (?_)
   cases decide (n.2.1=0)
   ·exact(al rfl).2 (.ret _)
   ·exact(ak rfl).2 ((ak rfl).2 (.ret _))
 ·rw[gI h]
  cases on
  ·exact(al rfl).2 ((al (wY h)).2 (.ret _))
  ·exact(ak rfl).2 ((al (wY h)).2 (.ret _))
def R3:(ax×Node×Bool)->(Node×Int):=λ(m,c,k)=>jv m c k
def arm:aM:=.all [bM,fA,.bool] [fA,yI] R3
theorem apF:Sd 162 arm:=fa (b_ ar dK sl 90 [] (λA (m,n,on)=>alM A m n on) (kz (fc Tryz.func162 (fc Tryz.func217 fz)) (sc agK (sc D4 (sc OH sz)))) λ(m,n,on) c h=>ao3)
abbrev D6(A:aS)(m:ax)(n:Node):=(A.k j_ (m,n,(A.bK n.2.1 0)))
abbrev aa2:LT (Node×Int) Empty:=(.ret ((0,0,(0,0,0,0,0),(0,0,0,0,0,0,0),0,false,0,0,([]:List Int),([]:List iN),0,0),2))
def alL(A:aS)(m:ax)(n:Node)(c:Int):LT (Node×Int) Empty:=.br (A.cr (D6 A m n).2 0) (.ret ((0,0,(0,0,0,0,0),(0,0,0,0,0,0,0),0,false,0,0,([]:List Int),([]:List iN),0,0),(D6 A m n).2)) (.ap (A.bU 0 m.1) (.br (A.not (A.k AU (c,0,(A.b .sub .i64 (A.b .shl .i64 1 m.1) 1)))) (aa2) (.ap (A.bU 0 (D6 A m n).1.1) (.br (A.bK (A.b .and .i64 (A.b .shr .i64 c (D6 A m n).1.1) 1) 0) (aa2) (.ret (((D6 A m n).1.1,4,(0,0,0,0,c),((D6 A m n).1.1,m.1,c,1,0,0,0),0,(D6 A m n).1.2.2.2.2.2),0))))))
theorem Ve{k:Int}(h:4<=k/\k<=8):16<=af.b .shl .i64 1 k/\af.b .shl .i64 1 k<=256:=by
 have:k=4\/k=5\/k=6\/k=7\/k=8:=by omega
 rcases this with rfl|rfl|rfl|rfl|rfl<;>decide
def EL(m:ax)(n:Node)(s:Int):Node×Int:=bif decide (cZ m n=0) then(bif decide (n.2.1=0) then(bif decide (0<=s/\s<=af.b .shl .i64 1 m.1-1) then(bif qW s n.1 then((n.1,4,(0,0,0,0,s),(n.1,m.1,s,1,0,0,0),0,n.2.2.2.2.2),0) else(jY,2)) else(jY,2)) else(jY,181)) else(jY,cZ m n)
variable{s:Int}
theorem auX:aW Empty.elim (alL af m n s) (EL m n s):=by
 unfold alL aa2 D6 EL;rw[show af.k j_ (m,n,af.bK n.2.1 0)=m_ m n (af.bK n.2.1 0) from rfl,dE,m_,SH];by_cases h:cZ m n=0
 ·rw[da h]
  cases decide (n.2.1=0)
  ·exact(al rfl).2 (.ret _)
  have l:=(iP (df h).1).1;have o:=Ve l;have i:=(fH.1 (df h).2).1;refine(ak rfl).2 (au.2 ⟨da (by omega),?_⟩);rw[gg,lC (by omega) (by omega)];refine ja (λf=>?_) λf=>au.2 ⟨da (show 0<=n.1 from i.1),?_⟩
  ·exact aQ (by rw[gI f];rfl) (.ret _)
  ·rw[da f]
   have j:=afW (c:=s) (a:=n.1) f.1 (by omega) i.1 (by omega);refine bi (p:=af.b .and .i64 (af.b .shr .i64 s n.1) 1=0) dE (λg=>?_) λg=>?_
   ·exact aQ (by rw[j.1 g];rfl) (.ret _)
   ·exact aQ (by simp_all) (.ret _)
 ·rw[gI h];exact(al (wY h)).2 (.ret _)
def R2:(ax×Node×Int)->(Node×Int):=λ(m,c,k)=>EL m c k
def arl:aM:=.all [bM,fA,yI] [fA,yI] R2
theorem apE:Sd 41 arl:=fa (b_ ar dK sl 110 [] (λA (m,n,c)=>alL A m n c) (kz (fc Tryz.func41 (fc Tryz.func80 fz)) (sc D4 (sc TE sz))) λ(m,n,c) f h=>auX)
abbrev iE(A:aS)(m:ax)(n:Node):=(A.k j_ (m,n,true))
abbrev aa3(A:aS)(m:ax)(n:Node):LT (Node×Int) Empty:=(.ret ((0,0,(0,0,0,0,0),(0,0,0,0,0,0,0),0,false,0,0,([]:List Int),([]:List iN),0,0),(iE A m n).2))
def alN(A:aS)(m:ax)(n:Node)(o:dL):LT (Node×Int) Empty:=.br (A.cr (iE A m n).2 0) (aa3 A m n) (.br (A.not (A.k AU (o.2.2.2.1,1,3))) (.ret ((0,0,(0,0,0,0,0),(0,0,0,0,0,0,0),0,false,0,0,([]:List Int),([]:List iN),0,0),2)) (.br (A.not (A.k lY (iE A m n).1)) (.ret ((iE A m n).1,0)) (.br (A.bK o.2.2.2.1 1) (.br (A.cr (A.k FY ((iE A m n).1.2.2.2.2.2.2.2,o.2.2.2.2.2)).2 0) (.ret ((0,0,(0,0,0,0,0),(0,0,0,0,0,0,0),0,false,0,0,([]:List Int),([]:List iN),0,0),(A.k FY ((iE A m n).1.2.2.2.2.2.2.2,o.2.2.2.2.2)).2)) (.ret (((iE A m n).1.1,(iE A m n).1.2.1,(iE A m n).1.2.2.1,(iE A m n).1.2.2.2.1,(iE A m n).1.2.2.2.2.1,(iE A m n).1.2.2.2.2.2.1,(iE A m n).1.2.2.2.2.2.2.1,(A.k FY ((iE A m n).1.2.2.2.2.2.2.2,o.2.2.2.2.2)).1),0))) (.br (A.bK o.2.2.2.1 2) (.br (A.cr (A.k R9 (iE A m n).1.2.2.2.2.2.2.2).2 0) (.ret ((0,0,(0,0,0,0,0),(0,0,0,0,0,0,0),0,false,0,0,([]:List Int),([]:List iN),0,0),(A.k R9 (iE A m n).1.2.2.2.2.2.2.2).2)) (.ret (((iE A m n).1.1,(iE A m n).1.2.1,(iE A m n).1.2.2.1,(iE A m n).1.2.2.2.1,(iE A m n).1.2.2.2.2.1,(iE A m n).1.2.2.2.2.2.1,(iE A m n).1.2.2.2.2.2.2.1,(A.k R9 (iE A m n).1.2.2.2.2.2.2.2).1),0))) (.br (A.bK o.2.2.2.1 3) (.br (A.cr (A.k R_ ((iE A m n).1.2.2.2.2.2.2.2,o.2.2.2.2.1)).2 0) (.ret ((0,0,(0,0,0,0,0),(0,0,0,0,0,0,0),0,false,0,0,([]:List Int),([]:List iN),0,0),(A.k R_ ((iE A m n).1.2.2.2.2.2.2.2,o.2.2.2.2.1)).2)) (.ret (((iE A m n).1.1,(iE A m n).1.2.1,(iE A m n).1.2.2.1,(iE A m n).1.2.2.2.1,(iE A m n).1.2.2.2.2.1,(iE A m n).1.2.2.2.2.2.1,(iE A m n).1.2.2.2.2.2.2.1,(A.k R_ ((iE A m n).1.2.2.2.2.2.2.2,o.2.2.2.2.1)).1),0))) (.br (A.cr (iE A m n).2 0) (aa3 A m n) (.ret ((iE A m n).1,0))))))))
def zT(n:Node)(r:jm×Int):Node×Int:=bif decide (r.2=0) then((n.1,n.2.1,n.2.2.1,n.2.2.2.1,n.2.2.2.2.1,n.2.2.2.2.2.1,n.2.2.2.2.2.2.1,r.1),0) else(jY,r.2)
def yM(m:ax)(n:Node)(o:dL):Node×Int:=bif decide (cZ m n=0) then(bif decide (1<=o.2.2.2.1/\o.2.2.2.1<=3) then(bif kM n then(bif decide (o.2.2.2.1=1) then zT n (VC n.2.2.2.2.2.2.2 o.2.2.2.2.2) else bif decide (o.2.2.2.1=2) then zT n (btS n.2.2.2.2.2.2.2) else zT n (Iz n.2.2.2.2.2.2.2 o.2.2.2.2.1)) else(n,0)) else(jY,2)) else(jY,cZ m n)
variable{r:jm×Int}
theorem YL{step:Y->LT (Node×Int) Y}(c:r.2=0->x=0):aW step (.br (af.cr r.2 0) (.ret (jY,r.2)) (.ret ((n.1,n.2.1,n.2.2.1,n.2.2.2.1,n.2.2.2.2.1,n.2.2.2.2.2.1,n.2.2.2.2.2.2.1,r.1),x))) (zT n r):=by
 unfold zT;refine bi (p:=¬r.2=0) dM (λh=>?_) λh=>?_
 ·exact aQ (by simp_all) (.ret _)
 ·have h:=dx.1 h
  exact aQ (by simp_all) (.ret _)
theorem aoU{o:dL}:aW Empty.elim (alN af m n o) (yM m n o):=by
 unfold alN aa3 iE yM;rw[show af.k j_ (m,n,true)=m_ m n true from rfl,m_,SH];by_cases h:cZ m n=0
 ·rw[da h,cond_true,cond_true,cond_true]
  refine(ak rfl).2 (ja (λc=>?_) λc=>?_)
  ·exact aQ (by rw[gI c];rfl) (.ret _)
  rw[da c,cond_true];rw[show af.k lY ((n,0):Node×Int).1=kM n from rfl];cases kM n
  ·exact(al rfl).2 (.ret _)
  refine(ak rfl).2 (bi (p:=o.2.2.2.1=1) dE (λk=>?_) λk=>bi (p:=o.2.2.2.1=2) dE (λf=>?_) λf=>(al (by rw[dE];grind)).2 (?_))
  ·rw[da k];exact YL (r:=VC n.2.2.2.2.2.2.2 o.2.2.2.2.2) (λh=>rfl)
  ·rw[gI k,da f];exact YL (r:=btS n.2.2.2.2.2.2.2) (λh=>rfl)
  ·rw[gI k,gI f];exact YL (r:=Iz n.2.2.2.2.2.2.2 o.2.2.2.2.1) (λh=>rfl)
 ·rw[gI h];exact(al (wY h)).2 (.ret _)
def R4:(ax×Node×dL)->(Node×Int):=λ(m,c,k)=>yM m c k
def arn:aM:=.all [bM,fA,eZ] [fA,yI] R4
theorem apG:Sd 108 arn:=fa (b_ ar dK sl 107 [] (λA (m,n,o)=>alN A m n o) (kz (fc Tryz.func108 fz) (sc BG (sc D4 (sc TE (sc agM (sc apQ (sc apR sz))))))) λ(m,n,o) c h=>aoU)
structure V6 where
 (a0:Int) (a1:List Seen) (a2:Int) (a4:vq) (a5:Int)
inductive acA where
 | c0 (p:V6) (a3:Int)
noncomputable def aiy:acA->iH
 | .c0 p a3=>⟨[⟨139,45,(en [(0,vi p.a0),(4,.ptr 0 0),(11,.sl qe p.a1),(12,vi p.a2),(13,vi a3)]),sk Tryz.f139 [1,0,1,0,0],[],none⟩],[.ay false (dc qO p.a4 ++ [vi p.a5,.gi true]),.aZ]⟩
def as3(A:aS)(n:Int)(c:List Seen):LT (sF×Int×Bool) acA:=.ao (.c0 ⟨n,c,(A.l c),(0,0,0,0,0,0,0),0⟩ 0)
def U3(A:aS):acA->LT (sF×Int×Bool) acA
 | .c0 p a3=>.br (A.bD a3 p.a2) (.ap (A.and (A.bU 0 a3) (A.bD a3 (A.l p.a1))) (.br (A.cr (A.n qe p.a1 a3:Seen).1 2) (.ao (.c0 p (A.b .add .i64 a3 1))) (.br (A.k PN (A.n qe p.a1 a3:Seen).2.2).2 (.br (A.bK (A.k xj ((A.k PN (A.n qe p.a1 a3:Seen).2.2).1.2.2.1,p.a0)) 0) (.br (A.bD (A.k PN (A.n qe p.a1 a3:Seen).2.2).1.2.2.2.1 p.a0) (.ret ((A.k PN (A.n qe p.a1 a3:Seen).2.2).1,(A.n qe p.a1 a3:Seen).2.1,true)) (.ao (.c0 p (A.b .add .i64 a3 1)))) (.ao (.c0 p (A.b .add .i64 a3 1)))) (.ao (.c0 p (A.b .add .i64 a3 1)))))) (.ret ((0,0,(0,0,0,0,0),0,([]:List Int)),0,false))
def Cv(n:Int)(s:Seen):Bool:=decide (s.1=2)&&(decide ((tM s.2.2).2=true)&&(decide (rQ ((tM s.2.2).1.2.2.1,n)=0)&&decide ((tM s.2.2).1.2.2.2.1<n)))
def iY(n:Int):List Seen->sF×Int×Bool
 | []=>((0,0,(0,0,0,0,0),0,([]:List Int)),0,false)
 | s::l=>bif Cv n s then((tM s.2.2).1,s.2.1,true) else iY n l
theorem XI{n:Int}{l:List Seen}(h:(iY n l).2.2=true):rQ ((iY n l).1.2.2.1,n)=0/\(iY n l).1.2.2.2.1<n/\zP (iY n l).1=true:=by
 induction l with
 | nil=>exact absurd h (by simp[iY])
 | cons s l ih=>
   rw[iY] at h ⊢;cases hx:Cv n s
   ·simp_all
   ·simp[Cv,fQ,sK] at hx
    exact⟨hx.2.2.1,hx.2.2.2,adD hx.2.1⟩
theorem amX{b:Bool}:b=decide (b=true):=by simp_all
theorem UK{p:V6}{n:Int}{c:List Seen}(z:p.a0=n)(A:p.a1=c)(l:p.a2=(c.length:Int))(D:c.length<=140737488355328):∀(j i:Nat),c.length-i=j->i<=c.length->aW (U3 af) (.ao (.c0 p (i:Int))) (iY n (c.drop i)):=by
 intro j
 induction j with
 | zero=>
   intro i C B;have:i=c.length:=by omega
   subst this;rw[aB,U3,l,cK];exact(ak (by rw[aV];simp)).2 (.ret _)
 | succ j ih=>
   intro i C B;have f:i<c.length:=by omega
   have m:=ih (i+1) (by omega) (by omega);rw[aB,U3,z,A,l];refine(al (by simp_all;exact da (by omega))).2 (au.2 ⟨du f,?_⟩);rw[show(af.n qe c (i:Int):Seen)=c[i] from fL f _,AB f,iY,iC (i:=i) (by omega)];generalize c[i]=s;generalize iY n (c.drop (i+1))=r at m ⊢;have g:Cv n s=false->aW (U3 af) (.ao (.c0 p ((i+1:Nat):Int))) (bif Cv n s then((tM s.2.2).1,s.2.1,true) else r):=λh=>aQ (by simp_all) m;rw[show af.k PN s.2.2=tM s.2.2 from adF];refine bi (p:=¬s.1=2) dM (λh=>g (by rw[Cv,gI h];rfl)) λo=>?_;refine bi (p:=(tM s.2.2).2=true) amX (λq=>?_) λh=>g (by rw[Cv,gI h,gn,dI]);refine bi (p:=rQ ((tM s.2.2).1.2.2.1,n)=0) dE (λu=>?_) λh=>g (by rw[Cv,gI h,gn,dI,dI]);refine bi (p:=(tM s.2.2).1.2.2.2.1<n) rfl (λv=>?_) λh=>g (by rw[Cv,gI h,dI,dI,dI]);exact aQ (by rw[Cv,da (dx.1 o),da q,da u,da v];rfl) (.ret _)
theorem aoR{n:Int}{c:List Seen}(f:c.length<=140737488355328):aW (U3 af) (as3 af n c) (iY n c):=
 UK (p:=⟨n,c,(c.length:Int),(0,0,0,0,0,0,0),0⟩) rfl rfl rfl f c.length 0 rfl (by omega)
def FX:(Int×List Seen)->(sF×Int×Bool):=λ(m,n)=>iY m n
def arv:aM:=.all [yI,(.slice qe)] [Io,yI,.bool] FX
theorem apM:Sd 139 arv:=fa (bp ar dK sl 21 [⟨139,2, [[0,4,11,12,13]]⟩] [] (λA (n,c)=>as3 A n c) U3 aiy (kz (fc Tryz.func139 fz) (sc avc (sc Mg sz))) (λA y=>match y with |.c0 p f=>⟨70,sl,by kernel_rfl⟩) λ(n,c) g h=>aoR h.2.1)
abbrev aa5(A:aS)(m:ax)(c:fB)(f:sF):LT Bool Empty:=(.br (A.bK (A.k y_ (m,c.2.2.1,c.2.1)).2 0) (.br (A.bK f.1 (A.k y_ (m,c.2.2.1,c.2.1)).1) (.ret (A.bK (A.l f.2.2.2.2) 0)) (.ret false)) (.ret false))
def al1(A:aS)(m:ax)(c:fB)(f:sF):LT Bool Empty:=.br (A.bK (A.k y_ (m,c.2.2.1,c.2.1)).2 0) (.br (A.cr (A.k y_ (m,c.2.2.1,c.2.1)).1 3) (.ap (A.and (A.bU 0 c.2.2.1) (A.bD c.2.2.1 (A.l m.2.2.2.2.2.2.2))) (.ap (A.and (A.bU 0 c.2.1) (A.bD c.2.1 (A.l (A.n fv m.2.2.2.2.2.2.2 c.2.2.1:Mode).1))) (.br (A.bK (A.k y_ (m,c.2.2.1,c.2.1)).2 0) (.br (A.bK f.1 (A.k y_ (m,c.2.2.1,c.2.1)).1) (.ret (A.bK (A.l f.2.2.2.2) (A.n yI (A.n fv m.2.2.2.2.2.2.2 c.2.2.1:Mode).1 c.2.1:Int))) (.ret false)) (.ret false)))) (aa5 A m c f)) (aa5 A m c f)
def Bc(m:ax)(c:fB)(f:sF):Bool:=decide ((kS m c.2.2.1 c.2.1).2=0)&&(decide (f.1=(kS m c.2.2.1 c.2.1).1)&&decide ((f.2.2.2.2.length:Int)=bif decide ((kS m c.2.2.1 c.2.1).1=3) then(0:Int) else(af.n (.int .i64) (af.n fv m.2.2.2.2.2.2.2 c.2.2.1:Mode).1 c.2.1:Int)))
theorem ye{k n:Int}(h:(kS m k n).2=0):dq m=true/\(0<=n/\n<=m.1-1)/\(0<=k/\k<iJ m):=by
 unfold kS at h;by_cases c:pR m n=0
 ·obtain⟨a,b⟩:=J9 c
  grind
 simp_all
variable{f:sF}
theorem aoW:aW Empty.elim (al1 af m c f) (Bc m c f):=by
 unfold al1 aa5;rw[show af.k y_ (m,c.2.2.1,c.2.1)=kS m c.2.2.1 c.2.1 from rfl];by_cases h:(kS m c.2.2.1 c.2.1).2=0
 ·obtain⟨j,l,i⟩:=ye h
  have n:=(vg (Bg j i.1 i.2)).1;have e:af.bK (kS m c.2.2.1 c.2.1).2 0=true:=Xb h;rw[e,Bc,da h,cY];refine(al rfl).2 (bi (p:=¬(kS m c.2.2.1 c.2.1).1=3) dM (λg=>au.2 ⟨yk i.1 i.2,au.2 ⟨yj n l.1 (by omega),(al rfl).2 ?_⟩⟩) λg=>(al rfl).2 ?_)
  ·rw[gI g]
   refine bi (p:=f.1=(kS m c.2.2.1 c.2.1).1) dE (λk=>?_) λk=>?_
   ·exact aQ (by rw[da k,d_];rfl) (.ret _)
   ·exact aQ (by simp_all) (.ret _)
  ·rw[da (dx.1 g)]
   refine bi (p:=f.1=(kS m c.2.2.1 c.2.1).1) dE (λk=>?_) λk=>?_
   ·exact aQ (by rw[da k,d_];rfl) (.ret _)
   ·exact aQ (by simp_all) (.ret _)
 ·have e:af.bK (kS m c.2.2.1 c.2.1).2 0=false:=am4 h
  rw[e,Bc,gI h];exact(ak rfl).2 ((ak rfl).2 (.ret _))
def Sb:(ax×fB×sF)->Bool:=λ(m,c,k)=>Bc m c k
def arG:aM:=.all [bM,ir,Io] [.bool] Sb
theorem agN:Sd 194 arG:=fa (b_ ar dK sl 75 [] (λA (m,c,f)=>al1 A m c f) (kz (fc Tryz.func194 fz) (sc agR sz)) λ(m,c,f) g h=>aoW)
def alU(A:aS)(m:ax)(n:Node)(f:sF):LT Bool Empty:=.br (A.k R8 (m,f.2.2.1)) (.br (A.cr f.2.2.1.2.1 n.1) (.br (A.k Sf (f.2.2.1,f.2.2.1.2.1)) (.ret (A.k Sb (m,f.2.2.1,f))) (.ret false)) (.ret false)) (.ret false)
def SU(m:ax)(n:Node)(f:sF):Bool:=jr m f.2.2.1&&(decide (¬f.2.2.1.2.1=n.1)&&(Ut f.2.2.1 f.2.2.1.2.1&&Bc m f.2.2.1 f))
theorem auV:aW Empty.elim (alU af m n f) (SU m n f):=by
 unfold alU SU;rw[show af.k R8 (m,f.2.2.1)=jr m f.2.2.1 from rfl];cases jr m f.2.2.1
 ·exact(ak rfl).2 (.ret _)
 refine(al rfl).2 (bi (p:=¬f.2.2.1.2.1=n.1) dM (λh=>?_) λh=>aQ (by simp_all) (.ret _));rw[da h,show af.k Sf (f.2.2.1,f.2.2.1.2.1)=Ut f.2.2.1 f.2.2.1.2.1 from rfl];cases Ut f.2.2.1 f.2.2.1.2.1
 ·exact(ak rfl).2 (.ret _)
 ·exact(al rfl).2 (.ret _)
def R6:(ax×Node×sF)->Bool:=λ(m,c,k)=>SU m c k
def arx:aM:=.all [bM,fA,Io] [.bool] R6
theorem apN:Sd 142 arx:=fa (b_ ar dK sl 44 [] (λA (m,n,f)=>alU A m n f) (kz (fc Tryz.func142 fz) (sc agL (sc agN (sc agP sz)))) λ(m,n,f) c h=>auV)
def qa(m:ax)(c:fB)(r:Int):fB:=bif decide ((Em m c r).2=0) then(Em m c r).1 else c
def zh(m:ax)(n:Node)(c:fB)(f:sF):Node:=(n.1,3,qa m c f.2.1,(n.1,m.1,c.2.2.2.2,1,0,0,0),0,false,0,bif decide (f.1=4) then(sL n.2.2.2.2.2.2.2 c.2.1 f.2.2.2.2).1 else n.2.2.2.2.2.2.2)
def lg(m:ax)(n:Node)(c:List Seen)(f:Bool):Node×Int×Bool×Int:=
 bif decide (cZ m n=0) then
  bif decide (n.2.1=1) then
   bif decide ((c.length:Int)=2) then
    bif (iY m.1 c).2.2 then
     bif decide ((iY m.1 c).1.1=1) then
      bif decide ((iY m.1 c).1.2.2.2.1=n.1) then(n,0,false,0)
      else bif f && !n.2.2.2.2.2.1 then((n.1,n.2.1,n.2.2.1,n.2.2.2.1,(vG m n.1).1,true,n.2.2.2.2.2.2),(iY m.1 c).2.1,false,0)
      else(zh m n (0,(iY m.1 c).1.2.2.2.1,0,0,af.b .shl .i64 1 (iY m.1 c).1.2.2.2.1) (iY m.1 c).1,(iY m.1 c).2.1,true,0)
     else bif SU m n (iY m.1 c).1 then(zh m n (iY m.1 c).1.2.2.1 (iY m.1 c).1,(iY m.1 c).2.1,true,0)
     else(n,0,false,0)
    else(n,0,false,0)
   else(jY,0,false,2)
  else(jY,0,false,181)
 else(jY,0,false,cZ m n)
structure VT where
 (a0:Int) (a1:ax) (a2 a3:vq) (a4:Int) (a5:Bool) (a6 a7 a8 a9:Int) (jd:Node) (kU:sF)
structure VU where
 (b0:ax) (b1:sF) (b2:fB) (b3:Int) (b4:Node) (b5 b6:vq) (b7:Int) (b8:Bool) (b9 b10 b11 b12:Int)
structure VV where
 (c0:ax) (c1:sF) (c2:fB) (c3:Int) (c4:Node) (c5 c6:vq) (c7:Int) (c8:Bool) (c9 c10 c11 c12:Int)
structure VW where
 (d0:ax) (d1 d2:Int) (d3:Node) (d4 d5:vq) (d6:Int) (d7:Bool) (d8 d9 Xm d11:Int)
structure VX where
 (e0:ax) (e1 e2:Int) (e3:Node) (e4 e5:vq) (e6:Int) (e7:Bool) (e8 e9 e10 e11:Int)
inductive WM where
 | c0 (p:VT)
 | c1 (p:VU)
 | c2 (p:VV)
 | c3 (p:VW)
 | c4 (p:VX)
noncomputable def ait:WM->iH
 | .c0 p=>⟨[⟨93,101,(en [(3,.ptr 0 0),(6,.ptr 1 0),(10,.ptr 2 0),(12,.ptr 3 0),(13,vi p.a0)]),(.code (cw Tryz.f93 [1,1,1,1,0,0,1,1,0])::sk Tryz.f93 [1,1,1,1,0,0,1,1,0]),[],none⟩],[.ay false (dc bM p.a1),.ay false (dc qO p.a2++dc qO p.a3 ++ [vi p.a4,vb p.a5,vi p.a6,vi p.a7,.gi true,.gi true,vi p.a8,vi p.a9]),.ay false (dc fA p.jd),.ay false (dc Io p.kU),.aZ]⟩
 | .c1 p=>⟨[⟨141,29,(en [(0,.agg (dc bM p.b0)),(1,.ptr 0 0),(2,.agg (dc Io p.b1)),(3,.agg (dc ir p.b2))]),(.code (cw Tryz.f141 [0])::sk Tryz.f141 [0]),[],none⟩,⟨93,101,(en [(6,.ptr 1 0),(10,.ptr 0 0),(13,vi p.b3)]),(.rR (ow Tryz.f93 [1,1,1,1,0,0,1,1,1,1,1,0]) [0,0,0,4,0,16,48,124,255] 8 [] []::sk Tryz.f93 [1,1,1,1,0,0,1,1,1,1,1,0]),[],none⟩],[.ay false (dc fA p.b4),.ay false (dc qO p.b5++dc qO p.b6 ++ [vi p.b7,vb p.b8,vi p.b9,vi p.b10,.gi true,.gi true,vi p.b11,vi p.b12]),.aZ]⟩
 | .c2 p=>⟨[⟨141,29,(en [(0,.agg (dc bM p.c0)),(1,.ptr 0 0),(2,.agg (dc Io p.c1)),(3,.agg (dc ir p.c2))]),(.code (cw Tryz.f141 [0])::sk Tryz.f141 [0]),[],none⟩,⟨93,101,(en [(6,.ptr 1 0),(10,.ptr 0 0),(13,vi p.c3)]),(.ops (ow Tryz.f93 [1,1,1,1,0,0,1,1,1,1,1,1,1,0]) ((ow Tryz.f93 [1,1,1,1,0,0,1,1,1,1,1,1,1,0]).toList.drop 4)::sk Tryz.f93 [1,1,1,1,0,0,1,1,1,1,1,1,1,0]),[],none⟩],[.ay false (dc fA p.c4),.ay false (dc qO p.c5++dc qO p.c6 ++ [vi p.c7,vb p.c8,vi p.c9,vi p.c10,.gi true,.gi true,vi p.c11,vi p.c12]),.aZ]⟩
 | .c3 p=>⟨[⟨193,24,(en [(0,.agg (dc bM p.d0)),(1,.ptr 0 0),(2,vi p.d1)]),(.code (cw Tryz.f193 [0])::sk Tryz.f193 [0]),[],none⟩,⟨141,29,.leaf,[.ops (ow Tryz.f141 [1,1,1,1]) ((ow Tryz.f141 [1,1,1,1]).toList.drop 4)],[],none⟩,⟨93,101,(en [(6,.ptr 1 0),(10,.ptr 0 0),(13,vi p.d2)]),(.rR (ow Tryz.f93 [1,1,1,1,0,0,1,1,1,1,1,0]) [0,0,0,4,0,16,48,124,255] 8 [] []::sk Tryz.f93 [1,1,1,1,0,0,1,1,1,1,1,0]),[],none⟩],[.ay false (dc fA p.d3),.ay false (dc qO p.d4++dc qO p.d5 ++ [vi p.d6,vb p.d7,vi p.d8,vi p.d9,.gi true,.gi true,vi p.Xm,vi p.d11]),.aZ]⟩
 | .c4 p=>⟨[⟨193,24,(en [(0,.agg (dc bM p.e0)),(1,.ptr 0 0),(2,vi p.e1)]),(.code (cw Tryz.f193 [0])::sk Tryz.f193 [0]),[],none⟩,⟨141,29,.leaf,[.ops (ow Tryz.f141 [1,1,1,1]) ((ow Tryz.f141 [1,1,1,1]).toList.drop 4)],[],none⟩,⟨93,101,(en [(6,.ptr 1 0),(10,.ptr 0 0),(13,vi p.e2)]),(.ops (ow Tryz.f93 [1,1,1,1,0,0,1,1,1,1,1,1,1,0]) ((ow Tryz.f93 [1,1,1,1,0,0,1,1,1,1,1,1,1,0]).toList.drop 4)::sk Tryz.f93 [1,1,1,1,0,0,1,1,1,1,1,1,1,0]),[],none⟩],[.ay false (dc fA p.e3),.ay false (dc qO p.e4++dc qO p.e5 ++ [vi p.e6,vb p.e7,vi p.e8,vi p.e9,.gi true,.gi true,vi p.e10,vi p.e11]),.aZ]⟩
abbrev Hw(A:aS)(m:ax)(n:Node):=(A.k j_ (m,n,(A.bK n.2.1 1)))
abbrev aa1(A:aS)(m:ax)(n:Node)(c:List Seen):LT (Node×Int×Bool×Int) WM:=(.ao (.c0 ⟨(A.k FX (m.1,c)).2.1,m,(0,0,0,0,0,0,0),(0,0,0,0,0,0,0),0,false,0,0,0,0,(Hw A m n).1,(A.k FX (m.1,c)).1⟩))
def alH(A:aS)(m:ax)(n:Node)(c:List Seen):LT (Node×Int×Bool×Int) WM:=.br (A.cr (Hw A m n).2 0) (.ret ((0,0,(0,0,0,0,0),(0,0,0,0,0,0,0),0,false,0,0,([]:List Int),([]:List iN),0,0),0,false,(Hw A m n).2)) (.br (A.cr (A.l c) 2) (.ret ((0,0,(0,0,0,0,0),(0,0,0,0,0,0,0),0,false,0,0,([]:List Int),([]:List iN),0,0),0,false,2)) (.br (A.not (A.k FX (m.1,c)).2.2) (.ret ((Hw A m n).1,0,false,0)) (.br (A.bK (A.k FX (m.1,c)).1.1 1) (.br (A.bK (A.k FX (m.1,c)).1.2.2.2.1 (Hw A m n).1.1) (.ret ((Hw A m n).1,0,false,0)) (aa1 A m n c)) (aa1 A m n c))))
def Ej(A:aS):WM->LT (Node×Int×Bool×Int) WM
 | .c0 p=>.br (A.bK p.kU.1 1) (.br (A.not p.jd.2.2.2.2.2.1) (.ret ((p.jd.1,p.jd.2.1,p.jd.2.2.1,p.jd.2.2.2.1,(A.k DD (p.a1,p.jd.1)),true,p.jd.2.2.2.2.2.2),p.a0,false,0)) (.br (A.bK p.kU.1 1) (.ap (A.bU 0 p.kU.2.2.2.1) (.ao (.c1 ⟨p.a1,p.kU,(0,p.kU.2.2.2.1,0,0,(A.b .shl .i64 1 p.kU.2.2.2.1)),p.a0,p.jd,p.a2,p.a3,p.a4,p.a5,p.a6,p.a7,p.a8,p.a9⟩))) (.br (A.k R6 (p.a1,p.jd,p.kU)) (.ao (.c2 ⟨p.a1,p.kU,p.kU.2.2.1,p.a0,p.jd,p.a2,p.a3,p.a4,p.a5,p.a6,p.a7,p.a8,p.a9⟩)) (.ret (p.jd,0,false,0))))) (.br (A.bK p.kU.1 1) (.ap (A.bU 0 p.kU.2.2.2.1) (.ao (.c1 ⟨p.a1,p.kU,(0,p.kU.2.2.2.1,0,0,(A.b .shl .i64 1 p.kU.2.2.2.1)),p.a0,p.jd,p.a2,p.a3,p.a4,p.a5,p.a6,p.a7,p.a8,p.a9⟩))) (.br (A.k R6 (p.a1,p.jd,p.kU)) (.ao (.c2 ⟨p.a1,p.kU,p.kU.2.2.1,p.a0,p.jd,p.a2,p.a3,p.a4,p.a5,p.a6,p.a7,p.a8,p.a9⟩)) (.ret (p.jd,0,false,0))))
 | .c1 p=>.br (A.bK p.b1.1 4) (.br (A.bK (A.k DF (p.b4.2.2.2.2.2.2.2,p.b2.2.1,p.b1.2.2.2.2)).2 0) (.ao (.c3 ⟨p.b0,p.b1.2.1,p.b3,(p.b4.1,3,p.b2,(p.b4.1,p.b0.1,p.b2.2.2.2.2,1,0,0,0),0,false,0,(A.k DF (p.b4.2.2.2.2.2.2.2,p.b2.2.1,p.b1.2.2.2.2)).1),p.b5,p.b6,p.b7,p.b8,p.b9,p.b10,p.b11,p.b12⟩)) (.ao (.c3 ⟨p.b0,p.b1.2.1,p.b3,(p.b4.1,3,p.b2,(p.b4.1,p.b0.1,p.b2.2.2.2.2,1,0,0,0),0,false,0,p.b4.2.2.2.2.2.2.2),p.b5,p.b6,p.b7,p.b8,p.b9,p.b10,p.b11,p.b12⟩))) (.ao (.c3 ⟨p.b0,p.b1.2.1,p.b3,(p.b4.1,3,p.b2,(p.b4.1,p.b0.1,p.b2.2.2.2.2,1,0,0,0),0,false,0,p.b4.2.2.2.2.2.2.2),p.b5,p.b6,p.b7,p.b8,p.b9,p.b10,p.b11,p.b12⟩))
 | .c2 p=>.br (A.bK p.c1.1 4) (.br (A.bK (A.k DF (p.c4.2.2.2.2.2.2.2,p.c2.2.1,p.c1.2.2.2.2)).2 0) (.ao (.c4 ⟨p.c0,p.c1.2.1,p.c3,(p.c4.1,3,p.c2,(p.c4.1,p.c0.1,p.c2.2.2.2.2,1,0,0,0),0,false,0,(A.k DF (p.c4.2.2.2.2.2.2.2,p.c2.2.1,p.c1.2.2.2.2)).1),p.c5,p.c6,p.c7,p.c8,p.c9,p.c10,p.c11,p.c12⟩)) (.ao (.c4 ⟨p.c0,p.c1.2.1,p.c3,(p.c4.1,3,p.c2,(p.c4.1,p.c0.1,p.c2.2.2.2.2,1,0,0,0),0,false,0,p.c4.2.2.2.2.2.2.2),p.c5,p.c6,p.c7,p.c8,p.c9,p.c10,p.c11,p.c12⟩))) (.ao (.c4 ⟨p.c0,p.c1.2.1,p.c3,(p.c4.1,3,p.c2,(p.c4.1,p.c0.1,p.c2.2.2.2.2,1,0,0,0),0,false,0,p.c4.2.2.2.2.2.2.2),p.c5,p.c6,p.c7,p.c8,p.c9,p.c10,p.c11,p.c12⟩))
 | .c3 p=>.br (A.bK (A.k AX (p.d0,p.d3.2.2.1,p.d1)).2 0) (.ret ((p.d3.1,p.d3.2.1,(A.k AX (p.d0,p.d3.2.2.1,p.d1)).1,p.d3.2.2.2),p.d2,true,0)) (.ret (p.d3,p.d2,true,0))
 | .c4 p=>.br (A.bK (A.k AX (p.e0,p.e3.2.2.1,p.e1)).2 0) (.ret ((p.e3.1,p.e3.2.1,(A.k AX (p.e0,p.e3.2.2.1,p.e1)).1,p.e3.2.2.2),p.e2,true,0)) (.ret (p.e3,p.e2,true,0))
theorem Xs(l:cZ m n=0)(i:zP f=true)(g:SU m n f=true):(sL n.2.2.2.2.2.2.2 f.2.2.1.2.1 f.2.2.2.2).2=0:=by
 have c:=fH.1 (df l).2;simp[SU,fQ,Bc,sK] at g;have j:=ye g.2.2.2.1;simp[zP,fQ,sK] at i;have h:=c.2.2.2.2.2.1;rw[sL,c.2.2.2.1,da (show 0<=f.2.2.1.2.1/\f.2.2.1.2.1<=(n.2.2.2.2.2.2.2.2.2.1.length:Int)-1 by rw[h];exact j.2.1),gI (show ¬8<(f.2.2.2.2.length:Int) by omega)];rfl
theorem ajX{p:VW}:aW (Ej af) (.ao (.c3 p)) ((p.d3.1,p.d3.2.1,qa p.d0 p.d3.2.2.1 p.d1,p.d3.2.2.2),p.d2,true,0):=by
 rw[aB,Ej];refine bi (p:=(Em p.d0 p.d3.2.2.1 p.d1).2=0) dE (λh=>?_) λh=>?_
 ·exact aQ (by rw[qa,da h];rfl) (.ret _)
 ·exact aQ (by rw[qa,gI h];rfl) (.ret _)
theorem YG{p:VX}:aW (Ej af) (.ao (.c4 p)) ((p.e3.1,p.e3.2.1,qa p.e0 p.e3.2.2.1 p.e1,p.e3.2.2.2),p.e2,true,0):=by
 rw[aB,Ej];refine bi (p:=(Em p.e0 p.e3.2.2.1 p.e1).2=0) dE (λh=>?_) λh=>?_
 ·exact aQ (by rw[qa,da h];rfl) (.ret _)
 ·exact aQ (by rw[qa,gI h];rfl) (.ret _)
theorem ajV{p:VU}(h:p.b1.1=1):aW (Ej af) (.ao (.c1 p)) (zh p.b0 p.b4 p.b2 p.b1,p.b3,true,0):=by
 rw[aB,Ej];refine(ak (by rw[dE];simp_all)).2 (aQ ?_ ajX);rw[zh,gI (show ¬p.b1.1=4 by omega)];rfl
theorem ajW{p:VV}(h:p.c1.1=4->(sL p.c4.2.2.2.2.2.2.2 p.c2.2.1 p.c1.2.2.2.2).2=0):aW (Ej af) (.ao (.c2 p)) (zh p.c0 p.c4 p.c2 p.c1,p.c3,true,0):=by
 rw[aB,Ej];refine bi (p:=p.c1.1=4) dE (λg=>?_) λg=>aQ (by rw[zh,gI g];rfl) YG;exact(al (Xb (h g))).2 (aQ (by rw[zh,da g];rfl) YG)
variable{t:Int}
theorem ajU{p:VT}(c:p.a0=t)(g:p.a1=m)(i:p.jd=n)(l:p.kU=f)(o:0<=f.2.2.2.1)(j:SU m n f=true->(sL n.2.2.2.2.2.2.2 f.2.2.1.2.1 f.2.2.2.2).2=0):aW (Ej af) (.ao (.c0 p)) (bif decide (f.1=1) then(bif !n.2.2.2.2.2.1 then((n.1,n.2.1,n.2.2.1,n.2.2.2.1,(vG m n.1).1,true,n.2.2.2.2.2.2),t,false,0) else(zh m n (0,f.2.2.2.1,0,0,af.b .shl .i64 1 f.2.2.2.1) f,t,true,0)) else bif SU m n f then(zh m n f.2.2.1 f,t,true,0) else(n,0,false,0)):=by
 rw[aB,Ej,c,g,i,l];refine bi (p:=f.1=1) dE (λh=>?_) λh=>?_
 ·rw[da h,cond_true]
  cases hb:n.2.2.2.2.2.1
  ·exact(al rfl).2 (.ret _)
  ·exact(ak rfl).2 ((al (by rw[dE];simp_all)).2 (au.2 ⟨da o,ajV h⟩))
 ·rw[gI h,cond_false]
  refine(ak (by rw[dE];simp_all)).2 (?_);rw[show af.k R6 (m,n,f)=SU m n f from rfl];cases hj:SU m n f
  ·exact(ak rfl).2 (.ret _)
  ·exact(al rfl).2 (ajW λ_=>j hj)
theorem aoT{l:List Seen}:aW (Ej af) (alH af m n l) (lg m n l true):=by
 unfold alH aa1 Hw lg;refine ?_;rw[show af.k j_ (m,n,af.bK n.2.1 1)=m_ m n (af.bK n.2.1 1) from rfl,dE,m_];by_cases h:cZ m n=0
 ·rw[da h,cond_true,cond_true]
  cases decide (n.2.1=1)
  ·exact(al rfl).2 (.ret _)
  rw[cond_true,cond_true];refine(ak rfl).2 (bi (p:=¬(l.length:Int)=2) dM (λo=>aQ (by rw[gI o];rfl) (.ret _)) λo=>?_);rw[da (dx.1 o),cond_true,show af.k FX (m.1,l)=iY m.1 l from rfl];cases he:(iY m.1 l).2.2
  ·exact(al rfl).2 (.ret _)
  obtain⟨z,A,q⟩:=XI he;have v:=Ys q;have B:=λ{a b c d e g i j}=>ajU (p:=⟨(iY m.1 l).2.1,m,a,b,c,d,e,g,i,j,n,(iY m.1 l).1⟩) (m:=m) (n:=n) (f:=(iY m.1 l).1) (t:=(iY m.1 l).2.1) rfl rfl rfl rfl v.1 (Xs h q);generalize iY m.1 l=x at *;refine(ak rfl).2 (bi (p:=x.1.1=1) dE (λr=>bi (p:=x.1.2.2.2.1=n.1) dE (λu=>?_) λu=>?_) λr=>?_)
  ·exact aQ (by simp_all) (.ret _)
  all_goals simp_all
 ·rw[gI h];exact(al (wY h)).2 (.ret _)
def X0:(ax×Node×List Seen)->(Node×Int×Bool×Int):=λ(m,n,s)=>lg m n s true
def arh:aM:=.all [bM,fA,(.slice qe)] [fA,yI,.bool,yI] X0
theorem apC:Sd 93 arh:=fa (bp ar dK sl 93 [] [⟨93,10, [[3,6,10,12,13]]⟩,⟨141,0, [[0,1,2,3], [6,10,13]]⟩,⟨193,0, [[0,1,2], [], [6,10,13]]⟩] (λA (m,n,c)=>alH A m n c) Ej ait (kz (fc Tryz.func93 (fc Tryz.func80 (fc Tryz.func141 (fc Tryz.func192 (fc Tryz.func193 fz))))) (sc D4 (sc apM (sc OH (sc apN (sc agQ (sc aaE sz))))))) (λA y=>match y with |.c0 p=>⟨42,sl,by kernel_rfl⟩|.c1 p=>⟨125,sl,by kernel_rfl⟩|.c2 p=>⟨125,sl,by kernel_rfl⟩|.c3 p=>⟨51,sl,by kernel_rfl⟩|.c4 p=>⟨51,sl,by kernel_rfl⟩) λ(m,n,c) f h=>aoT)
instance:DecidableEq iN:=inferInstanceAs (DecidableEq (List Int×Int))
instance:DecidableEq fB:=inferInstanceAs (DecidableEq (Int×Int×Int×Int×Int))
instance:DecidableEq vq:=inferInstanceAs (DecidableEq (Int×Int×Int×Int×Int×Int×Int))
instance:DecidableEq jm:=inferInstanceAs (DecidableEq (Int×List Int×List iN×Int×Int))
def anb:DecidableEq (Int×Bool×Int×jm):=inferInstance
def anc:DecidableEq (fB×vq×Int×Bool×Int×jm):=have:=anb;inferInstance
instance:DecidableEq Node:=have:=anc;inferInstanceAs (DecidableEq (Int×Int×(fB×vq×Int×Bool×Int×jm)))
abbrev lu(A:aS)(m:ax)(n:Node):=(A.k j_ (m,n,(A.bK n.2.1 1)))
def alR(A:aS)(m:ax)(n:Node):LT (Node×sF×Bool×Int) Empty:=.br (A.cr (lu A m n).2 0) (.ret ((0,0,(0,0,0,0,0),(0,0,0,0,0,0,0),0,false,0,0,([]:List Int),([]:List iN),0,0),(0,0,(0,0,0,0,0),0,([]:List Int)),false,(lu A m n).2)) (.br (A.jw (A.b .sub .i64 (lu A m n).1.2.2.2.2.1 1) 0) (.ret (((lu A m n).1.1,(lu A m n).1.2.1,(lu A m n).1.2.2.1,(lu A m n).1.2.2.2.1,(A.b .sub .i64 (lu A m n).1.2.2.2.2.1 1),(lu A m n).1.2.2.2.2.2),(0,0,(0,0,0,0,0),0,([]:List Int)),false,0)) (.ap (A.and (A.bU 0 (lu A m n).1.1) (A.bD (lu A m n).1.1 (A.l m.2.2.2.2.2.2.1))) (.br (A.not (A.n .bool m.2.2.2.2.2.2.1 (lu A m n).1.1:Bool)) (.ret (((lu A m n).1.1,(lu A m n).1.2.1,(lu A m n).1.2.2.1,(lu A m n).1.2.2.2.1,(A.k DD (m,(lu A m n).1.1)),(lu A m n).1.2.2.2.2.2),(0,0,(0,0,0,0,0),0,([]:List Int)),false,0)) (.ap (A.bU 0 (lu A m n).1.1) (.ret (((lu A m n).1.1,2,(0,(lu A m n).1.1,0,0,(A.b .shl .i64 1 (lu A m n).1.1)),((lu A m n).1.1,m.1,(A.b .shl .i64 1 (lu A m n).1.1),1,0,0,0),0,(lu A m n).1.2.2.2.2.2),(1,0,(0,0,0,0,0),(lu A m n).1.1,([]:List Int)),true,0))))))
def BZ:sF:=(0,0,(0,0,0,0,0),0,([]:List Int))
def iF(m:ax)(n:Node):Node×sF×Bool×Int:=
 bif decide (cZ m n=0) then
  bif decide (n.2.1=1) then
   bif decide (0<n.2.2.2.2.1-1) then((n.1,n.2.1,n.2.2.1,n.2.2.2.1,n.2.2.2.2.1-1,n.2.2.2.2.2),BZ,false,0)
   else bif (af.n .bool m.2.2.2.2.2.2.1 n.1:Bool) then((n.1,2,(0,n.1,0,0,af.b .shl .i64 1 n.1),(n.1,m.1,af.b .shl .i64 1 n.1,1,0,0,0),0,n.2.2.2.2.2),(1,0,(0,0,0,0,0),n.1,([]:List Int)),true,0)
   else((n.1,n.2.1,n.2.2.1,n.2.2.2.1,(vG m n.1).1,n.2.2.2.2.2),BZ,false,0)
  else(jY,BZ,false,181)
 else(jY,BZ,false,cZ m n)
theorem aeb{m:ax}{n:Int}:(vG m n).1<=9223372036854775807:=by
 unfold vG;cases decide (pR m n=0)
 ·simp_all
 ·rw[cond_true,gz,IntKind.wrap_i64];omega
theorem afI(h:cZ m n=0)(f:n.2.1=1):1<=n.2.2.2.2.1/\af.b .sub .i64 n.2.2.2.2.1 1=n.2.2.2.2.1-1:=by
 have c:=(fH.1 (df h).2).2.2.2.2.2.2.2.2.1;rw[C7,da f,cond_true,sK] at c;have:=@aeb m n.1;exact⟨c.1,by rw[gg,lC (by omega) (by omega)]⟩
theorem ao6:aW Empty.elim (alR af m n) (iF m n):=by
 unfold alR lu iF;rw[show af.k j_ (m,n,af.bK n.2.1 1)=m_ m n (af.bK n.2.1 1) from rfl,dE,m_];by_cases h:cZ m n=0
 ·rw[da h,cond_true,cond_true]
  by_cases c:n.2.1=1
  ·obtain⟨l,i⟩:=afI h c
   have g:=(fH.1 (df h).2).1;have j:=iP (df h).1;rw[da c,cond_true,cond_true,i];refine(ak rfl).2 (bi (p:=0<n.2.2.2.2.1-1) rfl (λf=>?_) λf=>au.2 ⟨yj j.2.2.1 g.1 (show n.1<m.1 by omega),?_⟩)
   ·exact aQ (by rw[da f];rfl) (.ret _)
   rw[gI f,cond_false];cases (af.n .bool m.2.2.2.2.2.2.1 n.1:Bool)
   ·exact(al rfl).2 (.ret _)
   ·refine(ak rfl).2 (au.2 ⟨da (show 0<=n.1 from g.1),?_⟩)
    exact .ret _
  ·rw[gI c]
   exact(al rfl).2 (.ret _)
 ·rw[gI h];exact(al (wY h)).2 (.ret _)
def FW:(ax×Node)->(Node×sF×Bool×Int):=λ(m,n)=>iF m n
def ars:aM:=.all [bM,fA] [fA,Io,.bool,yI] FW
theorem apK:Sd 102 ars:=fa (b_ ar dK sl 130 [] (λA (m,n)=>alR A m n) (kz (fc Tryz.func102 (fc Tryz.func80 fz)) (sc D4 (sc OH sz))) λ(m,n) c h=>ao6)
abbrev tq(A:aS)(m:ax)(n:Node):=(A.k j_ (m,n,(A.k lY n)))
abbrev Kr(A:aS)(m:ax)(n:Node):=(A.k af4 ((tq A m n).1.2.2.1,m.1))
abbrev aa4(A:aS)(m:ax)(n:Node):LT (Node×Int) Empty:=(.ret (((tq A m n).1.1,(tq A m n).1.2.1,(Kr A m n).1,(tq A m n).1.2.2.2),(Kr A m n).2))
def alQ(A:aS)(m:ax)(n:Node):LT (Node×Int) Empty:=.br (A.cr (tq A m n).2 0) (.ret ((0,0,(0,0,0,0,0),(0,0,0,0,0,0,0),0,false,0,0,([]:List Int),([]:List iN),0,0),(tq A m n).2)) (.br (A.bK (Kr A m n).2 0) (.br (A.bK (Kr A m n).1.2.1 0) (.ret (((tq A m n).1.1,(tq A m n).1.2.1,(Kr A m n).1,(tq A m n).1.2.2.2.1,(tq A m n).1.2.2.2.2.1,(tq A m n).1.2.2.2.2.2.1,(tq A m n).1.2.2.2.2.2.2.1,(A.k X5 (tq A m n).1.2.2.2.2.2.2.2).1),(A.k X5 (tq A m n).1.2.2.2.2.2.2.2).2)) (aa4 A m n)) (aa4 A m n))
def jq(m:ax)(n:Node):Node×Int:=
 bif decide (cZ m n=0) then
  bif kM n then
   bif decide ((p_ n.2.2.1 m.1).1.2.1=0) then((n.1,n.2.1,(p_ n.2.2.1 m.1).1,n.2.2.2.1,n.2.2.2.2.1,n.2.2.2.2.2.1,n.2.2.2.2.2.2.1,(I9 n.2.2.2.2.2.2.2).1),0)
   else((n.1,n.2.1,(p_ n.2.2.1 m.1).1,n.2.2.2),0)
  else(jY,181)
 else(jY,cZ m n)
theorem step_ok(h:cZ m n=0)(g:kM n=true):(p_ n.2.2.1 m.1).2=0:=by
 have c:=(fH.1 (df h).2).2.2.2.2.2.2.2.1;rw[zG,g,cond_true,fQ] at c;have f:=c.1;simp[jr,fQ,sK] at f;rw[p_,da f.1]
 grind
theorem akU(h:cZ m n=0):(I9 n.2.2.2.2.2.2.2).2=0:=by
 rw[I9,Bi h];rfl
theorem aoQ:aW Empty.elim (alQ af m n) (jq m n):=by
 unfold alQ aa4 Kr tq jq;rw[show af.k j_ (m,n,af.k lY n)=m_ m n (kM n) from rfl,m_];by_cases h:cZ m n=0
 ·rw[da h,cond_true,cond_true]
  cases h1:kM n
  ·exact(al rfl).2 (.ret _)
  have f:=step_ok h h1;have g:=akU h;refine(ak rfl).2 ((al (Xb f)).2 (bi (p:=(p_ n.2.2.1 m.1).1.2.1=0) dE (λc=>aQ ?_ (.ret _)) λc=>aQ ?_ (.ret _)))
  ·rw[da c];exact congrArg (Prod.mk _) g
  ·rw[gI c];exact congrArg (Prod.mk _) f
 ·rw[gI h];exact(al (wY h)).2 (.ret _)
def X2:(ax×Node)->(Node×Int):=λ(m,n)=>jq m n
def arq:aM:=.all [bM,fA] [fA,yI] X2
theorem apJ:Sd 99 arq:=fa (b_ ar dK sl 80 [] (λA (m,n)=>alQ A m n) (kz (fc Tryz.func99 fz) (sc BG (sc D4 (sc apW (sc apX sz))))) λ(m,n) c h=>aoQ)
def t23(A:aS)(j:Int)(l:Int)(i:Int)(h:Int)(c:Int)(g:Int)(f:Int):LT (vq×Int×Int) Empty:=.br (A.cr (A.k rz (j,l,i,h,c,g,f)) 0) (.ret ((0,0,0,0,0,0,0),0,(A.k rz (j,l,i,h,c,g,f)))) (.br (A.bU h c) (.ret ((j,l,i,h,c,g,f),2,0)) (.ap (A.bU 0 j) (.ret ((j,l,(A.b .or .i64 i (A.b .shl .i64 1 j)),1,0,1,0),1,0))))
def xc:vq->(vq×Int×Int):=λ(j,l,i,h,g,f,c)=>(t23 af j l i h g f c).val (Ty.aR [qO,yI,yI])
def avi:aM:=.all [qO] [qO,yI,yI] xc
theorem apB:Sd 268 avi:=fa (aP ar dK sl 67 [] (λA (l,m,j,i,g,f,c)=>t23 A l m j i g f c) (kz (fc Tryz.func268 fz) (sc QY sz)) (λ((l,m,j,i,g,f,c):vq) o h=>by
 show(t23 af l m j i g f c).pre=true;simp only[t23,LT.pre,STD,bne_iff_ne,beq_iff_eq,bne_eq_false_iff_eq,beq_eq_false_iff_ne];simp only[Ty.jK,Ty.has,J2] at h
 (repeat' (first|intro _|constructor))<;>(try (have n:=ib.1 (by assumption);unfold og at n;omega))))
def t27(A:aS)(j:Int)(l:Int)(i:Int)(h:Int)(g:Int)(f:Int)(c:Int):LT (vq×Int×Int) Empty:=.br (A.bK (A.k rz (j,l,i,h,g,f,c)) 0) (.br (A.bK h 0) (.br (A.bK g 0) (.ret ((j,l,i,h,g,f,c),3,0)) (.ret (A.k xc (j,l,i,h,g,f,c)))) (.ret (A.k xc (j,l,i,h,g,f,c)))) (.ret (A.k xc (j,l,i,h,g,f,c)))
def Cs:vq->(vq×Int×Int):=λ(j,l,i,h,g,f,c)=>(t27 af j l i h g f c).val (Ty.aR [qO,yI,yI])
def avl:aM:=.all [qO] [qO,yI,yI] Cs
theorem au_:Sd 269 avl:=fa (aP ar dK sl 43 [] (λA (j,l,i,h,g,f,c)=>t27 A j l i h g f c) (kz (fc Tryz.func269 fz) (sc apB (sc QY sz))) (λ_ _ _=>LT.bE (by kernel_rfl)))
abbrev aa6(A:aS)(n:Node):LT (vq×Int) Empty:=(.br (A.bK n.2.1 3) (.br (A.cr (A.k Cs n.2.2.2.1).2.2 0) (.ret (n.2.2.2.1,4)) (.ret ((A.k Cs n.2.2.2.1).1,(A.k Cs n.2.2.2.1).2.1))) (.br (A.cr (A.k xc n.2.2.2.1).2.2 0) (.ret (n.2.2.2.1,4)) (.ret ((A.k xc n.2.2.2.1).1,(A.k xc n.2.2.2.1).2.1))))
def al2(A:aS)(n:Node):LT (vq×Int) Empty:=.br (A.bK n.2.1 2) (.br (A.bD n.2.2.2.1.2.2.2.1 2) (.ret (n.2.2.2.1,4)) (.br (A.bU n.2.2.2.1.2.2.2.1 n.2.2.2.1.2.2.2.2.1) (.ret (n.2.2.2.1,4)) (aa6 A n))) (aa6 A n)
def qi(n:Node):vq×Int:=bif decide (n.2.1=2)&&(decide (n.2.2.2.1.2.2.2.1<2)||decide (n.2.2.2.1.2.2.2.1<=n.2.2.2.1.2.2.2.2.1)) then(n.2.2.2.1,4) else bif decide (n.2.1=3) then((Cs n.2.2.2.1).1,(Cs n.2.2.2.1).2.1) else((xc n.2.2.2.1).1,(xc n.2.2.2.1).2.1)
theorem ael{v:vq}(h:vA v=0):(xc v).2.2=0:=by
 simp[xc,t23,LT.val,bo,chk]
 grind
theorem ao9(h:vA n.2.2.2.1=0):aW Empty.elim (al2 af n) (qi n):=by
 unfold al2 aa6 qi;have j:=ael h;have l:(Cs n.2.2.2.1).2.2=0:=by
  generalize n.2.2.2.1=v at *;simp[Cs,t27,LT.val,bo]
  grind
 have c:af.cr (af.k xc n.2.2.2.1).2.2 0=false:=IJ j;have f:af.cr (af.k Cs n.2.2.2.1).2.2 0=false:=IJ l;refine bi (p:=n.2.1=2) dE (λg=>bi (p:=n.2.2.2.1.2.2.2.1<2) rfl (λm=>aQ ?_ (.ret _)) λm=>bi (p:=n.2.2.2.1.2.2.2.1<=n.2.2.2.1.2.2.2.2.1) rfl (λo=>aQ ?_ (.ret _)) λo=>(ak (by rw[dE];simp_all)).2 ((ak c).2 (aQ ?_ (.ret _)))) λg=>bi (p:=n.2.1=3) dE (λi=>(ak f).2 (aQ ?_ (.ret _))) λi=>(ak c).2 (aQ ?_ (.ret _))
 ·simp_all
 ·simp_all
 ·rw[da g,gI m,gI o,gI (show ¬n.2.1=3 by omega)];rfl
 ·rw[gI g,da i];rfl
 ·rw[gI g,gI i];rfl
def FZ:Node->(vq×Int):=qi
def ZJ:Node->Bool:=λn=>decide (vA n.2.2.2.1=0)
def arH:aM:=⟨[fA], [qO,yI],ZJ,FZ,false⟩
theorem apT:Sd 221 arH:=b_ ar dK sl 83 [] (λA n=>al2 A n) (kz (fc Tryz.func221 fz) (sc apB (sc au_ sz))) λ(n:Node) c h=>ao9 (of_decide_eq_true c)
def ajp(m:ax)(k n:Int):Int:=af.n yI (af.n fv m.2.2.2.2.2.2.2 k:Mode).1 n
def Uj(m:ax)(n:Node):Int:=ajp m n.2.2.1.2.2.1 n.1
def apa(m:ax)(n:Node):Int:=bif decide ((EY m n.2.2.1 n.2.2.2.2.2.2.2.2.2.2.2).2=0) then(EY m n.2.2.1 n.2.2.2.2.2.2.2.2.2.2.2).1 else 0
def QX(m:ax)(n:Node):sF:=((kS m n.2.2.1.2.2.1 n.1).1,apa m n,n.2.2.1,0,bif decide ((kS m n.2.2.1.2.2.1 n.1).1=3) then([]:List Int) else(Ha n.2.2.2.2.2.2.2 (Uj m n)).1)
def Vf(m:ax)(n:Node):Bool:=decide ((kS m n.2.2.1.2.2.1 n.1).2=0)&&iI n.2.2.2.2.2.2.2
theorem adx{n:Int}(g:dq m=true)(h:0<=n/\n<=m.1-1)(x:Mode)(c:o4 m x=true):0<=x.1.getD n.toNat 0/\x.1.getD n.toNat 0<=8:=by
 have l:=vg c;have i:=(iP g).2.2.1;simp[o4,fQ] at c;have f:=c.2;have l1:m.2.2.2.2.2.2.1.length=x.1.length:=by omega
 have l2:x.2.1.length=x.1.length:=by omega
 rw[zX l1 l2,fQ] at f;have j:n.toNat<x.1.length:=by omega
 simp_all
theorem Xo{k n:Int}(f:dq m=true)(g:0<=n/\n<=m.1-1)(c:0<=k/\k<iJ m):0<=ajp m k n/\ajp m k n<=8:=adx f g _ (Bg f c.1 c.2)
theorem aaw{c:jm}{k:Int}(h:iI c=true)(f:0<=k/\k<=8):(Ha c k).2=0:=by
 rw[Ha,h,cond_true,da f];rfl
abbrev OP(A:aS)(m:ax)(n:Node):=(A.k X6 (n.2.2.2.2.2.2.2,(A.n yI (A.n fv m.2.2.2.2.2.2.2 n.2.2.1.2.2.1:Mode).1 n.1:Int)))
abbrev BM(A:aS)(m:ax)(n:Node):=(A.k y_ (m,n.2.2.1.2.2.1,n.1))
abbrev aa7(A:aS)(m:ax)(n:Node):=(A.and (A.bU 0 n.1) (A.bD n.1 (A.l (A.n fv m.2.2.2.2.2.2.2 n.2.2.1.2.2.1:Mode).1)))
def al3(A:aS)(m:ax)(n:Node):LT (sF×Int) Empty:=.br (A.cr (BM A m n).2 0) (.ret ((0,0,(0,0,0,0,0),0,([]:List Int)),(BM A m n).2)) (.br (A.bK (A.k Nx (m,n.2.2.1,n.2.2.2.2.2.2.2.2.2.2.2)).2 0) (.br (A.bK (BM A m n).1 3) (.ret (((BM A m n).1,(A.k Nx (m,n.2.2.1,n.2.2.2.2.2.2.2.2.2.2.2)).1,n.2.2.1,0,([]:List Int)),0)) (.ap (A.and (A.bU 0 n.2.2.1.2.2.1) (A.bD n.2.2.1.2.2.1 (A.l m.2.2.2.2.2.2.2))) (.ap (aa7 A m n) (.ret (((BM A m n).1,(A.k Nx (m,n.2.2.1,n.2.2.2.2.2.2.2.2.2.2.2)).1,n.2.2.1,0,(OP A m n).1),(OP A m n).2))))) (.br (A.bK (BM A m n).1 3) (.ret (((BM A m n).1,0,n.2.2.1,0,([]:List Int)),0)) (.ap (A.and (A.bU 0 n.2.2.1.2.2.1) (A.bD n.2.2.1.2.2.1 (A.l m.2.2.2.2.2.2.2))) (.ap (aa7 A m n) (.ret (((BM A m n).1,0,n.2.2.1,0,(OP A m n).1),(OP A m n).2))))))
theorem ao4(h:Vf m n=true):aW Empty.elim (al3 af m n) (QX m n,0):=by
 rw[Vf,fQ,sK] at h;obtain⟨i,f,c⟩:=ye h.1;have j:=vg (Bg i c.1 c.2);have l:=aaw h.2 (Xo i f c);unfold al3 aa7 BM OP QX apa;rw[show af.k y_ (m,n.2.2.1.2.2.1,n.1)=kS m n.2.2.1.2.2.1 n.1 from rfl,show af.k Nx (m,n.2.2.1,n.2.2.2.2.2.2.2.2.2.2.2)=EY m n.2.2.1 n.2.2.2.2.2.2.2.2.2.2.2 from rfl,show af.k X6 (n.2.2.2.2.2.2.2,(af.n yI (af.n fv m.2.2.2.2.2.2.2 n.2.2.1.2.2.1:Mode).1 n.1:Int))=Ha n.2.2.2.2.2.2.2 (Uj m n) from rfl]
 have o:∀q:Int,aW (R:=sF×Int) Empty.elim (.br (af.bK (kS m n.2.2.1.2.2.1 n.1).1 3) (.ret (((kS m n.2.2.1.2.2.1 n.1).1,q,n.2.2.1,0,([]:List Int)),0)) (.ap (af.and (af.bU 0 n.2.2.1.2.2.1) (af.bD n.2.2.1.2.2.1 (af.l m.2.2.2.2.2.2.2))) (.ap (af.and (af.bU 0 n.1) (af.bD n.1 (af.l (af.n fv m.2.2.2.2.2.2.2 n.2.2.1.2.2.1:Mode).1))) (.ret (((kS m n.2.2.1.2.2.1 n.1).1,q,n.2.2.1,0,(Ha n.2.2.2.2.2.2.2 (Uj m n)).1),(Ha n.2.2.2.2.2.2.2 (Uj m n)).2))))) (((kS m n.2.2.1.2.2.1 n.1).1,q,n.2.2.1,0,bif decide ((kS m n.2.2.1.2.2.1 n.1).1=3) then([]:List Int) else(Ha n.2.2.2.2.2.2.2 (Uj m n)).1),0):=λq=>
  bi (p:=(kS m n.2.2.1.2.2.1 n.1).1=3) dE (λg=>aQ (by simp_all) (.ret _)) λg=>au.2 ⟨yk c.1 c.2,au.2 ⟨yj j.1 f.1 (by omega),aQ (by rw[gI g,show(Ha n.2.2.2.2.2.2.2 (Uj m n)).2=0 from l];rfl) (.ret _)⟩⟩
 refine(ak (IJ h.1)).2 (bi (p:=(EY m n.2.2.1 n.2.2.2.2.2.2.2.2.2.2.2).2=0) dE (λg=>?_) λg=>?_)
 all_goals simp_all
def F1:(ax×Node)->(sF×Int):=λ(m,n)=>(QX m n,0)
def ZK:(ax×Node)->Bool:=λ(m,n)=>Vf m n
def arJ:aM:=⟨[bM,fA], [Io,yI],ZK,F1,false⟩
theorem apV:Sd 223 arJ:=b_ ar dK sl 111 [] (λA (m,n)=>al3 A m n) (kz (fc Tryz.func223 fz) (sc agR (sc ap1 (sc ap2 sz)))) λ((m,n):ax×Node) c h=>ao4 c
def ajS(n:Node)(v:vq):Node:=(n.1,4,(n.2.2.1.1,n.2.2.1.2.1,n.2.2.1.2.2.1,n.2.2.1.2.2.2.1,v.2.2.1),v,n.2.2.2.2.1,false,n.2.2.2.2.2.2)
def akb(n:Node)(s t:Int)(b:Bool)(c:Int):Node:=(n.1,s,(0,0,0,0,0),(0,0,0,0,0,0,0),t,b,c,n.2.2.2.2.2.2.2)
def aey(m:ax)(n:Node):Node×sF×Bool×Int:=((n.1,n.2.1,qa m n.2.2.1 (QX m n).2.1,n.2.2.2),QX m n,true,0)
def D2(m:ax)(n:Node):Node×sF×Bool×Int:=bif decide ((qi n).2=2) then(akb n 5 0 false 1,BZ,false,0) else bif decide ((qi n).2=3) then(akb n 1 (vG m n.1).1 n.2.2.2.2.2.1 2,BZ,false,0) else bif decide ((qi n).2=4) then(akb n 1 (I_ m n.1).1 n.2.2.2.2.2.1 n.2.2.2.2.2.2.1,BZ,false,0) else aey m (ajS n (qi n).1)
def re(m:ax)(n:Node):Node×sF×Bool×Int:=bif decide (cZ m n=0) then(bif kM n&&decide (n.2.2.1.2.1=n.1) then D2 m n else(jY,BZ,false,181)) else(jY,BZ,false,cZ m n)
theorem pQ(h:cZ m n=0)(c:kM n=true):jr m n.2.2.1=true/\vA n.2.2.2.1=0/\n.2.2.2.1.1=n.1/\n.2.2.2.1.2.1=m.1/\n.2.2.1.2.2.2.2=n.2.2.2.1.2.2.1:=by
 have f:=(fH.1 (df h).2).2.2.2.2.2.2.2.1;rw[zG,c,cond_true] at f
 simp_all
theorem ad5{k n:Int}(f:dq m=true)(c:0<=n/\n<=m.1-1)(g:0<=k/\k<iJ m):(kS m k n).2=0:=by
 rw[kS,pR,f,cond_true,da c,da (show 0<=k/\k<=iJ m-1 by omega)];rfl
theorem AS(h:jr m c=true):rQ (c,m.1)=0/\(0<=c.2.2.1/\c.2.2.1<iJ m)/\c.2.2.2.1<=iJ m:=by
 simp[jr,fQ,sK] at h;exact⟨h.1,⟨(wV h.1).2.2.2.1.1,h.2.1⟩,h.2.2⟩
theorem ale{v:vq}(h:cZ m n=0)(c:kM n=true):Vf m (ajS n v)=true:=by
 have f:=fH.1 (df h).2;rw[Vf,fQ];exact⟨da (ad5 (df h).1 f.1 (AS (pQ h c).1).2.1),show iI n.2.2.2.2.2.2.2=true from Bi h⟩
theorem akf:af.k DD (m,i)=(vG m i).1:=rfl
theorem ak1:af.k X4 (m,i)=(I_ m i).1:=rfl
structure O9 where
 (a0:Int) (a1:ax) (a2 a3:vq) (a4:Int) (a5:Bool) (a6 a7 a8 a9:Int) (jd:vq) (kU:Int) (a12:Node)
structure V5 where
 (b0:ax) (b1 b2:vq) (b3:Int) (b4:Bool) (b5 b6 b7 b8:Int) (b9:vq) (b10:Int) (b11:Node)
inductive acy where
 | c0 (p:O9)
 | c1 (p:V5)
noncomputable def aiw:acy->iH
 | .c0 p=>⟨[⟨171,91,(en [(2,.ptr 0 0),(4,.ptr 1 0),(5,.ptr 2 0),(8,.ptr 3 0),(9,vi p.a0)]),(.code (cw Tryz.f171 [1,1,0,0])::sk Tryz.f171 [1,1,0,0]),[],none⟩],[.ay false (dc bM p.a1),.ay false (dc qO p.a2++dc qO p.a3 ++ [vi p.a4,vb p.a5,vi p.a6,vi p.a7,.gi true,.gi true,vi p.a8,vi p.a9]),.ay false (dc qO p.jd ++ [vi p.kU,.gi true]),.ay false (dc fA p.a12),.aZ]⟩
 | .c1 p=>⟨[⟨171,91,(en [(2,.ptr 0 0),(4,.ptr 1 0),(5,.ptr 2 0),(8,.ptr 3 0)]),(.code (cw Tryz.f171 [1,1,1,1,1,1,0])::sk Tryz.f171 [1,1,1,1,1,1,0]),[],none⟩],[.ay false (dc bM p.b0),.ay false (dc qO p.b1++dc qO p.b2 ++ [vi p.b3,vb p.b4,vi p.b5,vi p.b6,.gi true,.gi true,vi p.b7,vi p.b8]),.ay false (dc qO p.b9 ++ [vi p.b10,.gi true]),.ay false (dc fA p.b11),.aZ]⟩
def alP(A:aS)(m:ax)(n:Node):LT (Node×sF×Bool×Int) acy:=.br (A.k lY n) (.eqs (((A.k lY n):Bool)=true) (.ao (.c0 ⟨(A.k j_ (m,n,(A.bK n.2.2.1.2.1 n.1))).2,m,(0,0,0,0,0,0,0),(0,0,0,0,0,0,0),0,false,0,0,0,0,(0,0,0,0,0,0,0),0,(A.k j_ (m,n,(A.bK n.2.2.1.2.1 n.1))).1⟩))) (.eqs (((A.k lY n):Bool)=false) (.ao (.c0 ⟨(A.k j_ (m,n,false)).2,m,(0,0,0,0,0,0,0),(0,0,0,0,0,0,0),0,false,0,0,0,0,(0,0,0,0,0,0,0),0,(A.k j_ (m,n,false)).1⟩)))
def Ov(A:aS):acy->LT (Node×sF×Bool×Int) acy
 | .c0 p=>.br (A.cr p.a0 0) (.ret ((0,0,(0,0,0,0,0),(0,0,0,0,0,0,0),0,false,0,0,([]:List Int),([]:List iN),0,0),(0,0,(0,0,0,0,0),0,([]:List Int)),false,p.a0)) (.ap (A.k ZJ p.a12) (.br (A.bK (A.k FZ p.a12).2 2) (.ret ((p.a12.1,5,(0,0,0,0,0),(0,0,0,0,0,0,0),0,false,1,p.a12.2.2.2.2.2.2.2),(0,0,(0,0,0,0,0),0,([]:List Int)),false,0)) (.br (A.bK (A.k FZ p.a12).2 3) (.ret ((p.a12.1,1,(0,0,0,0,0),(0,0,0,0,0,0,0),(A.k DD (p.a1,p.a12.1)),p.a12.2.2.2.2.2.1,2,p.a12.2.2.2.2.2.2.2),(0,0,(0,0,0,0,0),0,([]:List Int)),false,0)) (.br (A.bK (A.k FZ p.a12).2 4) (.ret ((p.a12.1,1,(0,0,0,0,0),(0,0,0,0,0,0,0),(A.k X4 (p.a1,p.a12.1)),p.a12.2.2.2.2.2),(0,0,(0,0,0,0,0),0,([]:List Int)),false,0)) (.ao (.c1 ⟨p.a1,p.a2,p.a3,p.a4,p.a5,p.a6,p.a7,p.a8,p.a9,p.jd,p.kU,(p.a12.1,4,(p.a12.2.2.1.1,p.a12.2.2.1.2.1,p.a12.2.2.1.2.2.1,p.a12.2.2.1.2.2.2.1,(A.k FZ p.a12).1.2.2.1),(A.k FZ p.a12).1,p.a12.2.2.2.2.1,false,p.a12.2.2.2.2.2.2)⟩))))))
 | .c1 p=>.ap (A.k ZK (p.b0,p.b11)) (.br (A.cr (A.k F1 (p.b0,p.b11)).2 0) (.ret ((0,0,(0,0,0,0,0),(0,0,0,0,0,0,0),0,false,0,0,([]:List Int),([]:List iN),0,0),(0,0,(0,0,0,0,0),0,([]:List Int)),false,(A.k F1 (p.b0,p.b11)).2)) (.br (A.bK (A.k AX (p.b0,p.b11.2.2.1,(A.k F1 (p.b0,p.b11)).1.2.1)).2 0) (.ret ((p.b11.1,p.b11.2.1,(A.k AX (p.b0,p.b11.2.2.1,(A.k F1 (p.b0,p.b11)).1.2.1)).1,p.b11.2.2.2),(A.k F1 (p.b0,p.b11)).1,true,0)) (.ret (p.b11,(A.k F1 (p.b0,p.b11)).1,true,0))))
theorem akI{p:V5}(h:Vf p.b0 p.b11=true):aW (Ov af) (.ao (.c1 p)) (aey p.b0 p.b11):=by
 rw[aB,Ov,aey];refine au.2 ⟨h,(ak rfl).2 (bi (p:=(Em p.b0 p.b11.2.2.1 (QX p.b0 p.b11).2.1).2=0) dE (λg=>aQ ?_ (.ret _)) λg=>aQ ?_ (.ret _))⟩
 ·rw[qa,da g];rfl
 ·rw[qa,gI g];rfl
theorem akH{p:O9}(l:p.a0=0)(o:p.a1=m)(i:p.a12=n)(h:cZ m n=0)(j:kM n=true):aW (Ov af) (.ao (.c0 p)) (D2 m n):=by
 subst o i;rw[aB,Ov,D2,l,akf,ak1,show af.k FZ p.a12=qi p.a12 from rfl];refine(ak rfl).2 (au.2 ⟨da (pQ h j).2.1,bi (p:=(qi p.a12).2=2) dE (λg=>aQ ?_ (.ret _)) λg=>bi (p:=(qi p.a12).2=3) dE (λc=>aQ ?_ (.ret _)) λc=>bi (p:=(qi p.a12).2=4) dE (λf=>aQ ?_ (.ret _)) λf=>?_⟩)
 ·rw[da g];rfl
 ·rw[gI g,da c];rfl
 ·rw[gI g,gI c,da f];rfl
 ·rw[gI g,gI c,gI f]
  exact akI (ale h j)
theorem auW:aW (Ov af) (alP af m n) (re m n):=by
 unfold alP re;rw[show af.k lY n=kM n from rfl];have c:∀q:O9,q.a0=(m_ m n false).2->aW (Ov af) (.ao (.c0 q)) (bif decide (cZ m n=0) then(jY,BZ,false,181) else(jY,BZ,false,cZ m n)):=λq g=>by
  rw[aB,Ov,g,m_];by_cases h:cZ m n=0
  ·rw[da h];exact(al rfl).2 (.ret _)
  ·rw[gI h];exact(al (wY h)).2 (.ret _)
 cases hi:kM n
 ·exact(ak rfl).2 (xH.2 ⟨rfl,c _ rfl⟩)
 ·refine(al rfl).2 (xH.2 ⟨rfl,?_⟩)
  rw[show ∀w,af.k j_ (m,n,w)=m_ m n w from λ_=>rfl,dE,cY];by_cases f:n.2.2.1.2.1=n.1
  ·rw[da f,cond_true]
   by_cases h:cZ m n=0
   ·have e:m_ m n true=(n,0):=by rw[m_,da h];rfl
    rw[da h,e];exact akH rfl rfl rfl h hi
   ·have:=c ⟨(m_ m n true).2,m,(0,0,0,0,0,0,0),(0,0,0,0,0,0,0),0,false,0,0,0,0,(0,0,0,0,0,0,0),0,(m_ m n true).1⟩ (by rw[m_,m_,gI h];rfl)
    simp_all
  simp_all
def af2:(ax×Node)->(Node×sF×Bool×Int):=λ(m,n)=>re m n
def arp:aM:=.all [bM,fA] [fA,Io,.bool,yI] af2
theorem apI:Sd 171 arp:=fa (bp ar dK sl 39 [] [⟨171,2, [[2,4,5,8,9]]⟩,⟨171,18, [[2,4,5,8]]⟩] (λA (m,n)=>alP A m n) Ov aiw (kz (fc Tryz.func171 (fc Tryz.func193 (fc Tryz.func217 fz))) (sc BG (sc D4 (sc OH (sc apT (sc apU (sc apV (sc aaE sz)))))))) (λA y=>match y with |.c0 p=>⟨89,sl,by kernel_rfl⟩|.c1 p=>⟨74,sl,by kernel_rfl⟩) λ(m,n) c h=>auW)
variable{e:Int}
theorem ZE{c d f g:Int}(h:og a b c d e f g)(i:e<d):xc (a,b,c,d,e,f,g)=((a,b,pg c a,1,0,1,0),1,0):=by
 simp[xc,t23,LT.val,bo,bZ,aC,ib.2 h,pg,show ¬d<=e from by omega]
theorem ZF{c d f g:Int}(h:og a b c d e f g)(i:d<=e):xc (a,b,c,d,e,f,g)=((a,b,c,d,e,f,g),2,0):=by
 simp[xc,t23,LT.val,bo,bZ,aC,ib.2 h,i]
theorem inc_le{d:Int}(c:0<=d)(f:d<=1048576):0<=inc d/\inc d<=1048576:=by
 unfold inc;omega
theorem Zw{c d f g j l:Int}(h:og a b c d e f g)(m:0<=i/\i<((2^b.toNat:Nat):Int))(n:0<=j/\j<=1048576)(o:0<=l/\l<=1048576):og a b i j l 0 0:=by
 unfold og at h ⊢;omega
theorem YD{c d f g k:Int}(h:og a b c d e f g)(j:0<=s)(o:s<b)(q:s≠a)(V:k=0\/k=1)(P:(uW ((a,b,c,d,e,f,g),s,k)).2=0):
  ∃A H J K O,(uW ((a,b,c,d,e,f,g),s,k)).1=(a,b,A,H,J,K,O)/\og a b A H J K O/\qW A s=true:=by
 have W:=h;unfold og at W;have X:=z_ (n:=b.toNat) (by omega);have id:=inc_le (d:=d) (by omega) (by omega);have Q:=inc_le (d:=e) (by omega) (by omega);have I:=λ{c s:Int} (h:0<=c/\c<((2^b.toNat:Nat):Int)) (r:0<=s/\s<b)=>YP (c:=c) (s:=s) (n:=b) h.1 (by omega) h.2 r.1 r.2;have D:=λ{c s:Int} (h:0<=c/\c<((2^b.toNat:Nat):Int)) (r:0<=s/\s<b)=>Xp (c:=c) (s:=s) (n:=b) h.1 (by omega) h.2 r.1 (by omega);have v:=λ{c s:Int} (h:0<=c/\c<((2^b.toNat:Nat):Int)) (r:0<=s/\s<b) {i:Int} (B:0<=i)=>RI (c:=c) (s:=s) (i:=i) h.1 (by omega) r.1 (by omega) B;have E:=λ{c s:Int} (h:0<=c/\c<((2^b.toNat:Nat):Int)) (r:0<=s/\s<b) {i:Int} (B:0<=i)=>KJ (c:=c) (s:=s) (i:=i) h.1 (by omega) r.1 (by omega) B;have l:0<=c/\c<((2^b.toNat:Nat):Int):=⟨by omega,by omega⟩;have u:0<=a/\a<b:=⟨by omega,by omega⟩;have m:0<=s/\s<b:=⟨j,o⟩;have z:0<=g/\g<b:=⟨by omega,by omega⟩;have S:f=0\/f=1\/f=2:=by omega
 rcases S with rfl|rfl|rfl<;>rcases V with rfl|rfl
 ·rw[YA h j o q]
  exact⟨_,_,_,_,_,rfl,Zw h (I l m) id (by omega),by simp_all⟩
 ·exfalso
  revert P;simp[uW,t25,Hu,LT.val,bo,bZ,bd,k_,jJ.2 ⟨h,j,o,q⟩,tY h j o q,PS]
 ·rw[YB h j o q]
  exact⟨_,_,_,_,_,rfl,Zw h (I (I l m) u) id (by omega),by simp_all⟩
 ·rw[SA h j o q]
  refine⟨_,_,_,_,_,rfl,?_,by simp_all⟩;have:=I l m;unfold og
  simp_all
 ·by_cases p:s=g
  ·subst p
   rw[SB h j o q];exact⟨_,_,_,_,_,rfl,Zw h (I (I l m) u) id (by omega),by rw[v (I l m) u j,v l m j];simp⟩
  ·rw[SC h j o q p]
   exact⟨_,_,_,_,_,rfl,Zw h (D (I (I l m) u) z) id Q,by
    have C:(g != s)=true:=by simp;omega
    rw[E (I (I l m) u) z j,v (I l m) u j,v l m j,C];simp⟩
 ·by_cases p:s=g
  ·subst p
   exfalso;revert P;simp[uW,t25,Hu,LT.val,bo,bZ,bd,k_,jJ.2 ⟨h,j,o,q⟩,tY h j o q,K9]
  ·rw[SD h j o q p]
   exact⟨_,_,_,_,_,rfl,Zw h (D (I (I l m) z) u) id Q,by
    have C:(a != s)=true:=by simp;omega
    rw[E (I (I l m) z) u j,v (I l m) z j,v l m j,C];simp⟩
theorem Zt{c d f g:Int}(h:og a b c d e f g)(j:0<=s)(r:s<b)(m:s≠a):
  ∃o p q,uA ((a,b,c,d,e,f,g),s)=((a,b,o,d,e,p,q),0)/\og a b o d e p q:=by
 have u:=h;unfold og at u;have A:=z_ (n:=b.toNat) (by omega);have z:=Xp (c:=c) (s:=s) (n:=b) (by omega) (by omega) (by omega) j (by omega);have v:f≠0->qW (wK c s) a=true:=λl=>by
  rw[KJ (by omega) (by omega) j (by omega) (by omega),u.2.2.2.2.2.2.2.2.2.2.2.2.2.2.1 l]
  simp_all
 by_cases l:f=2
 ·subst l
  by_cases i:g=s
  ·subst i
   refine⟨_,_,_,Zs h m,?_⟩;unfold og
   grind
  ·refine⟨_,_,_,Zr h j r m i,?_⟩
   unfold og
   simp_all
 ·refine⟨_,_,_,Zq h j r m l,?_⟩
  unfold og
  simp_all
theorem aoH{c d f g:Int}(h:og a b c d e f g)(j:0<=i/\i<=1048576):og a b c d i f g:=by
 unfold og at h ⊢
 simp_all
theorem Tb{c d f g:Int}(h:og a b c d e f g):∃i l m o p v,xc (a,b,c,d,e,f,g)=((a,b,i,l,m,o,p),v,0)/\og a b i l m o p/\(v==1)=decide (e<d)/\(v=1->qW i a=true):=by
 have r:=h;unfold og at r;have z:=z_ (n:=b.toNat) (by omega);have u:=YP (c:=c) (s:=a) (n:=b) (by omega) (by omega) (by omega) (by omega) (by omega);have q:qW (pg c a) a=true:=by rw[RI (by omega) (by omega) (by omega) (by omega) (by omega)];simp
 by_cases j:e<d
 ·refine⟨_,_,_,_,_,_,ZE h j,?_,by simp_all,λ_=>q⟩
  unfold og
  grind
 ·exact⟨_,_,_,_,_,_,ZF h (by omega),h,by simp_all,λh=>by omega⟩
theorem YT{c d f g:Int}(h:og a b c d e f g):∃i j l m n v,Cs (a,b,c,d,e,f,g)=((a,b,i,j,l,m,n),v,0)/\og a b i j l m n/\(v==1)=decide (e<d):=by
 obtain⟨i,j,l,m,n,v,q,r,u,_⟩:=Tb h;by_cases o:d=0/\e=0
 ·refine⟨c,d,e,f,g,3,?_,h,?_⟩
  ·obtain⟨rfl,rfl⟩:=o
   simp[Cs,t27,LT.val,bo,bd,ib.2 h]
  simp_all
 ·refine⟨i,j,l,m,n,v,?_,r,u⟩
  rw[<-q];by_cases p:d=0
  ·have A:(e==0)=false:=by simp_all
   simp[Cs,t27,LT.val,bo,bd,ib.2 h,p,A]
  ·have z:(d==0)=false:=by simp_all
   simp[Cs,t27,LT.val,bo,bd,ib.2 h,z]
variable{o:Int×Int×Int×(Int×Int×(Int×Int×Int×Int×Int)×Int×List Int)×Int}
theorem OD{c:Int×Int×Int×Int×Int}{w:Int}:∀{l:List (Int×Int×(Int×List Int))} {k:Nat},vX c w k l=some o->o.1=3/\∃s∈l,s.1=2:=by
 intro l
 induction l with
 | nil=>intro k h;cases h
 | cons s l ih=>
   intro k h;rw[vX] at h
   grind
theorem Mf{p m n:Int}{c:List (Int×Int×(Int×List Int))}:∀{l:List Int} {i:Nat},uk t p m n c i l=some o->o.1=3/\∃s∈c,s.1=2:=by
 intro l
 induction l with
 | nil=>intro i h;cases h
 | cons v l ih=>
   intro i h;rw[uk] at h;split at h
   rotate_left
   exact ih h;rename_i g f;cases h;exact OD f
theorem Me{c:Int×Int×Int×Int×Int}{w:Int}:∀{l:List (Int×Int×(Int×List Int))} {k:Nat},vX c w k l=some o->o.2.1=w:=by
 intro l
 induction l with
 | nil=>intro k h;cases h
 | cons s l ih=>
   intro k h;rw[vX] at h
   grind
theorem Jh{p m n:Int}{c:List (Int×Int×(Int×List Int))}:∀{l:List Int} {i:Nat},uk t p m n c i l=some o->∃k,k<l.length/\o.2.1=((i+k:Nat):Int):=by
 intro l
 induction l with
 | nil=>intro i h;cases h
 | cons v l ih=>
   intro i h;rw[uk] at h;cases hs:vX (t,p,m,n,v) (i:Int) 0 c with
   | none=>
     rw[hs] at h;obtain⟨k,f,g⟩:=ih h;exact⟨k+1,by simp_all,by omega⟩
   | some j=>
     rw[hs] at h;cases h;exact⟨0,by simp_all,by rw[Me hs];rfl⟩
variable{v:Int×Int×Int×Int×Int×Int×Int}
theorem Ae{p m n c:Int}{f:List (Int×Int×(Int×List Int))}(h:(qq ((t,p,m,n,s),v,c,f)).2=0):
  rz v=0/\0<=c/\c<v.2.1/\c≠v.1/\((∃k,k<(vws (v,c)).length/\(qq ((t,p,m,n,s),v,c,f)).1.1=3/\(qq ((t,p,m,n,s),v,c,f)).1.2.1=(k:Int))\/(qq ((t,p,m,n,s),v,c,f)).1.1=1\/(qq ((t,p,m,n,s),v,c,f)).1.1=2):=by
 rw[qq] at h ⊢;cases h1:(rz v != 0||rQ ((t,p,m,n,s),v.2.1) != 0)
 ·rw[h1] at h
  cases h2:(decide (c<0)||decide (v.2.1<=c)||c==v.1||f.length != 2)
  ·rw[cond_false]
   simp at h1 h2;refine⟨h1.1,by omega,by omega,h2.1.2,?_⟩;rw[Kj];cases h3:uk t p m n f 0 (vws (v,c)) with
   | some o=>
     obtain⟨k,g,i⟩:=Jh h3;exact .inl ⟨k,g,(Mf h3).1,by simp_all⟩
   | none=>
     right;rw[BB]
     grind
  simp_all
 simp_all
theorem Bo{c d f g:Int}(h:og a b c d e f g)(j:0<=s)(q:s<b)(p:s≠a):
  ∃i n o,uA ((a,b,c,d,e,f,g),s)=((a,b,i,d,e,n,o),0)/\og a b i d e n o/\qW i s=false:=by
 obtain⟨i,n,o,m,u⟩:=Zt h j q p;refine⟨i,n,o,m,u,?_⟩;have v:=aoG h;have z:=h;unfold og at z;have:i=wK c s:=by
  by_cases r:f=2
  ·subst r
   by_cases l:g=s
   ·subst l
    rw[Zs h p] at m
    simp_all
   ·rw[Zr h j q p l] at m
    simp_all
  ·rw[Zq h j q p r] at m
   simp_all
 rw[this,KJ (by omega) v j (by omega) j,bne_self_eq_false,dI]
theorem YC{c d f g:Int}{k:Nat}(h:og a b c d e f g)(l:0<=s)(m:s<b)(n:s≠a)(j:k<(vws ((a,b,c,d,e,f,g),s)).length):(uW ((a,b,c,d,e,f,g),s,(k:Int))).2=0/\((k:Int)=0\/(k:Int)=1):=by
 have p:=h;unfold og at p;have o:f=0\/f=1\/f=2:=by omega
 rw[vws] at j;rcases o with rfl|rfl|rfl
 ·rw[PS] at j
  have:k=0:=by simp_all
  subst this;exact⟨by rw[show((0:Nat):Int)=0 from rfl,YA h l m n],.inl rfl⟩
 ·rw[PU] at j
  have:k<2:=j;have:k=0\/k=1:=by omega
  rcases this with rfl|rfl
  ·exact⟨by rw[show((0:Nat):Int)=0 from rfl,YB h l m n],.inl rfl⟩
  ·exact⟨by rw[show((1:Nat):Int)=1 from rfl,SA h l m n],.inr rfl⟩
 ·by_cases i:s=g
  ·subst i
   rw[K9] at j;have:k=0:=by simp_all
   subst this;exact⟨by rw[show((0:Nat):Int)=0 from rfl,SB h l m n],.inl rfl⟩
  ·rw[K_ i] at j
   have:k<2:=j;have:k=0\/k=1:=by omega
   rcases this with rfl|rfl
   ·exact⟨by rw[show((0:Nat):Int)=0 from rfl,SC h l m n i],.inl rfl⟩
   ·exact⟨by rw[show((1:Nat):Int)=1 from rfl,SD h l m n i],.inr rfl⟩
theorem adj(h:o.1=1):oH (v,s,o)=uA (v,s):=by
 obtain⟨k,w,f,⟨i,j,⟨t,p,m,n,x⟩,g,fd⟩,c⟩:=o;subst h;rfl
theorem KG(h:o.1=2):oH (v,s,o)=X3 (v,s):=by
 obtain⟨k,w,f,⟨i,j,⟨t,p,m,n,x⟩,g,fd⟩,c⟩:=o;subst h;rfl
theorem adk(h:o.1=3):oH (v,s,o)=uW (v,s,o.2.1):=by
 obtain⟨k,w,f,⟨i,j,⟨t,p,m,n,x⟩,g,fd⟩,c⟩:=o;subst h;rfl
theorem Jw{p m n c d f g:Int}{j:List (Int×Int×(Int×List Int))}(h:(qq ((t,p,m,n,x),(a,b,c,d,e,f,g),s,j)).2=0):
  ∃l B C o q,oH ((a,b,c,d,e,f,g),s,(qq ((t,p,m,n,x),(a,b,c,d,e,f,g),s,j)).1)=((a,b,l,B,C,o,q),0)/\og a b l B C o q/\qW l s=((qq ((t,p,m,n,x),(a,b,c,d,e,f,g),s,j)).1.1==3)/\0<=s/\s<b:=by
 obtain⟨I,r,u,A,J⟩:=Ae h;have i:=ib.1 I;rcases J with ⟨k,P,v,K⟩|v|v
 ·obtain⟨O,E⟩:=YC i r u A P
  obtain⟨l,B,C,o,q,D,z,H⟩:=YD i r u A E O;rw[adk v,K]
  grind
 ·obtain⟨l,o,q,D,z,H⟩:=Bo i r u A
  exact⟨l,d,e,o,q,by rw[adj v];omega,z,by simp_all,r,u⟩
 ·obtain⟨l,o,q,D,z,H⟩:=Bo i r u A
  have Q:=i;unfold og at Q;refine⟨l,d,inc e,o,q,?_,aoH z (inc_le (by omega) (by omega)),by simp_all,r,u⟩;rw[KG v];exact Pj D (show 0<=e by omega) (show e<=1048576 by omega)
def t24(A:aS)(i:Int)(l:Int)(g:Int)(j:Int)(h:Int)(f:Int)(c:Int):LT Bool Empty:=.br (A.bK (A.k rz (i,l,g,j,h,f,c)) 0) (.ap (A.bU 0 i) (.ret (A.bK (A.b .and .i64 (A.b .shr .i64 g i) 1) 1))) (.ret false)
def Uo:vq->Bool:=λ(j,l,i,h,g,f,c)=>(t24 af j l i h g f c).val (Ty.aR [.bool])
def avj:aM:=.all [qO] [.bool] Uo
theorem au8:Sd 202 avj:=fa (aP ar dK sl 27 [] (λA (l,m,j,i,g,f,c)=>t24 A l m j i g f c) (kz (fc Tryz.func202 fz) (sc QY sz)) (λ((l,m,j,i,g,f,c):vq) o h=>by
 show(t24 af l m j i g f c).pre=true;simp only[t24,LT.pre,STD,bne_iff_ne,beq_iff_eq,bne_eq_false_iff_eq,beq_eq_false_iff_ne];simp only[Ty.jK,Ty.has,J2] at h
 (repeat' (first|intro _|constructor))<;>(try (have n:=ib.1 (by assumption);unfold og at n;omega))))
def KI:qf:=(2,0,0,BZ,0)
def Vv:qf:=(0,0,0,BZ,0)
def BE(n:Node)(c:List Seen):qf×Int:=qq (n.2.2.1,n.2.2.2.1,n.2.2.1.2.1,c)
def Bd(m:ax)(n:Node)(o:qf):qf:=bif decide (o.1=3) && !(Bc m n.2.2.1 o.2.2.2.1) then KI else o
def Jp(n:Node)(v:vq):Node:=(n.1,n.2.1,(n.2.2.1.1,n.2.2.1.2.1,n.2.2.1.2.2.1,n.2.2.1.2.2.2.1,v.2.2.1),v,n.2.2.2.2)
def Nb(n:Node)(o:qf):vq:=(oH (n.2.2.2.1,n.2.2.1.2.1,o)).1
def JB(m:ax)(n:Node)(f:sF):Node:=(n.1,n.2.1,qa m n.2.2.1 f.2.1,n.2.2.2.1,n.2.2.2.2.1,n.2.2.2.2.2.1,n.2.2.2.2.2.2.1,bif decide (f.1=3) then n.2.2.2.2.2.2.2 else(sL n.2.2.2.2.2.2.2 n.2.2.1.2.1 f.2.2.2.2).1)
def z8(n:Node):Node:=bif decide (n.2.1=4) && !(Uo n.2.2.2.1) then(n.1,3,n.2.2) else n
def Pk(m:ax)(n:Node)(o:qf):Node:=z8 (bif decide (o.1=3) then JB m (Jp n (Nb n o)) o.2.2.2.1 else Jp n (Nb n o))
def oh(m:ax)(n:Node)(c:List Seen):Node×qf×Int:=bif decide (cZ m n=0) then(bif kM n&&decide (¬n.2.2.1.2.1=n.1) then(bif decide ((BE n c).2=0) then(Pk m n (Bd m n (BE n c).1),Bd m n (BE n c).1,0) else(jY,Vv,(BE n c).2)) else(jY,Vv,181)) else(jY,Vv,cZ m n)
variable{seen:List Seen}
theorem ah_{v:vq}(h:(qq (c,v,s,seen)).2=0):(oH (v,s,(qq (c,v,s,seen)).1)).2=0/\(oH (v,s,KI)).2=0:=by
 obtain⟨a,b,c,d,e,f,g⟩:=v;refine⟨?_,?_⟩
 ·obtain⟨l,z,A,m,n,j,_⟩:=Jw h;rw[j]
 ·obtain⟨o,p,q,r,_⟩:=Ae h
  have i:=ib.1 o;obtain⟨l,m,n,j,_⟩:=Bo i p q r;have u:=i;unfold og at u;rw[KG rfl,Pj j (show 0<=e by omega) (show e<=1048576 by omega)]
theorem RP(l:cZ m n=0)(h:Bc m n.2.2.1 f=true):(sL n.2.2.2.2.2.2.2 n.2.2.1.2.1 f.2.2.2.2).2=0:=by
 have i:=fH.1 (df l).2;simp[Bc,fQ,sK] at h;have c:=ye h.1;have o:=Xo c.1 c.2.1 c.2.2;have p:(f.2.2.2.2.length:Int)<=8:=by
  rw[h.2.2];by_cases g:(kS m n.2.2.1.2.2.1 n.2.2.1.2.1).1=3
  ·rw[da g];grind
  ·rw[gI g];exact o.2
 have j:=i.2.2.2.2.2.1;rw[sL,i.2.2.2.1,da (show 0<=n.2.2.1.2.1/\n.2.2.1.2.1<=(n.2.2.2.2.2.2.2.2.2.1.length:Int)-1 by rw[j];exact c.2.1),gI (show ¬8<(f.2.2.2.2.length:Int) by omega)];rfl
theorem SQ{o:qf}(h:o.1=3)(c:Bc m n.2.2.1 o.2.2.2.1=false):Bd m n o=KI:=by rw[Bd,da h,c];rfl
theorem NT{o:qf}(c:Bc m n.2.2.1 o.2.2.2.1=true):Bd m n o=o:=by rw[Bd,c,Bool.not_true,dI];rfl
theorem Y4{o:qf}(h:¬o.1=3):Bd m n o=o:=by rw[Bd,gI h];rfl
theorem agw{step:Y->LT (Node×qf×Int) Y}{o:qf}{b:Bool}(c:b=Uo n.2.2.2.1):aW step (.br (af.bK n.2.1 4) (.br (af.not b) (.ret ((n.1,3,n.2.2),o,0)) (.ret (n,o,0))) (.ret (n,o,0))) (z8 n,o,0):=by
 rw[z8];refine bi (p:=n.2.1=4) dE (λh=>?_) λh=>aQ (by simp_all) (.ret _);rw[da h,cY,<-c];cases b
 ·exact(al rfl).2 (.ret _)
 ·exact(ak rfl).2 (.ret _)
def on4(x:Node):Node:=(x.1,4,x.2.2.1,x.2.2.2.1,x.2.2.2.2.1,false,x.2.2.2.2.2.2)
structure VZ where
 (a0:List Seen) (a1:Int) (a2:ax) (a17:Node)
structure V0 where
 (b0:Int) (b1:ax) (je:Node) (wv:qf)
structure V1 where
 (c14:Node)
structure V2 where
 (d0:ax) (Cg:Node) (Xn:qf)
structure V3 where
 (e14:Node) (e15:qf)
structure V4 where
 (f0:ax) (f15:Node) (f16:qf)
inductive acx where
 | c0 (p:VZ)
 | c1 (p:V0)
 | c2 (p:V1)
 | c3 (p:V2)
 | c4 (p:V3)
 | c5 (p:V4)
noncomputable def aiv:acx->iH
 | .c0 p=>⟨[⟨148,111,(en [(2,.sl qe p.a0),(3,.ptr 0 0),(6,.ptr 1 0),(7,.ptr 2 0),(9,.ptr 3 0),(10,vi p.a1)]),(.code (cw Tryz.f148 [1,1,0,0])::sk Tryz.f148 [1,1,0,0]),[],none⟩],[.ay false (dc bM p.a2),.ay false [vi 0,vi 0,vi 0,vi 0,vi 0,vi 0,vi 0,vi 0,vi 0,vi 0,vi 0,vi 0,vi 0,vi 0,vi 0,vb false,vi 0,vi 0,.gi true,.gi true,vi 0,vi 0],.ay false [vi 0,vi 0,vi 0,vi 0,vi 0,vi 0,vi 0,vi 0,vi 0,vi 0,vi 0,.gi true,vi 0],.ay false (dc fA p.a17),.aZ]⟩
 | .c1 p=>⟨[⟨148,111,(en [(3,.ptr 0 0),(6,.ptr 1 0),(7,.ptr 2 0),(9,.ptr 3 0),(10,vi p.b0),(11,.ptr 4 0)]),(.code (cw Tryz.f148 [1,1,1,1,0,0])::sk Tryz.f148 [1,1,1,1,0,0]),[],none⟩],[.ay false (dc bM p.b1),.ay false [vi 0,vi 0,vi 0,vi 0,vi 0,vi 0,vi 0,vi 0,vi 0,vi 0,vi 0,vi 0,vi 0,vi 0,vi 0,vb false,vi 0,vi 0,.gi true,.gi true,vi 0,vi 0],.ay false [vi 0,vi 0,vi 0,vi 0,vi 0,vi 0,vi 0,vi 0,vi 0,vi 0,vi 0,.gi true,vi 0],.ay false (dc fA p.je),.ay false (dc OX p.wv),.aZ]⟩
 | .c2 p=>⟨[⟨148,111,(en [(6,.ptr 0 0),(7,.ptr 1 0),(9,.ptr 2 0),(11,.ptr 3 0)]),(.code (cw Tryz.f148 [1,1,1,1,1,1,1,1,1,0,0])::sk Tryz.f148 [1,1,1,1,1,1,1,1,1,0,0]),[],none⟩],[.ay false [vi 0,vi 0,vi 0,vi 0,vi 0,vi 0,vi 0,vi 0,vi 0,vi 0,vi 0,vi 0,vi 0,vi 0,vi 0,vb false,vi 0,vi 0,.gi true,.gi true,vi 0,vi 0],.ay false [vi 0,vi 0,vi 0,vi 0,vi 0,vi 0,vi 0,vi 0,vi 0,vi 0,vi 0,.gi true,vi 0],.ay false (dc fA p.c14),.ay false [vi 2,vi 0,vi 0,vi 0,vi 0,vi 0,vi 0,vi 0,vi 0,vi 0,vi 0,.gi true,vi 0],.aZ]⟩
 | .c3 p=>⟨[⟨148,111,(en [(3,.ptr 0 0),(6,.ptr 1 0),(7,.ptr 2 0),(9,.ptr 3 0),(11,.ptr 4 0)]),(.code (cw Tryz.f148 [1,1,1,1,1,1,1,1,0,1,0,0,0])::sk Tryz.f148 [1,1,1,1,1,1,1,1,0,1,0,0,0]),[],none⟩],[.ay false (dc bM p.d0),.ay false [vi 0,vi 0,vi 0,vi 0,vi 0,vi 0,vi 0,vi 0,vi 0,vi 0,vi 0,vi 0,vi 0,vi 0,vi 0,vb false,vi 0,vi 0,.gi true,.gi true,vi 0,vi 0],.ay false [vi 0,vi 0,vi 0,vi 0,vi 0,vi 0,vi 0,vi 0,vi 0,vi 0,vi 0,.gi true,vi 0],.ay false (dc fA p.Cg),.ay false (dc OX p.Xn),.aZ]⟩
 | .c4 p=>⟨[⟨148,111,(en [(6,.ptr 0 0),(7,.ptr 1 0),(9,.ptr 2 0),(11,.ptr 3 0)]),(.code (cw Tryz.f148 [1,1,1,1,1,1,1,1,1,0,0])::sk Tryz.f148 [1,1,1,1,1,1,1,1,1,0,0]),[],none⟩],[.ay false [vi 0,vi 0,vi 0,vi 0,vi 0,vi 0,vi 0,vi 0,vi 0,vi 0,vi 0,vi 0,vi 0,vi 0,vi 0,vb false,vi 0,vi 0,.gi true,.gi true,vi 0,vi 0],.ay false [vi 0,vi 0,vi 0,vi 0,vi 0,vi 0,vi 0,vi 0,vi 0,vi 0,vi 0,.gi true,vi 0],.ay false (dc fA p.e14),.ay false (dc OX p.e15),.aZ]⟩
 | .c5 p=>⟨[⟨148,111,(en [(3,.ptr 0 0),(6,.ptr 1 0),(7,.ptr 2 0),(9,.ptr 3 0),(11,.ptr 4 0)]),(.code (cw Tryz.f148 [1,1,1,1,1,1,1,1,0,1,0,1])::sk Tryz.f148 [1,1,1,1,1,1,1,1,0,1,0,1]),[],none⟩],[.ay false (dc bM p.f0),.ay false [vi 0,vi 0,vi 0,vi 0,vi 0,vi 0,vi 0,vi 0,vi 0,vi 0,vi 0,vi 0,vi 0,vi 0,vi 0,vb false,vi 0,vi 0,.gi true,.gi true,vi 0,vi 0],.ay false [vi 0,vi 0,vi 0,vi 0,vi 0,vi 0,vi 0,vi 0,vi 0,vi 0,vi 0,.gi true,vi 0],.ay false (dc fA p.f15),.ay false (dc OX p.f16),.aZ]⟩
def alO(A:aS)(m:ax)(n:Node)(c:List Seen):LT (Node×qf×Int) acx:=.br (A.k lY n) (.eqs (((A.k lY n):Bool)=true) (.ao (.c0 ⟨c,(A.k j_ (m,n,(A.cr n.2.2.1.2.1 n.1))).2,m,(A.k j_ (m,n,(A.cr n.2.2.1.2.1 n.1))).1⟩))) (.eqs (((A.k lY n):Bool)=false) (.ao (.c0 ⟨c,(A.k j_ (m,n,false)).2,m,(A.k j_ (m,n,false)).1⟩)))
def Ab(A:aS):acx->LT (Node×qf×Int) acx
 | .c0 p=>.br (A.cr p.a1 0) (.ret ((0,0,(0,0,0,0,0),(0,0,0,0,0,0,0),0,false,0,0,([]:List Int),([]:List iN),0,0),(0,0,0,(0,0,(0,0,0,0,0),0,([]:List Int)),0),p.a1)) (.ao (.c1 ⟨(A.k ajL (p.a17.2.2.1,p.a17.2.2.2.1,p.a17.2.2.1.2.1,p.a0)).2,p.a2,p.a17,(A.k ajL (p.a17.2.2.1,p.a17.2.2.2.1,p.a17.2.2.1.2.1,p.a0)).1⟩))
 | .c1 p=>.br (A.cr p.b0 0) (.ret ((0,0,(0,0,0,0,0),(0,0,0,0,0,0,0),0,false,0,0,([]:List Int),([]:List iN),0,0),(0,0,0,(0,0,(0,0,0,0,0),0,([]:List Int)),0),p.b0)) (.br (A.bK p.wv.1 3) (.br (A.not (A.k Sb (p.b1,p.je.2.2.1,p.wv.2.2.2.1))) (.br (A.cr (A.k oH (p.je.2.2.2.1,p.je.2.2.1.2.1,2,0,0,(0,0,(0,0,0,0,0),0,([]:List Int)),0)).2 0) (.ret ((0,0,(0,0,0,0,0),(0,0,0,0,0,0,0),0,false,0,0,([]:List Int),([]:List iN),0,0),(0,0,0,(0,0,(0,0,0,0,0),0,([]:List Int)),0),(A.k oH (p.je.2.2.2.1,p.je.2.2.1.2.1,2,0,0,(0,0,(0,0,0,0,0),0,([]:List Int)),0)).2)) (.ao (.c2 ⟨(p.je.1,p.je.2.1,(p.je.2.2.1.1,p.je.2.2.1.2.1,p.je.2.2.1.2.2.1,p.je.2.2.1.2.2.2.1,(A.k oH (p.je.2.2.2.1,p.je.2.2.1.2.1,2,0,0,(0,0,(0,0,0,0,0),0,([]:List Int)),0)).1.2.2.1),(A.k oH (p.je.2.2.2.1,p.je.2.2.1.2.1,2,0,0,(0,0,(0,0,0,0,0),0,([]:List Int)),0)).1,p.je.2.2.2.2)⟩))) (.br (A.cr (A.k oH (p.je.2.2.2.1,p.je.2.2.1.2.1,p.wv)).2 0) (.ret ((0,0,(0,0,0,0,0),(0,0,0,0,0,0,0),0,false,0,0,([]:List Int),([]:List iN),0,0),(0,0,0,(0,0,(0,0,0,0,0),0,([]:List Int)),0),(A.k oH (p.je.2.2.2.1,p.je.2.2.1.2.1,p.wv)).2)) (.br (A.bK p.wv.1 3) (.ao (.c3 ⟨p.b1,(p.je.1,p.je.2.1,(p.je.2.2.1.1,p.je.2.2.1.2.1,p.je.2.2.1.2.2.1,p.je.2.2.1.2.2.2.1,(A.k oH (p.je.2.2.2.1,p.je.2.2.1.2.1,p.wv)).1.2.2.1),(A.k oH (p.je.2.2.2.1,p.je.2.2.1.2.1,p.wv)).1,p.je.2.2.2.2),p.wv⟩)) (.ao (.c4 ⟨(p.je.1,p.je.2.1,(p.je.2.2.1.1,p.je.2.2.1.2.1,p.je.2.2.1.2.2.1,p.je.2.2.1.2.2.2.1,(A.k oH (p.je.2.2.2.1,p.je.2.2.1.2.1,p.wv)).1.2.2.1),(A.k oH (p.je.2.2.2.1,p.je.2.2.1.2.1,p.wv)).1,p.je.2.2.2.2),p.wv⟩))))) (.br (A.cr (A.k oH (p.je.2.2.2.1,p.je.2.2.1.2.1,p.wv)).2 0) (.ret ((0,0,(0,0,0,0,0),(0,0,0,0,0,0,0),0,false,0,0,([]:List Int),([]:List iN),0,0),(0,0,0,(0,0,(0,0,0,0,0),0,([]:List Int)),0),(A.k oH (p.je.2.2.2.1,p.je.2.2.1.2.1,p.wv)).2)) (.br (A.bK p.wv.1 3) (.ao (.c3 ⟨p.b1,(p.je.1,p.je.2.1,(p.je.2.2.1.1,p.je.2.2.1.2.1,p.je.2.2.1.2.2.1,p.je.2.2.1.2.2.2.1,(A.k oH (p.je.2.2.2.1,p.je.2.2.1.2.1,p.wv)).1.2.2.1),(A.k oH (p.je.2.2.2.1,p.je.2.2.1.2.1,p.wv)).1,p.je.2.2.2.2),p.wv⟩)) (.ao (.c4 ⟨(p.je.1,p.je.2.1,(p.je.2.2.1.1,p.je.2.2.1.2.1,p.je.2.2.1.2.2.1,p.je.2.2.1.2.2.2.1,(A.k oH (p.je.2.2.2.1,p.je.2.2.1.2.1,p.wv)).1.2.2.1),(A.k oH (p.je.2.2.2.1,p.je.2.2.1.2.1,p.wv)).1,p.je.2.2.2.2),p.wv⟩)))))
 | .c2 p=>.br (A.bK p.c14.2.1 4) (.br (A.not (A.k Uo p.c14.2.2.2.1)) (.ret ((p.c14.1,3,p.c14.2.2),(2,0,0,(0,0,(0,0,0,0,0),0,([]:List Int)),0),0)) (.ret (p.c14,(2,0,0,(0,0,(0,0,0,0,0),0,([]:List Int)),0),0))) (.ret (p.c14,(2,0,0,(0,0,(0,0,0,0,0),0,([]:List Int)),0),0))
 | .c3 p=>.br (A.cr p.Xn.2.2.2.1.1 3) (.br (A.bK (A.k DF (p.Cg.2.2.2.2.2.2.2,p.Cg.2.2.1.2.1,p.Xn.2.2.2.1.2.2.2.2)).2 0) (.ao (.c5 ⟨p.d0,(p.Cg.1,p.Cg.2.1,p.Cg.2.2.1,p.Cg.2.2.2.1,p.Cg.2.2.2.2.1,p.Cg.2.2.2.2.2.1,p.Cg.2.2.2.2.2.2.1,(A.k DF (p.Cg.2.2.2.2.2.2.2,p.Cg.2.2.1.2.1,p.Xn.2.2.2.1.2.2.2.2)).1),p.Xn⟩)) (.ao (.c5 ⟨p.d0,p.Cg,p.Xn⟩))) (.ao (.c5 ⟨p.d0,p.Cg,p.Xn⟩))
 | .c4 p=>.br (A.bK p.e14.2.1 4) (.br (A.not (A.k Uo p.e14.2.2.2.1)) (.ret ((p.e14.1,3,p.e14.2.2),p.e15,0)) (.ret (p.e14,p.e15,0))) (.ret (p.e14,p.e15,0))
 | .c5 p=>.br (A.bK (A.k AX (p.f0,p.f15.2.2.1,p.f16.2.2.2.1.2.1)).2 0) (.ao (.c4 ⟨(p.f15.1,p.f15.2.1,(A.k AX (p.f0,p.f15.2.2.1,p.f16.2.2.2.1.2.1)).1,p.f15.2.2.2),p.f16⟩)) (.ao (.c4 ⟨p.f15,p.f16⟩))
theorem Qf{p:V3}:aW (Ab af) (.ao (.c4 p)) (z8 p.e14,p.e15,0):=by
 rw[aB,Ab];exact agw rfl
theorem akx{p:V1}:aW (Ab af) (.ao (.c2 p)) (z8 p.c14,KI,0):=by
 rw[aB,Ab];exact agw rfl
theorem ZC{p:V4}:aW (Ab af) (.ao (.c5 p)) (z8 (p.f15.1,p.f15.2.1,qa p.f0 p.f15.2.2.1 p.f16.2.2.2.1.2.1,p.f15.2.2.2),p.f16,0):=by
 rw[aB,Ab,qa];refine bi (p:=(Em p.f0 p.f15.2.2.1 p.f16.2.2.2.1.2.1).2=0) dE (λg=>?_) λg=>?_
 ·rw[da g];exact Qf
 ·rw[gI g];exact Qf
theorem aky{p:V2}(h:(sL p.Cg.2.2.2.2.2.2.2 p.Cg.2.2.1.2.1 p.Xn.2.2.2.1.2.2.2.2).2=0):aW (Ab af) (.ao (.c3 p)) (z8 (JB p.d0 p.Cg p.Xn.2.2.2.1),p.Xn,0):=by
 rw[aB,Ab,JB];refine bi (p:=¬p.Xn.2.2.2.1.1=3) dM (λg=>?_) λg=>?_
 ·rw[gI g,show ∀x,af.k DF x=sL x.1 x.2.1 x.2.2 from λ_=>rfl]
  exact(al (Xb h)).2 ZC
 ·rw[da (dx.1 g)];exact ZC
theorem akw{p:V0}{S:qf×Int}(h:p.b0=S.2)(i:p.b1=m)(j:p.je=n)(l:p.wv=S.1)(q:cZ m n=0)(o:S.2=0->(oH (n.2.2.2.1,n.2.2.1.2.1,S.1)).2=0/\(oH (n.2.2.2.1,n.2.2.1.2.1,KI)).2=0):aW (Ab af) (.ao (.c1 p)) (bif decide (S.2=0) then(Pk m n (Bd m n S.1),Bd m n S.1,0) else(jY,Vv,S.2)):=by
 subst i j;rw[aB,Ab,h,l];refine bi (p:=¬S.2=0) dM (λg=>aQ (by rw[gI g];rfl) (.ret _)) λg=>?_;have g:=dx.1 g;obtain⟨a1,a2⟩:=o g;rw[da g,cond_true];rw[show af.k Sb (p.b1,p.je.2.2.1,S.1.2.2.2.1)=Bc p.b1 p.je.2.2.1 S.1.2.2.2.1 from rfl];have c:af.cr (af.k oH (p.je.2.2.2.1,p.je.2.2.1.2.1,S.1)).2 0=false:=by rw[bo,a1];rfl
 have f:af.cr (af.k oH (p.je.2.2.2.1,p.je.2.2.1.2.1,2,0,0,(0,0,(0,0,0,0,0),0,([]:List Int)),0)).2 0=false:=by rw[bo];unfold KI BZ at a2;rw[a2];rfl
 refine bi (p:=S.1.1=3) dE (λk=>?_) λk=>(ak c).2 ((ak (by simp_all;exact gI k)).2 ?_)
 ·cases hl:Bc p.b1 p.je.2.2.1 S.1.2.2.2.1
  ·refine(al rfl).2 ((ak f).2 ?_)
   rw[SQ k hl];exact akx (p:=⟨Jp p.je (Nb p.je KI)⟩)
  ·refine(ak rfl).2 ((ak c).2 ((al (by rw[dE];simp_all)).2 ?_))
   rw[NT hl,Pk,da k];have r:=RP q hl;exact aky (p:=⟨p.b1,Jp p.je (Nb p.je S.1),S.1⟩) r
 ·rw[Y4 k,Pk,gI k];exact Qf (p:=⟨Jp p.je (Nb p.je S.1),S.1⟩)
theorem auS{f:List Seen}:aW (Ab af) (alO af m n f) (oh m n f):=by
 unfold alO oh;rw[show af.k lY n=kM n from rfl];have i:∀q:VZ,q.a1=(m_ m n false).2->aW (Ab af) (.ao (.c0 q)) (bif decide (cZ m n=0) then(jY,Vv,181) else(jY,Vv,cZ m n)):=λq l=>by
  rw[aB,Ab,l,m_];by_cases h:cZ m n=0
  ·rw[da h];exact(al rfl).2 (.ret _)
  ·rw[gI h];exact(al (wY h)).2 (.ret _)
 cases hi:kM n
 ·exact(ak rfl).2 (xH.2 ⟨rfl,i _ rfl⟩)
 ·refine(al rfl).2 (xH.2 ⟨rfl,?_⟩)
  rw[show ∀w,af.k j_ (m,n,w)=m_ m n w from λ_=>rfl,dM,cY];by_cases j:n.2.2.1.2.1=n.1
  ·simp_all
  ·rw[da j,cond_true]
   by_cases h:cZ m n=0
   ·have e:m_ m n true=(n,0):=by rw[m_,da h];rfl
    rw[da h,e,cond_true,aB,Ab];exact(ak rfl).2 (akw (S:=BE n f) rfl rfl rfl rfl h λg=>ah_ (c:=n.2.2.1) (v:=n.2.2.2.1) (s:=n.2.2.1.2.1) (seen:=f) g)
   ·have:=i ⟨f,(m_ m n true).2,m,(m_ m n true).1⟩ (by rw[m_,m_,gI h];rfl)
    simp_all
def R5:(ax×Node×List Seen)->(Node×qf×Int):=λ(m,c,k)=>oh m c k
def aro:aM:=.all [bM,fA,(.slice qe)] [fA,OX,yI] R5
theorem apH:Sd 148 aro:=fa (bp ar dK sl 38 [] [⟨148,2, [[2,3,6,7,9,10]]⟩,⟨148,5, [[3,6,7,9,10,11]]⟩,⟨148,14, [[3,6,7,9,11]]⟩,⟨148,16, [[3,6,7,9,11]]⟩,⟨148,17, [[6,7,9,11]]⟩] (λA (m,n,c)=>alO A m n c) Ab aiv (kz (fc Tryz.func148 (fc Tryz.func192 (fc Tryz.func193 fz))) (sc au8 (sc avb (sc avg (sc BG (sc D4 (sc agN (sc agQ (sc aaE sz))))))))) (λA y=>match y with |.c0 p=>⟨31,sl,by kernel_rfl⟩|.c1 p=>⟨76,sl,by kernel_rfl⟩|.c2 p=>⟨29,sl,by kernel_rfl⟩|.c3 p=>⟨56,sl,by kernel_rfl⟩|.c4 p=>⟨29,sl,by kernel_rfl⟩|.c5 p=>⟨48,sl,by kernel_rfl⟩) λ(m,n,c) f h=>auS)
theorem wW{k:Int}(l:4<=k/\k<=8)(f:0<=c.1/\c.1<=255)(g:0<=c.2.1/\c.2.1<=k-1)(h:0<=c.2.2.1/\c.2.2.1<=3)(i:0<=c.2.2.2.1/\c.2.2.2.1<=4)(j:0<=c.2.2.2.2/\c.2.2.2.2<=2^k.toNat-1):rQ (c,k)=0:=by
 rw[rQ,gI (show ¬k<4 by omega),gI (show ¬8<k by omega),da f.1,da f.2,da g.1,da g.2,da h.1,da h.2,da i.1,da i.2,da j.1,da j.2];rfl
theorem tN(h:rQ (c,m.1)=0)(f:c.2.2.1<iJ m)(g:c.2.2.2.1<=iJ m):jr m c=true:=by
 rw[jr,da h,da f,da g];rfl
theorem Gy{x:Node}(c:dq m=true)(h:UE m x=true):cZ m x=0:=by rw[cZ,c,h];rfl
theorem Gu{x:Node}(r:dq m=true)(c:0<=x.1/\x.1<=m.1-1)(f:2<=x.2.1/\x.2.1<=4)(g:0<=x.2.2.2.2.2.2.1/\x.2.2.2.2.2.2.1<=2)(h:iI x.2.2.2.2.2.2.2=true)(i:x.2.2.2.2.2.2.2.1=x.1)(j:(x.2.2.2.2.2.2.2.2.2.1.length:Int)=m.1)
  (u:x.2.1=2->(af.n .bool m.2.2.2.2.2.2.1 x.1:Bool)=true) (l:jr m x.2.2.1=true) (n:vA x.2.2.2.1=0) (o:x.2.2.2.1.1=x.1) (p:x.2.2.2.1.2.1=m.1) (q:x.2.2.1.2.2.2.2=x.2.2.2.1.2.2.1) (v:x.2.2.2.2.1=0) (z:x.2.2.2.2.2.1=true->x.2.1=2):cZ m x=0:=by
 refine Gy r (fH.2 ⟨c,by omega,g,h,i,j,?_,?_,?_,?_⟩)
 ·rw[KN]
  by_cases k:x.2.1=2
  ·simp_all
  ·rw[gI k];rfl
 ·rw[zG,kM,da f,cond_true,l,da n,da o,da p,da q];rfl
 ·rw[C7,gI (show ¬x.2.1=1 by omega)];simp_all
 ·rw[Eb]
  grind
theorem ub{x:Node}(o:dq m=true)(c:0<=x.1/\x.1<=m.1-1)(p:x.2.1=0\/x.2.1=1\/x.2.1=5)(f:0<=x.2.2.2.2.2.2.1/\x.2.2.2.2.2.2.1<=2)(g:iI x.2.2.2.2.2.2.2=true)(h:x.2.2.2.2.2.2.2.1=x.1)(i:(x.2.2.2.2.2.2.2.2.2.1.length:Int)=m.1)
  (j:x.2.2.1=(0,0,0,0,0)) (l:x.2.2.2.1=(0,0,0,0,0,0,0)) (q:x.2.1=1->1<=x.2.2.2.2.1/\x.2.2.2.2.1<=(vG m x.1).1) (n:¬x.2.1=1->x.2.2.2.2.1=0) (r:x.2.2.2.2.2.1=true->x.2.1=1):cZ m x=0:=by
 refine Gy o (fH.2 ⟨c,by omega,f,g,h,i,?_,?_,?_,?_⟩)
 ·rw[KN,gI (show ¬x.2.1=2 by omega)];rfl
 ·rw[zG,kM,gI (show ¬(2<=x.2.1/\x.2.1<=4) by omega),cond_false,j,l];rfl
 ·rw[C7]
  simp_all
 ·rw[Eb]
  grind
theorem SY(h:cZ m n=0)(c:n.2.2.2.2.2.1=true):n.2.1=1\/n.2.1=2:=by
 have f:=(fH.1 (df h).2).2.2.2.2.2.2.2.2.2;rw[Eb,c] at f
 simp_all
theorem aer{k:Int}(h:4<=k/\k<=8):af.b .shl .i64 1 k=2^k.toNat:=by
 have:k=4\/k=5\/k=6\/k=7\/k=8:=by omega
 rcases this with rfl|rfl|rfl|rfl|rfl<;>decide
theorem Qd{c:Int}(g:4<=b/\b<=8)(f:0<=a/\a<=b-1)(h:0<=c/\c<=2^b.toNat-1):vA (a,b,c,1,0,0,0)=0:=by
 refine nu.2 ?_;unfold og
 grind
theorem Ez{n:Int}(c:dq m=true)(h:0<=n/\n<=m.1-1):1<=(vG m n).1:=by
 have f:=(iP c).1;rw[vG,pR,c,cond_true,da h];simp[cond_true,decide_true,gz];rw[jb,jb];rw[lC (a:=4*m.1) (by omega) (by omega),lC (a:=n+1) (by omega) (by omega),lC (a:=2*(n+1)) (by omega) (by omega),lC (by omega) (by omega)];omega
theorem ak2{n:Int}(c:dq m=true)(h:0<=n/\n<=m.1-1):1<=(I_ m n).1/\(I_ m n).1<=(vG m n).1:=by
 have f:=(iP c).1;rw[vG,I_,pR,c,cond_true,da h];simp[cond_true,decide_true,gz];rw[jb,jb];rw[lC (a:=4*m.1) (by omega) (by omega),lC (a:=n+1) (by omega) (by omega),lC (a:=2*(n+1)) (by omega) (by omega),lC (a:=4*m.1+2*(n+1)) (by omega) (by omega)];omega
theorem Ms{r:Int}(j:dq m=true)(h:jr m c=true):jr m (qa m c r)=true/\(qa m c r).2.1=c.2.1/\(qa m c r).2.2.2.2=c.2.2.2.2:=by
 rw[qa,Em,da (WZ j h),cond_true];by_cases g:0<=r/\r<=iJ m
 ·rw[da g,cond_true]
  by_cases l:0<r
  ·cases h3:yN m c (r-1)
   ·simp_all
   ·rw[da l,Bool.and_self,cond_true]
    have i:=AS h;have f:=wV i.1;have n:=(iP j).2.1;refine⟨tN (wW f.1 f.2.1 f.2.2.1 f.2.2.2.1 (show 0<=r/\r<=4 by omega) f.2.2.2.2.2) i.2.1.2 g.2,rfl,rfl⟩
  grind
 grind
theorem amL(h:cZ m n=0)(i:(EL m n s).2=0):cZ m (EL m n s).1=0:=by
 have f:=fH.1 (df h).2;have l:=(df h).1;have j:=(iP l);rw[EL,da h,cond_true] at i ⊢;by_cases o:n.2.1=0
 ·rw[da o,cond_true] at i ⊢
  by_cases g:0<=s/\s<=af.b .shl .i64 1 m.1-1
  ·rw[da g,cond_true] at i ⊢
   cases h3:qW s n.1
   ·simp_all
   ·rw[aer j.1] at g
    exact Gu l f.1 (show(2:Int)<=4/\(4:Int)<=4 by omega) f.2.2.1 f.2.2.2.1 f.2.2.2.2.1 f.2.2.2.2.2.1 (λk=>absurd k (show ¬(4:Int)=2 by omega)) (tN (wW (c:=(0,0,0,0,s)) j.1 (show(0:Int)<=0/\(0:Int)<=255 by omega) (show(0:Int)<=0/\(0:Int)<=m.1-1 by omega) (show(0:Int)<=0/\(0:Int)<=3 by omega) (show(0:Int)<=0/\(0:Int)<=4 by omega) g) (show(0:Int)<iJ m by omega) (show(0:Int)<=iJ m by omega)) (Qd j.1 f.1 g) rfl rfl rfl rfl (λk=>by have:=SY h k;omega)
  simp_all
 simp_all
theorem SV{id:Int}(f:(rK m id).2=0):cZ m (rK m id).1=0:=by
 rw[rK] at f ⊢;cases hm:dq m
 ·simp_all
 ·rw[hm,cond_true] at f
  have j:=iP hm;by_cases c:0<=id/\id<=m.1-1
  ·rw[da c,cond_true,cond_true]
   have h:((List.replicate m.1.toNat GB).length:Int)=m.1:=by grind
   refine ub hm c (.inl rfl) (show(0:Int)<=0/\(0:Int)<=2 by omega) ?_ rfl h rfl rfl (λk=>absurd k (show ¬(0:Int)=1 by omega)) (λ_=>rfl) (λk=>by cases k);have g:(List.replicate m.1.toNat GB).all N0=true:=by rw[bG];intro x i;rw[List.eq_of_mem_replicate i];decide
   simp only[iI,g]
   simp_all
  simp_all
theorem Bs{on:Bool}(h:cZ m n=0)(f:(jv m n on).2=0):cZ m (jv m n on).1=0:=by
 have c:=fH.1 (df h).2;have g:=(df h).1;rw[jv,da h,cond_true] at f ⊢;cases on
 ·exact SV f
 ·rw[cond_true] at f ⊢
  by_cases i:n.2.1=0
  ·rw[da i,cond_true]
   exact ub g c.1 (.inr (.inl rfl)) c.2.2.1 c.2.2.2.1 c.2.2.2.2.1 c.2.2.2.2.2.1 rfl rfl (λ_=>⟨Ez g c.1,aj _⟩) (λk=>absurd rfl k) (λk=>rfl)
  simp_all
theorem Zm{c:jm}(h:cZ m n=0)(g:iI c=true)(i:c.1=n.2.2.2.2.2.2.2.1)(j:c.2.2.1.length=n.2.2.2.2.2.2.2.2.2.1.length):cZ m (n.1,n.2.1,n.2.2.1,n.2.2.2.1,n.2.2.2.2.1,n.2.2.2.2.2.1,n.2.2.2.2.2.2.1,c)=0:=by
 have f:=fH.1 (df h).2;exact Gy (df h).1 (fH.2 ⟨f.1,f.2.1,f.2.2.1,g,i.trans f.2.2.2.2.1,(congrArg Int.ofNat j).trans f.2.2.2.2.2.1,f.2.2.2.2.2.2⟩)
theorem amN{c:jm}{d:List Int}(f:(VC c d).2=0):iI (VC c d).1=true/\(VC c d).1.1=c.1/\(VC c d).1.2.2.1.length=c.2.2.1.length:=by
 rw[VC] at f ⊢;cases h:iI c
 ·simp_all
 ·rw[h,cond_true] at f
  by_cases g:8<(d.length:Int)
  ·simp_all
  ·rw[gI g,cond_false]
   simp only[iI] at h ⊢
   simp_all
theorem aid{c:jm}(f:(btS c).2=0):iI (btS c).1=true/\(btS c).1.1=c.1/\(btS c).1.2.2.1.length=c.2.2.1.length:=by
 rw[btS] at f ⊢;cases h:iI c
 ·simp_all
 ·rw[cond_true]
  simp only[iI] at h ⊢
  simp_all
theorem WY{c:jm}{w:Int}(f:(Iz c w).2=0):iI (Iz c w).1=true/\(Iz c w).1.1=c.1/\(Iz c w).1.2.2.1.length=c.2.2.1.length:=by
 rw[Iz] at f ⊢;cases h:iI c
 ·simp_all
 ·rw[h,cond_true] at f
  by_cases g:-1<=w/\w<=3
  ·rw[da g,cond_true]
   simp only[iI] at h ⊢
   simp_all
  simp_all
theorem aeE{c:jm}(h:iI c=true):iI (I9 c).1=true/\(I9 c).1.1=c.1/\(I9 c).1.2.2.1.length=c.2.2.1.length:=by
 rw[I9,h,cond_true];have i:(c.2.2.1.map KE).length=c.2.2.1.length:=bV ..;simp only[iI,fQ,sK] at h ⊢;refine⟨⟨by omega,by omega,h.2.2.1,?_,h.2.2.2.2.1,?_⟩,trivial,i⟩
 ·have m:=h.2.2.2.1
  rw[gg,lC (by omega) (by omega),v_];omega
 ·rw[bG]
  intro x j;obtain⟨y,l,rfl⟩:=dy.1 j;have g:=bG.1 h.2.2.2.2.2 y l;simp only[N0,fQ,sK] at g;have f:0<=(KE y).2/\(KE y).2<=255:=by
   show 0<=af.mn (af.b .add .i64 y.2 1) 255/\af.mn (af.b .add .i64 y.2 1) 255<=255;rw[gz,lC (by omega) (by omega),oR];omega
  rw[N0,fQ];exact⟨da g.1,da f⟩
theorem RQ{c:jm}{d:List Int}(f:(sL c s d).2=0):iI (sL c s d).1=true/\(sL c s d).1.1=c.1/\(sL c s d).1.2.2.1.length=c.2.2.1.length:=by
 rw[sL] at f ⊢;cases h:iI c
 ·simp_all
 rw[cond_true];by_cases i:0<=s/\s<=(c.2.2.1.length:Int)-1
 ·rw[da i,cond_true] at f ⊢
  by_cases j:8<(d.length:Int)
  ·simp_all
  rw[gI j,cond_false];have l:(c.2.2.1.set s.toNat (d,0)).length=c.2.2.1.length:=cO ..;simp only[iI,fQ,sK] at h ⊢;refine⟨⟨by omega,by omega,h.2.2.1,h.2.2.2.1,h.2.2.2.2.1,?_⟩,trivial,l⟩;rw[bG];intro x g;rcases List.mem_or_eq_of_mem_set g with g|rfl
  ·simp_all
  ·simp[N0,fQ,sK];omega
 simp_all
theorem Gj(h:cZ m n=0)(g:r.2=0->iI r.1=true/\r.1.1=n.2.2.2.2.2.2.2.1/\r.1.2.2.1.length=n.2.2.2.2.2.2.2.2.2.1.length)(f:(zT n r).2=0):cZ m (zT n r).1=0:=by
 rw[zT] at f ⊢;by_cases k:r.2=0
 ·rw[da k,cond_true]
  obtain⟨a,b,c⟩:=g k;exact Zm h a b c
 simp_all
theorem adV{o:dL}(h:cZ m n=0)(c:(yM m n o).2=0):cZ m (yM m n o).1=0:=by
 rw[yM,da h,cond_true] at c ⊢;by_cases g:1<=o.2.2.2.1/\o.2.2.2.1<=3
 ·rw[da g,cond_true] at c ⊢
  cases hi:kM n
  ·exact h
  rw[hi,cond_true] at c;by_cases k:o.2.2.2.1=1
  ·rw[da k,cond_true] at c ⊢;exact Gj h amN c
  rw[gI k,cond_false] at c ⊢;by_cases f:o.2.2.2.1=2
  ·rw[da f,cond_true] at c ⊢;exact Gj h aid c
  rw[gI f,cond_false] at c ⊢;exact Gj h WY c
 simp_all
theorem Zl(h:cZ m n=0)(g:kM n=true)(i:jr m c=true)(j:c.2.2.2.2=n.2.2.1.2.2.2.2):cZ m (n.1,n.2.1,c,n.2.2.2)=0:=by
 have f:=fH.1 (df h).2;have l:=pQ h g;refine Gy (df h).1 (fH.2 ⟨f.1,f.2.1,f.2.2.1,f.2.2.2.1,f.2.2.2.2.1,f.2.2.2.2.2.1,f.2.2.2.2.2.2.1,?_,f.2.2.2.2.2.2.2.2⟩);rw[zG,show kM (n.1,n.2.1,c,n.2.2.2)=true from g,cond_true]
 simp_all
theorem aaW(n:dq m=true)(h:jr m c=true):jr m (p_ c m.1).1=true/\(p_ c m.1).1.2.2.2.2=c.2.2.2.2:=by
 have i:=AS h;have f:=wV i.1;rw[p_,da i.1,cond_true];have l:0<=(c.1+1).tmod 256/\(c.1+1).tmod 256<=255:=by grind
 by_cases g:c.2.1+1=m.1
 ·rw[da g,cond_true]
  by_cases j:c.2.2.2.1=0
  ·rw[da j,cond_true]
   exact⟨tN (wW (c:=((c.1+1).tmod 256,0,c.2.2)) f.1 l (show(0:Int)<=0/\(0:Int)<=m.1-1 by omega) f.2.2.2.1 f.2.2.2.2.1 f.2.2.2.2.2) i.2.1.2 i.2.2,rfl⟩
  ·rw[gI j,cond_false]
   exact⟨tN (wW (c:=((c.1+1).tmod 256,0,c.2.2.2.1-1,0,c.2.2.2.2)) f.1 l (show(0:Int)<=0/\(0:Int)<=m.1-1 by omega) (show 0<=c.2.2.2.1-1/\c.2.2.2.1-1<=3 by omega) (show(0:Int)<=0/\(0:Int)<=4 by omega) f.2.2.2.2.2) (show c.2.2.2.1-1<iJ m by omega) (show(0:Int)<=iJ m by omega),rfl⟩
 ·rw[gI g,cond_false]
  exact⟨tN (wW (c:=(c.1,c.2.1+1,c.2.2)) f.1 f.2.1 (show 0<=c.2.1+1/\c.2.1+1<=m.1-1 by omega) f.2.2.2.1 f.2.2.2.2.1 f.2.2.2.2.2) i.2.1.2 i.2.2,rfl⟩
theorem Et(h:cZ m n=0)(g:(jq m n).2=0):cZ m (jq m n).1=0:=by
 rw[jq,da h,cond_true] at g ⊢;cases hi:kM n
 ·simp_all
 obtain⟨a,b⟩:=aaW (df h).1 (pQ h hi).1;have f:=Zl (c:=(p_ n.2.2.1 m.1).1) h hi a b;cases decide ((p_ n.2.2.1 m.1).1.2.1=0)
 ·grind
 ·obtain⟨c,d,e⟩:=aeE (Bi h)
  exact Zm f c d e
theorem aap{k n:Int}(g:4<=k/\k<=8)(h:0<=n/\n<=k-1):0<=af.b .shl .i64 1 n/\af.b .shl .i64 1 n<=2^k.toNat-1:=by
 have c:k=4\/k=5\/k=6\/k=7\/k=8:=by omega
 have f:n=0\/n=1\/n=2\/n=3\/n=4\/n=5\/n=6\/n=7:=by omega
 rcases c with rfl|rfl|rfl|rfl|rfl<;>rcases f with rfl|rfl|rfl|rfl|rfl|rfl|rfl|rfl<;>first|decide|omega
theorem TS(h:cZ m n=0)(u:(iF m n).2.2.2=0):cZ m (iF m n).1=0:=by
 have f:=fH.1 (df h).2;have i:=(df h).1;have l:=iP i;rw[iF,da h,cond_true] at u ⊢;by_cases g:n.2.1=1
 ·obtain⟨p,r⟩:=SZ h (by omega)
  have v:1<=n.2.2.2.2.1/\n.2.2.2.2.1<=(vG m n.1).1:=by
   have j:=f.2.2.2.2.2.2.2.2.1;rw[C7,da g,cond_true,sK] at j;omega
  rw[da g,cond_true];by_cases o:0<n.2.2.2.2.1-1
  ·rw[da o,cond_true]
   exact ub i f.1 (.inr (.inl g)) f.2.2.1 f.2.2.2.1 f.2.2.2.2.1 f.2.2.2.2.2.1 p r (λ_=>show 1<=n.2.2.2.2.1-1/\n.2.2.2.2.1-1<=(vG m n.1).1 by omega) (λk=>absurd g k) (λ_=>g)
  ·rw[gI o,cond_false]
   cases j:(af.n .bool m.2.2.2.2.2.2.1 n.1:Bool)
   ·rw[cond_false]
    exact ub i f.1 (.inr (.inl g)) f.2.2.1 f.2.2.2.1 f.2.2.2.2.1 f.2.2.2.2.2.1 p r (λ_=>⟨Ez i f.1,aj _⟩) (λk=>absurd g k) (λ_=>g)
   ·rw[cond_true]
    have q:=aap l.1 f.1;exact Gu i f.1 (show(2:Int)<=2/\(2:Int)<=4 by omega) f.2.2.1 f.2.2.2.1 f.2.2.2.2.1 f.2.2.2.2.2.1 (λ_=>j) (tN (wW (c:=(0,n.1,0,0,af.b .shl .i64 1 n.1)) l.1 (show(0:Int)<=0/\(0:Int)<=255 by omega) f.1 (show(0:Int)<=0/\(0:Int)<=3 by omega) (show(0:Int)<=0/\(0:Int)<=4 by omega) q) (show(0:Int)<iJ m by omega) (show(0:Int)<=iJ m by omega)) (Qd l.1 f.1 q) rfl rfl rfl rfl (λ_=>rfl)
 simp_all
theorem J6(h:cZ m n=0)(l:jr m c=true)(o:f.1=4->(sL n.2.2.2.2.2.2.2 c.2.1 f.2.2.2.2).2=0):cZ m (zh m n c f)=0:=by
 have g:=fH.1 (df h).2;have j:=(df h).1;obtain⟨q,v,u⟩:=Ms (r:=f.2.1) j l;have p:=(wV (AS l).1).2.2.2.2.2;have i:iI (bif decide (f.1=4) then(sL n.2.2.2.2.2.2.2 c.2.1 f.2.2.2.2).1 else n.2.2.2.2.2.2.2)=true/\(bif decide (f.1=4) then(sL n.2.2.2.2.2.2.2 c.2.1 f.2.2.2.2).1 else n.2.2.2.2.2.2.2).1=n.2.2.2.2.2.2.2.1/\(bif decide (f.1=4) then(sL n.2.2.2.2.2.2.2 c.2.1 f.2.2.2.2).1 else n.2.2.2.2.2.2.2).2.2.1.length=n.2.2.2.2.2.2.2.2.2.1.length:=by
  by_cases k:f.1=4
  ·rw[da k];exact RQ (o k)
  simp_all
 exact Gu j g.1 (show(2:Int)<=3/\(3:Int)<=4 by omega) (show(0:Int)<=0/\(0:Int)<=2 by omega) i.1 (i.2.1.trans g.2.2.2.2.1) ((congrArg Int.ofNat i.2.2).trans g.2.2.2.2.2.1) (λk=>absurd k (show ¬(3:Int)=2 by omega)) q (Qd (iP j).1 g.1 p) rfl rfl u rfl (λk=>by cases k)
theorem SG{s:List Seen}{o:Bool}(h:cZ m n=0)(p:(lg m n s o).2.2.2=0):cZ m (lg m n s o).1=0:=by
 have f:=fH.1 (df h).2;have i:=(df h).1;have q:=iP i;rw[lg,da h,cond_true] at p ⊢;by_cases g:n.2.1=1
 ·rw[da g,cond_true] at p ⊢
  by_cases r:(s.length:Int)=2
  ·rw[da r,cond_true]
   cases hx:(iY m.1 s).2.2
   ·exact h
   obtain⟨C,D,j⟩:=XI hx;have E:=Ys j;by_cases l:(iY m.1 s).1.1=1
   ·rw[da l,cond_true]
    by_cases u:(iY m.1 s).1.2.2.2.1=n.1
    ·simp_all
    ·rw[gI u,cond_false]
     cases o && !n.2.2.2.2.2.1
     ·rw[cond_false]
      exact J6 h (tN (wW (c:=(0,(iY m.1 s).1.2.2.2.1,0,0,af.b .shl .i64 1 (iY m.1 s).1.2.2.2.1)) q.1 (show(0:Int)<=0/\(0:Int)<=255 by omega) (show 0<=(iY m.1 s).1.2.2.2.1/\(iY m.1 s).1.2.2.2.1<=m.1-1 by omega) (show(0:Int)<=0/\(0:Int)<=3 by omega) (show(0:Int)<=0/\(0:Int)<=4 by omega) (aap q.1 (by omega))) (show(0:Int)<iJ m by omega) (show(0:Int)<=iJ m by omega)) (λk=>by omega)
     ·rw[cond_true]
      obtain⟨A,B⟩:=SZ h (by omega);exact ub i f.1 (.inr (.inl g)) f.2.2.1 f.2.2.2.1 f.2.2.2.2.1 f.2.2.2.2.2.1 A B (λ_=>⟨Ez i f.1,aj _⟩) (λk=>absurd g k) (λ_=>g)
   ·rw[gI l,cond_false]
    cases hj:SU m n (iY m.1 s).1
    ·exact h
    ·rw[cond_true]
     have v:=Xs h j hj;have z:jr m (iY m.1 s).1.2.2.1=true:=by rw[SU,fQ] at hj;simp_all
     exact J6 h z λ_=>v
  simp_all
 simp_all
theorem XL(h:jr m c=true)(i:0<=s/\s<=2^m.1.toNat-1):jr m (c.1,c.2.1,c.2.2.1,c.2.2.2.1,s)=true:=by
 have g:=AS h;have f:=wV g.1;exact tN (wW (c:=(c.1,c.2.1,c.2.2.1,c.2.2.2.1,s)) f.1 f.2.1 f.2.2.1 f.2.2.2.1 f.2.2.2.2.1 i) g.2.1.2 g.2.2
theorem acd{v:vq}(h:vA v=0):0<=v.2.2.1/\v.2.2.1<=2^v.2.1.toNat-1:=by
 have c:=nu.1 h;unfold og at c
 grind
theorem N7{v:vq}(h:cZ m n=0)(g:kM n=true)(j:vA v=0)(l:v.1=n.1)(f:v.2.1=m.1):cZ m (Jp n v)=0:=by
 have c:=fH.1 (df h).2;have o:=pQ h g;have i:=acd j;rw[f] at i;refine Gy (df h).1 (fH.2 ⟨c.1,c.2.1,c.2.2.1,c.2.2.2.1,c.2.2.2.2.1,c.2.2.2.2.2.1,c.2.2.2.2.2.2.1,?_,c.2.2.2.2.2.2.2.2⟩);rw[zG,show kM (Jp n v)=true from g,cond_true];show(jr m (n.2.2.1.1,n.2.2.1.2.1,n.2.2.1.2.2.1,n.2.2.1.2.2.2.1,v.2.2.1)&&(decide (vA v=0)&&(decide (v.1=n.1)&&(decide (v.2.1=m.1)&&decide (v.2.2.1=v.2.2.1)))))=true;rw[XL o.1 i,da j,da l,da f,da rfl];rfl
theorem YN(c:kM n=true):2<=n.2.1/\n.2.1<=4:=of_decide_eq_true c
theorem aeg{x:Node}(h:cZ m x=0)(g:kM x=true):cZ m (on4 x)=0:=by
 have f:=fH.1 (df h).2;have c:=pQ h g;have j:=YN g;have i:=S7 h (show ¬x.2.1=1 by omega);exact Gu (df h).1 f.1 (show(2:Int)<=4/\(4:Int)<=4 by omega) f.2.2.1 f.2.2.2.1 f.2.2.2.2.1 f.2.2.2.2.2.1 (λk=>absurd k (show ¬(4:Int)=2 by omega)) c.1 c.2.1 c.2.2.1 c.2.2.2.1 c.2.2.2.2 i (λk=>by cases k)
theorem afM(h:vA n.2.2.2.1=0):vA (qi n).1=0/\(qi n).1.1=n.2.2.2.1.1/\(qi n).1.2.1=n.2.2.2.1.2.1:=by
 rw[qi];cases decide (n.2.1=2)&&(decide (n.2.2.2.1.2.2.2.1<2)||decide (n.2.2.2.1.2.2.2.1<=n.2.2.2.1.2.2.2.2.1))
 ·rw[cond_false]
  generalize n.2.2.2.1=V at h ⊢;cases decide (n.2.1=3)
  ·obtain⟨g,i,j,l,m,w,c,f,_⟩:=Tb (nu.1 h)
   rw[cond_false,c];exact⟨nu.2 f,rfl,rfl⟩
  ·obtain⟨g,i,j,l,m,w,c,f,_⟩:=YT (nu.1 h)
   rw[cond_true,c];exact⟨nu.2 f,rfl,rfl⟩
 simp_all
theorem aez{x:Node}(h:cZ m x=0)(c:kM x=true):cZ m (aey m x).1=0:=by
 obtain⟨f,i,g⟩:=Ms (r:=(QX m x).2.1) (df h).1 (pQ h c).1;exact Zl h c f g
theorem adN(h:cZ m n=0)(f:kM n=true):cZ m (ajS n (qi n).1)=0:=by
 have c:=pQ h f;obtain⟨g,i,j⟩:=afM c.2.1;exact aeg (N7 h f g (i.trans c.2.2.1) (j.trans c.2.2.2.1)) f
theorem Zx(h:cZ m n=0)(g:(re m n).2.2.2=0):cZ m (re m n).1=0:=by
 have c:=fH.1 (df h).2;have f:=(df h).1;rw[re,da h,cond_true] at g ⊢;cases hi:kM n&&decide (n.2.2.1.2.1=n.1)
 ·simp_all
 rw[fQ] at hi;rw[cond_true,D2];cases decide ((qi n).2=2)
 ·rw[cond_false]
  cases decide ((qi n).2=3)
  ·rw[cond_false]
   cases decide ((qi n).2=4)
   ·rw[cond_false]
    exact aez (adN h hi.1) rfl
   ·rw[cond_true]
    have i:=ak2 f c.1;exact ub f c.1 (.inr (.inl rfl)) c.2.2.1 c.2.2.2.1 c.2.2.2.2.1 c.2.2.2.2.2.1 rfl rfl (λ_=>i) (λk=>absurd rfl k) (λ_=>rfl)
  ·rw[cond_true]
   exact ub f c.1 (.inr (.inl rfl)) (show(0:Int)<=2/\(2:Int)<=2 by omega) c.2.2.2.1 c.2.2.2.2.1 c.2.2.2.2.2.1 rfl rfl (λ_=>⟨Ez f c.1,aj _⟩) (λk=>absurd rfl k) (λ_=>rfl)
 ·rw[cond_true]
  exact ub f c.1 (.inr (.inr rfl)) (show(0:Int)<=1/\(1:Int)<=2 by omega) c.2.2.2.1 c.2.2.2.2.1 c.2.2.2.2.2.1 rfl rfl (λk=>absurd k (show ¬(5:Int)=1 by omega)) (λ_=>rfl) (λk=>by cases k)
theorem WX{v:vq}{o:qf}(h:(qq (c,v,s,seen)).2=0)(B:o=(qq (c,v,s,seen)).1\/o=KI):vA (oH (v,s,o)).1=0/\(oH (v,s,o)).1.1=v.1/\(oH (v,s,o)).1.2.1=v.2.1:=by
 obtain⟨a,b,c,d,e,f,g⟩:=v;rcases B with rfl|rfl
 ·obtain⟨m,C,D,n,p,j,l,_⟩:=Jw h
  rw[j];exact⟨nu.2 l,rfl,rfl⟩
 ·obtain⟨q,r,u,z,_⟩:=Ae h
  have i:=ib.1 q;obtain⟨m,n,p,j,l,_⟩:=Bo i r u z;have A:=i;unfold og at A;rw[KG rfl,Pj j (show 0<=e by omega) (show e<=1048576 by omega)];exact⟨nu.2 (aoH l (inc_le (d:=e) (show 0<=e by omega) (show e<=1048576 by omega))),rfl,rfl⟩
theorem aeo{x:Node}(h:cZ m x=0):cZ m (z8 x)=0:=by
 rw[z8];by_cases k:x.2.1=4
 ·cases Uo x.2.2.2.1
  ·rw[da k,Bool.not_false,Bool.and_self,cond_true]
   have f:=fH.1 (df h).2;have g:kM x=true:=da (by omega);have c:=pQ h g;have i:=S7 h (show ¬x.2.1=1 by omega);exact Gu (df h).1 f.1 (show(2:Int)<=3/\(3:Int)<=4 by omega) f.2.2.1 f.2.2.2.1 f.2.2.2.2.1 f.2.2.2.2.2.1 (λk=>absurd k (show ¬(3:Int)=2 by omega)) c.1 c.2.1 c.2.2.1 c.2.2.2.1 c.2.2.2.2 i (λj=>by have:=SY h j;omega)
  simp_all
 simp_all
theorem Xa{x:Node}(h:cZ m x=0)(g:kM x=true)(j:(sL x.2.2.2.2.2.2.2 x.2.2.1.2.1 f.2.2.2.2).2=0):cZ m (JB m x f)=0:=by
 obtain⟨l,o,n⟩:=Ms (r:=f.2.1) (df h).1 (pQ h g).1;have i:=Zl h g l n;rw[JB];by_cases k:f.1=3
 ·simp_all
 ·rw[gI k]
  obtain⟨a,b,c⟩:=RQ j;exact Zm i a b c
theorem S_{s:List Seen}(h:cZ m n=0)(j:(oh m n s).2.2=0):cZ m (oh m n s).1=0:=by
 rw[oh,da h,cond_true] at j ⊢;cases hi:kM n&&decide (¬n.2.2.1.2.1=n.1)
 ·grind
 rw[fQ] at hi;have f:=λ(o:qf) (g:(BE n s).2=0)=>WX (c:=n.2.2.1) (v:=n.2.2.2.1) (s:=n.2.2.1.2.1) (seen:=s) (o:=o) g;have r:qq (n.2.2.1,n.2.2.2.1,n.2.2.1.2.1,s)=BE n s:=rfl;rw[r] at f;generalize BE n s=S at f j ⊢;by_cases g:S.2=0
 ·rw[da g,cond_true]
  have i:=pQ h hi.1;have l:∀o:qf,o=S.1\/o=KI->cZ m (Jp n (Nb n o))=0:=λo q=>by
   obtain⟨a,b,c⟩:=f o g q;exact N7 h hi.1 a (b.trans i.2.2.1) (c.trans i.2.2.2.1)
  refine aeo ?_;by_cases k:S.1.1=3
  ·cases hl:Bc m n.2.2.1 S.1.2.2.2.1
   ·rw[SQ k hl];exact l _ (.inr rfl)
   ·rw[NT hl,da k]
    have p:=RP h hl;exact Xa (l _ (.inl rfl)) hi.1 p
  ·rw[Y4 k,gI k];simp_all
 simp_all
abbrev eY:Ty:=qO
abbrev fO:Type:=vq
abbrev oq:Ty:=(.struct [yI,(.slice .bool),BY,BY,BY,BY,(.slice eZ),(.slice eY)])
abbrev ia:Type:=Int×List Bool×List Int×List Int×List Int×List Int×List dL×List fO
abbrev iv:Ty:=(.struct [yI,fA])
abbrev fj:Type:=Int×Node
abbrev pn:Ty:=(.struct [yI,yI,yI,yI])
abbrev jc:Type:=Int×Int×Int×Int
abbrev bO:Ty:=(.struct [fA,wP,yI,yI,yI,.bool,.bool,.bool])
abbrev cm:Type:=Node×qk×Int×Int×Int×Bool×Bool×Bool
abbrev Jq:Ty:=(.struct [kT,yI])
abbrev sH:Type:=Span×Int
variable{P:Program}{z:Value}{ρ:Shelf.Ren}
open Go.Lib Go.RowKit Go.Shelf in
set_option maxHeartbeats 2000000 in
theorem adv(L:SlLaysE0.n41 P ρ){l:TypeInfo}{size g:Nat}(S:P.info? (ρ.t 23)=some l)(r:l.zero=some z)(v:l.size=size)(B:l.bytes=g)(C:z.cells.size=size)(q:0<size)
  (a5:∀w,(Go.sizeOf (ρ.t 23)).run P w=.ok size w) (a:Addr) (n c:Nat) (f:List Value) (w:World) (hl:f.length=n*size) (hn:n<=maxLen) (H:n*g<=140737488355328)
  (Q:∀j u,f[j]? = some u->w.cell? (a.add j)=some u) (h1:∀u∈f,u.oneCell'=true) :
  Calls P (ρ.f 41) #[.slice (some a) n c] w λe J=>∃o,e=.returned o/\J.ownsRow w.heap.size (ρ.t 23) size o n f/\o≠.slice none 0 0/\Below w.heap.size w J:=by
 have D:=L.mixed;have t4:=L.t4;have a4:=L.a4;have z4:=L.z4;have v4:=L.v4;have m:=L.t22;have O:=L.a22;have a3:=L.z22;have a0:=L.v22;have X:∀(w:World) (a:Option Addr) (n c E p:Nat),(binOp .eql (ρ.t 22) (.slice a n c) (.slice none E p)).run P w=.ok (.bool a.isNone) w:=λw a n c E p=>Lib.run_eql_slice_nil w _ _ a n c E p L.t22;have Z:∀w,Sem.run P (underlying (ρ.t 22)) w=.ok (TypeDesc.slice (ρ.t 23)) w:=run_underlying m;have A:Aside (∀j u,f[j]? = some u->w.cell? (a.add j)=some u):=Q;obtain⟨_,_,K⟩:=L.f41
 go_enter K,SlBodyN.n41_ntmps ρ
 go_wp2_with (at_builtin;refine wpList_append_own _ rfl _ _ (ρ.t 22) rfl w.heap.size (ρ.t 23) l z size g m S r v B C q _ _ _ rfl (World.ownsRow_made w #[] 0 (ah _) (aX _) (by simp)) a n c f rfl ?qc1 ?qc2 ?qc3 ?qc4 ?qc5 ?qc6 ?_)
 case qc1=>omega
 case qc2=>exact λj u V=>Lib.cell?_alloc_some _ (A.out j u V)
 case qc3=>omega
 case qc4=>omega
 case qc5=>simp_all
 case qc6=>simp
 intro o w1 I h i
 go_wp2
 go_ret
 refine⟨o,rfl,by omega,i,((Below.refl _ w).alloc (ah _) _).grown h (by simp) (by intro k W;simp[Value.ownBlock] at W;omega)⟩
open Go.Lib Go.RowKit Go.Shelf in
theorem Fw(L:SlLaysE0.n41 P ρ)(t:Ty){E:TypeInfo}{c:Nat}(D:P.info? (ρ.t 23)=some E)(X:E.zero=some z)(Z:E.size=t.size)(a0:E.bytes=c)(a3:z.cells.size=t.size)(S:0<t.size)(Q:t.rN=true)
  (a5:∀w,(Go.sizeOf (ρ.t 23)).run P w=.ok t.size w) {F:Func} (hF:P.funcs[ρ.f 41]? = some F) (f:F.body.isSome=true) (hn:(F.name == "runtime.NumGoroutine")=false) :
  aM.bH P (ρ.f 41) ⟨[.slice t], [.slice t],λx=>decide (((show List t.T from x).length:Int)*c<=140737488355328),λx=>x,false⟩:=by
 refine⟨λw I x aa hI A hp=>?_,nofun,⟨F,hF,f,hn⟩⟩;obtain⟨l⟩:=aa;obtain⟨v,rfl,hv⟩:∃v,l=[v]/\mE w I (.slice t) v x:=A;have q:(show List t.T from x).length*c<=140737488355328:=by grind
 obtain⟨a,o,us,rfl,h2,h3,h4,h5,h6,h7⟩:=Es.Lt hv;cases a with
 | none=>
   have W:x=([]:List t.T):=a_ (by simp_all);subst W;refine(AnyE.slices_Clone_nil L 0 o w).mono ?_
   rintro e C ⟨rfl,rfl⟩
   exact⟨_,rfl,rfl,rfl,rfl,ah _,λ_ _=>rfl,I,λb h=>.inl h,dX.2 ⟨none,0,rfl,ah _,aX _,(λ_=>rfl),λi y h=>by cases h⟩⟩
 | some a=>
   refine(adv L D X Z a0 a3 S a5 a (show List t.T from x).length o us w h3 (aU h2 (by decide)) q (λj u hj=>?_) λu hu=>?_).mono ?_
   ·obtain⟨av,_⟩:=aT.1 hj
    obtain⟨b,off,e,hr⟩:=h4 (λk=>by simp_all);cases e;rw[mf];exact hr j u hj
   ·obtain⟨i,K,O⟩:=yg h3 hu
    exact bS.oneCell t Q (h7 i _ (Gd K)) u O
   ·rintro e C ⟨v',rfl,⟨hn,B⟩,ae,f⟩
    rcases B with ⟨hz,_⟩|⟨g,p,H,rfl,n,hg,r,aw,ag,V⟩
    ·simp_all
    refine⟨_,rfl,f.os,f.tape,f.output,f.size,f.block,λb=>b<w.heap.size/\I b\/w.heap.size<=b/\b<C.heap.size,λb h=>h.elim (λh=>.inl h.2) .inr,dX.2 ⟨_,p,rfl,r,h2,(λh=>by cases h),λi y hy=>?_⟩⟩;have D:i<(show List t.T from x).length:=(aT.1 hy).1;have J:∀b,I b->(b<w.heap.size/\I b\/w.heap.size<=b/\b<C.heap.size)/\C.heap[b]? = w.heap[b]? :=λb m=>⟨.inl ⟨hI b m,m⟩,f.block b (hI b m)⟩;refine⟨g,0,(us.drop (i*t.size)).take t.size,rfl,.inr ⟨n,(dp.1 hg).1⟩,?_,?_,(h7 i y hy).mono J t⟩
    ·have:(i+1)*t.size<=(show List t.T from x).length*t.size:=aG _ D
     grind
    ·have b0:=iM (w:=C) hg (0+i*t.size) t.size
     have h8:(H.toList.drop (0+i*t.size)).take t.size=(us.drop (i*t.size)).take t.size:=by
      have:(i+1)*t.size<=(show List t.T from x).length*t.size:=aG _ D;rw[<-V,gx,kG,kI]
      grind
     simp_all
def akS:Shelf.Ren:=⟨λx=>match x with|41=>165|n=>n,λx=>match x with|22=>34|4=>4|23=>139|n=>n,λx=>x⟩
theorem ad9:SlLaysE0.n41 Tryz.prog akS:=
 {mixed:=by kernel_rfl,f41:=⟨Tryz.f165.name,by kernel_rfl,Tryz.func165.trans (congrArg some (by kernel_rfl))⟩,t4:=Tryz.underlying4,a4:=Tryz.isAgg4,z4:=Tryz.sizeOf4,v4:=Tryz.zeroValue4,t22:=Tryz.underlying34,a22:=Tryz.isAgg34,z22:=Tryz.sizeOf34,v22:=Tryz.zeroValue34}
def Yd:List dL->List dL:=λx=>x
def Qo:List dL->Bool:=λx=>decide ((x.length:Int)*(64:Nat)<=140737488355328)
def asd:aM:=⟨[.slice eZ], [.slice eZ],Qo,Yd,false⟩
theorem aqe:Sd 165 asd:=by
 obtain⟨j,h,c,f,g⟩:=info_parts (show(Tryz.prog.info? 139).map (λi=>(i.zero,i.size,i.bytes))=some (some (.agg #[.int .i64 0,.int .i64 0,.int .i64 0,.int .i64 0,.int .i64 0,.slice none 0 0]),6,64) by kernel_rfl);exact Fw ad9 eZ h c f g (by kernel_rfl) (by decide) (by kernel_rfl) Tryz.sizeOf139 Tryz.func165 (by kernel_rfl) (by kernel_rfl)
def akT:Shelf.Ren:=⟨λx=>match x with|41=>218|n=>n,λx=>match x with|22=>32|4=>4|23=>31|n=>n,λx=>x⟩
theorem ad_:SlLaysE0.n41 Tryz.prog akT:=
 {mixed:=by kernel_rfl,f41:=⟨Tryz.f218.name,by kernel_rfl,Tryz.func218.trans (congrArg some (by kernel_rfl))⟩,t4:=Tryz.underlying4,a4:=Tryz.isAgg4,z4:=Tryz.sizeOf4,v4:=Tryz.zeroValue4,t22:=Tryz.underlying32,a22:=Tryz.isAgg32,z22:=Tryz.sizeOf32,v22:=Tryz.zeroValue32}
def F3:List fO->List fO:=λx=>x
def Qp:List fO->Bool:=λx=>decide ((x.length:Int)*(56:Nat)<=140737488355328)
def ash:aM:=⟨[.slice eY], [.slice eY],Qp,F3,false⟩
theorem agW:Sd 218 ash:=by
 obtain⟨j,h,c,f,g⟩:=info_parts (show(Tryz.prog.info? 31).map (λi=>(i.zero,i.size,i.bytes))=some (some (.agg #[.int .i64 0,.int .i64 0,.int .i64 0,.int .i64 0,.int .i64 0,.int .i64 0,.int .i64 0]),7,56) by kernel_rfl);exact Fw ad_ eY h c f g (by kernel_rfl) (by decide) (by kernel_rfl) Tryz.sizeOf31 Tryz.func218 (by kernel_rfl) (by kernel_rfl)
def atn(A:aS)(c:Int):LT Bool Empty:=.br (A.bK c 1) (.ret true) (.br (A.bK c 2) (.ret true) (.br (A.bK c 6) (.ret true) (.br (A.bK c 5) (.ret true) (.br (A.bK c 9) (.ret true) (.br (A.bK c 10) (.ret true) (.ret false))))))
def ND:Int->Bool:=λc=>(atn af c).val (Ty.aR [.bool])
def asi:aM:=.all [yI] [.bool] ND
theorem agX:Sd 220 asi:=fa (aP ar dK (.kQ [0,1,0,1,0,1,0,1,0,1]) 58 [] (λA c=>atn A c) (kz (fc Tryz.func220 fz) sz) (λ_ _ _=>LT.bE (by kernel_rfl)))
theorem bW{l:List α}(h:0<=i/\i<(l.length:Int)):af.and (af.bU 0 i) (af.bD i (af.l l))=true:=by
 rw[bl,aC,aV,d_,da h.1,da h.2];rfl
theorem gy{l:List α}{v:α}:(af.set l i v).length=l.length:=cO ..
def uQ(a b:Int):Int:=bif decide (a<b) then -1 else bif decide (b<a) then 1 else 0
def Zz:List Int->Int
 | []=>0
 | a::l=>bif decide (a=0) then Zz l else a
def atj(A:aS)(c:Int):LT Bool Empty:=.ret (A.cr c c)
def NC:Int->Bool:=λc=>(atj af c).val (Ty.aR [.bool])
def ag8:aM:=.all [yI] [.bool] NC
theorem aph:aM.oD Tryz.prog 91 ag8/\Sd 91 ag8:=fd (rV ar dK sl 17 [] [] (λA c=>atj A c) (λ_=>Empty.elim) Empty.elim (fc Tryz.func91 fz) szD (λ_ y=>y.elim) λ(c:Int) f h=>LT.runs (d:=Ty.aR [.bool]) (LT.kF (by kernel_rfl)) (LT.bE (by kernel_rfl)))
def ath(A:aS)(f:Int)(c:Int):LT Int Empty:=.br (A.k NC f) (.br (A.k NC c) (.ret 0) (.ret (-1))) (.br (A.k NC c) (.ret 1) (.br (A.bD f c) (.ret (-1)) (.br (A.jw f c) (.ret 1) (.ret 0))))
theorem Ze:af.k NC x=false:=by
 show af.cr x x=false;rw[dM];simp_all
theorem auv:aW Empty.elim (ath af a b) (uQ a b):=by
 refine(ak Ze).2 ((ak Ze).2 ?_);unfold uQ;by_cases f:a<b
 ·rw[da f];exact(al (by rw[aV];simp_all)).2 (.ret _)
 ·rw[gI f]
  refine(ak (by rw[aV];simp_all)).2 ?_;by_cases c:b<a
  ·rw[da c];exact(al (show af.jw a b=true from da c)).2 (.ret _)
  ·rw[gI c];exact(ak (show af.jw a b=false from gI c)).2 (.ret _)
def q8:(Int×Int)->Int:=λ(a,b)=>uQ a b
def aaM:aM:=.all [yI,yI] [yI] q8
theorem agA:aM.oD Tryz.prog 60 aaM/\Sd 60 aaM:=fd (rV ar dK sl 58 [] [] (λA (c,f)=>ath A c f) (λ_=>Empty.elim) Empty.elim (fc Tryz.func60 fz) (scD aph szD) (λ_ y=>y.elim) λ(c,f) g h=>auv)
theorem aaJ:Sd 60 aaM:=agA.2
structure Wj where
 (a1:List Int) (a2:Int)
inductive acJ where
 | c0 (p:Wj) (a3:Int)
noncomputable def aiL:acJ->iH
 | .c0 p a3=>⟨[⟨59,18,(en [(3,vi 0),(6,.sl yI p.a1),(7,vi p.a2),(8,vi a3)]),sk Tryz.f59 [1,1,0,1,0,0],[],none⟩],[.aZ]⟩
def atg(A:aS)(c:List Int):LT Int acJ:=.ao (.c0 ⟨c,(A.l c)⟩ 0)
def aac(A:aS):acJ->LT Int acJ
 | .c0 p a3=>.br (A.bD a3 p.a2) (.gQ A a3 p.a1 (.br (A.cr (A.n yI p.a1 a3:Int) 0) (.ret (A.n yI p.a1 a3:Int)) (.ao (.c0 p (A.b .add .i64 a3 1))))) (.ret 0)
variable{l:List Int}
theorem aej{p:Wj}(g:p.a1=l)(f:p.a2=(l.length:Int))(q:l.length<=140737488355328):
  ∀(j i:Nat),l.length-i=j->i<=l.length->aW (aac af) (.ao (.c0 p (i:Int))) (Zz (l.drop i)):=by
 intro j
 induction j with
 | zero=>
   intro i n m;have:i=l.length:=by omega
   subst this;rw[aB,aac,f,cK];exact(ak (by rw[aV];simp)).2 (.ret _)
 | succ j ih=>
   intro i n m;have c:i<l.length:=by omega
   have o:=ih (i+1) (by omega) (by omega);rw[aB,aac,g,f];refine(al (by simp_all;exact da (by omega))).2 (au.2 ⟨du c,?_⟩);rw[show(af.n yI l (i:Int):Int)=l[i] from fL c _,AB c,Zz,iC (i:=i) (by omega)];by_cases h:l[i]=0
   ·rw[da h]
    exact(ak (by rw[dM];simp_all)).2 o
   ·rw[gI h]
    exact(al (by rw[dM];simp_all)).2 (.ret _)
theorem or1(h:Ty.jK [.slice (.int .i64)] l):aW (aac af) (atg af l) (Zz l):=
 aej (l:=l) rfl rfl h.1 l.length 0 rfl (by omega)
def NB:(List Int)->Int:=λl=>Zz l
def aaL:aM:=.all [BY] [yI] NB
theorem agz:aM.oD Tryz.prog 59 aaL/\Sd 59 aaL:=fd (rV ar dK sl 23 [⟨59,3, [[3,6,7,8]]⟩] [] (λA c=>atg A c) aac aiL (fc Tryz.func59 fz) szD (λA y=>match y with |.c0 p f=>⟨34,sl,by kernel_rfl⟩) λc g h=>or1 h)
theorem aaI:Sd 59 aaL:=agz.2
def ati(A:aS)(a:fO)(b:fO):LT Int Empty:=.ret (A.k NB [(A.k q8 (a.2.2.2.1,b.2.2.2.1)),(A.k q8 (a.2.2.2.2.1,b.2.2.2.2.1)),(A.k q8 (a.1,b.1)),(A.k q8 (a.2.1,b.2.1)),(A.k q8 (a.2.2.1,b.2.2.1)),(A.k q8 (a.2.2.2.2.2.1,b.2.2.2.2.2.1)),(A.k q8 (a.2.2.2.2.2.2,b.2.2.2.2.2.2))])
def Yb:(fO×fO)->Int:=λ(a,b)=>(ati af a b).val (Ty.aR [yI])
def ag7:aM:=.all [eY,eY] [yI] Yb
theorem apg:aM.oD Tryz.prog 176 ag7/\Sd 176 ag7:=fd (rV ar dK sl 53 [] [] (λA (a,b)=>ati A a b) (λ_=>Empty.elim) Empty.elim (fc Tryz.func176 fz) (scD agz (scD agA szD)) (λ_ y=>y.elim) λ((a,b):fO×fO) c h=>LT.runs (d:=Ty.aR [yI]) (LT.kF (by kernel_rfl)) (LT.bE (by kernel_rfl)))
variable{g:Array Obj}{off:Nat}
section
open Go.Sort
theorem DN(w:World)(b:Nat)(f:Array Value->Array Value)(c:Nat):(mapBlock w b f).heap[c]? = if b=c then w.heap[c]?.map (onCells f) else w.heap[c]? :=by
 unfold mapBlock
 grind
variable {α:Type} [Inhabited α] {enc:α->List Value} {k:Nat}
theorem xJ{w:World}{b n:Nat}{d:Array α}{c:Nat}(h:c<w.heap.size)(f:c≠b):(sortWorldK enc k w b off n d g).heap[c]? = w.heap[c]? :=by
 show((mapBlock (Sort.ahead w n) b (Sort.putCells id off (flatK enc k d))).heap++g)[c]? = _;rw[lJ (by simpa [mapBlock,Sort.ahead] using h),DN,if_neg (g_ f)];rfl
theorem He{w:World}{b n:Nat}{d:Array α}{i:Array Value}{T:TypeId}{f:Nat×Nat}(h:w.heap[b]? = some (.cells i T f)):
  (sortWorldK enc k w b off n d g).heap[b]? = some (.cells (Sort.putCells id off (flatK enc k d) i) T f):=by
 have c:=(dp.1 h).1;show((mapBlock (Sort.ahead w n) b (Sort.putCells id off (flatK enc k d))).heap++g)[b]? = _;rw[lJ (by simpa [mapBlock,Sort.ahead] using c),DN,if_pos rfl];show(w.heap[b]?).map _=_;rw[h];rfl
theorem CY{F c:Array Value}:(Sort.putCells id off F c).size=c.size:=by simp[Sort.putCells]
theorem aeO{j:Nat}{F c:Array Value}(f:off<=j)(g:j<off+F.size)(h:j<c.size):(Sort.putCells id off F c).toList[j]? = some F[j-off]! :=by
 have i:j<(Sort.putCells id off F c).size:=by rw[CY];omega
 simp only[Sort.putCells]
 simp_all
theorem RU{d:Array α}{i r:Nat}(j:i<d.size)(c:r<k):(flatK enc k d)[i*k+r]! = (enc d[i]!)[r]! :=by
 have f:(i*k+r)/k=i:=by rw[mo,Nat.mul_add_div (by omega),Nat.div_eq_of_lt c,kv]
 have g:(i*k+r)%k=r:=by rw[mo,Nat.mul_add_mod,ij c]
 have h:i*k+r<d.size*k:=by
  have:=aG k (show i+1<=d.size from j)
  grind
 rw[get_flatK _ _ _ _ h,f,g]
theorem Vh(l:∀x,(enc x).length=k){d:Array α}{g:Array Value}(h:off+d.size*k<=g.size){i:Nat}(c:i<d.size):
  ((Sort.putCells id off (flatK enc k d) g).toList.drop (off+i*k)).take k=enc d[i]! :=by
 have j:i*k+k<=d.size*k:=by
  have:=aG k (show i+1<=d.size from c)
  grind
 apply dG;intro r;by_cases f:r<k
 ·rw[jE f,bX,aeO (by omega) (by rw[size_flatK];omega) (by omega),show off+i*k+r-off=i*k+r by omega,RU c f]
  simp_all
 grind
theorem Uw(r:∀x,(enc x).length=k){w:World}{b:Nat}{d:Array α}{f:Array Value}{T:TypeId}(m:w.heap[b]? = some (.cells f T (0,0)))(h:off+d.size*k<=f.size)
  (q:∀i,i<d.size->(f.toList.drop (off+i*k)).take k=enc d[i]!):HoldsK enc k w b off d:=by
 intro j g;rw[size_flatK] at g;have c:0<k:=by grind
 have n:j/k<d.size:=(Nat.div_lt_iff_lt_mul c).2 g;have o:j%k<k:=mC _ c;have e:j/k*k+j%k=j:=Nat.div_add_mod' j k;refine⟨?_,?_⟩
 ·unfold World.cell?
  simp only[m];have l:off+j<f.size:=by omega
  rw[Option.isSome_none,if_neg (by decide),gw l];congr 1;have p:(flatK enc k d)[j]! = (enc d[j/k]!)[j%k]! :=by rw[<-RU n o,e]
  grind
 ·unfold World.frozen?
  grind
end
section
open Go.Lib Go.RowKit Go.Shelf Go.Sort
theorem Vg{P:Program}{ρ:Shelf.Ren}(L:SlLaysF0.n6 P ρ)(t:Ty){c:FuncId}{fn:Ty.Ts [t,t]->Ty.Ts [.int .i64]}(hc:aM.oD P c ⟨[t,t], [.int .i64],λ_=>true,fn,true⟩)(eg:∀args w,(callFunc c args).run P w=.ok (.enter c args) w)
  (aE:∀w,(isAgg (ρ.t 24)).run P w=.ok true w) (zE:∀w,(Go.sizeOf (ρ.t 24)).run P w=.ok t.size w) (hso:t.rN=true) (hag:t.isAgg=true)
  {lt:t.T->t.T->Bool} (hlt:∀x y,lt x y=decide ((show Int from fn (x,y))<0)) (hO:SWO lt) (hT:∀x y,lt x y=false->lt y x=false->x=y) {F:Func} (hF:P.funcs[ρ.f 6]? = some F) (hb:F.body.isSome=true) (hn:(F.name == "runtime.NumGoroutine")=false) :
  fT.bH P (ρ.f 6) ⟨t, [], [c], [],λ_=>true,λx=>(x.1.mergeSort λa b=>!(lt b a),())⟩:=by
 refine⟨λw I x y v aa B hI hv hB hy _=>?_,F,hF,hb,hn⟩;have haa:aa=[]:=hy;subst haa;rcases nL.1 hv with ⟨rfl,rfl,a,e⟩|⟨b,dl,cap,rfl,e,h1,h2,vs,T,fr,h3,h4,h5,h6⟩
 ·cases e
  refine(AnyF.slices_SortFunc_none L a 0 (.func (.func c) #[] #[]) w).mono ?_
  rintro e w' ⟨rfl,rfl⟩
  exact⟨_,rfl,rfl,rfl,rfl,ah _,λ_ _ _=>rfl,I,λb hb=>⟨.inl hb,hI b hb⟩,λb us T fr h=>⟨us,T,fr,h,rfl⟩,nL.2 (.inl ⟨by simp,rfl,a,rfl⟩),rfl⟩
 ·cases e
  by_cases hne:x=[]
  ·subst hne
   refine(AnyF.slices_SortFunc_none L (some ⟨b,dl,none⟩) cap (.func (.func c) #[] #[]) w).mono ?_
   rintro e w' ⟨rfl,rfl⟩
   exact⟨_,rfl,rfl,rfl,rfl,ah _,λ_ _ _=>rfl,I,λb hb=>⟨.inl hb,hI b hb⟩,λb us T fr h=>⟨us,T,fr,h,rfl⟩,nL.2 (.inr ⟨b,dl,cap,rfl,by simp,by simp,by simp,vs,T,fr,h3,h4,h5,by simp⟩),rfl⟩
  have h4:fr=(0,0):=h4;subst h4;have hbl:b<w.heap.size:=(dp.1 h3).1;have hx0:0<x.length:=List.length_pos_iff.2 hne
  let α:Type:={p:List Value×t.T // bS w I t p.1 p.2}
  let el:(i:Nat)->i<x.length->α:=λi hi=>⟨((vs.toList.drop (dl+i*t.size)).take t.size,x[i]),h6 i _ (Gd hi)⟩
  haveI:Inhabited α:=⟨el 0 hx0⟩
  let enc:α->List Value:=λp=>p.1.1
  let cf:α->α->Int:=λp q=>fn (p.1.2,q.1.2)
  have hk:∀p,(enc p).length=t.size:=λp=>bS.length t p.2;have h1c:∀p,∀v∈enc p,v.oneCell'=true:=λp=>bS.oneCell t hso p.2;have hlo:∀p q,ltOf cf p q=lt p.1.2 q.1.2:=λp q=>(hlt _ _).symm;have hO':SWO (ltOf cf):=⟨λp=>by rw[hlo];exact hO.irrefl _,λp q r a b=>by rw[hlo] at a b ⊢;exact hO.trans _ _ _ a b,λp q r a b=>by rw[hlo] at a b ⊢;exact hO.ntrans _ _ _ a b⟩
  let d:Array α:=Array.ofFn (n:=x.length) λi=>el i.1 i.2
  have hds:d.size=x.length:=Array.size_ofFn;have hdi:∀i (hi:i<x.length),d[i]! = el i hi:=λi hi=>by
   rw[getElem!_pos d i (by omega)];exact Array.getElem_ofFn _
  have hfit:dl+d.size*t.size<=vs.size:=by
   have h7:=aG t.size h1;rw[hds];exact aU (f_ h7 dl) h5
  have hH:HoldsK enc t.size w b dl d:=Uw hk h3 hfit λi hi=>by grind
  have hIb:¬I b:=hB b (aJ.2 rfl);have keepI:∀(n:Nat) (dk:Array α) (os:Array Obj) (b':Nat),I b'->I b'/\(sortWorldK enc t.size w b dl n dk os).heap[b']? = w.heap[b']? :=λn dk os b' hb'=>⟨hb',xJ (hI b' hb') λe=>hIb (e▸hb')⟩;have hcmp:CmpLays P c #[] enc t.size cf b dl d.size w:=by
   intro m os dk hdk p q;have hag':∀p:α,mE (sortWorldK enc t.size w b dl m dk os) I t (.agg (enc p).toArray) p.1.2:=λp=>by
    unfold mE;rw[if_pos hag];exact⟨_,rfl,bS.mono (keepI m dk os) t p.2⟩
   refine(hc (sortWorldK enc t.size w b dl m dk os) I (p.1.2,q.1.2) #[.agg (enc p).toArray,.agg (enc q).toArray] (λb' hb'=>bu (hI b' hb') (size_sortWorldK_c enc t.size w b dl m dk os)) ⟨_,_,rfl,hag' p,_,rfl,hag' q⟩ rfl).mono ?_
   rintro e w' ⟨g0,v,rfl,g1,g2,g3,g4,g5,I',_,g7⟩
   have g7:mE w' I' (.int .i64) v (cf p q):=g7;have g7:v=.int .i64 (cf p q):=by
    unfold mE at g7;rw[if_neg (by decide)] at g7;have:=g7.1;simpa using this
   refine⟨by rw[g7],w'.drawn-(sortWorldK enc t.size w b dl m dk os).drawn,w'.heap.extract (sortWorldK enc t.size w b dl m dk os).heap.size w'.heap.size,?_⟩;generalize sortWorldK enc t.size w b dl m dk os=W at *;cases w' with
   | mk hp tp dr o out=>
     cases W with
     | mk hp2 tp2 dr2 o2 out2=>
       simp only at g0 g1 g2 g3 g4 g5;unfold Sort.grow World.drewN;simp only[World.mk.injEq,true_and,and_true]
       grind
  have hsz:d.size<4611686018427387904:=by
   rw[hds];exact Nat.lt_of_le_of_lt h2 (by decide)
  have call:=AnyQ.slices_SortFunc L t.size aE zE enc hk h1c cf hO' c #[] b dl cap d w eg hcmp hH hbl hsz;rw[hds] at call;refine call.mono ?_
  rintro e w' ⟨rfl,d',n,os,hp,hs,rfl⟩
  obtain⟨p1,_,p3⟩:=hp;have p1:d'.size=x.length:=p1.trans hds;have e1:d'.extract 0 x.length=d':=by rw[<-p1];exact Array.extract_size
  have e2:d.extract 0 x.length=d:=by rw[<-hds];exact Array.extract_size
  rw[e1,e2] at p3;have hdx:d.toList.map (λp=>p.1.2)=x:=by
   apply List.ext_getElem
   ·rw[bV,bI,hds]
   ·intro i i1 i2
    rw[List.getElem_map,Array.getElem_toList];exact congrArg (λp:α=>p.1.2) (Array.getElem_ofFn (f:=λi:Fin x.length=>el i.1 i.2) (by rw[bV,bI] at i1;exact i1))
  have hsorted:d'.toList.map (λp=>p.1.2)=x.mergeSort λa b=>!(lt b a):=by
   haveI:Inhabited t.T:=⟨x[0]⟩;have perm:(d'.toList.map λp=>p.1.2).Perm x:=by
    have:=p3.map (λp:α=>p.1.2)
    rwa [hdx] at this
   have hl:=perm.length_eq;have:=sorted_unique_holds (lt:=lt) hO hT x.toArray (d'.toList.map λp=>p.1.2).toArray ⟨by simp[p1],λi hi=>by
     have:x.length<=i:=by
      rcases hi with h|h
      ·omega
      ·simpa using h
     simp[p1,this],by simpa [p1,cH] using perm⟩ λi j _ hij hj=>by
     have hj:j<x.length:=by simpa using hj
     have:=hs i j (aX _) hij hj;rw[hlo] at this;rw[getElem!_pos _ j (by simp[p1];exact hj),getElem!_pos _ i (by simp[p1];omega)];rw[getElem!_pos d' j (by rw[p1];exact hj),getElem!_pos d' i (by rw[p1];omega)] at this;simpa using this
   simpa using this
  have hlen:(x.mergeSort λa b=>!(lt b a)).length=x.length:=List.length_mergeSort _;refine⟨_,rfl,rfl,rfl,rfl,size_sortWorldK_c enc t.size w b dl n d' os,λb' hb' hne'=>xJ hb' λe=>hne' (aJ.2 e),I,λb' hb'=>⟨.inl hb',bu (hI b' hb') (size_sortWorldK_c enc t.size w b dl n d' os)⟩,λb' us T' iO hb'=>?_,nL.2 (.inr ⟨b,dl,cap,rfl,?_,?_,?_,_,T,(0,0),He h3,rfl,?_,λi z hz=>?_⟩),rfl⟩
  ·by_cases e:b'=b
   ·subst e
    rw[h3] at hb';cases hb';exact⟨_,_,_,He h3,CY⟩
   ·exact⟨us,T',iO,by rw[xJ (dp.1 hb').1 e];exact hb',rfl⟩
  ·show[_]=[Value.slice _ (x.mergeSort λa b=>!(lt b a)).length _];rw[hlen]
  ·show(x.mergeSort λa b=>!(lt b a)).length<=_;rw[hlen];exact h1
  ·show(x.mergeSort λa b=>!(lt b a)).length<=_;rw[hlen];exact h2
  ·rw[CY];exact h5
  ·have hz:(x.mergeSort λa b=>!(lt b a))[i]? = some z:=hz
   rw[<-hsorted,cn,Option.map_eq_some_iff] at hz;obtain⟨p,hp,rfl⟩:=hz;obtain⟨hi,hp⟩:=aT.1 hp;rw[Array.getElem_toList] at hp;rw[Vh hk (by rw[p1,<-hds];exact hfit) hi,getElem!_pos d' i hi,hp];exact bS.mono (keepI n d' os) t p.2
end
def PH(f:fO):List Int:=[f.2.2.2.1,f.2.2.2.2.1,f.1,f.2.1,f.2.2.1,f.2.2.2.2.2.1,f.2.2.2.2.2.2]
def lexB:List Int->List Int->Bool
 | a::l,b::m=>decide (a<b)||(decide (a=b)&&lexB l m)
 | _,_=>false
theorem ZA:∀(l m:List Int),l.length=m.length->decide (Zz (List.zipWith uQ l m)<0)=lexB l m
 | [], [],_=>rfl
 | a::l,b::m,h=>by
   have g:=ZA l m (by simp_all);rw[List.zipWith_cons_cons,Zz,lexB];unfold uQ;by_cases c:a<b
   ·simp_all
   ·rw[gI c,cond_false,nC]
    by_cases f:b<a
    ·grind
    ·rw[gI f,da (show a=b by omega),cY]
     exact g
theorem SN:∀l:List Int,lexB l l=false
 | []=>rfl
 | a::l=>by rw[lexB,SN l,gI (Int.lt_irrefl a),dI];rfl
theorem Ll:∀(l m:List Int),l.length=m.length->lexB l m=false->lexB m l=false->l=m
 | [], [],_,_,_=>rfl
 | a::l,b::m,h,h1,h2=>by
   rw[lexB,Bool.or_eq_false_iff] at h1 h2;have e:a=b:=by grind
   subst e;rw[da rfl,cY] at h1 h2;rw[Ll l m (by simpa using h) h1.2 h2.2]
theorem lex_trans:∀(l m n:List Int),lexB l m=true->lexB m n=true->lexB l n=true
 | [],_,_,h,_=>by simp[lexB] at h
 | _::_, [],_,h,_=>by simp[lexB] at h
 | _::_,_::_, [],_,h=>by simp[lexB] at h
 | a::l,b::m,c::n,f,g=>by
   rw[lexB,oL,fQ,sK,sK] at f g ⊢;rcases f with f|⟨f,i⟩<;>rcases g with g|⟨g,j⟩
   ·omega
   ·omega
   ·omega
   ·exact .inr ⟨by omega,lex_trans l m n i j⟩
theorem P6(l m n:List Int)(g:l.length=m.length)(h:m.length=n.length)(f:lexB l m=false)(c:lexB m n=false):lexB l n=false:=by
 cases h3:lexB l n with
 | false=>rfl
 | true=>
   cases h4:lexB m l with
   | true=>rw[lex_trans m l n h4 h3] at c;grind
   | false=>rw[Ll l m g f h4,c] at h3;grind
def ua(a b:fO):Bool:=lexB (PH a) (PH b)
theorem Y5(a b:fO):ua a b=decide ((show Int from Yb (a,b))<0):=(ZA (PH a) (PH b) rfl).symm
theorem XM{a b:fO}(h:PH a=PH b):a=b:=by
 obtain⟨a1,a2,c,f,g,i,j⟩:=a;simp only[PH] at h
 simp_all
theorem UA:Sort.SWO ua:=⟨λa=>SN _,λa b c=>lex_trans _ _ _,λa b c=>P6 _ _ _ rfl rfl⟩
theorem UB(a b:fO)(c:ua a b=false)(f:ua b a=false):a=b:=XM (Ll _ _ rfl c f)
def akR:Shelf.Ren:=⟨λx=>match x with|6=>175|14=>228|15=>229|20=>272|21=>273|22=>274|23=>275|24=>276|25=>277|26=>278|27=>279|28=>280|29=>281|46=>314|47=>315|48=>316|49=>317|50=>318|57=>333|n=>n,λx=>match x with|0=>0|3=>3|4=>4|5=>5|9=>9|22=>32|24=>31|25=>255|39=>84|45=>350|46=>351|50=>82|53=>297|55=>300|66=>387|70=>391|76=>407|77=>193|n=>n,λx=>x⟩
theorem ad8:SlLaysF0.n6 Tryz.prog akR:=
 {mixed:=by kernel_rfl,f6:=⟨Tryz.f175.name,by kernel_rfl,Tryz.func175.trans (congrArg some (by kernel_rfl))⟩,f14:=⟨Tryz.f228.name,by kernel_rfl,Tryz.func228.trans (congrArg some (by kernel_rfl))⟩,f15:=Tryz.func229.trans (congrArg some (by kernel_rfl)),f20:=⟨Tryz.f272.name,by kernel_rfl,Tryz.func272.trans (congrArg some (by kernel_rfl))⟩,f21:=⟨Tryz.f273.name,by kernel_rfl,Tryz.func273.trans (congrArg some (by kernel_rfl))⟩,f22:=⟨Tryz.f274.name,by kernel_rfl,Tryz.func274.trans (congrArg some (by kernel_rfl))⟩,f23:=⟨Tryz.f275.name,by kernel_rfl,Tryz.func275.trans (congrArg some (by kernel_rfl))⟩,f24:=⟨Tryz.f276.name,by kernel_rfl,Tryz.func276.trans (congrArg some (by kernel_rfl))⟩,f25:=⟨Tryz.f277.name,by kernel_rfl,Tryz.func277.trans (congrArg some (by kernel_rfl))⟩,f26:=⟨Tryz.f278.name,by kernel_rfl,Tryz.func278.trans (congrArg some (by kernel_rfl))⟩,f27:=⟨Tryz.f279.name,by kernel_rfl,Tryz.func279.trans (congrArg some (by kernel_rfl))⟩,f28:=Tryz.func280.trans (congrArg some (by kernel_rfl)),f29:=Tryz.func281.trans (congrArg some (by kernel_rfl)),f46:=⟨Tryz.f314.name,by kernel_rfl,Tryz.func314.trans (congrArg some (by kernel_rfl))⟩,f47:=Tryz.func315.trans (congrArg some (by kernel_rfl)),f48:=Tryz.func316.trans (congrArg some (by kernel_rfl)),f49:=⟨Tryz.f317.name,by kernel_rfl,Tryz.func317.trans (congrArg some (by kernel_rfl))⟩,f50:=⟨Tryz.f318.name,by kernel_rfl,Tryz.func318.trans (congrArg some (by kernel_rfl))⟩,f57:=⟨Tryz.f333.name,by kernel_rfl,Tryz.func333.trans (congrArg some (by kernel_rfl))⟩,t0:=Tryz.underlying0,a0:=Tryz.isAgg0,z0:=Tryz.sizeOf0,v0:=Tryz.zeroValue0,t3:=Tryz.underlying3,a3:=Tryz.isAgg3,z3:=Tryz.sizeOf3,v3:=Tryz.zeroValue3,t4:=Tryz.underlying4,a4:=Tryz.isAgg4,z4:=Tryz.sizeOf4,v4:=Tryz.zeroValue4,t5:=Tryz.underlying5,a5:=Tryz.isAgg5,z5:=Tryz.sizeOf5,v5:=Tryz.zeroValue5,t9:=Tryz.underlying9,a9:=Tryz.isAgg9,z9:=Tryz.sizeOf9,v9:=Tryz.zeroValue9,t22:=Tryz.underlying32,a22:=Tryz.isAgg32,z22:=Tryz.sizeOf32,v22:=Tryz.zeroValue32,t25:=Tryz.underlying255,a25:=Tryz.isAgg255,z25:=Tryz.sizeOf255,v25:=Tryz.zeroValue255,t39:=Tryz.underlying84,a39:=Tryz.isAgg84,z39:=Tryz.sizeOf84,v39:=Tryz.zeroValue84,t45:=Tryz.underlying350,a45:=Tryz.isAgg350,z45:=Tryz.sizeOf350,v45:=Tryz.zeroValue350,t46:=Tryz.underlying351,a46:=Tryz.isAgg351,z46:=Tryz.sizeOf351,v46:=Tryz.zeroValue351,t50:=Tryz.underlying82,a50:=Tryz.isAgg82,z50:=Tryz.sizeOf82,v50:=Tryz.zeroValue82,t53:=Tryz.underlying297,a53:=Tryz.isAgg297,z53:=Tryz.sizeOf297,v53:=Tryz.zeroValue297,t55:=Tryz.underlying300,a55:=Tryz.isAgg300,z55:=Tryz.sizeOf300,v55:=Tryz.zeroValue300,t66:=Tryz.underlying387,a66:=Tryz.isAgg387,z66:=Tryz.sizeOf387,v66:=Tryz.zeroValue387,t70:=Tryz.underlying391,a70:=Tryz.isAgg391,z70:=Tryz.sizeOf391,v70:=Tryz.zeroValue391,t76:=Tryz.underlying407,a76:=Tryz.isAgg407,z76:=Tryz.sizeOf407,v76:=Tryz.zeroValue407,t77:=Tryz.underlying193,a77:=Tryz.isAgg193,z77:=Tryz.sizeOf193,v77:=Tryz.zeroValue193}
def DG:List fO×Unit->List fO×Unit:=λx=>(x.1.mergeSort λa b=>!(ua b a),())
def anz:fT:=⟨eY, [], [176], [],λ_=>true,DG⟩
theorem ano:fT.bH Tryz.prog 175 anz:=
 Vg ad8 eY (fn:=Yb) apg.1 (enters_of Tryz.func176 (by kernel_rfl) rfl) Tryz.isAgg31 Tryz.sizeOf31 (by kernel_rfl) (by kernel_rfl) Y5 UA UB Tryz.func175 (by kernel_rfl) (by kernel_rfl)
abbrev ag_(A:aS)(c:Int)(f:Int):=(A.b .add .u64 (A.b .mul .u64 (A.b .shr .u64 c 32) (A.b .and .u64 f 4294967295)) (A.b .shr .u64 (A.b .mul .u64 (A.b .and .u64 c 4294967295) (A.b .and .u64 f 4294967295)) 32))
def atd(A:aS)(c:Int)(f:Int):LT (Int×Int) Empty:=.ret ((A.b .add .u64 (A.b .add .u64 (A.b .mul .u64 (A.b .shr .u64 c 32) (A.b .shr .u64 f 32)) (A.b .shr .u64 (ag_ A c f) 32)) (A.b .shr .u64 (A.b .add .u64 (A.b .and .u64 (ag_ A c f) 4294967295) (A.b .mul .u64 (A.b .and .u64 c 4294967295) (A.b .shr .u64 f 32))) 32)),(A.b .mul .u64 c f))
def af6:(Int×Int)->(Int×Int):=λ(c,f)=>(atd af c f).val (Ty.aR [(.int .u64),(.int .u64)])
def ar5:aM:=.all [(.int .u64),(.int .u64)] [(.int .u64),(.int .u64)] af6
theorem ap6:Sd 225 ar5:=fa (aP ar dK sl 92 [] (λA (c,f)=>atd A c f) (kz (fc Tryz.func225 fz) sz) (λ_ _ _=>LT.bE (by kernel_rfl)))
def atb(A:aS)(c:Int)(f:Int):LT (Int×Int) Empty:=.ret (A.k af6 (c,f))
def AZ:(Int×Int)->(Int×Int):=λ(c,f)=>(atb af c f).val (Ty.aR [(.int .u64),(.int .u64)])
def ar2:aM:=.all [(.int .u64),(.int .u64)] [(.int .u64),(.int .u64)] AZ
theorem agU:Sd 172 ar2:=fa (aP ar dK sl 32 [] (λA (c,f)=>atb A c f) (kz (fc Tryz.func172 fz) (sc ap6 sz)) (λ_ _ _=>LT.bE (by kernel_rfl)))
structure Wa where
 (a1:List Int) (a2 a3 a4:Int)
structure Wb where
 (b0:List Int) (b1 b2 b3:Int)
inductive acH where
 | c0 (p:Wa) (a0:Int) (a5:List Int)
 | c1 (p:Wb) (b4:Int) (b5:List Int)
noncomputable def aiJ:acH->iH
 | .c0 p a0 a5=>⟨[⟨173,48,(en [(7,.own 0),(8,vi a0)]),sk Tryz.f173 [1,1,1,1,1,1,0,0,0],[],none⟩,⟨118,37,(en [(0,.sl yI p.a1),(1,vi p.a2),(2,vi p.a3),(3,vi p.a4)]),(.ops (ow Tryz.f118 [1,0]) ((ow Tryz.f118 [1,0]).toList.drop 3)::sk Tryz.f118 [1,0]),[],none⟩],[.arr false yI a5,.aZ]⟩
 | .c1 p b4 c=>⟨[⟨118,37,(en [(0,.sl yI p.b0),(2,vi p.b1),(3,vi p.b2),(11,.own 0),(20,vi p.b3),(21,vi b4)]),sk Tryz.f118 [1,1,0,1,0,0],[],none⟩],[.arr false yI c,.aZ]⟩
abbrev D8(A:aS)(n:Int):=(A.v .i64 (A.k AZ (1,(A.v .u64 n))).2)
def amm(A:aS)(l:List Int)(n:Int)(f:Int)(g:Int)(c:Int):LT (List Int) acH:=.br (A.bD n 0) (.bT 117 "slices.go:516") (.br (A.jw (A.k AZ (1,(A.v .u64 n))).1 0) (.bT 117 "slices.go:522") (.br (A.jw (A.k AZ (1,(A.v .u64 n))).2 9223372036854775807) (.bT 117 "slices.go:522") (.ap (A.and (A.bK (D8 A n) (D8 A n)) (A.and (A.bU 0 (D8 A n)) (A.bU (D8 A n) 17592186044416))) (.ao (.c0 ⟨l,n,f,g⟩ (A.mn (A.l [c]) (A.l (A.r (D8 A n) (0:Int)))) (A.spl (A.r (D8 A n) (0:Int)) 0 (A.s [c] 0 (A.mn (A.l [c]) (A.l (A.r (D8 A n) (0:Int)))))))))))
def U5(A:aS):acH->LT (List Int) acH
 | .c0 p a0 a5=>.br (A.bD a0 (A.l a5)) (.ap (A.and (A.bU 0 a0) (A.and (A.bU a0 (A.l a5)) (A.bU (A.l a5) (A.l a5)))) (.ap (A.and (A.bU 0 0) (A.and (A.bU 0 a0) (A.bU a0 (A.l a5)))) (.ao (.c0 p (A.b .add .i64 a0 (A.mn (A.l (A.s a5 0 (A.b .add .i64 0 (A.b .sub .i64 a0 0)))) (A.b .sub .i64 (A.l a5) a0))) (A.spl a5 a0 (A.s (A.s a5 0 (A.b .add .i64 0 (A.b .sub .i64 a0 0))) 0 (A.mn (A.l (A.s a5 0 (A.b .add .i64 0 (A.b .sub .i64 a0 0)))) (A.b .sub .i64 (A.l a5) a0)))))))) (.ao (.c1 ⟨p.a1,p.a3,p.a4,(A.mn p.a2 (A.l p.a1))⟩ 0 a5))
 | .c1 p b4 c=>.br (A.bD b4 p.b3) (.gQ A b4 p.b0 (.gQ A b4 c (.ao (.c1 p (A.b .add .i64 b4 1) (A.set c b4 (A.mn (A.mx (A.n yI p.b0 b4:Int) p.b1) p.b2)))))) (.ret c)
theorem Zd:∀n:Fin 1025,af.k AZ (1,af.v .u64 (n.val:Int))=((0,(n.val:Int)):Int×Int):=by decide +kernel
theorem Mr{i j:Nat}(h:j<=i)(c:i<4611686018427387904):af.b .sub .i64 (i:Int) (j:Int)=((i-j:Nat):Int):=by
 rw[gg,lC (by omega) (by omega)];omega
theorem vH{i j:Nat}:af.mn (i:Int) (j:Int)=((min i j:Nat):Int):=by
 rw[oR];omega
variable{N:Nat}
theorem ZY{p:Wa}{v:Int}{r:List Int}(u:N<=1024)(n:aW (U5 af) (.ao (.c1 ⟨p.a1,p.a3,p.a4,af.mn p.a2 (af.l p.a1)⟩ 0 (List.replicate N v))) r):∀(j k:Nat),N-k<=j->(N≠0->1<=k)->k<=N->
  aW (U5 af) (.ao (.c0 p (k:Int) (List.replicate k v++List.replicate (N-k) 0))) r:=by
 have l:∀k,k=N->aW (U5 af) (.ao (.c0 p (k:Int) (List.replicate k v++List.replicate (N-k) 0))) r:=by
  rintro k rfl
  rw[kx,jF,aI];refine aB.2 ((ak ?_).2 n);rw[d_,bg];simp
 intro j
 induction j with
 | zero=>grind
 | succ j ih=>
   intro k o q m;by_cases z:k=N
   ·simp_all
   have c:(List.replicate k v++List.replicate (N-k) (0:Int)).length=N:=by simp_all
   have f:af.b .add .i64 0 (af.b .sub .i64 (k:Int) 0)=(k:Int):=by
    rw[show(0:Int)=((0:Nat):Int) from rfl,Mr (aX _) (by omega),jA (by omega)];omega
   have g:af.s (List.replicate k v++List.replicate (N-k) (0:Int)) 0 (k:Int)=List.replicate k v:=by
    rw[jX,rO,iK (by rw[IZ])];rfl
   have h:af.b .sub .i64 (N:Int) (k:Int)=((N-k:Nat):Int):=Mr m (by omega);refine aB.2 ((al ?_).2 (au.2 ⟨?_,au.2 ⟨?_,?_⟩⟩))
   ·rw[d_,bg,c];grind
   ·rw[d_,c,bl,bl,aC,aC,aC];simp_all
   ·rw[d_,c,bl,bl,aC,aC,aC];simp_all
   ·rw[f,g,d_,d_,c,IZ,h,vH,jA (by omega),jX,rO]
    have i:af.spl (List.replicate k v++List.replicate (N-k) (0:Int)) (k:Int) (((List.replicate k v).take (min k (N-k))).drop (0:Int).toNat)=List.replicate (k+min k (N-k)) v++List.replicate (N-(k+min k (N-k))) 0:=by
     rw[oB,rO,iK (by simp_all),List.take_replicate];show List.replicate k v++List.replicate _ v++List.drop (k+(List.replicate _ v).length) _=_;rw[IZ,List.drop_append,jD,jD,IZ,Nat.min_assoc,gG];rw[show k-(k+min k (min (N-k) k))=0 by omega,jF,jW];congr 2<;>omega
    rw[i];exact ih (k+min k (N-k)) (by omega) (λ_=>by omega) (by omega)
def vx(f c x:Int):Int:=af.mn (af.mx x f) c
def rowP(l:List Int)(n:Nat)(f c g:Int):List Int:=(l.take n).map (vx f c)++List.replicate (n-l.length) g
theorem Z1{p:Wb}{f c ms:Int}(h:p.b0=l)(o:p.b1=f)(q:p.b2=c)(m:p.b3=((min N l.length:Nat):Int))(z:N<=1024):
  ∀(j i:Nat),min N l.length-i=j->i<=min N l.length->aW (U5 af) (.ao (.c1 p (i:Int) ((l.take i).map (vx f c)++List.replicate (N-i) ms))) (rowP l N f c ms):=by
 intro j
 induction j with
 | zero=>
   intro i u c;refine aB.2 ((ak ?_).2 (aQ ?_ (.ret _)))
   ·rw[m,bg];grind
   ·unfold rowP
    grind
 | succ j ih=>
   intro i u r;have g:i<l.length:=by omega
   have n:((l.take i).map (vx f c)++List.replicate (N-i) ms).length=N:=by
    rw[ru,bV,c_,IZ];omega
   refine aB.2 ((al ?_).2 (au.2 ⟨?_,au.2 ⟨?_,?_⟩⟩))
   ·rw[m,bg];grind
   ·rw[h];exact du g
   ·exact du (by omega)
   ·rw[h,o,q,show(af.n yI l (i:Int):Int)=l[i] from fL g _,iC (by omega),Mn,rO]
    have e:((l.take i).map (vx f c)++List.replicate (N-i) ms).set i (af.mn (af.mx l[i] f) c)=(l.take (i+1)).map (vx f c)++List.replicate (N-(i+1)) ms:=by
     have v:((l.take i).map (vx f c)).length=i:=by grind
     rw[List.set_append,v,if_neg (dw _),kx,show N-i=N-(i+1)+1 by omega,List.replicate_succ,mK,bf g,fD,cX];rfl
    rw[e];exact ih (i+1) (by omega) (by omega)
theorem akY{n g f c:Int}(h:0<=n/\n<=1024):aW (U5 af) (amm af l n g f c) (rowP l n.toNat g f c):=by
 obtain⟨N,rfl⟩:=aO h.1;have i:N<=1024:=by omega
 have row:=Z1 (p:=⟨l,g,f,af.mn (N:Int) (af.l l)⟩) (l:=l) (ms:=c) rfl rfl rfl (by rw[d_,vH]) i (min N l.length) 0 (by omega) (by omega);have o:=ZY (p:=⟨l,(N:Int),g,f⟩) (v:=c) i row N (min 1 N) (by omega) (λh=>by omega) (by omega);have m:=Zd ⟨N,by omega⟩;have j:af.v .i64 (N:Int)=(N:Int):=lC (by omega) (by omega);unfold amm D8;rw[m,j];refine(ak ?_).2 ((ak rfl).2 ((ak ?_).2 (au.2 ⟨?_,?_⟩)))
 ·rfl
 ·show decide ((N:Int) > 9223372036854775807)=false;grind
 ·rw[bl,bl,bd,aC,aC];grind
 ·have e:af.r (N:Int) (0:Int)=List.replicate N 0:=by rfl
  rw[e,d_,d_,IZ,vH];have q:af.spl (List.replicate N (0:Int)) 0 (af.s [c] 0 ((min [c].length N:Nat):Int))=List.replicate (min 1 N) c++List.replicate (N-min 1 N) 0:=by
   rcases Nat.eq_zero_or_pos N with rfl|i
   ·rfl
   ·obtain⟨M,rfl⟩:∃M,N=M+1:=⟨N-1,by omega⟩
    rfl
  simp_all
def Nz:(List Int×Int×Int×Int×Int)->(List Int):=λ(l,n,f,c,g)=>rowP l n.toNat f c g
def ta:(List Int×Int×Int×Int×Int)->Bool:=λ(_,n,_,_,_)=>decide (0<=n/\n<=1024)
def ar9:aM:=⟨[BY,yI,yI,yI,yI], [BY],ta,Nz,false⟩
theorem aqa:Sd 118 ar9:=bp ar dK sl 71 [⟨118,3, [[0,2,3,11,20,21]]⟩,⟨173,8, [[7,8], [0,1,2,3]]⟩] [] (λA (l,n,f,g,c)=>amm A l n f g c) U5 aiJ (kz (fc Tryz.func118 (fc Tryz.func173 fz)) (sc agU sz)) (λA y=>match y with |.c0 p j m=>⟨35,sl,by kernel_rfl⟩|.c1 p b4 o=>⟨39,sl,by kernel_rfl⟩) λ((l,n,f,g,c):List Int×Int×Int×Int×Int) i h=>akY (of_decide_eq_true i)
inductive acG where
 | c0 (a0:Int) (a1:List Bool)
noncomputable def aiI:acG->iH
 | .c0 a0 a1=>⟨[⟨117,48,(en [(7,.own 0),(8,vi a0)]),sk Tryz.f117 [1,1,1,1,1,1,0,0,0],[],none⟩],[.arr false .bool a1,.aZ]⟩
abbrev D7(A:aS)(f:List Bool)(c:Int):=(A.v .i64 (A.k AZ ((A.v .u64 (A.l f)),(A.v .u64 c))).2)
def aml(A:aS)(f:List Bool)(c:Int):LT (Bool×(List Bool)×Unit) acG:=.br (A.bD c 0) (.bT 117 "slices.go:516") (.br (A.jw (A.k AZ ((A.v .u64 (A.l f)),(A.v .u64 c))).1 0) (.bT 117 "slices.go:522") (.br (A.jw (A.k AZ ((A.v .u64 (A.l f)),(A.v .u64 c))).2 9223372036854775807) (.bT 117 "slices.go:522") (.ap (A.and (A.bK (D7 A f c) (D7 A f c)) (A.and (A.bU 0 (D7 A f c)) (A.bU (D7 A f c) 140737488355328))) (.ao (.c0 (A.mn (A.l f) (A.l (A.r (D7 A f c) false))) (A.spl (A.r (D7 A f c) false) 0 (A.s f 0 (A.mn (A.l f) (A.l (A.r (D7 A f c) false))))))))))
def aeJ(A:aS):acG->LT (Bool×(List Bool)×Unit) acG
 | .c0 a0 a1=>.br (A.bD a0 (A.l a1)) (.ap (A.and (A.bU 0 a0) (A.and (A.bU a0 (A.l a1)) (A.bU (A.l a1) (A.l a1)))) (.ap (A.and (A.bU 0 0) (A.and (A.bU 0 a0) (A.bU a0 (A.l a1)))) (.ao (.c0 (A.b .add .i64 a0 (A.mn (A.l (A.s a1 0 (A.b .add .i64 0 (A.b .sub .i64 a0 0)))) (A.b .sub .i64 (A.l a1) a0))) (A.spl a1 a0 (A.s (A.s a1 0 (A.b .add .i64 0 (A.b .sub .i64 a0 0))) 0 (A.mn (A.l (A.s a1 0 (A.b .add .i64 0 (A.b .sub .i64 a0 0)))) (A.b .sub .i64 (A.l a1) a0)))))))) (.ret (true,a1,()))
theorem UP{v:Bool}(p:N<=1024):∀(j k:Nat),N-k<=j->(N≠0->1<=k)->k<=N->
  aW (aeJ af) (.ao (.c0 (k:Int) (List.replicate k v++List.replicate (N-k) false))) (true,List.replicate N v,()):=by
 have l:∀k,k=N->aW (aeJ af) (.ao (.c0 (k:Int) (List.replicate k v++List.replicate (N-k) false))) (true,List.replicate N v,()):=by
  rintro k rfl
  rw[kx,jF,aI];refine aB.2 ((ak ?_).2 (.ret _));rw[d_,bg];simp
 intro j
 induction j with
 | zero=>grind
 | succ j ih=>
   intro k n o m;by_cases q:k=N
   ·simp_all
   have c:(List.replicate k v++List.replicate (N-k) false).length=N:=by simp_all
   have f:af.b .add .i64 0 (af.b .sub .i64 (k:Int) 0)=(k:Int):=by
    rw[show(0:Int)=((0:Nat):Int) from rfl,Mr (aX _) (by omega),jA (by omega)];omega
   have g:af.s (List.replicate k v++List.replicate (N-k) false) 0 (k:Int)=List.replicate k v:=by
    rw[jX,rO,iK (by rw[IZ])];rfl
   have h:af.b .sub .i64 (N:Int) (k:Int)=((N-k:Nat):Int):=Mr m (by omega);refine aB.2 ((al ?_).2 (au.2 ⟨?_,au.2 ⟨?_,?_⟩⟩))
   ·rw[d_,bg,c];grind
   ·rw[d_,c,bl,bl,aC,aC,aC];simp_all
   ·rw[d_,c,bl,bl,aC,aC,aC];simp_all
   ·rw[f,g,d_,d_,c,IZ,h,vH,jA (by omega),jX,rO]
    have i:af.spl (List.replicate k v++List.replicate (N-k) false) (k:Int) (((List.replicate k v).take (min k (N-k))).drop (0:Int).toNat)=List.replicate (k+min k (N-k)) v++List.replicate (N-(k+min k (N-k))) false:=by
     rw[oB,rO,iK (by simp_all),List.take_replicate];show List.replicate k v++List.replicate _ v++List.drop (k+(List.replicate _ v).length) _=_;rw[IZ,List.drop_append,jD,jD,IZ,Nat.min_assoc,gG];rw[show k-(k+min k (min (N-k) k))=0 by omega,jF,jW];congr 2<;>omega
    rw[i];exact ih (k+min k (N-k)) (by omega) (λ_=>by omega) (by omega)
theorem akO{l:List Bool}{n:Int}(h:l.length=1/\0<=n/\n<=1024):aW (aeJ af) (aml af l n) (true,List.replicate n.toNat (l.getD 0 false),()):=by
 obtain⟨N,rfl⟩:=aO h.2.1;obtain⟨v,rfl⟩:=kq.1 h.1;have f:N<=1024:=by omega
 have i:=UP (v:=v) f N (min 1 N) (by omega) (λh=>by omega) (by omega);have c:=Zd ⟨N,by omega⟩;have c:af.k AZ (af.v .u64 (af.l [v]),af.v .u64 (N:Int))=((0,(N:Int)):Int×Int):=c;have g:af.v .i64 (N:Int)=(N:Int):=lC (by omega) (by omega);unfold aml D7;rw[c,g];refine(ak ?_).2 ((ak rfl).2 ((ak ?_).2 (au.2 ⟨?_,?_⟩)))
 ·rfl
 ·show decide ((N:Int) > 9223372036854775807)=false;grind
 ·rw[bl,bl,bd,aC,aC];grind
 ·have e:af.r (N:Int) false=List.replicate N false:=by rfl
  rw[e,d_,d_,IZ,vH];have j:af.spl (List.replicate N false) 0 (af.s [v] 0 ((min [v].length N:Nat):Int))=List.replicate (min 1 N) v++List.replicate (N-min 1 N) false:=by
   rcases Nat.eq_zero_or_pos N with rfl|f
   ·rfl
   ·obtain⟨M,rfl⟩:∃M,N=M+1:=⟨N-1,by omega⟩
    rfl
  simp_all
def X_:(List Bool×Int)->Bool×(List Bool)×Unit:=λ(l,n)=>(true,List.replicate n.toNat (l.getD 0 false),())
def GL:(List Bool×Int)->Bool:=λ(l,n)=>decide (l.length=1/\0<=n/\n<=1024)
def aoL:oV:=⟨[(.slice .bool),yI],.own .bool,false, [],GL,X_⟩
theorem aoJ:oV.bH Tryz.prog 117 aoL:=vZ ar dK sl 61 [⟨117,8, [[7,8]]⟩] [] (λA (f,c)=>aml A f c) aeJ aiI (kz (fc Tryz.func117 fz) (sc agU sz)) (λA y=>match y with |.c0 i a1=>⟨30,sl,by kernel_rfl⟩) λ((f,c):(List Bool×Int)) g h=>akO (of_decide_eq_true g)
def ate(A:aS)(m:ax)(o:dL):LT Bool Empty:=.br (A.qP o.1 0) (.br (A.not (A.bD o.1 m.1)) (.ret false) (.br (A.qP o.2.2.1 0) (.br (A.not (A.bD o.2.2.1 m.1)) (.ret false) (.br (A.bD o.2.1 0) (.ret false) (.br (A.qP o.2.1 16) (.ret false) (.br (A.bK o.2.2.2.1 1) (.br (A.bK o.2.2.2.2.1 0) (.ret (A.bU (A.l o.2.2.2.2.2) 8)) (.ret false)) (.br (A.bK o.2.2.2.1 2) (.br (A.bK o.2.2.2.2.1 0) (.ret (A.bK (A.l o.2.2.2.2.2) 0)) (.ret false)) (.br (A.bK o.2.2.2.1 3) (.br (A.qP o.2.2.2.2.1 (-1)) (.br (A.bD o.2.2.2.2.1 (A.l m.2.2.2.2.2.2.2)) (.ret (A.bK (A.l o.2.2.2.2.2) 0)) (.ret false)) (.ret false)) (.ret false))))))) (.ret false))) (.ret false)
def tV:(ax×dL)->Bool:=λ(m,o)=>(ate af m o).val (Ty.aR [.bool])
def asa:aM:=.all [bM,eZ] [.bool] tV
theorem aqc:Sd 120 asa:=fa (aP ar dK sl 125 [] (λA (m,o)=>ate A m o) (kz (fc Tryz.func120 (fc Tryz.func178 fz)) sz) (λ_ _ _=>LT.bE (by kernel_rfl)))
abbrev abe(A:aS)(m:ax):LT (List Span×Bool) Empty:=(.ret (([(0,(A.b .sub .i64 m.1 1)),(0,0),(0,(A.b .sub .i64 m.1 1)),(0,0),(0,0)]:List Span),true))
abbrev abf(A:aS)(m:ax):LT (List Span×Bool) Empty:=(.ret (([(0,(A.b .sub .i64 m.1 1)),(0,0),(0,0),(0,0),(0,0)]:List Span),true))
def atl(A:aS)(m:ax)(c:Int):LT (List Span×Bool) Empty:=.br (A.bK c 1) (abe A m) (.br (A.bK c 2) (abe A m) (.br (A.bK c 6) (abe A m) (.br (A.bK c 3) (abf A m) (.br (A.bK c 4) (abf A m) (.br (A.bK c 11) (abf A m) (.br (A.bK c 5) (.ret (([(0,0),(0,1),(0,(A.b .sub .i64 m.1 1)),(0,0),(0,0)]:List Span),true)) (.br (A.bK c 12) (.ret (([(0,0),(0,1),(0,0),(0,0),(0,0)]:List Span),true)) (.br (A.bK c 7) (.ret (([(0,(A.b .sub .i64 m.1 1)),(0,0),(0,0),(0,200),(0,0)]:List Span),true)) (.br (A.bK c 8) (.ret (([(0,(A.b .sub .i64 m.1 1)),(0,0),(0,0),((A.u .neg .i64 m.2.2.1),m.2.2.1),(0,0)]:List Span),true)) (.br (A.bK c 9) (.ret (([(0,(A.b .sub .i64 m.1 1)),(0,0),(0,(A.b .sub .i64 m.1 1)),(0,(A.b .sub .i64 m.2.1 1)),(1,m.2.1)]:List Span),true)) (.br (A.bK c 10) (.ret (([(0,(A.b .sub .i64 m.1 1)),(0,0),(0,(A.b .sub .i64 m.1 1)),(0,(A.b .sub .i64 m.1 1)),(0,0)]:List Span),true)) (.ret (([(0,0),(0,0),(0,0),(0,0),(0,0)]:List Span),false)))))))))))))
def F2:(ax×Int)->(List Span×Bool):=λ(m,c)=>(atl af m c).val (Ty.aR [(.arr 5 kT),.bool])
def ase:aM:=.all [bM,yI] [(.arr 5 kT),.bool] F2
theorem aqf:Sd 226 ase:=fa (aP ar dK (.kQ [0,1,0,1,0,0,1,0,1]) 159 [] (λA (m,c)=>atl A m c) (kz (fc Tryz.func226 fz) sz) (λ_ _ _=>LT.bE (by kernel_rfl)))
def atm(A:aS)(l:Span)(n:Int):LT Bool Empty:=.br (A.qP n l.1) (.ret (A.bU n l.2)) (.ret false)
def JO:(Span×Int)->Bool:=λ(l,n)=>(atm af l n).val (Ty.aR [.bool])
def asf:aM:=.all [kT,yI] [.bool] JO
theorem aqg:Sd 227 asf:=fa (aP ar dK sl 25 [] (λA (l,n)=>atm A l n) (kz (fc Tryz.func227 fz) sz) (λ_ _ _=>LT.bE (by kernel_rfl)))
abbrev aha(A:aS)(m:ax)(f:fO):LT Bool Empty:=(.br (A.not (A.k JO ((A.n kT (A.k F2 (m,f.1)).1 0:Span),f.2.1))) (.ret false) (.br (A.not (A.k JO ((A.n kT (A.k F2 (m,f.1)).1 1:Span),f.2.2.1))) (.ret false) (.br (A.not (A.k JO ((A.n kT (A.k F2 (m,f.1)).1 2:Span),f.2.2.2.2.1))) (.ret false) (.br (A.not (A.k JO ((A.n kT (A.k F2 (m,f.1)).1 3:Span),f.2.2.2.2.2.1))) (.ret false) (.br (A.not (A.k JO ((A.n kT (A.k F2 (m,f.1)).1 4:Span),f.2.2.2.2.2.2))) (.ret false) (.ret true))))))
def amq(A:aS)(m:ax)(f:fO):LT Bool Empty:=.br (A.not (A.k F2 (m,f.1)).2) (.ret false) (.br (A.bD f.2.2.2.1 0) (.ret false) (.br (A.qP f.2.2.2.1 16) (.ret false) (.br (A.bK f.1 10) (.br (A.bK f.2.2.2.2.1 f.2.1) (.ret false) (aha A m f)) (aha A m f))))
def nJ:(ax×fO)->Bool:=λ(m,f)=>(amq af m f).val (Ty.aR [.bool])
def asc:aM:=.all [bM,eY] [.bool] nJ
theorem aqd:Sd 174 asc:=fa (aP ar dK sl 250 [] (λA (m,f)=>amq A m f) (kz (fc Tryz.func174 fz) (sc aqf (sc aqg sz))) (λ_ _ _=>LT.bE (by kernel_rfl)))
structure Wc where
 (a0:List fO) (a1:Int) (a3:ax)
structure Wd where
 (b0:List fO) (b1:Int) (b3:ax)
structure Wh where
 (c1:List fO)
structure Wi where
 (d1 d2:Int)
inductive acI where
 | c0 (p:Wc) (a2:Int)
 | c1 (p:Wd) (b2:Int) (b4:List fO)
 | c2 (p:Wh) (c0:Int)
 | c3 (p:Wi) (d0:Int) (d3:Int) (d4:List fO)
noncomputable def aiK:acI->iH
 | .c0 p a2=>⟨[⟨119,29,(en [(2,.ptr 0 0),(5,.gi true),(11,.sl eY p.a0),(12,vi p.a1),(13,vi a2)]),sk Tryz.f119 [1,1,1,0,1,0,0],[],none⟩],[.ay false (dc bM p.a3),.aZ]⟩
 | .c1 p b2 b4=>⟨[⟨119,29,(en [(2,.ptr 0 0),(5,.own 1),(11,.sl eY p.b0),(12,vi p.b1),(13,vi b2)]),sk Tryz.f119 [1,1,1,0,1,0,0],[],none⟩],[.ay false (dc bM p.b3),.arr false eY b4,.aZ]⟩
 | .c2 p c0=>⟨[⟨177,61,(en [(0,.own 0),(3,vi c0)]),sk Tryz.f177 [1,1,0,1,0,0],[],none⟩,⟨119,29,.leaf,[.ops (ow Tryz.f119 [1,1,1,1,1,0]) ((ow Tryz.f119 [1,1,1,1,1,0]).toList.drop 1),.code .ret],[],none⟩],[.arr false eY p.c1,.aZ]⟩
 | .c3 p d0 d3 d4=>⟨[⟨177,61,(en [(0,.own 0),(3,vi d0),(4,.uh 0 7 false p.d1 p.d2),(5,vi d3)]),sk Tryz.f177 [1,1,0,1,0,0,1,0,0,1,0,1,0,1,0,0],[],none⟩,⟨119,29,.leaf,[.ops (ow Tryz.f119 [1,1,1,1,1,0]) ((ow Tryz.f119 [1,1,1,1,1,0]).toList.drop 1),.code .ret],[],none⟩],[.arr false eY d4,.aZ]⟩
def amn(A:aS)(m:ax)(l:List fO):LT (List fO) acI:=.br (A.cr (A.k jM m) 0) (.ret ([]:List fO)) (.ao (.c0 ⟨l,(A.l l),m⟩ 0))
def QP(A:aS):acI->LT (List fO) acI
 | .c0 p a2=>.br (A.bD a2 p.a1) (.gQ A a2 p.a0 (.br (A.k nJ (p.a3,(A.n eY p.a0 a2:fO))) (.ap (A.bU (A.l (([(A.n eY p.a0 a2:fO)]:List fO):List fO)) 2513169434916) (.ao (.c1 ⟨p.a0,p.a1,p.a3⟩ (A.b .add .i64 a2 1) ([(A.n eY p.a0 a2:fO)]:List fO)))) (.ao (.c0 p (A.b .add .i64 a2 1))))) (.ap (A.k (λ_=>true) (([]:List fO),())) (.ret ([]:List fO)))
 | .c1 p b2 b4=>.br (A.bD b2 p.b1) (.gQ A b2 p.b0 (.br (A.k nJ (p.b3,(A.n eY p.b0 b2:fO))) (.ap (A.bU (A.l (A.p b4 ([(A.n eY p.b0 b2:fO)]:List fO))) 2513169434916) (.ao (.c1 p (A.b .add .i64 b2 1) (A.p b4 ([(A.n eY p.b0 b2:fO)]:List fO))))) (.ao (.c1 p (A.b .add .i64 b2 1) b4)))) (.ap (A.k (λ_=>true) (b4,())) (.br (A.bD (A.l (A.k DG (b4,())).1) 2) (.ret (A.k DG (b4,())).1) (.ao (.c2 ⟨(A.k DG (b4,())).1⟩ 1))))
 | .c2 p c0=>.br (A.bD c0 (A.l p.c1)) (.gQ A c0 p.c1 (.gQ A (A.b .sub .i64 c0 1) p.c1 (.br (A.and (A.bK (A.n eY p.c1 c0:fO).1 (A.n eY p.c1 (A.b .sub .i64 c0 1):fO).1) (A.and (A.bK (A.n eY p.c1 c0:fO).2.1 (A.n eY p.c1 (A.b .sub .i64 c0 1):fO).2.1) (A.and (A.bK (A.n eY p.c1 c0:fO).2.2.1 (A.n eY p.c1 (A.b .sub .i64 c0 1):fO).2.2.1) (A.and (A.bK (A.n eY p.c1 c0:fO).2.2.2.1 (A.n eY p.c1 (A.b .sub .i64 c0 1):fO).2.2.2.1) (A.and (A.bK (A.n eY p.c1 c0:fO).2.2.2.2.1 (A.n eY p.c1 (A.b .sub .i64 c0 1):fO).2.2.2.2.1) (A.and (A.bK (A.n eY p.c1 c0:fO).2.2.2.2.2.1 (A.n eY p.c1 (A.b .sub .i64 c0 1):fO).2.2.2.2.2.1) (A.and (A.bK (A.n eY p.c1 c0:fO).2.2.2.2.2.2 (A.n eY p.c1 (A.b .sub .i64 c0 1):fO).2.2.2.2.2.2) true))))))) (.ap (A.and (A.bU 0 c0) (A.and (A.bU c0 (A.l p.c1)) (A.bU (A.l p.c1) (A.l p.c1)))) (.ao (.c3 ⟨c0,(A.b .sub .i64 (A.l p.c1) c0)⟩ c0 1 p.c1))) (.ao (.c2 p (A.b .add .i64 c0 1)))))) (.ret p.c1)
 | .c3 p d0 d3 d4=>.br (A.bD d3 p.d2) (.ap (A.and (A.bU 0 d3) (A.bD d3 p.d2)) (.ap (A.and (A.bU 0 (A.b .sub .i64 d3 1)) (A.bD (A.b .sub .i64 d3 1) p.d2)) (.br (A.not (A.and (A.bK (A.n eY d4 (A.b .add .i64 p.d1 d3):fO).1 (A.n eY d4 (A.b .add .i64 p.d1 (A.b .sub .i64 d3 1)):fO).1) (A.and (A.bK (A.n eY d4 (A.b .add .i64 p.d1 d3):fO).2.1 (A.n eY d4 (A.b .add .i64 p.d1 (A.b .sub .i64 d3 1)):fO).2.1) (A.and (A.bK (A.n eY d4 (A.b .add .i64 p.d1 d3):fO).2.2.1 (A.n eY d4 (A.b .add .i64 p.d1 (A.b .sub .i64 d3 1)):fO).2.2.1) (A.and (A.bK (A.n eY d4 (A.b .add .i64 p.d1 d3):fO).2.2.2.1 (A.n eY d4 (A.b .add .i64 p.d1 (A.b .sub .i64 d3 1)):fO).2.2.2.1) (A.and (A.bK (A.n eY d4 (A.b .add .i64 p.d1 d3):fO).2.2.2.2.1 (A.n eY d4 (A.b .add .i64 p.d1 (A.b .sub .i64 d3 1)):fO).2.2.2.2.1) (A.and (A.bK (A.n eY d4 (A.b .add .i64 p.d1 d3):fO).2.2.2.2.2.1 (A.n eY d4 (A.b .add .i64 p.d1 (A.b .sub .i64 d3 1)):fO).2.2.2.2.2.1) (A.and (A.bK (A.n eY d4 (A.b .add .i64 p.d1 d3):fO).2.2.2.2.2.2 (A.n eY d4 (A.b .add .i64 p.d1 (A.b .sub .i64 d3 1)):fO).2.2.2.2.2.2) true)))))))) (.ap (A.and (A.bU 0 d3) (A.bD d3 p.d2)) (.gQ A d0 d4 (.ao (.c3 p (A.b .add .i64 d0 1) (A.b .add .i64 d3 1) (A.set d4 d0 (A.n eY d4 (A.b .add .i64 p.d1 d3):fO)))))) (.ao (.c3 p d0 (A.b .add .i64 d3 1) d4))))) (.ap (A.and (A.bU 0 d0) (A.and (A.bU d0 (A.l d4)) (A.bU (A.l d4) (A.l d4)))) (.ap (A.and (A.bU 0 0) (A.and (A.bU 0 d0) (A.bU d0 (A.l (A.spl d4 d0 (A.r (A.b .sub .i64 (A.l d4) d0) (Ty.gD eY:fO))))))) (.ret (A.s (A.spl d4 d0 (A.r (A.b .sub .i64 (A.l d4) d0) (Ty.gD eY:fO))) 0 (A.b .add .i64 0 (A.b .sub .i64 d0 0))))))
def vy(a:fO):List fO->List fO
 | []=>[]
 | b::l=>if b=a then vy a l else b::vy b l
def sI:List fO->List fO
 | []=>[]
 | a::l=>a::vy a l
theorem JE:∀(l:List fO) (a x:fO),vy a (l ++ [x])=if x=(a::l).getLast (List.cons_ne_nil _ _) then vy a l else vy a l ++ [x]
 | [],a,x=>by rfl
 | b::l,a,x=>by
   have c:=JE l b x;show(if b=a then vy a (l ++ [x]) else b::vy b (l ++ [x]))=_;by_cases h:b=a
   ·subst h
    show _=if _ then(if b=b then vy b l else _) else(if b=b then vy b l else _) ++ [x]
    simp_all
   ·rw[if_neg h,c]
    show _=if _ then(if b=a then vy a l else b::vy b l) else(if b=a then vy a l else b::vy b l) ++ [x]
    grind
theorem Fx{L:List fO}{n:Nat}(f:1<=n)(h:n<L.length):sI (L.take (n+1))=if L[n]=L[n-1]'(by omega) then sI (L.take n) else sI (L.take n) ++ [L[n]]:=by
 cases L with
 | nil=>grind
 | cons a l=>
   obtain⟨k,rfl⟩:∃k,n=k+1:=⟨n-1,by omega⟩;have c:k<l.length:=by simp_all
   rw[gZ,gZ,bf c];show a::vy a (l.take k ++ [l[k]])=if _ then a::vy a (l.take k) else a::vy a (l.take k) ++ [_]
   rw[JE]
   grind
def tO(m:ax)(l:List fO):List fO:=bif decide (jM m=0) then sI ((l.filter λf=>nJ (m,f)).mergeSort λa b=>!(ua b a)) else[]
theorem XP{a b:fO}:af.and (af.bK a.1 b.1) (af.and (af.bK a.2.1 b.2.1) (af.and (af.bK a.2.2.1 b.2.2.1) (af.and (af.bK a.2.2.2.1 b.2.2.2.1) (af.and (af.bK a.2.2.2.2.1 b.2.2.2.2.1) (af.and (af.bK a.2.2.2.2.2.1 b.2.2.2.2.2.1) (af.and (af.bK a.2.2.2.2.2.2 b.2.2.2.2.2.2) true))))))=decide (a=b):=by
 obtain⟨a1,a2,c,f,g,h,i⟩:=a;obtain⟨j,l,m,n,o,p,q⟩:=b;simp[dE,bl,Bool.and_true,Prod.mk.injEq,Bool.decide_and]
theorem ae2{d:List fO}{z:fO}{k n:Nat}(h:k+n=d.length):(af.spl d (k:Int) (af.r (n:Int) z)).length=d.length:=by
 rw[yv,oB,rO,rO,ru,ru,c_,cN,IZ];omega
theorem Zo{L:List fO}{i:Nat}(h:i<L.length):(af.n eY L (i:Int):fO)=L[i]:=fL h _
theorem Xj{p:Wi}{L:List fO}{k0:Nat}(E:p.d1=(k0:Int))(u:p.d2=((L.length-k0:Nat):Int))(V:k0<=L.length)(W:L.length<=1000000):
  ∀(j k c:Nat) (d:List fO),L.length-k0-c=j->c<=L.length-k0->1<=c->1<=k->k+1<=k0+c->d.length=L.length->d.take k=sI (L.take (k0+c))->d.drop k=L.drop k->
   aW (QP af) (.ao (.c3 p (k:Int) (c:Int) d)) (sI L):=by
 intro j
 induction j with
 | zero=>
   intro k c d S A q H C h z _;have e:k0+c=L.length:=by omega
   have P:af.b .add .i64 0 (af.b .sub .i64 (k:Int) 0)=(k:Int):=by
    rw[show(0:Int)=((0:Nat):Int) from rfl,Mr (aX _) (by omega),jA (by omega)];omega
   refine aB.2 ((ak ?_).2 (au.2 ⟨?_,au.2 ⟨?_,aQ ?_ (.ret _)⟩⟩))
   ·rw[u,bg];grind
   ·rw[d_,h,bl,bl,aC,aC,aC];grind
   ·have I:(af.spl d (k:Int) (af.r (af.b .sub .i64 (af.l d) (k:Int)) (Ty.gD eY:fO))).length=L.length:=by
     rw[d_,h,Mr (by omega) (by omega)];exact(ae2 (by omega)).trans h
    rw[d_ (l:=af.spl _ _ _),I,bl,bl,aC,aC,aC];grind
   ·rw[P,jX,oB,rO,cX,iK (by rw[c_];omega),z,e,cH (ah _)]
    rfl
 | succ j ih=>
   intro k c d S A q H C h z f;have r:k0+c<L.length:=by omega
   have g:∀i,k<=i->(Q:i<L.length)->(af.n eY d (i:Int):fO)=L[i]:=λi Q I=>by
    rw[Zo (by omega)];have:=congrArg (λl=>l[i-k]?) f
    grind
   have K:af.b .add .i64 p.d1 (c:Int)=((k0+c:Nat):Int):=by rw[E,jA (i:=k0) (j:=c) (by omega)]
   have D:af.b .sub .i64 (c:Int) 1=((c-1:Nat):Int):=Mr (i:=c) (j:=1) (by omega) (by omega);have O:af.b .add .i64 p.d1 ((c-1:Nat):Int)=((k0+c-1:Nat):Int):=by rw[E,jA (i:=k0) (j:=c-1) (by omega)];congr 1;omega
   have a1:=g (k0+c) (by omega) r;have a2:=g (k0+c-1) (by omega) (by omega);have J:=Fx (L:=L) (n:=k0+c) (by omega) r;have m:af.and (af.bU 0 (c:Int)) (af.bD (c:Int) p.d2)=true:=by rw[u,bg,bl,aC];simp;omega
   have o:af.and (af.bU 0 ((c-1:Nat):Int)) (af.bD ((c-1:Nat):Int) p.d2)=true:=by rw[u,bg,bl,aC];simp;omega
   refine aB.2 ((al ?_).2 (au.2 ⟨m,au.2 ⟨by rw[D];exact o,?_⟩⟩))
   ·rw[u,bg];exact da (by omega)
   rw[D,K,O,a1,a2,XP,iC (i:=c) (by omega),iC (i:=k) (by omega)];by_cases v:L[k0+c]=L[k0+c-1]
   ·rw[da v]
    refine(ak rfl).2 (ih k (c+1) d (by omega) (by omega) (by omega) H (by omega) h ?_ f);rw[show k0+(c+1)=k0+c+1 by omega,J,if_pos v];exact z
   ·rw[gI v]
    refine(al rfl).2 (au.2 ⟨m,au.2 ⟨du (by omega),?_⟩⟩);rw[Mn,rO];have B:k<d.length:=by omega
    refine ih (k+1) (c+1) _ (by omega) (by omega) (by omega) (by omega) (by omega) (by simp_all) ?_ ?_
    ·rw[show k0+(c+1)=k0+c+1 by omega,J,if_neg v,<-z,bf (by rw[cO];exact B),List.getElem_set_self,List.take_set_of_le (ah _)]
    ·rw[List.drop_set_of_lt (Nat.lt_succ_self _)]
     have:=congrArg (List.drop 1) f;rw[eP,eP] at this;exact this
theorem Xw{p:Wh}{L:List fO}(f:p.c1=L)(o:L.length<=1000000):∀(j i:Nat),L.length-i=j->i<=L.length->1<=i->sI (L.take i)=L.take i->
  aW (QP af) (.ao (.c2 p (i:Int))) (sI L):=by
 intro j
 induction j with
 | zero=>
   intro i r m g q;have:i=L.length:=by omega
   subst this;refine aB.2 ((ak ?_).2 (aQ ?_ (.ret _)))
   ·rw[f,d_,bg];simp
   simp_all
 | succ j ih=>
   intro i r m g q;have c:i<L.length:=by omega
   have h:af.b .sub .i64 (i:Int) 1=((i-1:Nat):Int):=Mr (i:=i) (j:=1) (by omega) (by omega);have u:=Fx (L:=L) (n:=i) g c;refine aB.2 ((al ?_).2 (au.2 ⟨by rw[f];exact du c,au.2 ⟨by rw[f,h];exact du (by omega),?_⟩⟩))
   ·rw[f,d_,bg];simp_all
   rw[f,h,Zo c,Zo (show i-1<L.length by omega),XP,iC (by omega)];by_cases l:L[i]=L[i-1]
   ·rw[da l]
    refine(al rfl).2 (au.2 ⟨?_,?_⟩)
    ·rw[d_,bl,bl,aC,aC,aC];simp_all
    ·rw[d_,Mr (by omega) (by omega)]
     have:=Xj (p:=⟨(i:Int),((L.length-i:Nat):Int)⟩) (L:=L) (k0:=i) rfl rfl m o _ i 1 L rfl (by omega) (ah _) g (ah _) rfl (by simp_all) rfl;omega
   ·rw[gI l]
    refine(ak rfl).2 (ih (i+1) (by omega) (by omega) (by omega) ?_)
    simp_all
theorem QZ{L:List fO}:(L.mergeSort λa b=>!(ua b a)).length=L.length:=List.length_mergeSort _
theorem XR{L:List fO}(f:L.length<=1000000):aW (QP af) (.ap (af.k (λ_=>true) ((L,()):List fO×Unit)) (.br (af.bD (af.l (af.k DG (L,())).1) 2) (.ret (af.k DG (L,())).1) (.ao (.c2 ⟨(af.k DG (L,())).1⟩ 1)))) (sI (L.mergeSort λa b=>!(ua b a))):=by
 have e:(af.k DG (L,())).1=L.mergeSort λa b=>!(ua b a):=rfl;rw[e];have c:=QZ (L:=L);generalize L.mergeSort (λa b=>!(ua b a))=M at c ⊢;refine au.2 ⟨rfl,?_⟩;by_cases h:M.length<2
 ·refine(al ?_).2 (aQ ?_ (.ret _))
  ·rw[d_,aV];grind
  ·match M,h with
   | [],_=>rfl
   | [a],_=>rfl
   | _::_::_,h=>grind
 ·refine(ak ?_).2 ?_
  ·rw[d_,aV];grind
  ·refine Xw (L:=M) rfl (by omega) _ 1 rfl (by omega) (ah _) ?_
   match M,h with
   | [],h=>simp at h
   | a::l,_=>rfl
theorem Un{p:Wd}{L:List fO}(h:p.b0=L)(l:p.b1=(L.length:Int))(n:p.b3=m)(o:L.length<=1000000):
  ∀(j i:Nat),L.length-i=j->i<=L.length->aW (QP af) (.ao (.c1 p (i:Int) ((L.take i).filter λf=>nJ (m,f)))) (sI ((L.filter λf=>nJ (m,f)).mergeSort λa b=>!(ua b a))):=by
 intro j
 induction j with
 | zero=>
   intro i r q;have:i=L.length:=by omega
   subst this;rw[cH (ah _)];refine aB.2 ((ak ?_).2 (XR (aU (List.length_filter_le _ _) o)));rw[l,bg];simp
 | succ j ih=>
   intro i r q;have c:i<L.length:=by omega
   refine aB.2 ((al ?_).2 (au.2 ⟨by rw[h];exact du c,?_⟩))
   ·rw[l,bg];simp_all
   have g:=ih (i+1) (by omega) (by omega);rw[bf c,mI] at g;rw[h,n,Zo c,iC (by omega)];cases hf:nJ (m,L[i])
   ·refine(ak (show af.k nJ (m,L[i])=false from hf)).2 ?_
    simp_all
   ·refine(al (show af.k nJ (m,L[i])=true from hf)).2 (au.2 ⟨?_,?_⟩)
    ·have:=List.length_filter_le (λf=>nJ (m,f)) (L.take i)
     rw[d_,v8,ru,bw,aC]
     grind
    ·rw[gX (p:=λf=>nJ (m,f)) hf,oN] at g
     exact g
theorem Py{p:Wc}{L:List fO}(l:p.a0=L)(h:p.a1=(L.length:Int))(n:p.a3=m)(o:L.length<=1000000):
  ∀(j i:Nat),L.length-i=j->i<=L.length->(L.take i).filter (λf=>nJ (m,f))=[]->aW (QP af) (.ao (.c0 p (i:Int))) (sI ((L.filter λf=>nJ (m,f)).mergeSort λa b=>!(ua b a))):=by
 intro j
 induction j with
 | zero=>
   intro i r q g;have:i=L.length:=by omega
   subst this;rw[cH (ah _)] at g;rw[g];refine aB.2 ((ak ?_).2 (au.2 ⟨rfl,aQ ?_ (.ret _)⟩))
   ·rw[h,bg];simp
   ·rw[List.mergeSort_nil];rfl
 | succ j ih=>
   intro i r q u;have c:i<L.length:=by omega
   refine aB.2 ((al ?_).2 (au.2 ⟨by rw[l];exact du c,?_⟩))
   ·rw[h,bg];simp_all
   rw[l,n,Zo c,iC (by omega)];have v:(L.take (i+1)).filter (λf=>nJ (m,f))=[L[i]].filter λf=>nJ (m,f):=by
    rw[bf c,mI,u,jW]
   cases g:nJ (m,L[i])
   ·refine(ak (show af.k nJ (m,L[i])=false from g)).2 (ih (i+1) (by omega) (by omega) ?_)
    simp_all
   ·refine(al (show af.k nJ (m,L[i])=true from g)).2 (au.2 ⟨by kernel_rfl,?_⟩)
    have z:=Un (p:=⟨L,p.a1,m⟩) (L:=L) (m:=m) rfl h rfl o _ (i+1) rfl (by omega)
    simp_all
theorem anj{l:List fO}(h:l.length<=1000000):aW (QP af) (amn af m l) (tO m l):=by
 unfold amn tO;by_cases c:jM m=0
 ·rw[da c]
  refine(ak (by rw[dM];exact gI λk=>k c)).2 ?_;exact Py (p:=⟨l,(l.length:Int),m⟩) (L:=l) rfl rfl rfl h _ 0 rfl (aX _) rfl
 ·rw[gI c]
  exact(al (by rw[dM];exact da c)).2 (.ret _)
def wC:(ax×List fO)->(List fO):=λ(m,l)=>tO m l
def GM:(ax×List fO)->Bool:=λ(_,l)=>decide (l.length<=1000000)
def ar_:aM:=⟨[bM,(.slice eY)], [(.slice eY)],GM,wC,false⟩
theorem aqb:Sd 119 ar_:=bp ar dK sl 33 [⟨119,5, [[2,5,11,12,13]]⟩,⟨177,4, [[0,3], []]⟩,⟨177,9, [[0,3,4,5], []]⟩] [] (λA (m,l)=>amn A m l) QP aiK ⟨(fc Tryz.func119 (fc Tryz.func177 fz)),(sc BF (sc aqd sz)),oz,(ic ano iz),mz,pz⟩ (λA y=>match y with |.c0 p a2=>⟨42,sl,by kernel_rfl⟩|.c1 p b2 b4=>⟨42,sl,by kernel_rfl⟩|.c2 p c0=>⟨46,sl,by kernel_rfl⟩|.c3 p d0 d3 d4=>⟨54,sl,by kernel_rfl⟩) λ((m,l):ax×List fO) c h=>anj (of_decide_eq_true c)
def atf(A:aS)(a:dL)(b:dL):LT Int Empty:=.ret (A.k NB [(A.k q8 (a.2.1,b.2.1)),(A.k q8 (a.2.2.1,b.2.2.1)),(A.k q8 (a.1,b.1))])
def NA:(dL×dL)->Int:=λ(a,b)=>(atf af a b).val (Ty.aR [yI])
def asb:aM:=.all [eZ,eZ] [yI] NA
theorem agV:Sd 122 asb:=fa (aP ar dK sl 33 [] (λA (a,b)=>atf A a b) (kz (fc Tryz.func122 fz) (sc aaI (sc aaJ sz))) (λ_ _ _=>LT.bE (by kernel_rfl)))
def Ex{Y:Type}(s:Y->LT (List dL×Unit) Y)(N:Nat)(t:LT (List dL×Unit) Y):Prop:=∃r:List dL,r.length=N/\aW s t (r,())
section
variable {Y:Type} {s:Y->LT (List dL×Unit) Y} {N:Nat} {t e:LT (List dL×Unit) Y} {a b:Int}
theorem Ex.ret{r:List dL}(h:r.length=N):Ex s N (.ret (r,())):=⟨r,h,.ret _⟩
theorem Ex.ao{y:Y}(h:Ex s N (s y)):Ex s N (.ao y):=h.elim λr k=>⟨r,k.1,.ao k.2⟩
theorem Ex.ap{b:Bool}(c:b=true)(h:Ex s N t):Ex s N (.ap b t):=h.elim λr k=>⟨r,k.1,.ap c k.2⟩
theorem Ex.br{b:Bool}(c:b=true->Ex s N t)(f:b=false->Ex s N e):Ex s N (.br b t e):=by
 cases b
 ·exact(f rfl).elim λr k=>⟨r,k.1,.br k.2⟩
 ·exact(c rfl).elim λr k=>⟨r,k.1,.br k.2⟩
theorem Ex.lss(c:a<b->Ex s N t)(f:b<=a->Ex s N e):Ex s N (.br (af.bD a b) t e):=
 Ex.br (λh=>c (of_decide_eq_true (p:=a<b) h)) λh=>f (jH.1 (of_decide_eq_false (p:=a<b) h))
theorem Ex.gtr(c:b<a->Ex s N t)(f:a<=b->Ex s N e):Ex s N (.br (af.jw a b) t e):=
 Ex.br (λh=>c (of_decide_eq_true (p:=b<a) h)) λh=>f (jH.1 (of_decide_eq_false (p:=b<a) h))
theorem Ex.leq(c:a<=b->Ex s N t)(f:b<a->Ex s N e):Ex s N (.br (af.bU a b) t e):=
 Ex.br (λh=>c (of_decide_eq_true (p:=a<=b) h)) λh=>f (Int.not_le.1 (of_decide_eq_false (p:=a<=b) h))
theorem Ex.eql(c:a=b->Ex s N t)(f:¬a=b->Ex s N e):Ex s N (.br (af.bK a b) t e):=by
 rw[dE];exact Ex.br (λh=>c (of_decide_eq_true h)) λh=>f (of_decide_eq_false h)
theorem Ex.neq(c:¬a=b->Ex s N t)(f:a=b->Ex s N e):Ex s N (.br (af.cr a b) t e):=by
 rw[dM];exact Ex.br (λh=>c (of_decide_eq_true h)) λh=>f (dx.1 (of_decide_eq_false h))
end
def wH{Y:Type}(s:Y->LT (List dL×Unit) Y)(t:LT (List dL×Unit) Y)(d:List dL):List dL:=bif Nat.beq (gS s t (d,())).1.length d.length then(gS s t (d,())).1 else d
variable{d:List dL}
theorem qE{s:Y->LT (List dL×Unit) Y}{t:LT (List dL×Unit) Y}:(wH s t d).length=d.length:=by
 unfold wH;cases h:Nat.beq (gS s t (d,())).1.length d.length
 ·rfl
 ·exact vk h
theorem vo{s:Y->LT (List dL×Unit) Y}{t:LT (List dL×Unit) Y}(h:Ex s d.length t):(wH s t d).length=d.length/\aW s t (wH s t d,()):=by
 refine⟨qE,?_⟩;obtain⟨r,f,c⟩:=h;rw[wH,LW c,sZ.2 f];exact c
theorem Li{l:List dL}{j:Int}{v:dL}(h:0<=i/\i<(l.length:Int)):af.and (af.bU 0 i) (af.bD i (af.l (af.set l j v)))=true:=bW (by rw[gy];exact h)
theorem wT{y:Int}(h:-4611686018427387904<=x+y/\x+y<4611686018427387904):af.b .add .i64 x y=x+y:=by rw[gz,lC (by omega) (by omega)]
theorem wi{y:Int}(h:-4611686018427387904<=x-y/\x-y<4611686018427387904):af.b .sub .i64 x y=x-y:=by rw[Go.Ev.gg,lC (by omega) (by omega)]
structure Wo where
 (a0 a1 a2:Int)
inductive acP where
 | c0 (p:Wo) (a3:Int) (a4:List dL)
noncomputable def aiR:acP->iH
 | .c0 p a3 a4=>⟨[⟨319,38,(en [(0,.own 0),(1,vi p.a0),(2,vi p.a1),(3,vi p.a2),(10,vi a3)]),sk Tryz.f319 [1,0,0],[],none⟩],[.arr false eZ a4,.aZ]⟩
def amt(A:aS)(c:List dL)(a:Int)(b:Int)(n:Int):LT (List dL×Unit) acP:=.ao (.c0 ⟨a,b,n⟩ 0 c)
def aeL(A:aS):acP->LT (List dL×Unit) acP
 | .c0 p a3 a4=>.br (A.bD a3 p.a2) (.gQ A (A.b .add .i64 p.a1 a3) a4 (.gQ A (A.b .add .i64 p.a0 a3) a4 (.gQ A (A.b .add .i64 p.a0 a3) a4 (.gQ A (A.b .add .i64 p.a1 a3) (A.set a4 (A.b .add .i64 p.a0 a3) (A.n eZ a4 (A.b .add .i64 p.a1 a3):dL)) (.ao (.c0 p (A.b .add .i64 a3 1) (A.set (A.set a4 (A.b .add .i64 p.a0 a3) (A.n eZ a4 (A.b .add .i64 p.a1 a3):dL)) (A.b .add .i64 p.a1 a3) (A.n eZ a4 (A.b .add .i64 p.a0 a3):dL)))))))) (.ret (a4,()))
theorem alx{p:Wo}(i:0<=p.a0)(l:0<=p.a1)(m:p.a0+p.a2<=N)(n:p.a1+p.a2<=N)(o:N<=1000000):∀(j:Nat) (k:Int) (d:List dL),(p.a2-k).toNat<=j->0<=k->d.length=N->Ex (aeL af) N (.ao (.c0 p k d)):=by
 intro j
 induction j with
 | zero=>intro k d f g c;exact Ex.ao (Ex.lss (λh=>by omega) λ_=>Ex.ret c)
 | succ j ih=>
   intro k d f g c;refine Ex.ao (Ex.lss (λh=>?_) λ_=>Ex.ret c);rw[wT (x:=p.a1) (y:=k) (by omega),wT (x:=p.a0) (y:=k) (by omega),wT (x:=k) (y:=1) (by omega)];exact Ex.ap (bW (by omega)) (Ex.ap (bW (by omega)) (Ex.ap (bW (by omega)) (Ex.ap (Li (by omega)) (ih (k+1) _ (by omega) (by omega) (gy.trans (gy.trans c))))))
theorem alu{n:Int}(h:0<=a/\0<=n/\a+n<=b/\b+n<=(d.length:Int)/\d.length<=1000000):Ex (aeL af) d.length (amt af d a b n):=
 alx (p:=⟨a,b,n⟩) (by simp only;omega) (by simp only;omega) (by simp only;omega) (by simp only;omega) (by omega) _ 0 d (ah _) (aj 0) rfl
def NE:List dL×(Int×Int×Int)->List dL×Unit:=λ(d,a,b,n)=>(wH (aeL af) (amt af d a b n) d,())
def GN:List dL×(Int×Int×Int)->Bool:=λ(d,a,b,n)=>decide (0<=a/\0<=n/\a+n<=b/\b+n<=(d.length:Int)/\d.length<=1000000)
def anD:fT:=⟨eZ, [yI,yI,yI], [122], [],GN,NE⟩
theorem ans:fT.bH Tryz.prog 319 anD:=gf ar dK sl 12 [⟨319,1, [[0,1,2,3,10]]⟩] [] (λA (c,(a,b,n))=>amt A c a b n) aeL aiR (kz (fc Tryz.func319 fz) sz) (λA y=>match y with |.c0 p g i=>⟨49,sl,by kernel_rfl⟩) λ((c,(a,b,n)):List dL×(Int×Int×Int)) f j h=>vo (alu (of_decide_eq_true f))
structure Wn where
 (a0:Int)
inductive acO where
 | c0 (p:Wn) (a1:Int) (a2:Int) (a3:List dL)
noncomputable def aiQ:acO->iH
 | .c0 p a1 a2 a3=>⟨[⟨282,58,(en [(0,.own 0),(2,vi p.a0),(4,.fn 122 [] []),(10,vi a1),(11,vi a2)]),sk Tryz.f282 [1,1,0,0,0],[],none⟩],[.arr false eZ a3,.aZ]⟩
def afi(A:aS)(c:List dL)(a:Int)(m:Int)(b:Int):LT (List dL×Unit) acO:=.ao (.c0 ⟨m⟩ (A.b .sub .i64 m a) (A.b .sub .i64 b m) c)
def aeK(A:aS):acO->LT (List dL×Unit) acO
 | .c0 p a1 a2 a3=>.br (A.cr a1 a2) (.br (A.jw a1 a2) (.ap (A.k GN (a3,(A.b .sub .i64 p.a0 a1),p.a0,a2)) (.ao (.c0 p (A.b .sub .i64 a1 a2) a2 (A.k NE (a3,(A.b .sub .i64 p.a0 a1),p.a0,a2)).1))) (.ap (A.k GN (a3,(A.b .sub .i64 p.a0 a1),(A.b .sub .i64 (A.b .add .i64 p.a0 a2) a1),a1)) (.ao (.c0 p a1 (A.b .sub .i64 a2 a1) (A.k NE (a3,(A.b .sub .i64 p.a0 a1),(A.b .sub .i64 (A.b .add .i64 p.a0 a2) a1),a1)).1)))) (.ap (A.k GN (a3,(A.b .sub .i64 p.a0 a1),p.a0,a1)) (.ret ((A.k NE (a3,(A.b .sub .i64 p.a0 a1),p.a0,a1)).1,())))
theorem LP{n:Int}(h:0<=a/\0<=n/\a+n<=b/\b+n<=(d.length:Int)/\d.length<=1000000):af.k GN (d,a,b,n)=true:=da h
theorem P4{n:Int}:(af.k NE (d,a,b,n)).1.length=d.length:=qE
theorem akX{p:Wn}(r:N<=1000000):∀(f:Nat) (i j:Int) (d:List dL),(i+j).toNat<=f->1<=i->1<=j->i<=p.a0->p.a0+j<=N->d.length=N->Ex (aeK af) N (.ao (.c0 p i j d)):=by
 intro f
 induction f with
 | zero=>omega
 | succ f ih=>
   intro i j d q l m n o c;refine Ex.ao (Ex.neq (λh=>Ex.gtr (λg=>?_) λg=>?_) λh=>?_)
   ·rw[wi (x:=p.a0) (y:=i) (by omega),wi (x:=i) (y:=j) (by omega)]
    exact Ex.ap (LP (by omega)) (ih (i-j) j _ (by omega) (by omega) m (by omega) o (P4.trans c))
   ·rw[wT (x:=p.a0) (y:=j) (by omega),wi (x:=p.a0) (y:=i) (by omega),wi (x:=p.a0+j) (y:=i) (by omega),wi (x:=j) (y:=i) (by omega)]
    exact Ex.ap (LP (by omega)) (ih i (j-i) _ (by omega) l (by omega) n (by omega) (P4.trans c))
   ·rw[wi (x:=p.a0) (y:=i) (by omega)]
    exact Ex.ap (LP (by omega)) (Ex.ret (P4.trans c))
theorem akV{m:Int}(h:0<=a/\a<m/\m<b/\b<=(d.length:Int)/\d.length<=1000000):Ex (aeK af) d.length (afi af d a m b):=by
 unfold afi;rw[wi (x:=m) (y:=a) (by omega),wi (x:=b) (y:=m) (by omega)];exact akX (p:=⟨m⟩) (by omega) _ (m-a) (b-m) d (ah _) (by omega) (by omega) (by grind) (by grind) rfl
def sP:List dL×(Int×Int×Int)->List dL×Unit:=λ(d,a,m,b)=>(wH (aeK af) (afi af d a m b) d,())
def Qq:List dL×(Int×Int×Int)->Bool:=λ(d,a,m,b)=>decide (0<=a/\a<m/\m<b/\b<=(d.length:Int)/\d.length<=1000000)
def anC:fT:=⟨eZ, [yI,yI,yI], [122], [],Qq,sP⟩
theorem anr:fT.bH Tryz.prog 282 anC:=gf ar dK sl 23 [⟨282,2, [[0,2,4,10,11]]⟩] [] (λA (c,(a,m,b))=>afi A c a m b) aeK aiQ ⟨(fc Tryz.func282 fz),sz,oz,(ic ans iz),mz,pz⟩ (λA y=>match y with |.c0 p a1 a2 g=>⟨45,sl,by kernel_rfl⟩) λ((c,(a,m,b)):List dL×(Int×Int×Int)) f i h=>vo (akV (of_decide_eq_true f))
structure ahJ where
 (a0 a1 a2:Int) (a3:List dL)
structure ahK where
 (b0 b1 b2:Int)
inductive acM where
 | c0 (p:ahJ)
 | c1 (p:ahK) (b3:Int) (b4:List dL)
noncomputable def aiO:acM->iH
 | .c0 p=>⟨[⟨230,53,(en [(0,.own 0),(1,vi p.a0),(2,vi p.a1),(3,.fn 122 [] []),(8,vi p.a2)]),sk Tryz.f230 [1,0,0],[],none⟩],[.arr false eZ p.a3,.aZ]⟩
 | .c1 p b3 b4=>⟨[⟨230,53,(en [(0,.own 0),(1,vi p.b0),(2,vi p.b1),(3,.fn 122 [] []),(8,vi p.b2),(9,vi b3)]),sk Tryz.f230 [1,0,0,1,0,0,1,0,0],[],none⟩],[.arr false eZ b4,.aZ]⟩
def afh(A:aS)(c:List dL)(a:Int)(b:Int):LT (List dL×Unit) acM:=.ao (.c0 ⟨a,b,(A.b .add .i64 a 1),c⟩)
def U6(A:aS):acM->LT (List dL×Unit) acM
 | .c0 p=>.br (A.bD p.a2 p.a1) (.ao (.c1 ⟨p.a0,p.a1,p.a2⟩ p.a2 p.a3)) (.ret (p.a3,()))
 | .c1 p b3 b4=>.br (A.jw b3 p.b0) (.gQ A b3 b4 (.gQ A (A.b .sub .i64 b3 1) b4 (.br (A.bD (A.k NA ((A.n eZ b4 b3:dL),(A.n eZ b4 (A.b .sub .i64 b3 1):dL))) 0) (.gQ A (A.b .sub .i64 b3 1) b4 (.gQ A b3 b4 (.gQ A b3 b4 (.gQ A (A.b .sub .i64 b3 1) (A.set b4 b3 (A.n eZ b4 (A.b .sub .i64 b3 1):dL)) (.ao (.c1 p (A.b .sub .i64 b3 1) (A.set (A.set b4 b3 (A.n eZ b4 (A.b .sub .i64 b3 1):dL)) (A.b .sub .i64 b3 1) (A.n eZ b4 b3:dL)))))))) (.ao (.c0 ⟨p.b0,p.b1,(A.b .add .i64 p.b2 1),b4⟩))))) (.ao (.c0 ⟨p.b0,p.b1,(A.b .add .i64 p.b2 1),b4⟩))
theorem aj5(A:N<=1000000)(z:0<=a)(B:b<=N):∀(f:Nat) (i:Int) (d:List dL),(b-i).toNat<=f->a<i->d.length=N->Ex (U6 af) N (.ao (.c0 ⟨a,b,i,d⟩)):=by
 intro f
 induction f with
 | zero=>intro i d q u l;exact Ex.ao (Ex.lss (λh=>by grind) λ_=>Ex.ret l)
 | succ f ih=>
   intro i d q u l;refine Ex.ao (Ex.lss (λh=>?_) λ_=>Ex.ret l);have h:i<b:=h;have p:∀e:List dL,e.length=N->Ex (U6 af) N (.ao (.c0 ⟨a,b,af.b .add .i64 i 1,e⟩)):=λe c=>by
    rw[wT (x:=i) (y:=1) (by omega)]
    grind
   have o:∀(g:Nat) (j:Int) (e:List dL),(j-a).toNat<=g->a<=j->j<=i->e.length=N->Ex (U6 af) N (.ao (.c1 ⟨a,b,i⟩ j e)):=by
    intro g
    induction g with
    | zero=>intro j e r v m c;exact Ex.ao (Ex.gtr (λh=>by grind) λ_=>p e c)
    | succ g n=>
      intro j e r v m c;refine Ex.ao (Ex.gtr (λh=>?_) λ_=>p e c);have h:a<j:=h;rw[wi (x:=j) (y:=1) (by omega)];exact Ex.ap (bW (by omega)) (Ex.ap (bW (by omega)) (Ex.br (λ_=>Ex.ap (bW (by omega)) (Ex.ap (bW (by omega)) (Ex.ap (bW (by omega)) (Ex.ap (Li (by omega)) (n (j-1) _ (by omega) (by omega) (by omega) (gy.trans (gy.trans c))))))) λ_=>p e c))
   exact o _ i d (ah _) (by omega) (aj i) l
theorem aj3(h:0<=a/\a<=b/\b<=(d.length:Int)/\d.length<=1000000):Ex (U6 af) d.length (afh af d a b):=by
 unfold afh;rw[wT (x:=a) (y:=1) (by omega)];exact aj5 (by omega) h.1 h.2.2.1 _ (a+1) d (ah _) (by omega) rfl
def Sg:List dL×(Int×Int)->List dL×Unit:=λ(d,a,b)=>(wH (U6 af) (afh af d a b) d,())
def LB:List dL×(Int×Int)->Bool:=λ(d,a,b)=>decide (0<=a/\a<=b/\b<=(d.length:Int)/\d.length<=1000000)
def anB:fT:=⟨eZ, [yI,yI], [122], [],LB,Sg⟩
theorem anq:fT.bH Tryz.prog 230 anB:=gf ar dK sl 14 [⟨230,1, [[0,1,2,3,8]]⟩,⟨230,4, [[0,1,2,3,8,9]]⟩] [] (λA (c,(a,b))=>afh A c a b) U6 aiO (kz (fc Tryz.func230 fz) (sc agV sz)) (λA y=>match y with |.c0 p=>⟨24,sl,by kernel_rfl⟩|.c1 p b3 b4=>⟨57,sl,by kernel_rfl⟩) λ((c,(a,b)):List dL×(Int×Int)) f g h=>vo (aj3 (of_decide_eq_true f))
theorem aed{i j:Nat}(h:i+j<4611686018427387904):af.v .i64 (af.b .shr .u64 (af.v .u64 (af.b .add .i64 (i:Int) (j:Int))) 1)=(((i+j)/2:Nat):Int):=by
 rw[jA h];have e:af.v .u64 ((i+j:Nat):Int)=((i+j:Nat):Int):=afO (by omega) (by omega);rw[e];have:=aaq (a:=((i+j:Nat):Int)) (n:=1) (by omega) (by omega);rw[show((1:Nat):Int)=1 from rfl] at this;rw[this,rO];exact lC (by omega) (by omega)
theorem NV{j:Int}(f:0<=i)(g:0<=j)(h:i+j<=4000000):∃c:Int,af.v .i64 (af.b .shr .u64 (af.v .u64 (af.b .add .i64 i j)) 1)=c/\2*c<=i+j/\i+j<=2*c+1:=by
 obtain⟨i,rfl⟩:=aO f;obtain⟨j,rfl⟩:=aO g;exact⟨_,aed (by omega),by omega,by omega⟩
abbrev VD:Type:=List dL×Int×Int×Int->List dL×Unit
def jB(k:Nat):List dL×Int×Int×Int->Bool:=λ(d,a,m,b)=>decide (0<=a/\a<m/\m<b/\b<=(d.length:Int)/\d.length<=1000000/\b-a<=(k:Int))
def YQ(k:Nat)(F:VD):fT:=⟨eZ, [yI,yI,yI], [122], [],jB k,F⟩
structure Wk where
 (a0:Int) (a3:List dL)
structure Wl where
 (b0:Int) (b3:List dL)
structure Wm where
 (c0 c1 c2 c3 c4 c7:Int) (c8:List dL)
structure ahL where
 (d0:Int)
structure ahM where
 (e0:Int)
inductive acN where
 | c0 (p:Wk) (a1:Int) (a2:Int)
 | c1 (p:Wl) (b1:Int) (b2:Int)
 | c2 (p:Wm) (c5:Int) (c6:Int)
 | c3 (p:ahL) (d1:Int) (d2:List dL)
 | c4 (p:ahM) (e1:Int) (e2:List dL)
noncomputable def aiP:acN->iH
 | .c0 p a1 a2=>⟨[⟨231,220,(en [(0,.own 0),(1,vi p.a0),(4,.fn 122 [] []),(10,vi a1),(11,vi a2)]),sk Tryz.f231 [0,1,0,1,1,0,0,0],[],none⟩],[.arr false eZ p.a3,.aZ]⟩
 | .c1 p b1 b2=>⟨[⟨231,220,(en [(0,.own 0),(2,vi p.b0),(4,.fn 122 [] []),(14,vi b1),(15,vi b2)]),sk Tryz.f231 [1,0,1,0,1,1,0,0,0],[],none⟩],[.arr false eZ p.b3,.aZ]⟩
 | .c2 p c5 c6=>⟨[⟨231,220,(en [(0,.own 0),(1,vi p.c0),(2,vi p.c1),(3,vi p.c2),(4,.fn 122 [] []),(18,vi p.c3),(19,vi p.c4),(20,vi c5),(21,vi c6),(22,vi p.c7)]),sk Tryz.f231 [1,1,1,1,1,1,1,0,0,0],[],none⟩],[.arr false eZ p.c8,.aZ]⟩
 | .c3 p d1 d2=>⟨[⟨231,220,(en [(0,.own 0),(10,vi p.d0),(13,vi d1)]),sk Tryz.f231 [0,1,0,1,1,1,0,1,0,0],[],none⟩],[.arr false eZ d2,.aZ]⟩
 | .c4 p e1 e2=>⟨[⟨231,220,(en [(0,.own 0),(14,vi p.e0),(17,vi e1)]),sk Tryz.f231 [1,0,1,0,1,1,1,0,1,0,0],[],none⟩],[.arr false eZ e2,.aZ]⟩
abbrev zo(A:aS)(a:Int)(b:Int):=(A.v .i64 (A.b .shr .u64 (A.v .u64 (A.b .add .i64 a b)) 1))
def abg(A:aS)(c:List dL)(a:Int)(m:Int)(b:Int):LT (List dL×Unit) acN:=.br (A.bK (A.b .sub .i64 m a) 1) (.ao (.c0 ⟨a,c⟩ m b)) (.br (A.bK (A.b .sub .i64 b m) 1) (.ao (.c1 ⟨m,c⟩ a m)) (.br (A.jw m (zo A a b)) (.ao (.c2 ⟨a,m,b,(zo A a b),(A.b .add .i64 (zo A a b) m),(A.b .sub .i64 (A.b .add .i64 (zo A a b) m) 1),c⟩ (A.b .sub .i64 (A.b .add .i64 (zo A a b) m) b) (zo A a b))) (.ao (.c2 ⟨a,m,b,(zo A a b),(A.b .add .i64 (zo A a b) m),(A.b .sub .i64 (A.b .add .i64 (zo A a b) m) 1),c⟩ a m))))
def wN(F:VD)(k:Nat)(A:aS):acN->LT (List dL×Unit) acN
 | .c0 p a1 a2=>.br (A.bD a1 a2) (.gQ A (A.v .i64 (A.b .shr .u64 (A.v .u64 (A.b .add .i64 a1 a2)) 1)) p.a3 (.gQ A p.a0 p.a3 (.br (A.bD (A.k NA ((A.n eZ p.a3 (A.v .i64 (A.b .shr .u64 (A.v .u64 (A.b .add .i64 a1 a2)) 1)):dL),(A.n eZ p.a3 p.a0:dL))) 0) (.ao (.c0 p (A.b .add .i64 (A.v .i64 (A.b .shr .u64 (A.v .u64 (A.b .add .i64 a1 a2)) 1)) 1) a2)) (.ao (.c0 p a1 (A.v .i64 (A.b .shr .u64 (A.v .u64 (A.b .add .i64 a1 a2)) 1))))))) (.ao (.c3 ⟨a1⟩ p.a0 p.a3))
 | .c1 p b1 b2=>.br (A.bD b1 b2) (.gQ A p.b0 p.b3 (.gQ A (A.v .i64 (A.b .shr .u64 (A.v .u64 (A.b .add .i64 b1 b2)) 1)) p.b3 (.br (A.not (A.bD (A.k NA ((A.n eZ p.b3 p.b0:dL),(A.n eZ p.b3 (A.v .i64 (A.b .shr .u64 (A.v .u64 (A.b .add .i64 b1 b2)) 1)):dL))) 0)) (.ao (.c1 p (A.b .add .i64 (A.v .i64 (A.b .shr .u64 (A.v .u64 (A.b .add .i64 b1 b2)) 1)) 1) b2)) (.ao (.c1 p b1 (A.v .i64 (A.b .shr .u64 (A.v .u64 (A.b .add .i64 b1 b2)) 1))))))) (.ao (.c4 ⟨b1⟩ p.b0 p.b3))
 | .c2 p c5 c6=>.br (A.bD c5 c6) (.gQ A (A.b .sub .i64 p.c7 (A.v .i64 (A.b .shr .u64 (A.v .u64 (A.b .add .i64 c5 c6)) 1))) p.c8 (.gQ A (A.v .i64 (A.b .shr .u64 (A.v .u64 (A.b .add .i64 c5 c6)) 1)) p.c8 (.br (A.not (A.bD (A.k NA ((A.n eZ p.c8 (A.b .sub .i64 p.c7 (A.v .i64 (A.b .shr .u64 (A.v .u64 (A.b .add .i64 c5 c6)) 1))):dL),(A.n eZ p.c8 (A.v .i64 (A.b .shr .u64 (A.v .u64 (A.b .add .i64 c5 c6)) 1)):dL))) 0)) (.ao (.c2 p (A.b .add .i64 (A.v .i64 (A.b .shr .u64 (A.v .u64 (A.b .add .i64 c5 c6)) 1)) 1) c6)) (.ao (.c2 p c5 (A.v .i64 (A.b .shr .u64 (A.v .u64 (A.b .add .i64 c5 c6)) 1))))))) (.br (A.bD c5 p.c1) (.br (A.bD p.c1 (A.b .sub .i64 p.c4 c5)) (.ap (A.k Qq (p.c8,c5,p.c1,(A.b .sub .i64 p.c4 c5))) (.br (A.bD p.c0 c5) (.br (A.bD c5 p.c3) (.ap (A.k (jB k) ((A.k sP (p.c8,c5,p.c1,(A.b .sub .i64 p.c4 c5))).1,p.c0,c5,p.c3)) (.br (A.bD p.c3 (A.b .sub .i64 p.c4 c5)) (.br (A.bD (A.b .sub .i64 p.c4 c5) p.c2) (.ap (A.k (jB k) ((A.k F ((A.k sP (p.c8,c5,p.c1,(A.b .sub .i64 p.c4 c5))).1,p.c0,c5,p.c3)).1,p.c3,(A.b .sub .i64 p.c4 c5),p.c2)) (.ret ((A.k F ((A.k F ((A.k sP (p.c8,c5,p.c1,(A.b .sub .i64 p.c4 c5))).1,p.c0,c5,p.c3)).1,p.c3,(A.b .sub .i64 p.c4 c5),p.c2)).1,()))) (.ret ((A.k F ((A.k sP (p.c8,c5,p.c1,(A.b .sub .i64 p.c4 c5))).1,p.c0,c5,p.c3)).1,()))) (.ret ((A.k F ((A.k sP (p.c8,c5,p.c1,(A.b .sub .i64 p.c4 c5))).1,p.c0,c5,p.c3)).1,())))) (.br (A.bD p.c3 (A.b .sub .i64 p.c4 c5)) (.br (A.bD (A.b .sub .i64 p.c4 c5) p.c2) (.ap (A.k (jB k) ((A.k sP (p.c8,c5,p.c1,(A.b .sub .i64 p.c4 c5))).1,p.c3,(A.b .sub .i64 p.c4 c5),p.c2)) (.ret ((A.k F ((A.k sP (p.c8,c5,p.c1,(A.b .sub .i64 p.c4 c5))).1,p.c3,(A.b .sub .i64 p.c4 c5),p.c2)).1,()))) (.ret ((A.k sP (p.c8,c5,p.c1,(A.b .sub .i64 p.c4 c5))).1,()))) (.ret ((A.k sP (p.c8,c5,p.c1,(A.b .sub .i64 p.c4 c5))).1,())))) (.br (A.bD p.c3 (A.b .sub .i64 p.c4 c5)) (.br (A.bD (A.b .sub .i64 p.c4 c5) p.c2) (.ap (A.k (jB k) ((A.k sP (p.c8,c5,p.c1,(A.b .sub .i64 p.c4 c5))).1,p.c3,(A.b .sub .i64 p.c4 c5),p.c2)) (.ret ((A.k F ((A.k sP (p.c8,c5,p.c1,(A.b .sub .i64 p.c4 c5))).1,p.c3,(A.b .sub .i64 p.c4 c5),p.c2)).1,()))) (.ret ((A.k sP (p.c8,c5,p.c1,(A.b .sub .i64 p.c4 c5))).1,()))) (.ret ((A.k sP (p.c8,c5,p.c1,(A.b .sub .i64 p.c4 c5))).1,()))))) (.br (A.bD p.c0 c5) (.br (A.bD c5 p.c3) (.ap (A.k (jB k) (p.c8,p.c0,c5,p.c3)) (.br (A.bD p.c3 (A.b .sub .i64 p.c4 c5)) (.br (A.bD (A.b .sub .i64 p.c4 c5) p.c2) (.ap (A.k (jB k) ((A.k F (p.c8,p.c0,c5,p.c3)).1,p.c3,(A.b .sub .i64 p.c4 c5),p.c2)) (.ret ((A.k F ((A.k F (p.c8,p.c0,c5,p.c3)).1,p.c3,(A.b .sub .i64 p.c4 c5),p.c2)).1,()))) (.ret ((A.k F (p.c8,p.c0,c5,p.c3)).1,()))) (.ret ((A.k F (p.c8,p.c0,c5,p.c3)).1,())))) (.br (A.bD p.c3 (A.b .sub .i64 p.c4 c5)) (.br (A.bD (A.b .sub .i64 p.c4 c5) p.c2) (.ap (A.k (jB k) (p.c8,p.c3,(A.b .sub .i64 p.c4 c5),p.c2)) (.ret ((A.k F (p.c8,p.c3,(A.b .sub .i64 p.c4 c5),p.c2)).1,()))) (.ret (p.c8,()))) (.ret (p.c8,())))) (.br (A.bD p.c3 (A.b .sub .i64 p.c4 c5)) (.br (A.bD (A.b .sub .i64 p.c4 c5) p.c2) (.ap (A.k (jB k) (p.c8,p.c3,(A.b .sub .i64 p.c4 c5),p.c2)) (.ret ((A.k F (p.c8,p.c3,(A.b .sub .i64 p.c4 c5),p.c2)).1,()))) (.ret (p.c8,()))) (.ret (p.c8,()))))) (.br (A.bD p.c0 c5) (.br (A.bD c5 p.c3) (.ap (A.k (jB k) (p.c8,p.c0,c5,p.c3)) (.br (A.bD p.c3 (A.b .sub .i64 p.c4 c5)) (.br (A.bD (A.b .sub .i64 p.c4 c5) p.c2) (.ap (A.k (jB k) ((A.k F (p.c8,p.c0,c5,p.c3)).1,p.c3,(A.b .sub .i64 p.c4 c5),p.c2)) (.ret ((A.k F ((A.k F (p.c8,p.c0,c5,p.c3)).1,p.c3,(A.b .sub .i64 p.c4 c5),p.c2)).1,()))) (.ret ((A.k F (p.c8,p.c0,c5,p.c3)).1,()))) (.ret ((A.k F (p.c8,p.c0,c5,p.c3)).1,())))) (.br (A.bD p.c3 (A.b .sub .i64 p.c4 c5)) (.br (A.bD (A.b .sub .i64 p.c4 c5) p.c2) (.ap (A.k (jB k) (p.c8,p.c3,(A.b .sub .i64 p.c4 c5),p.c2)) (.ret ((A.k F (p.c8,p.c3,(A.b .sub .i64 p.c4 c5),p.c2)).1,()))) (.ret (p.c8,()))) (.ret (p.c8,())))) (.br (A.bD p.c3 (A.b .sub .i64 p.c4 c5)) (.br (A.bD (A.b .sub .i64 p.c4 c5) p.c2) (.ap (A.k (jB k) (p.c8,p.c3,(A.b .sub .i64 p.c4 c5),p.c2)) (.ret ((A.k F (p.c8,p.c3,(A.b .sub .i64 p.c4 c5),p.c2)).1,()))) (.ret (p.c8,()))) (.ret (p.c8,())))))
 | .c3 p d1 d2=>.br (A.bD d1 (A.b .sub .i64 p.d0 1)) (.gQ A (A.b .add .i64 d1 1) d2 (.gQ A d1 d2 (.gQ A d1 d2 (.gQ A (A.b .add .i64 d1 1) (A.set d2 d1 (A.n eZ d2 (A.b .add .i64 d1 1):dL)) (.ao (.c3 p (A.b .add .i64 d1 1) (A.set (A.set d2 d1 (A.n eZ d2 (A.b .add .i64 d1 1):dL)) (A.b .add .i64 d1 1) (A.n eZ d2 d1:dL)))))))) (.ret (d2,()))
 | .c4 p e1 e2=>.br (A.jw e1 p.e0) (.gQ A (A.b .sub .i64 e1 1) e2 (.gQ A e1 e2 (.gQ A e1 e2 (.gQ A (A.b .sub .i64 e1 1) (A.set e2 e1 (A.n eZ e2 (A.b .sub .i64 e1 1):dL)) (.ao (.c4 p (A.b .sub .i64 e1 1) (A.set (A.set e2 e1 (A.n eZ e2 (A.b .sub .i64 e1 1):dL)) (A.b .sub .i64 e1 1) (A.n eZ e2 e1:dL)))))))) (.ret (e2,()))
section
variable {k:Nat} {F:VD}
theorem aeu{m:Int}(h:0<=a/\a<m/\m<b/\b<=(d.length:Int)/\d.length<=1000000):af.k Qq (d,a,m,b)=true:=da h
theorem akd{m:Int}:(af.k sP (d,a,m,b)).1.length=d.length:=qE
theorem Te{m:Int}(h:0<=a/\a<m/\m<b/\b<=(d.length:Int)/\d.length<=1000000/\b-a<=(k:Int)):af.k (jB k) (d,a,m,b)=true:=da h
theorem auc(n:N<=1000000)(m:0<=i)(o:i<=N):∀(f:Nat) (j:Int) (d:List dL),(i-j).toNat<=f->0<=j->d.length=N->Ex (wN F k af) N (.ao (.c3 ⟨i⟩ j d)):=by
 intro f
 induction f with
 | zero=>
   intro j d g l c;refine Ex.ao ?_;rw[wN,wi (x:=i) (y:=1) (by omega)];exact Ex.lss (λh=>by omega) λ_=>Ex.ret c
 | succ f ih=>
   intro j d g l c;refine Ex.ao ?_;rw[wN,wi (x:=i) (y:=1) (by omega)];refine Ex.lss (λh=>?_) λ_=>Ex.ret c;rw[wT (x:=j) (y:=1) (by omega)];exact Ex.ap (bW (by omega)) (Ex.ap (bW (by omega)) (Ex.ap (bW (by omega)) (Ex.ap (Li (by omega)) (ih (j+1) _ (by omega) (by omega) (gy.trans (gy.trans c))))))
theorem anh(m:N<=1000000)(n:0<=i):∀(f:Nat) (j:Int) (d:List dL),(j-i).toNat<=f->j<N->d.length=N->Ex (wN F k af) N (.ao (.c4 ⟨i⟩ j d)):=by
 intro f
 induction f with
 | zero=>intro j d g l c;exact Ex.ao (Ex.gtr (λh=>by grind) λ_=>Ex.ret c)
 | succ f ih=>
   intro j d g l c;refine Ex.ao (Ex.gtr (λh=>?_) λ_=>Ex.ret c);have h:i<j:=h;rw[wi (x:=j) (y:=1) (by omega)];exact Ex.ap (bW (by omega)) (Ex.ap (bW (by omega)) (Ex.ap (bW (by omega)) (Ex.ap (Li (by omega)) (ih (j-1) _ (by omega) (by omega) (gy.trans (gy.trans c))))))
theorem apc{p:Wk}(q:N<=1000000)(r:p.a3.length=N)(o:0<=p.a0/\p.a0<N):∀(f:Nat) (i j:Int),(j-i).toNat<=f->0<=i->i<=j->j<=N->Ex (wN F k af) N (.ao (.c0 p i j)):=by
 intro f;have l:∀i:Int,0<=i->i<=N->Ex (wN F k af) N (.ao (.c3 ⟨i⟩ p.a0 p.a3)):=λi h g=>auc q h g _ p.a0 p.a3 (ah _) o.1 r
 induction f with
 | zero=>intro i j u g m n;exact Ex.ao (Ex.lss (λh=>by omega) λ_=>l i g (by omega))
 | succ f ih=>
   intro i j u g m n;refine Ex.ao (Ex.lss (λh=>?_) λ_=>l i g (by omega));obtain⟨c,e,c1,c2⟩:=NV g (show 0<=j by omega) (by omega);rw[e,wT (x:=c) (y:=1) (by omega)];exact Ex.ap (bW (by omega)) (Ex.ap (bW (by omega)) (Ex.br (λ_=>ih (c+1) j (by omega) (by omega) (by omega) n) λ_=>ih i c (by omega) g (by omega) (by omega)))
theorem ape{p:Wl}(q:N<=1000000)(r:p.b3.length=N)(o:0<=p.b0/\p.b0<N):∀(f:Nat) (i j:Int),(j-i).toNat<=f->0<=i->i<=j->j<=N->Ex (wN F k af) N (.ao (.c1 p i j)):=by
 intro f;have l:∀i:Int,0<=i->Ex (wN F k af) N (.ao (.c4 ⟨i⟩ p.b0 p.b3)):=λi g=>anh q g _ p.b0 p.b3 (ah _) o.2 r
 induction f with
 | zero=>intro i j u g m n;exact Ex.ao (Ex.lss (λh=>by omega) λ_=>l i g)
 | succ f ih=>
   intro i j u g m n;refine Ex.ao (Ex.lss (λh=>?_) λ_=>l i g);obtain⟨c,e,c1,c2⟩:=NV g (show 0<=j by omega) (by omega);rw[e,wT (x:=c) (y:=1) (by omega)];exact Ex.ap (bW (by omega)) (Ex.ap (bW (by omega)) (Ex.br (λ_=>ih (c+1) j (by omega) (by omega) (by omega) n) λ_=>ih i c (by omega) g (by omega) (by omega)))
theorem agy(v:∀x,(F x).1.length=x.1.length){p:Wm}(S:N<=1000000)(g:p.c8.length=N){lo:Int}(E:0<=p.c0/\p.c0<p.c1/\p.c1<p.c2/\p.c2<=N/\p.c2-p.c0<=(k:Int)+1)
  (H:2*p.c3<=p.c0+p.c2/\p.c0+p.c2<=2*p.c3+1) (I:p.c4=p.c3+p.c1) (J:p.c7=p.c4-1) (K:p.c0<=lo/\p.c4-lo<=p.c2) :
  ∀(f:Nat) (i j:Int),(j-i).toNat<=f->lo<=i->i<=j->j<=p.c1->j<=p.c3\/p.c1<=p.c3->Ex (wN F k af) N (.ao (.c2 p i j)):=by
 have r:∀{d:List dL} {a m b:Int},(af.k F (d,a,m,b)).1.length=d.length:=v _;have D:∀i:Int,lo<=i->i<=p.c1->i<=p.c3\/p.c1<=p.c3->Ex (wN F k af) N (.ao (.c2 p i i)):=λi O P Q=>by
  refine Ex.ao ?_;rw[wN,wi (x:=p.c4) (y:=i) (by omega)];refine Ex.lss (λh=>by omega) λ_=>?_;have u:∀{d:List dL},d.length=N->p.c3<p.c4-i->p.c4-i<p.c2->Ex (wN F k af) N (.ap (af.k (jB k) (d,p.c3,p.c4-i,p.c2)) (.ret ((af.k F (d,p.c3,p.c4-i,p.c2)).1,()))):=λg l n=>Ex.ap (Te (by omega)) (Ex.ret (r.trans g))
  have o:∀{d:List dL},d.length=N->Ex (wN F k af) N (.br (af.bD p.c3 (p.c4-i)) (.br (af.bD (p.c4-i) p.c2) (.ap (af.k (jB k) (d,p.c3,p.c4-i,p.c2)) (.ret ((af.k F (d,p.c3,p.c4-i,p.c2)).1,()))) (.ret (d,()))) (.ret (d,()))):=λg=>
   Ex.lss (λl=>Ex.lss (λn=>u g l n) λ_=>Ex.ret g) λ_=>Ex.ret g
  have q:∀{d:List dL},d.length=N->Ex (wN F k af) N (.br (af.bD p.c0 i) (.br (af.bD i p.c3) (.ap (af.k (jB k) (d,p.c0,i,p.c3)) (.br (af.bD p.c3 (p.c4-i)) (.br (af.bD (p.c4-i) p.c2) (.ap (af.k (jB k) ((af.k F (d,p.c0,i,p.c3)).1,p.c3,p.c4-i,p.c2)) (.ret ((af.k F ((af.k F (d,p.c0,i,p.c3)).1,p.c3,p.c4-i,p.c2)).1,()))) (.ret ((af.k F (d,p.c0,i,p.c3)).1,()))) (.ret ((af.k F (d,p.c0,i,p.c3)).1,()))))
    (.br (af.bD p.c3 (p.c4-i)) (.br (af.bD (p.c4-i) p.c2) (.ap (af.k (jB k) (d,p.c3,p.c4-i,p.c2)) (.ret ((af.k F (d,p.c3,p.c4-i,p.c2)).1,()))) (.ret (d,()))) (.ret (d,()))))
    (.br (af.bD p.c3 (p.c4-i)) (.br (af.bD (p.c4-i) p.c2) (.ap (af.k (jB k) (d,p.c3,p.c4-i,p.c2)) (.ret ((af.k F (d,p.c3,p.c4-i,p.c2)).1,()))) (.ret (d,()))) (.ret (d,())))):=λg=>
   Ex.lss (λl=>Ex.lss (λn=>Ex.ap (Te (by omega)) (o (r.trans g))) λ_=>o g) λ_=>o g
  refine Ex.lss (λl=>Ex.lss (λn=>Ex.ap (aeu (by omega)) (q (akd.trans g))) λ_=>q g) λ_=>q g
 intro f
 induction f with
 | zero=>grind
 | succ f ih=>
   intro i j W A B C z;by_cases V:i=j
   ·simp_all
   refine Ex.ao (Ex.lss (λh=>?_) λh=>by omega);obtain⟨c,e,c1,c2⟩:=NV (i:=i) (j:=j) (by omega) (by omega) (by omega);rw[e,wT (x:=c) (y:=1) (by omega),wi (x:=p.c7) (y:=c) (by omega)];exact Ex.ap (bW (by omega)) (Ex.ap (bW (by omega)) (Ex.br (λ_=>ih (c+1) j (by omega) (by omega) (by omega) C z) λ_=>ih i c (by omega) A (by omega) (by omega) (by omega)))
theorem alz(l:∀x,(F x).1.length=x.1.length){m:Int}(h:0<=a/\a<m/\m<b/\b<=(d.length:Int)/\d.length<=1000000/\b-a<=((k+1:Nat):Int)):Ex (wN F k af) d.length (abg af d a m b):=by
 obtain⟨n,q,r,o,f,u⟩:=h;unfold abg zo;obtain⟨c,e,c1,c2⟩:=NV (i:=a) (j:=b) (by omega) (by omega) (by omega);rw[e,wi (x:=m) (y:=a) (by omega),wi (x:=b) (y:=m) (by omega),wT (x:=c) (y:=m) (by omega),wi (x:=c+m) (y:=1) (by omega),wi (x:=c+m) (y:=b) (by omega)];refine Ex.eql (λ_=>apc (p:=⟨a,d⟩) f rfl (by grind) _ m b (ah _) (by omega) (by omega) o) λ_=>Ex.eql (λ_=>ape (p:=⟨m,d⟩) f rfl (by grind) _ a m (ah _) n (by omega) (by omega)) λ_=>Ex.gtr (λg=>?_) λg=>?_
 ·exact agy l (p:=⟨a,m,b,c,c+m,c+m-1,d⟩) (lo:=c+m-b) f rfl (by simp_all) (by simp_all) rfl rfl (by grind) _ (c+m-b) c (ah _) (aj _) (by omega) (by grind) (by simp_all)
 ·exact agy l (p:=⟨a,m,b,c,c+m,c+m-1,d⟩) (lo:=a) f rfl (by simp_all) (by simp_all) rfl rfl (by grind) _ a m (ah _) (aj _) (by omega) (by simp_all) (by simp_all)
end
theorem aj6{k:Nat}{F:VD}(f:∀x,(F x).1.length=x.1.length)(i:fT.bH Tryz.prog 231 (YQ k F)):fT.bH Tryz.prog 231 (YQ (k+1) λ(d,a,m,b)=>(wH (wN F k af) (abg af d a m b) d,())):=gf ar dK sl 76 [⟨231,3, [[0,1,4,10,11]]⟩,⟨231,9, [[0,10,13]]⟩,⟨231,15, [[0,2,4,14,15]]⟩,⟨231,21, [[0,14,17]]⟩,⟨231,33, [[0,1,2,3,4,18,19,20,21,22]]⟩] [] (λA (c,(a,m,b))=>abg A c a m b) (wN F k) aiP ⟨(fc Tryz.func231 fz),(sc agV sz),oz,(ic i (ic anr iz)),mz,pz⟩ (λA y=>match y with |.c0 p a1 a2=>⟨47,sl,by kernel_rfl⟩|.c1 p b1 b2=>⟨48,sl,by kernel_rfl⟩|.c2 p c5 c6=>⟨84,sl,by kernel_rfl⟩|.c3 p d1 d2=>⟨44,sl,by kernel_rfl⟩|.c4 p e1 e2=>⟨43,sl,by kernel_rfl⟩) λ((c,(a,m,b)):List dL×(Int×Int×Int)) g j h=>vo (alz f (of_decide_eq_true g))
def JP:Nat->VD
 | 0=>λx=>(x.1,())
 | k+1=>λ(d,a,m,b)=>(wH (wN (JP k) k af) (abg af d a m b) d,())
theorem Y2:∀(k:Nat) (x:List dL×Int×Int×Int),(JP k x).1.length=x.1.length
 | 0,_=>rfl
 | _+1,_=>qE
theorem ZN{x:List dL×Int×Int×Int}:jB 0 x=false:=by
 exact gI (by omega)
theorem agc:∀k,fT.bH Tryz.prog 231 (YQ k (JP k))
 | 0=>⟨λw I x y v f B _ _ _ _ c=>Bool.noConfusion ((ZN (x:=(x,y))).symm.trans c),Tryz.f231,Tryz.func231,by kernel_rfl,by kernel_rfl⟩
 | k+1=>aj6 (Y2 k) (agc k)
structure ahF where
 (a0:Int)
structure ahG where
 (b0 b1:Int) (b2:List dL)
structure ahH where
 (c0 c1:Int)
inductive acK where
 | c0 (p:ahF) (a2:Int) (a3:Int) (a4:List dL)
 | c1 (p:ahG)
 | c2 (p:ahH) (c2:Int) (c3:Int) (c4:List dL)
noncomputable def aiM:acK->iH
 | .c0 p a2 a3 a4=>⟨[⟨179,63,(en [(0,.own 0),(1,vi p.a0),(2,.fn 122 [] []),(6,vi 20),(7,vi a2),(8,vi a3)]),sk Tryz.f179 [1,1,0,0,0],[],none⟩],[.arr false eZ a4,.aZ]⟩
 | .c1 p=>⟨[⟨179,63,(en [(0,.own 0),(1,vi p.b0),(2,.fn 122 [] []),(6,vi p.b1)]),sk Tryz.f179 [1,1,1,1,0,0],[],none⟩],[.arr false eZ p.b2,.aZ]⟩
 | .c2 p c2 c3 c4=>⟨[⟨179,63,(en [(0,.own 0),(1,vi p.c0),(2,.fn 122 [] []),(6,vi p.c1),(7,vi c2),(8,vi c3)]),sk Tryz.f179 [1,1,1,1,0,0,1,0,1,0,0,0],[],none⟩],[.arr false eZ c4,.aZ]⟩
def amr(A:aS)(c:List dL)(n:Int):LT (List dL×Unit) acK:=.ao (.c0 ⟨n⟩ 0 20 c)
def QQ(A:aS):acK->LT (List dL×Unit) acK
 | .c0 p a2 a3 a4=>.br (A.bU a3 p.a0) (.ap (A.k LB (a4,a2,a3)) (.ao (.c0 p a3 (A.b .add .i64 a3 20) (A.k Sg (a4,a2,a3)).1))) (.ap (A.k LB (a4,a2,p.a0)) (.ao (.c1 ⟨p.a0,20,(A.k Sg (a4,a2,p.a0)).1⟩)))
 | .c1 p=>.br (A.bD p.b1 p.b0) (.ao (.c2 ⟨p.b0,p.b1⟩ 0 (A.b .mul .i64 2 p.b1) p.b2)) (.ret (p.b2,()))
 | .c2 p c2 c3 c4=>.br (A.bU c3 p.c0) (.ap (A.k (jB 1000000) (c4,c2,(A.b .add .i64 c2 p.c1),c3)) (.ao (.c2 p c3 (A.b .add .i64 c3 (A.b .mul .i64 2 p.c1)) (A.k (JP 1000000) (c4,c2,(A.b .add .i64 c2 p.c1),c3)).1))) (.br (A.bD (A.b .add .i64 c2 p.c1) p.c0) (.ap (A.k (jB 1000000) (c4,c2,(A.b .add .i64 c2 p.c1),p.c0)) (.ao (.c1 ⟨p.c0,(A.b .mul .i64 p.c1 2),(A.k (JP 1000000) (c4,c2,(A.b .add .i64 c2 p.c1),p.c0)).1⟩))) (.ao (.c1 ⟨p.c0,(A.b .mul .i64 p.c1 2),c4⟩)))
theorem alp(q:N<=1000000){bs:Int}(p:1<=bs/\bs<=1000000)(g:∀d:List dL,d.length=N->Ex (QQ af) N (.ao (.c1 ⟨(N:Int),af.b .mul .i64 bs 2,d⟩))):∀(f:Nat) (a:Int) (d:List dL),(N-a).toNat<=f->0<=a->a<=N->d.length=N->Ex (QQ af) N (.ao (.c2 ⟨(N:Int),bs⟩ a (a+2*bs) d)):=by
 have e:af.b .mul .i64 2 bs=2*bs:=by rw[jb,lC (by omega) (by omega)]
 have i:∀{d:List dL} {a m b:Int},(af.k (JP 1000000) (d,a,m,b)).1.length=d.length:=Y2 _ _;have j:∀{d:List dL} {a m b:Int},(0<=a/\a<m/\m<b/\b<=(d.length:Int)/\d.length<=1000000/\b-a<=((1000000:Nat):Int))->af.k (jB 1000000) (d,a,m,b)=true:=λh=>da h;intro f
 induction f with
 | zero=>
   intro a d n l o c;refine Ex.ao (Ex.leq (λh=>by grind) λ_=>?_);rw[show af.b .add .i64 a bs=a+bs from wT (by omega)];exact Ex.lss (λh=>by grind) λ_=>g d c
 | succ f ih=>
   intro a d n l o c;refine Ex.ao (Ex.leq (λh=>?_) λ_=>?_)
   ·have h:a+2*bs<=N:=h
    rw[show af.b .add .i64 a bs=a+bs from wT (by omega),show af.b .mul .i64 2 bs=2*bs from e,wT (x:=a+2*bs) (y:=2*bs) (by omega)];exact Ex.ap (j (by omega)) (ih (a+2*bs) _ (by omega) (by omega) h (i.trans c))
   ·rw[show af.b .add .i64 a bs=a+bs from wT (by omega)]
    exact Ex.lss (λh=>by have h:a+bs<N:=h;exact Ex.ap (j (by grind)) (g _ (i.trans c))) λ_=>g d c
theorem aaU(i:N<=1000000):∀(f:Nat) (bs:Int) (d:List dL),(N-bs).toNat<=f->1<=bs->d.length=N->Ex (QQ af) N (.ao (.c1 ⟨(N:Int),bs,d⟩)):=by
 intro f
 induction f with
 | zero=>intro bs d j g c;exact Ex.ao (Ex.lss (λh=>by grind) λ_=>Ex.ret c)
 | succ f ih=>
   intro bs d j g c;refine Ex.ao (Ex.lss (λh=>?_) λ_=>Ex.ret c);have h:bs<N:=h;rw[show af.b .mul .i64 2 bs=0+2*bs by rw[jb,lC (by omega) (by omega)];omega];refine alp i ⟨g,by omega⟩ (λe l=>?_) _ 0 d (ah _) (aj 0) (by omega) c;rw[show af.b .mul .i64 bs 2=bs*2 by rw[jb,lC (by omega) (by omega)]]
   grind
theorem alo(j:N<=1000000):∀(f:Nat) (a:Int) (d:List dL),(N-a).toNat<=f->0<=a->a<=N->d.length=N->Ex (QQ af) N (.ao (.c0 ⟨(N:Int)⟩ a (a+20) d)):=by
 have g:∀{d:List dL} {a b:Int},(af.k Sg (d,a,b)).1.length=d.length:=qE;have i:∀{d:List dL} {a b:Int},(0<=a/\a<=b/\b<=(d.length:Int)/\d.length<=1000000)->af.k LB (d,a,b)=true:=λh=>da h;intro f
 induction f with
 | zero=>intro a d m l n c;exact Ex.ao (Ex.leq (λh=>by grind) λ_=>Ex.ap (i (by simp_all)) (aaU j _ 20 _ (ah _) (by omega) (g.trans c)))
 | succ f ih=>
   intro a d m l n c;refine Ex.ao (Ex.leq (λh=>?_) λ_=>Ex.ap (i (by simp_all)) (aaU j _ 20 _ (ah _) (by omega) (g.trans c)));have h:a+20<=N:=h;rw[wT (x:=a+20) (y:=20) (by omega)];exact Ex.ap (i (by omega)) (ih (a+20) _ (by omega) (by omega) h (g.trans c))
theorem alk{n:Int}(h:n=(d.length:Int)/\d.length<=1000000):Ex (QQ af) d.length (amr af d n):=by
 obtain⟨rfl,h⟩:=h;exact alo h _ 0 d (ah _) (aj 0) (by omega) rfl
def Yc:List dL×Int->List dL×Unit:=λ(d,n)=>(wH (QQ af) (amr af d n) d,())
def ZM:List dL×Int->Bool:=λ(d,n)=>decide (n=(d.length:Int)/\d.length<=1000000)
def anA:fT:=⟨eZ, [yI], [122], [],ZM,Yc⟩
theorem anp:fT.bH Tryz.prog 179 anA:=gf ar dK sl 19 [⟨179,2, [[0,1,2,6,7,8]]⟩,⟨179,7, [[0,1,2,6]]⟩,⟨179,9, [[0,1,2,6,7,8]]⟩] [] (λA (c,n)=>amr A c n) QQ aiM ⟨(fc Tryz.func179 fz),sz,oz,(ic anq (ic (agc 1000000) iz)),mz,pz⟩ (λA y=>match y with |.c0 p a2 g i=>⟨36,sl,by kernel_rfl⟩|.c1 p=>⟨26,sl,by kernel_rfl⟩|.c2 p c2 c3 c4=>⟨44,sl,by kernel_rfl⟩) λ((c,n):List dL×Int) f j h=>vo (alk (of_decide_eq_true f))
def amo(A:aS)(c:List dL):LT (List dL×Unit) Empty:=.ap (A.k ZM (c,(A.l c))) (.ret ((A.k Yc (c,(A.l c))).1,()))
theorem alj(h:d.length<=1000000):Ex Empty.elim d.length (amo af d):=
 Ex.ap (da ⟨rfl,h⟩) (Ex.ret (show(af.k Yc (d,af.l d)).1.length=d.length from qE))
def Ya:List dL×Unit->List dL×Unit:=λ(d,_)=>(wH Empty.elim (amo af d) d,())
def Ly:List dL×Unit->Bool:=λ(d,_)=>decide (d.length<=1000000)
def anx:fT:=⟨eZ, [], [122], [],Ly,Ya⟩
theorem ann:fT.bH Tryz.prog 121 anx:=gf ar dK sl 13 [] [] (λA (c,())=>amo A c) (λ_=>Empty.elim) Empty.elim ⟨(fc Tryz.func121 fz),sz,oz,(ic anp iz),mz,pz⟩ (λ_ y=>y.elim) λ((c,()):List dL×Unit) f g h=>vo (alj (of_decide_eq_true f))
def Vk(l:List dL):List dL:=(Ya (l,())).1
def Q8(A:aS)(m:ax):LT (Int×Int) Empty:=.br (A.cr (A.k jM m) 0) (.ret (0,(A.k jM m))) (.ret ((A.b .add .i64 (A.b .mul .i64 (A.b .mul .i64 14 m.1) m.2.2.2.2.1) 8),0))
def n_:ax->(Int×Int):=λm=>(Q8 af m).val (Ty.aR [yI,yI])
def ar8:aM:=.all [bM] [yI,yI] n_
theorem ap_:Sd 116 ar8:=fa (aP ar dK sl 38 [] (λA m=>Q8 A m) (kz (fc Tryz.func116 fz) (sc BF sz)) (λ_ _ _=>LT.bE (by kernel_rfl)))
theorem Oe(h:¬jM m=0):(n_ m).2=jM m:=by
 show(LT.val (Ty.aR [yI,yI]) (Q8 af m)).2=_;simp[Q8,bo,bZ,bne_iff_ne.2 h];rfl
theorem aew(h:(n_ m).2=0):jM m=0:=dx.1 λk=>k ((Oe k).symm.trans h)
def afJ(l:List Bool)(N:Nat):List Bool:=af.spl (List.replicate N true) 0 (af.s l 0 (af.mn (af.l l) (af.l (List.replicate N true))))
def opC(o:dL):dL:=(o.1,o.2.1,o.2.2.1,o.2.2.2.1,o.2.2.2.2.1,nI o.2.2.2.2.2)
def aoO(m:ax)(l:List dL):List dL:=((l.filter λo=>tV (m,o)).map opC).take 256
def dA(m:ax)(s:ia):ia:=
 (af.mn (af.mx s.1 1) 16,afJ s.2.1 m.1.toNat,rowP s.2.2.1 m.1.toNat 0 (n_ m).1 0,rowP s.2.2.2.1 m.1.toNat 40 60 50,rowP s.2.2.2.2.1 m.1.toNat (af.u .neg .i64 (af.b .quo .i64 m.2.2.2.1 2)) (af.b .quo .i64 m.2.2.2.1 2) 0,
   rowP s.2.2.2.2.2.1 (min s.2.2.2.2.2.1.length 1024) (af.u .neg .i64 m.2.2.2.2.1) m.2.2.2.2.1 0,Vk (aoO m s.2.2.2.2.2.2.1),(tO m s.2.2.2.2.2.2.2).take 256)
def aoE:ia:=(0, [], [], [], [], [], [], [])
def zD(m:ax)(s:ia):ia×Int:=bif decide ((n_ m).2=0) then(dA m s,0) else(aoE,(n_ m).2)
structure V9 where
 (a0:List dL) (a1:Int) (a3:ax) (a5:Int) (a6 a7 a8 a9:List Int) (jd:List fO) (kU:List Bool)
structure V_ where
 (b0:List dL) (b1:Int) (b3:ax) (b5:Int) (b6 b7 b8 b9:List Int) (b10:List fO) (b11:List Bool)
inductive T7 where
 | c0 (p:V9) (a2:Int)
 | c1 (p:V_) (b2:Int) (b12:List dL)
noncomputable def aiH:T7->iH
 | .c0 p a2=>⟨[⟨75,112,(en [(2,.ptr 0 0),(4,.ptr 1 0),(9,.ptr 2 0),(82,.sl eZ p.a0),(83,vi p.a1),(84,vi a2)]),sk Tryz.f75 [1,1,1,1,1,1,1,0,1,0,0],[],none⟩],[.ay false (dc bM p.a3),.ay false [vi 0,.gi true,.gi true,.gi true,.gi true,.gi true,.gi true,.gi true],.ay false [vi p.a5,.own 3,.sl yI p.a6,.sl yI p.a7,.sl yI p.a8,.sl yI p.a9,.gi true,.sl eY p.jd],.arr false .bool p.kU,.aZ]⟩
 | .c1 p b2 b12=>⟨[⟨75,112,(en [(2,.ptr 0 0),(4,.ptr 1 0),(9,.ptr 2 0),(82,.sl eZ p.b0),(83,vi p.b1),(84,vi b2)]),sk Tryz.f75 [1,1,1,1,1,1,1,0,1,0,0],[],none⟩],[.ay false (dc bM p.b3),.ay false [vi 0,.gi true,.gi true,.gi true,.gi true,.gi true,.gi true,.gi true],.ay false [vi p.b5,.own 3,.sl yI p.b6,.sl yI p.b7,.sl yI p.b8,.sl yI p.b9,.own 4,.sl eY p.b10],.arr false .bool p.b11,.arr false eZ b12,.aZ]⟩
abbrev abb(A:aS)(m:ax)(s:ia):LT (ia×Int) T7:=(.ap (A.and (A.bU 0 0) (A.and (A.bU 0 (A.mn (A.l (A.k wC (m,s.2.2.2.2.2.2.2))) 256)) (A.bU (A.mn (A.l (A.k wC (m,s.2.2.2.2.2.2.2))) 256) (A.l (A.k wC (m,s.2.2.2.2.2.2.2)))))) (.ao (.c0 ⟨s.2.2.2.2.2.2.1,(A.l s.2.2.2.2.2.2.1),m,(A.mn (A.mx s.1 1) 16),(A.k Nz (s.2.2.1,m.1,0,(A.k n_ m).1,0)),(A.k Nz (s.2.2.2.1,m.1,40,60,50)),(A.k Nz (s.2.2.2.2.1,m.1,(A.u .neg .i64 (A.b .quo .i64 m.2.2.2.1 2)),(A.b .quo .i64 m.2.2.2.1 2),0)),(A.k Nz (s.2.2.2.2.2.1,(A.mn (A.l s.2.2.2.2.2.1) 1024),(A.u .neg .i64 m.2.2.2.2.1),m.2.2.2.2.1,0)),(A.s (A.k wC (m,s.2.2.2.2.2.2.2)) 0 (A.mn (A.l (A.k wC (m,s.2.2.2.2.2.2.2))) 256)),(A.spl (A.k X_ ([true],m.1)).2.1 0 (A.s s.2.1 0 (A.mn (A.l s.2.1) (A.l (A.k X_ ([true],m.1)).2.1))))⟩ 0)))
abbrev TO(A:aS)(m:ax)(s:ia):=(A.k ta (s.2.2.2.2.1,m.1,(A.u .neg .i64 (A.b .quo .i64 m.2.2.2.1 2)),(A.b .quo .i64 m.2.2.2.1 2),0))
abbrev TP(A:aS)(m:ax)(s:ia):=(A.k ta (s.2.2.2.2.2.1,(A.mn (A.l s.2.2.2.2.2.1) 1024),(A.u .neg .i64 m.2.2.2.2.1),m.2.2.2.2.1,0))
abbrev abd(A:aS)(m:ax)(s:ia):LT (ia×Int) T7:=(.ap (A.k GL ([true],m.1)) (.ap (A.k ta (s.2.2.1,m.1,0,(A.k n_ m).1,0)) (.ap (A.k ta (s.2.2.2.1,m.1,40,60,50)) (.ap (TO A m s) (.ap (TP A m s) (.ap (A.k GM (m,s.2.2.2.2.2.2.2)) (abb A m s)))))))
def amj(A:aS)(m:ax)(s:ia):LT (ia×Int) T7:=.br (A.cr (A.k n_ m).2 0) (.ret ((0,([]:List Bool),([]:List Int),([]:List Int),([]:List Int),([]:List Int),([]:List dL),([]:List fO)),(A.k n_ m).2)) (.and (.and (.ap (A.k GL ([true],m.1)) (.ap (A.k ta (s.2.2.1,m.1,0,(A.k n_ m).1,0)) (.ap (A.k ta (s.2.2.2.1,m.1,40,60,50)) (.ap (TO A m s) (.ap (TP A m s) (.ap (A.k GM (m,s.2.2.2.2.2.2.2)) (.ap (A.k GM (m,s.2.2.2.2.2.2.2)) (.ap (TP A m s) (.ap (TO A m s) (.ap (A.k ta (s.2.2.2.1,m.1,40,60,50)) (.ap (A.k ta (s.2.2.1,m.1,0,(A.k n_ m).1,0)) (abb A m s)))))))))))) (abd A m s)) (abd A m s))
def aab(A:aS):T7->LT (ia×Int) T7
 | .c0 p a2=>.br (A.bD a2 p.a1) (.gQ A a2 p.a0 (.br (A.k tV (p.a3,(A.n eZ p.a0 a2:dL))) (.ap (A.bU (A.l (([((A.n eZ p.a0 a2:dL).1,(A.n eZ p.a0 a2:dL).2.1,(A.n eZ p.a0 a2:dL).2.2.1,(A.n eZ p.a0 a2:dL).2.2.2.1,(A.n eZ p.a0 a2:dL).2.2.2.2.1,(A.k nI (A.n eZ p.a0 a2:dL).2.2.2.2.2))]:List dL):List dL)) 2199023255552) (.ao (.c1 ⟨p.a0,p.a1,p.a3,p.a5,p.a6,p.a7,p.a8,p.a9,p.jd,p.kU⟩ (A.b .add .i64 a2 1) ([((A.n eZ p.a0 a2:dL).1,(A.n eZ p.a0 a2:dL).2.1,(A.n eZ p.a0 a2:dL).2.2.1,(A.n eZ p.a0 a2:dL).2.2.2.1,(A.n eZ p.a0 a2:dL).2.2.2.2.1,(A.k nI (A.n eZ p.a0 a2:dL).2.2.2.2.2))]:List dL)))) (.ao (.c0 p (A.b .add .i64 a2 1))))) (.ap (A.k Ly (([]:List dL),())) (.ret ((p.a5,p.kU,p.a6,p.a7,p.a8,p.a9,([]:List dL),p.jd),0)))
 | .c1 p b2 b12=>.br (A.bD b2 p.b1) (.gQ A b2 p.b0 (.br (A.k tV (p.b3,(A.n eZ p.b0 b2:dL))) (.br (A.bD (A.l b12) 256) (.ap (A.bU (A.l (A.p b12 ([((A.n eZ p.b0 b2:dL).1,(A.n eZ p.b0 b2:dL).2.1,(A.n eZ p.b0 b2:dL).2.2.1,(A.n eZ p.b0 b2:dL).2.2.2.1,(A.n eZ p.b0 b2:dL).2.2.2.2.1,(A.k nI (A.n eZ p.b0 b2:dL).2.2.2.2.2))]:List dL))) 2199023255552) (.ao (.c1 p (A.b .add .i64 b2 1) (A.p b12 ([((A.n eZ p.b0 b2:dL).1,(A.n eZ p.b0 b2:dL).2.1,(A.n eZ p.b0 b2:dL).2.2.1,(A.n eZ p.b0 b2:dL).2.2.2.1,(A.n eZ p.b0 b2:dL).2.2.2.2.1,(A.k nI (A.n eZ p.b0 b2:dL).2.2.2.2.2))]:List dL))))) (.ao (.c1 p (A.b .add .i64 b2 1) b12))) (.ao (.c1 p (A.b .add .i64 b2 1) b12)))) (.ap (A.k Ly (b12,())) (.ret ((p.b5,p.b11,p.b6,p.b7,p.b8,p.b9,(A.k Ya (b12,())).1,p.b10),0)))
theorem aoF{L:List dL}{i:Nat}(h:i<L.length):(af.n eZ L (i:Int):dL)=L[i]:=fL h _
theorem aet(h:d.length<=1000000):af.k Ly (d,())=true:=da h
theorem Zy{p:V_}{L:List dL}(g:p.b0=L)(h:p.b1=(L.length:Int))(q:p.b3=m)(v:L.length<=1000000):∀(j i:Nat) (c:List dL),L.length-i=j->i<=L.length->c.length<=256->
  aW (aab af) (.ao (.c1 p (i:Int) c)) ((p.b5,p.b11,p.b6,p.b7,p.b8,p.b9,Vk ((c++((L.drop i).filter λo=>tV (m,o)).map opC).take 256),p.b10),0):=by
 intro j
 induction j with
 | zero=>
   intro i c u r l;have:i=L.length:=by omega
   subst this;refine aB.2 ((ak ?_).2 (au.2 ⟨aet (by omega),aQ ?_ (.ret _)⟩))
   ·rw[h,bg];simp
   ·rw[cK,oN,mj,aI,cH l];rfl
 | succ j ih=>
   intro i c u r l;have f:i<L.length:=by omega
   refine aB.2 ((al ?_).2 (au.2 ⟨by rw[g];exact du f,?_⟩))
   ·rw[h,bg];simp_all
   rw[g,q,aoF f,iC (by omega),AB f];cases hf:tV (m,L[i])
   ·refine(ak (show af.k tV (m,L[i])=false from hf)).2 ?_
    grind
   ·refine(al (show af.k tV (m,L[i])=true from hf)).2 ?_
    rw[gX (p:=λo=>tV (m,o)) hf,dT];by_cases z:c.length<256
    ·refine(al (by rw[d_,aV];grind)).2 (au.2 ⟨?_,?_⟩)
     ·rw[d_,v8,ru,bw,aC];exact da (by omega)
     ·have n:=ih (i+1) (c ++ [opC L[i]]) (by omega) (by omega) (by rw[ru,bw];omega)
      rw[cX,List.singleton_append] at n;exact n
    ·refine(ak (by rw[d_,aV];grind)).2 ?_
     grind
theorem UG{p:V9}{L:List dL}(g:p.a0=L)(f:p.a1=(L.length:Int))(h:p.a3=m)(l:L.length<=1000000):∀(j i:Nat),L.length-i=j->i<=L.length->
  aW (aab af) (.ao (.c0 p (i:Int))) ((p.a5,p.kU,p.a6,p.a7,p.a8,p.a9,Vk ((((L.drop i).filter λo=>tV (m,o)).map opC).take 256),p.jd),0):=by
 intro j
 induction j with
 | zero=>
   intro i q n;have:i=L.length:=by omega
   subst this;refine aB.2 ((ak ?_).2 (au.2 ⟨rfl,aQ ?_ (.ret _)⟩))
   ·rw[f,bg];simp
   ·rw[cK,oN,mj,List.take_nil,show Vk ([]:List dL)=[] from rfl]
 | succ j ih=>
   intro i q n;have c:i<L.length:=by omega
   refine aB.2 ((al ?_).2 (au.2 ⟨by rw[g];exact du c,?_⟩))
   ·rw[f,bg];simp_all
   rw[g,h,aoF c,iC (by omega),AB c];cases hf:tV (m,L[i])
   ·refine(ak (show af.k tV (m,L[i])=false from hf)).2 ?_
    grind
   ·refine(al (show af.k tV (m,L[i])=true from hf)).2 (au.2 ⟨rfl,?_⟩)
    rw[gX (p:=λo=>tV (m,o)) hf,dT];exact Zy (p:=⟨L,p.a1,m,p.a5,p.a6,p.a7,p.a8,p.a9,p.jd,p.kU⟩) (m:=m) (L:=L) rfl f rfl l _ (i+1) [opC L[i]] rfl (by omega) (by simp)
theorem aes(h:N<=1024):af.k GL ([true],(N:Int))=true:=da ⟨rfl,by omega,by omega⟩
theorem ajl{s:ia}(o:s.2.2.2.2.2.2.2.length<=1000000)(r:s.2.2.2.2.2.2.1.length<=1000000)(D:s.2.2.2.2.2.1.length<=140737488355328):aW (aab af) (amj af m s) (zD m s):=by
 unfold amj abd TP TO abb zD;by_cases h:(n_ m).2=0
 ·rw[da h]
  refine(ak (by show af.cr (n_ m).2 0=false;rw[dM];simp_all)).2 ?_;have C:=(iP (qC.1 (uU.symm.trans (aew h)))).1;obtain⟨N,q⟩:=aO (show 0<=m.1 by omega);have B:N<=8:=by omega
  have w:∀(l:List Int) (a b c:Int),af.k ta (l,m.1,a,b,c)=true:=λl a b c=>da (by omega);have g:af.mn (af.l s.2.2.2.2.2.1) 1024=((min s.2.2.2.2.2.1.length 1024:Nat):Int):=vH (i:=s.2.2.2.2.2.1.length) (j:=1024);have u:∀(l:List Int) (a b c:Int),af.k ta (l,af.mn (af.l s.2.2.2.2.2.1) 1024,a,b,c)=true:=λl a b c=>da (by omega);have v:af.k GM (m,s.2.2.2.2.2.2.2)=true:=da o;have z:af.and (af.bU 0 0) (af.and (af.bU 0 (af.mn (af.l (af.k wC (m,s.2.2.2.2.2.2.2))) 256)) (af.bU (af.mn (af.l (af.k wC (m,s.2.2.2.2.2.2.2))) 256) (af.l (af.k wC (m,s.2.2.2.2.2.2.2)))))=true:=by
   have e:af.mn (af.l (af.k wC (m,s.2.2.2.2.2.2.2))) 256=((min (af.k wC (m,s.2.2.2.2.2.2.2)).length 256:Nat):Int):=vH (i:=(af.k wC (m,s.2.2.2.2.2.2.2)).length) (j:=256);rw[e,d_,bl,bl,aC,aC,aC];grind
  have A:af.k GL ([true],m.1)=true:=by rw[q];exact aes (by omega)
  have f:=UG (p:=⟨s.2.2.2.2.2.2.1,(s.2.2.2.2.2.2.1.length:Int),m,af.mn (af.mx s.1 1) 16,rowP s.2.2.1 m.1.toNat 0 (n_ m).1 0,rowP s.2.2.2.1 m.1.toNat 40 60 50,rowP s.2.2.2.2.1 m.1.toNat (af.u .neg .i64 (af.b .quo .i64 m.2.2.2.1 2)) (af.b .quo .i64 m.2.2.2.1 2) 0,rowP s.2.2.2.2.2.1 (af.mn (af.l s.2.2.2.2.2.1) 1024).toNat (af.u .neg .i64 m.2.2.2.2.1) m.2.2.2.2.1 0,af.s (tO m s.2.2.2.2.2.2.2) 0 (af.mn (af.l (tO m s.2.2.2.2.2.2.2)) 256),afJ s.2.1 m.1.toNat⟩) (m:=m) (L:=s.2.2.2.2.2.2.1) rfl rfl rfl r _ 0 rfl (aX _);have n:af.s (tO m s.2.2.2.2.2.2.2) 0 (af.mn (af.l (tO m s.2.2.2.2.2.2.2)) 256)=(tO m s.2.2.2.2.2.2.2).take 256:=by
   rw[show af.mn (af.l (tO m s.2.2.2.2.2.2.2)) 256=((min (tO m s.2.2.2.2.2.2.2).length 256:Nat):Int) from vH (i:=(tO m s.2.2.2.2.2.2.2).length) (j:=256),jX,rO]
   grind
  have f:aW (aab af) _ (dA m s,0):=aQ (by unfold dA;rw[n,g,rO];rfl) f
  repeat' first
   | exact f
   | refine .and ?_ ?_
   | refine au.2 ⟨A,?_⟩
   | refine au.2 ⟨w _ _ _ _,?_⟩
   | refine au.2 ⟨u _ _ _ _,?_⟩
   | refine au.2 ⟨v,?_⟩
   | refine au.2 ⟨z,?_⟩
 ·rw[gI h]
  exact(al (by show af.cr (n_ m).2 0=true;rw[dM];simp_all)).2 (.ret _)
def JN:(ax×ia)->(ia×Int):=λ(m,s)=>zD m s
def rC:(ax×ia)->Bool:=λ(_,s)=>decide (s.2.2.2.2.2.2.2.length<=1000000/\s.2.2.2.2.2.2.1.length<=1000000/\s.2.2.2.2.2.1.length<=140737488355328)
def ar7:aM:=⟨[bM,oq], [oq,yI],rC,JN,false⟩
theorem ap8:Sd 75 ar7:=bp ar dK .wide 119 [⟨75,9, [[2,4,9,82,83,84]]⟩] [] (λA (m,s)=>amj A m s) aab aiH ⟨(fc Tryz.func75 fz),(sc D3 (sc ap_ (sc aqa (sc aqb (sc aqc sz))))),(oc aoJ oz),(ic ann iz),mz,pz⟩ (λA y=>match y with |.c0 p a2=>⟨57,sl,by kernel_rfl⟩|.c1 p b2 b12=>⟨57,sl,by kernel_rfl⟩) λ((m,s):ax×ia) c h=>ajl (of_decide_eq_true c).1 (of_decide_eq_true c).2.1 (of_decide_eq_true c).2.2
theorem dD{y:Int}(h:-4611686018427387904<=x+y/\x+y<4611686018427387904):af.cB x y=x+y:=wT h
theorem lN{y:Int}(h:-4611686018427387904<=x-y/\x-y<4611686018427387904):af.fF x y=x-y:=wi h
theorem Vn:af.cB a b=IntKind.i64.wrap (a+b):=Go.Ev.gz
theorem yw:af.fF a b=IntKind.i64.wrap (a-b):=Go.Ev.gg
theorem aj2{i:Nat}(h:i<4611686018427387904):af.cB (i:Int) 1=((i+1:Nat):Int):=iC h
abbrev up0{c β:Type}(x:c×β)(y:c):c×β:=(y,x.2)
abbrev zt{f c β:Type}(x:f×c×β)(y:c):f×c×β:=(x.1,y,x.2.2)
abbrev up2{f g c β:Type}(x:f×g×c×β)(y:c):f×g×c×β:=(x.1,x.2.1,y,x.2.2.2)
abbrev up3{f g h c β:Type}(x:f×g×h×c×β)(y:c):f×g×h×c×β:=(x.1,x.2.1,x.2.2.1,y,x.2.2.2.2)
abbrev TU{f g h i c β:Type}(x:f×g×h×i×c×β)(y:c):f×g×h×i×c×β:=(x.1,x.2.1,x.2.2.1,x.2.2.2.1,y,x.2.2.2.2.2)
abbrev wu{f g h i j c β:Type}(x:f×g×h×i×j×c×β)(y:c):f×g×h×i×j×c×β:=(x.1,x.2.1,x.2.2.1,x.2.2.2.1,x.2.2.2.2.1,y,x.2.2.2.2.2.2)
abbrev rv{f g h i j l c β:Type}(x:f×g×h×i×j×l×c×β)(y:c):f×g×h×i×j×l×c×β:=(x.1,x.2.1,x.2.2.1,x.2.2.2.1,x.2.2.2.2.1,x.2.2.2.2.2.1,y,x.2.2.2.2.2.2.2)
abbrev Eo{f g h i j l m c β:Type}(x:f×g×h×i×j×l×m×c×β)(y:c):f×g×h×i×j×l×m×c×β:=(x.1,x.2.1,x.2.2.1,x.2.2.2.1,x.2.2.2.2.1,x.2.2.2.2.2.1,x.2.2.2.2.2.2.1,y,x.2.2.2.2.2.2.2.2)
abbrev Am{f g h i j l m n c β:Type}(x:f×g×h×i×j×l×m×n×c×β)(y:c):f×g×h×i×j×l×m×n×c×β:=(x.1,x.2.1,x.2.2.1,x.2.2.2.1,x.2.2.2.2.1,x.2.2.2.2.2.1,x.2.2.2.2.2.2.1,x.2.2.2.2.2.2.2.1,y,x.2.2.2.2.2.2.2.2.2)
abbrev TW{f g h i j l m n o c β:Type}(x:f×g×h×i×j×l×m×n×o×c×β)(y:c):f×g×h×i×j×l×m×n×o×c×β:=(x.1,x.2.1,x.2.2.1,x.2.2.2.1,x.2.2.2.2.1,x.2.2.2.2.2.1,x.2.2.2.2.2.2.1,x.2.2.2.2.2.2.2.1,x.2.2.2.2.2.2.2.2.1,y,x.2.2.2.2.2.2.2.2.2.2)
abbrev lp1{c β γ:Type}(x:c×β)(y:γ):c×γ:=(x.1,y)
abbrev lp2{c f β γ:Type}(x:c×f×β)(y:γ):c×f×γ:=(x.1,x.2.1,y)
abbrev mY{c f g β γ:Type}(x:c×f×g×β)(y:γ):c×f×g×γ:=(x.1,x.2.1,x.2.2.1,y)
abbrev lp4{c f g h β γ:Type}(x:c×f×g×h×β)(y:γ):c×f×g×h×γ:=(x.1,x.2.1,x.2.2.1,x.2.2.2.1,y)
abbrev lp7{c f g h i j l β γ:Type}(x:c×f×g×h×i×j×l×β)(y:γ):c×f×g×h×i×j×l×γ:=(x.1,x.2.1,x.2.2.1,x.2.2.2.1,x.2.2.2.2.1,x.2.2.2.2.2.1,x.2.2.2.2.2.2.1,y)
abbrev anO{c f g h i j l m n o β γ:Type}(x:c×f×g×h×i×j×l×m×n×o×β)(y:γ):c×f×g×h×i×j×l×m×n×o×γ:=(x.1,x.2.1,x.2.2.1,x.2.2.2.1,x.2.2.2.2.1,x.2.2.2.2.2.1,x.2.2.2.2.2.2.1,x.2.2.2.2.2.2.2.1,x.2.2.2.2.2.2.2.2.1,x.2.2.2.2.2.2.2.2.2.1,y)
abbrev md(A:aS)(t:Ty)(v:List t.T)(i:Int)(f:t.T->t.T):List t.T:=A.set v i (f (A.n t v i))
theorem _root_.Go.Ev.cd.bH.either{g:FuncId}{m:List VF}{i l:List Ty}{p q:Ty.Ts (VF.iA m)×Ty.Ts i->Bool}{f k:Ty.Ts (VF.iA m)×Ty.Ts i->Ty.Ts (VF.iA m)×Ty.Ts l}{n:Bool}{c:Ty.Ts (VF.iA m)×Ty.Ts i->Bool}
  (h:cd.bH P g ⟨m,i,l,p,f,n,false⟩) (A:cd.bH P g ⟨m,i,l,q,k,n,false⟩):cd.bH P g ⟨m,i,l,λx=>bif c x then p x else q x,λx=>bif c x then f x else k x,n,false⟩:=by
 refine⟨λw I D x y C z B a1 a2 o r u v j=>?_,λx y j=>?_,nofun,h.body⟩
 ·simp only at j ⊢
  cases e:c (x,y)<;>rw[e] at j
  ·exact A.calls w I D x y C z B a1 a2 o r u v j
  ·exact h.calls w I D x y C z B a1 a2 o r u v j
 ·simp only at j ⊢
  cases e:c (x,y)<;>rw[e] at j
  ·exact A.keep x y j
  ·exact h.keep x y j
abbrev Rs:Ty:=(.struct [.bool,(.slice pn),yI])
abbrev qU:Type:=Bool×List jc×Int
abbrev OV:VF:=.ptr [.d .bool,.own pn,.d yI]
abbrev lD:Ty:=(.struct [.bool,bM,oq,yI,yI,Rs,(.slice bO),(.slice jG),(.slice jG),(.slice Jq),(.slice iv)])
abbrev Net:Type:=Bool×ax×ia×Int×Int×qU×List cm×List gm×List gm×List sH×List fj
abbrev fN:VF:=.ptr [.d .bool,.d bM,.d oq,.d yI,.d yI,OV,.fix 1 bO,.own jG,.own jG,.own Jq,.own iv]
def yY (q:Net) (a b c d e f:Nat):iR:=.ay false ([vb q.1]++dc bM q.2.1++dc oq q.2.2.1++[vi q.2.2.2.1,vi q.2.2.2.2.1,.ptr a 0,.own b,.own c,.own d,.own e,.own f])
def yW (q:Net) (k:Nat):iR:=.ay false [vb q.2.2.2.2.2.1.1,.own k,vi q.2.2.2.2.2.1.2.2]
def yT (q:Net):iR:=.arr false bO q.2.2.2.2.2.2.1
def yR (q:Net):iR:=.arr false jG q.2.2.2.2.2.2.2.1
def bxB (q:Net):iR:=.arr false jG q.2.2.2.2.2.2.2.2.1
def yX (q:Net):iR:=.arr false Jq q.2.2.2.2.2.2.2.2.2.1
def yV (q:Net):iR:=.arr false iv q.2.2.2.2.2.2.2.2.2.2
def yS (q:Net):iR:=.arr false pn q.2.2.2.2.2.1.2.1
abbrev aud:VF:=.ptr [.d .bool,.d bM,.d oq,.d yI,.d yI,OV,.own bO,.own jG,.own jG,.own Jq,.own iv]
def atz(A:aS)(c:Int):LT Bool Empty:=.ret (A.cr c c)
def DK:Int->Bool:=λc=>(atz af c).val (Ty.aR [.bool])
def asL:aM:=.all [yI] [.bool] DK
theorem ag5:Sd 284 asL:=fa (aP ar dK sl 17 [] (λA c=>atz A c) (kz (fc Tryz.func284 fz) sz) (λ_ _ _=>LT.bE (by kernel_rfl)))
def afD(A:aS)(f:Int)(c:Int):LT Int Empty:=.br (A.k DK f) (.br (A.k DK c) (.ret 0) (.ret (-1))) (.br (A.k DK c) (.ret 1) (.br (A.bD f c) (.ret (-1)) (.br (A.jw f c) (.ret 1) (.ret 0))))
def JW:(Int×Int)->Int:=λ(c,f)=>(afD af c f).val (Ty.aR [yI])
def asE:aM:=.all [yI,yI] [yI] JW
theorem aqz:Sd 236 asE:=fa (aP ar dK sl 58 [] (λA (c,f)=>afD A c f) (kz (fc Tryz.func236 fz) (sc ag5 sz)) (λ_ _ _=>LT.bE (by kernel_rfl)))
def att(A:aS)(a:jc)(b:jc):LT Int Empty:=.ret (A.k NB [(A.k JW (a.1,b.1)),(A.k q8 (a.2.1,b.2.1)),(A.k q8 (a.2.2.1,b.2.2.1)),(A.k JW (a.2.2.2,b.2.2.2))])
def Sv:(jc×jc)->Int:=λ(a,b)=>(att af a b).val (Ty.aR [yI])
def asB:aM:=.all [pn,pn] [yI] Sv
theorem aqv:Sd 188 asB:=fa (aP ar dK sl 38 [] (λA (a,b)=>att A a b) (kz (fc Tryz.func188 fz) (sc aaI (sc aaJ (sc aqz sz)))) (λ_ _ _=>LT.bE (by kernel_rfl)))
def atp(A:aS)(a:jc)(b:jc):LT Bool Empty:=.ret (A.bD (A.k Sv (a,b)) 0)
def JS:(jc×jc)->Bool:=λ(a,b)=>(atp af a b).val (Ty.aR [.bool])
def asu:aM:=.all [pn,pn] [.bool] JS
theorem ag1:Sd 138 asu:=fa (aP ar dK sl 20 [] (λA (a,b)=>atp A a b) (kz (fc Tryz.func138 fz) (sc aqv sz)) (λ_ _ _=>LT.bE (by kernel_rfl)))
structure Ww where
 (a1:Bool) (a2:Int)
inductive ac4 where
 | c0 (p:Ww) (a0:Int) (a3:List jc)
noncomputable def ai9:ac4->iH
 | .c0 p a0 a3=>⟨[⟨123,54,(en [(0,.ptr 0 0),(1,vi a0)]),(.code (cw Tryz.f123 [0,1,0])::sk Tryz.f123 [0,1,0]),[],none⟩],[.ay false [vb p.a1,.own 1,vi p.a2],.arr false pn a3,.aZ]⟩
def xT(A:aS)(c:Int):Int:=(A.b .quo .i64 (A.fF c 1) 2)
def afu(A:aS)(q:qU)(i:Int):LT (qU×Unit) ac4:=.ao (.c0 ⟨q.1,q.2.2⟩ i q.2.1)
def aae(A:aS):ac4->LT (qU×Unit) ac4
 | .c0 p a0 a3=>.br (A.jw a0 0) (.gQ A a0 a3 (.gQ A (xT A a0) a3 (.br (A.k JS ((A.n pn a3 a0:jc),(A.n pn a3 (xT A a0):jc))) (.gQ A (xT A a0) (A.set a3 a0 (A.n pn a3 (xT A a0):jc)) (.ao (.c0 p (xT A a0) (A.set (A.set a3 a0 (A.n pn a3 (xT A a0):jc)) (xT A a0) (A.n pn a3 a0:jc))))) (.ret ((p.a1,a3,p.a2),()))))) (.ret ((p.a1,a3,p.a2),()))
def Yg:qU×Int->qU×Unit:=λ(q,i)=>gS (aae af) (afu af q i) (Ty.aR [Rs],Ty.aR [])
def QF:qU×Int->Bool:=λ(q,i)=>iq (aae af) (afu af q i)
def aoz:cd:=⟨[OV], [yI], [],QF,Yg,false,false⟩
theorem an6:cd.bH Tryz.prog 123 aoz:=bP ar dK sl 10 [] [⟨123,0, [[0,1]]⟩] (λA (q,i)=>afu A q i) aae ai9 (kz (fc Tryz.func123 fz) (sc ag1 sz)) (λA y=>match y with |.c0 p f g=>⟨74,(.kQ [0,0,0,0,2,3,3]),by kernel_rfl⟩) (λ((q,i):qU×Int) c j h=>gb c)
structure Kx where
 (a5:Bool) (a6:Int)
inductive acZ where
 | c0 (p:Kx) (a0:Int) (a1:Int) (a2:Int) (a3:Int) (a4:Int) (a7:List jc)
noncomputable def ai4:acZ->iH
 | .c0 p a0 a1 a2 a3 a4 c=>⟨[⟨92,74,(en [(0,.ptr 0 0),(1,vi a0),(4,vi a1),(15,.agg [vi a2,vi a3]),(16,vi a4)]),sk Tryz.f92 [0,1,1,1,0,1,0,0],[],none⟩],[.ay false [vb p.a5,.own 1,vi p.a6],.arr false pn c,.aZ]⟩
def afo(A:aS)(q:qU)(i:Int):LT (qU×Unit) acZ:=.ao (.c0 ⟨q.1,q.2.2⟩ i i (A.cB (A.b .mul .i64 2 i) 1) (A.cB (A.b .mul .i64 2 i) 2) 0 q.2.1)
def Jf(A:aS):acZ->LT (qU×Unit) acZ
 | .c0 p a0 a1 a2 a3 a4 c=>.br (A.bD a4 2) (.ap (A.and (A.bU 0 a4) (A.bD a4 2)) (.br (A.bD (A.n yI [a2,a3] a4:Int) (A.l c)) (.gQ A (A.n yI [a2,a3] a4:Int) c (.gQ A a1 c (.br (A.k JS ((A.n pn c (A.n yI [a2,a3] a4:Int):jc),(A.n pn c a1:jc))) (.ao (.c0 p a0 (A.n yI [a2,a3] a4:Int) a2 a3 (A.cB a4 1) c)) (.ao (.c0 p a0 a1 a2 a3 (A.cB a4 1) c))))) (.ao (.c0 p a0 a1 a2 a3 (A.cB a4 1) c)))) (.br (A.cr a1 a0) (.gQ A a1 c (.gQ A a0 c (.gQ A a1 (A.set c a0 (A.n pn c a1:jc)) (.ao (.c0 p a1 a1 (A.cB (A.b .mul .i64 2 a1) 1) (A.cB (A.b .mul .i64 2 a1) 2) 0 (A.set (A.set c a0 (A.n pn c a1:jc)) a1 (A.n pn c a0:jc))))))) (.ret ((p.a5,c,p.a6),())))
def Sq:qU×Int->qU×Unit:=λ(q,i)=>gS (Jf af) (afo af q i) (Ty.aR [Rs],Ty.aR [])
def Qz:qU×Int->Bool:=λ(q,i)=>iq (Jf af) (afo af q i)
def aoq:cd:=⟨[OV], [yI], [],Qz,Sq,false,false⟩
theorem an0:cd.bH Tryz.prog 92 aoq:=bP ar dK sl 33 [⟨92,3, [[0,1,4,15,16]]⟩] [] (λA (q,i)=>afo A q i) Jf ai4 (kz (fc Tryz.func92 fz) (sc ag1 sz)) (λA y=>match y with |.c0 p f a1 a2 g j l=>⟨73,(.kQ [0,0,0,0,0,0,0,0,0,1]),by kernel_rfl⟩) (λ((q,i):qU×Int) c m h=>gb c)
def afn(A:aS)(q:qU):LT (qU×Int) Empty:=.br (A.not q.1) (.ret (q,0)) (.ret (q,q.2.2))
def gB:qU×Unit->qU×Int:=λ(q,())=>gS Empty.elim (afn af q) (Ty.aR [Rs],Ty.aR [yI])
def rD:qU×Unit->Bool:=λ(q,())=>iq Empty.elim (afn af q)
def aoi:cd:=⟨[OV], [], [yI],rD,gB,false,false⟩
theorem NY:cd.bH Tryz.prog 51 aoi:=bP ar dK sl 44 [] [] (λA (q,())=>afn A q) (λ_=>Empty.elim) Empty.elim (kz (fc Tryz.func51 (fc Tryz.func86 fz)) sz) (λ_ y=>y.elim) (λ((q,()):qU×Unit) c f h=>gb c)
def afm(A:aS)(q:qU):LT (qU×Int) Empty:=.br (A.not q.1) (.ret (q,0)) (.ret (q,(A.l q.2.1)))
def NG:qU×Unit->qU×Int:=λ(q,())=>gS Empty.elim (afm af q) (Ty.aR [Rs],Ty.aR [yI])
def Qs:qU×Unit->Bool:=λ(q,())=>iq Empty.elim (afm af q)
def aoh:cd:=⟨[OV], [], [yI],Qs,NG,false,false⟩
theorem anT:cd.bH Tryz.prog 50 aoh:=bP ar dK sl 45 [] [] (λA (q,())=>afm A q) (λ_=>Empty.elim) Empty.elim (kz (fc Tryz.func50 (fc Tryz.func86 fz)) sz) (λ_ y=>y.elim) (λ((q,()):qU×Unit) c f h=>gb c)
def afv(A:aS)(q:qU)(e:jc):LT (qU×Int) Empty:=.br (A.not q.1) (.ret (q,1)) (.br (A.bD e.1 q.2.2) (.ret (q,140)) (.br (A.jw e.1 1099511627776) (.ret (q,140)) (.br (A.qP (A.l q.2.1) 16384) (.ret (q,3)) (.ap (A.bU (A.l (A.p q.2.1 ([e]:List jc))) 4398046511104) (.ap (A.k QF ((zt q (A.p q.2.1 ([e]:List jc))),(A.fF (A.l (A.p q.2.1 ([e]:List jc))) 1))) (.ret ((A.k Yg ((zt q (A.p q.2.1 ([e]:List jc))),(A.fF (A.l (A.p q.2.1 ([e]:List jc))) 1))).1,0)))))))
def wD:qU×jc->qU×Int:=λ(q,e)=>gS Empty.elim (afv af q e) (Ty.aR [Rs],Ty.aR [yI])
def QG:qU×jc->Bool:=λ(q,e)=>iq Empty.elim (afv af q e)
def aoA:cd:=⟨[OV], [pn], [yI],QG,wD,false,false⟩
theorem an7:cd.bH Tryz.prog 127 aoA:=bP ar dK sl 97 [] [] (λA (q,e)=>afv A q e) (λ_=>Empty.elim) Empty.elim ⟨(fc Tryz.func127 (fc Tryz.func86 fz)),sz,oz,iz,(mc an6 mz),pz⟩ (λ_ y=>y.elim) (λ((q,e):qU×jc) c f h=>gb c)
def xM(A:aS)(q:qU):Int:=(A.fF (A.l q.2.1) 1)
def Mu(A:aS)(q:qU):qU×Int:=((zt q (A.s (A.set q.2.1 0 (A.n pn q.2.1 (xM A q):jc)) 0 (A.fF (xM A q) 0))),0)
def abn(A:aS)(q:qU):LT (qU×(jc×Int)) Empty:=.br (A.not q.1) (.ret (q,(0,0,0,0),1)) (.br (A.bD (xM A q) 0) (.ret (q,(0,0,0,0),4)) (.gQ A 0 q.2.1 (.gQ A (xM A q) q.2.1 (.ap (A.and (A.bU 0 0) (A.and (A.bU 0 (xM A q)) (A.bU (xM A q) (A.l (A.set q.2.1 0 (A.n pn q.2.1 (xM A q):jc)))))) (.ap (A.k Qz (Mu A q)) (.ret ((lp2 (A.k Sq (Mu A q)).1 (A.n pn q.2.1 0:jc).1),(A.n pn q.2.1 0:jc),0)))))))
def za:qU×Unit->qU×(jc×Int):=λ(q,())=>gS Empty.elim (abn af q) (Ty.aR [Rs],Ty.aR [pn,yI])
def Qt:qU×Unit->Bool:=λ(q,())=>iq Empty.elim (abn af q)
def aoj:cd:=⟨[OV], [], [pn,yI],Qt,za,false,false⟩
theorem anU:cd.bH Tryz.prog 64 aoj:=bP ar dK (.kQ [0,0,0,0,2]) 115 [⟨64,2000000, []⟩] [] (λA (q,())=>abn A q) (λ_=>Empty.elim) Empty.elim ⟨(fc Tryz.func64 (fc Tryz.func86 fz)),sz,oz,iz,(mc an0 mz),pz⟩ (λ_ y=>y.elim) (λ((q,()):qU×Unit) c f h=>gb c)
end
end Go.Ev.M
