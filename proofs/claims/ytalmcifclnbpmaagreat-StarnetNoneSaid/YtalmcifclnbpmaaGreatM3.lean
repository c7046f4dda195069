/- PROVED: what functions compute, 3. Conditions: none. -/
import Derived.Test.YtalmcifclnbpmaaGreatM2
set_option linter.unusedVariables false
set_option linter.defProp false
set_option linter.unusedSimpArgs false
namespace Go.Ev.M
open Go.Proofs Go.Proofs.Tryz
set_option maxRecDepth 100000
open Go.Ev.Pl
noncomputable section
structure K7 where(a0:List fX)(a1:Int)(a3:Unit×Bool×au×gK×Unit)(a4 a5:Int)(a6:gE)(a7 a8 a9 mA:Unit×Bool×au×gK×Unit)(pH:List fX)(a12 FD Nv Nw:Int)(R9:gE)(R_:Int)(a20:List fX)(a21:Int)
inductive aeb where|c0(p:K7)(a2:Int)
noncomputable def akk:aeb->iF
 | .c0 p a2=>⟨[iN 230 36 [(0,.yield 0),(2,pZ 1),(3,pZ 2),(7,.sl fq p.a0),(8,vi p.a1),(9,vi a2)] f230 12,⟨109,34,en [(8,pZ 3),(9,pZ 4)],[.oA 0,.inBlock 0,.code<|cw f109 7],[5],none⟩],[.loop ⟨109,34,en [(0,.nI (.struct [(.any 10),.bool,aW,gb,.any 8]) p.a3 0),(1,vi p.a4),(2,vi p.a5),(3,.agg<|dc lf p.a6),(5,pZ 7),(6,pZ 9),(7,pZ 6),(8,pZ 3),(9,pZ 4),(11,.nI (.struct [(.any 10),.bool,aW,gb,.any 8]) p.a7 0),(12,.nI (.struct [(.any 10),.bool,aW,gb,.any 8]) p.a8 0),(13,.nI (.struct [(.any 10),.bool,aW,gb,.any 8]) p.a9 19),(14,.nI (.struct [(.any 10),.bool,aW,gb,.any 8]) p.mA 26),(15,.sl fq p.pH),(16,pZ 6),(17,vi p.a12),(18,.ptr 6 1),(19,vi p.FD),(20,.fn 230 [] [pZ 8,pZ 1,pZ 2])],[21],cw f109 52,cw f109 53,0,none⟩,vZ p.Nv,vZ p.Nw,gZ [vi 0,vi 0,vi 0,vi 0,vi 0,vi 0,vi 0],gZ [vb false],.FU,dZ lf p.R9,vZ p.R_,gZ [.sl fq p.a20],vZ p.a21,.aU]⟩
def od(A:aS)(p:K7)(a2:Int):fX:=(A.n fq p.a0 a2:fX)
def acx(A:aS)(h:Bool)(p:au)(f:gK)(g:Int)(node:Int)(c:gE):LT (fX×Bool) aeb:=.ao (A.k QM f.2.2.2.2.2.2.2)<|.ak<|.c0 ⟨A.k Gh f.2.2.2.2.2.2.2,A.l<|A.k Gh f.2.2.2.2.2.2.2,((),h,p,f,()),g,node,c,((),h,p,f,()),((),h,p,f,()),((),h,p,f,()),((),h,p,f,()),f.2.2.2.2.2.2.2,c.1,c.2.1,c.1,c.2.1,c,g,A.k Gh f.2.2.2.2.2.2.2,node⟩ 0
def Ew(A:aS):aeb->LT (fX×Bool) aeb
 | .c0 p a2=>.br (A.bq a2 p.a1) (.g_ A a2 p.a0<|.br (A.bG (od A p a2).2.2.2.1 p.Nv) (.br (A.bG (od A p a2).2.2.2.2.1 p.Nw) (.br (A.bG (od A p a2).1 p.R_) (.br (A.bG (od A p a2).2.1 p.a21) (.ret (od A p a2,true))<|.ak<|.c0 p<|A.bT a2 1)<|.ak<|.c0 p<|A.bT a2 1)<|.br (A.not<|A.k zA (od A p a2).1) (.br (A.bG (od A p a2).1 p.R_) (.br (A.bG (od A p a2).2.1 p.a21) (.ret (od A p a2,true))<|.ak<|.c0 p<|A.bT a2 1)<|.ak<|.c0 p<|A.bT a2 1)<|.ak<|.c0 p<|A.bT a2 1)<|.ak<|.c0 p<|A.bT a2 1)<|.ret ((0,0,0,0,0,0,0),false)
def gM:(Unit×Bool×au×gK×Unit)×(Int×Int×gE)->(fX×Bool):=λ(((),g,h,p,()),(f,node,c))=>gi (Ew af) (acx af g h p f node c)<|Ty.aO [fq,.bool]
def j_:(Unit×Bool×au×gK×Unit)×(Int×Int×gE)->Bool:=λ(((),g,h,p,()),(f,node,c))=>gu (Ew af)<|acx af g h p f node c
def aqI:lG:=⟨.struct [(.any 10),.bool,aW,gb,.any 8],[yI,yI,lf],[fq,.bool],j_,gM⟩
def OJ:lG.bp prog 109 aqI:=BX ar dK sl 57 [⟨230,1,[[0,2,3,7,8,9],[8,9]]⟩] [] (λA (((),g,u,v,()),(f,node,c))=>acx A g u v f node c) Ew akk (kz (fc func109 (fc func170 (fc func230 fz))) (sc ahX (sc ahY sz))) (λA y=>match y with |.c0 p a2=>⟨77,sl,by kernel_rfl⟩)<|λ(((),g,u,v,()),(f,node,c)) hp B h=>eO hp
structure Xk where(a0:List fX)(a1:Int)(a3:Unit×Bool×au×gK×Unit)(a4:Int)(a5:gE)(a6 a7 a8 a9:Unit×Bool×au×gK×Unit)(mA:List fX)(pH a12 FD Nv:Int)(a16:gE)(a17:List fX)(R9:Int)
inductive aee where|c0(p:Xk)(a2:Int)
noncomputable def ako:aee->iF
 | .c0 p a2=>⟨[iN 230 36 [(0,.yield 0),(2,pZ 1),(3,pZ 2),(7,.sl fq p.a0),(8,vi p.a1),(9,vi a2)] f230 12,⟨167,28,en [(6,pZ 3)],[.oA 0,.inBlock 0,.code<|cw f167 7],[4],none⟩],[.loop ⟨167,28,en [(0,.nI (.struct [(.any 10),.bool,aW,gb,.any 8]) p.a3 0),(1,vi p.a4),(2,.agg<|dc lf p.a5),(4,pZ 7),(5,pZ 5),(6,pZ 3),(8,.nI (.struct [(.any 10),.bool,aW,gb,.any 8]) p.a6 0),(9,.nI (.struct [(.any 10),.bool,aW,gb,.any 8]) p.a7 0),(10,.nI (.struct [(.any 10),.bool,aW,gb,.any 8]) p.a8 19),(11,.nI (.struct [(.any 10),.bool,aW,gb,.any 8]) p.a9 26),(12,.sl fq p.mA),(13,pZ 5),(14,vi p.pH),(15,.ptr 5 1),(16,vi p.a12),(17,.fn 230 [] [pZ 6,pZ 1,pZ 2])],[18],cw f167 52,cw f167 53,0,none⟩,vZ p.FD,vZ p.Nv,gZ [vb false],.FU,dZ lf p.a16,gZ [.sl fq p.a17],vZ p.R9,.aU]⟩
def agD(A:aS)(h:Bool)(p:au)(g:gK)(f:Int)(c:gE):LT Bool aee:=.ao (A.k QM g.2.2.2.2.2.2.2)<|.ak<|.c0 ⟨A.k Gh g.2.2.2.2.2.2.2,A.l<|A.k Gh g.2.2.2.2.2.2.2,((),h,p,g,()),f,c,((),h,p,g,()),((),h,p,g,()),((),h,p,g,()),((),h,p,g,()),g.2.2.2.2.2.2.2,c.1,c.2.1,c.1,c.2.1,c,A.k Gh g.2.2.2.2.2.2.2,f⟩ 0
def Rm(A:aS):aee->LT Bool aee
 | .c0 p a2=>.br (A.bq a2 p.a1) (.g_ A a2 p.a0<|.br (A.bG (A.n fq p.a0 a2:fX).2.2.2.1 p.FD) (.br (A.bG (A.n fq p.a0 a2:fX).2.2.2.2.1 p.Nv) (.br (A.bG (A.n fq p.a0 a2:fX).1 5) (.br (A.bG (A.n fq p.a0 a2:fX).2.2.1 p.R9) (.ret true)<|.ak<|.c0 p<|A.bT a2 1)<|.ak<|.c0 p<|A.bT a2 1)<|.br (A.not<|A.k zA (A.n fq p.a0 a2:fX).1) (.br (A.bG (A.n fq p.a0 a2:fX).1 5) (.br (A.bG (A.n fq p.a0 a2:fX).2.2.1 p.R9) (.ret true)<|.ak<|.c0 p<|A.bT a2 1)<|.ak<|.c0 p<|A.bT a2 1)<|.ak<|.c0 p<|A.bT a2 1)<|.ak<|.c0 p<|A.bT a2 1)<|.ret false
def YT:(Unit×Bool×au×gK×Unit)×(Int×gE)->Bool:=λ(((),g,h,p,()),(f,c))=>gi (Rm af) (agD af g h p f c)<|Ty.aO [.bool]
def Mm:(Unit×Bool×au×gK×Unit)×(Int×gE)->Bool:=λ(((),g,h,p,()),(f,c))=>gu (Rm af)<|agD af g h p f c
def aqJ:lG:=⟨.struct [(.any 10),.bool,aW,gb,.any 8],[yI,lf],[.bool],Mm,YT⟩
def aqG:lG.bp prog 167 aqJ:=BX ar dK sl 55 [⟨230,1,[[0,2,3,7,8,9],[6]]⟩] [] (λA (((),g,u,v,()),(f,c))=>agD A g u v f c) Rm ako (kz (fc func167 (fc func170 (fc func230 fz))) (sc ahX (sc ahY sz))) (λA y=>match y with |.c0 p a2=>⟨76,sl,by kernel_rfl⟩)<|λ(((),g,u,v,()),(f,c)) hp B h=>eO hp
def yq(A:aS)(h:Net)(g:Int)(f:Int)(node:Int)(n:Int):oR×Int×Int×Int×Int:=((A.k gF (h.q,())).1,A.mx g (A.k gF (h.q,())).2,f,node,n)
def acn(A:aS)(h:Net)(g:Int)(f:Int)(node:Int)(n:Int):LT (Net×Unit) Empty:=.ao (A.k nW (h.q,()))<|.br (A.bQ (A.mx g (A.k gF (h.q,())).2) h.e) (.ao (A.k QZ<|yq A h g f node n)<|.br (A.cm (A.k wY<|yq A h g f node n).2 0) (.ao (A.k nW ((A.k wY<|yq A h g f node n).1,()))<|.ret (an1 h (A.mn h.e (A.k gF ((A.k wY<|yq A h g f node n).1,())).2) (A.k gF ((A.k wY<|yq A h g f node n).1,())).1,()))<|.ret (vJ h (A.k wY<|yq A h g f node n).1,()))<|.ret (vJ h (A.k gF (h.q,())).1,())
def qL:Net×(Int×Int×Int×Int)->Net×Unit:=λ(h,(g,f,node,n))=>gi Empty.elim (acn af h g f node n) (Ty.aO [kX],Ty.aO [])
def nj:Net×(Int×Int×Int×Int)->Bool:=λ(h,(g,f,node,n))=>gu Empty.elim (acn af h g f node n)&&decide (VF.lens [fL] (qL (h,(g,f,node,n))).1=VF.lens [fL] ((h,(g,f,node,n)):Net×(Int×Int×Int×Int)).1)
def ap_:cn:=⟨[fL],[yI,yI,yI,yI],[],nj,qL,false,false⟩
def G0:cn.bp prog 49 ap_:=bV ar dK sl 56 [] [] (λA (p,(g,f,node,n))=>acn A p g f node n) (λ_=>Empty.elim) Empty.elim ⟨fc func49 fz,sz,oz,iz,(mc GZ (mc apK mz)),pz⟩ (λ_ y=>y.elim) (λ((p,(g,f,node,n)):Net×(Int×Int×Int×Int)) hp u h=>Fh hp) (z:=λ_ _ h=>Cf h)
def ab_(A:aS)(h:Net)(g:Int)(f:Int)(node:Int):LT (Net×Unit) Empty:=.br (A.cm f 3) (.br (A.bq node<|A.l h.n) (.g_ A node h.n<|.ao (A.k nj (h,g,f,node,(A.n bo h.n node:cB).2.2.2.2.1))<|.qj A h.n<|.ret ((A.k qL (h,g,f,node,(A.n bo h.n node:cB).2.2.2.2.1)).1,()))<|.ao (A.k nj (h,g,f,node,0))<|.qj A h.n<|.ret ((A.k qL (h,g,f,node,0)).1,()))<|.ao (A.k nj (h,g,f,node,0))<|.qj A h.n<|.ret ((A.k qL (h,g,f,node,0)).1,())
def uo:Net×(Int×Int×Int)->Net×Unit:=λ(h,(g,f,node))=>gi Empty.elim (ab_ af h g f node) (Ty.aO [kX],Ty.aO [])
def wy:Net×(Int×Int×Int)->Bool:=λ(h,(g,f,node))=>gu Empty.elim (ab_ af h g f node)&&decide (VF.lens [fL] (uo (h,(g,f,node))).1=VF.lens [fL] ((h,(g,f,node)):Net×(Int×Int×Int)).1)
def ap1:cn:=⟨[fL],[yI,yI,yI],[],wy,uo,false,false⟩
def KD:cn.bp prog 22 ap1:=bV ar dK sl 45 [] [] (λA (p,(g,f,node))=>ab_ A p g f node) (λ_=>Empty.elim) Empty.elim ⟨fc func22 fz,sz,oz,iz,(mc G0 mz),pz⟩ (λ_ y=>y.elim) (λ((p,(g,f,node)):Net×(Int×Int×Int)) hp u h=>Fh hp) (z:=λ_ _ h=>Cf h)
def IY(A:aS)(g:Net)(i:Int):List cB:=(md A bo g.n i λ(f:cB)=>NC f<|A.bT f.2.2.2.2.1 1)
def Nj(A:aS)(f:Net)(i:Int):Net×Int×Int×Int:=(RR f (A.k gF ((A.k gF (f.q,())).1,())).1<|md A bo (IY A f i) i λ(g:cB)=>up3 g (A.k gF (f.q,())).2,A.bT (A.k gF ((A.k gF (f.q,())).1,())).2 f.m.2.1,2,i)
def acD(A:aS)(f:Net)(i:Int):LT (Net×Unit) Empty:=.g_ A i f.n<|.ao (A.k nW (f.q,()))<|.ao (A.k nW ((A.k gF (f.q,())).1,()))<|.ao (A.k wy<|Nj A f i)<|.qj A (md A bo (IY A f i) i λ(g:cB)=>up3 g (A.k gF (f.q,())).2)<|.ret ((A.k uo<|Nj A f i).1,())
def Kq:Net×Int->Net×Unit:=λ(f,i)=>gi Empty.elim (acD af f i) (Ty.aO [kX],Ty.aO [])
def Mn:Net×Int->Bool:=λ(f,i)=>gu Empty.elim (acD af f i)&&decide (VF.lens [fL] (Kq (f,i)).1=VF.lens [fL] ((f,i):Net×Int).1)
def aqn:cn:=⟨[fL],[yI],[],Mn,Kq,false,false⟩
def ahu:cn.bp prog 169 aqn:=bV ar dK sl 55 [] [] (λA (f,i)=>acD A f i) (λ_=>Empty.elim) Empty.elim ⟨fc func169 fz,sz,oz,iz,(mc GZ (mc KD mz)),pz⟩ (λ_ y=>y.elim) (λ((f,i):Net×Int) hp g h=>Fh hp) (z:=λ_ _ h=>Cf h)
def Nh(A:aS)(f:Net)(i:Int):Net×Int×Int×Int:=(f,A.bT (A.bT (A.n bo f.n i:cB).2.1.1<|A.bT (A.bT (A.bT f.m.2.2.1<|A.k DK f.m) f.m.2.2.2.2.2.1)<|A.b .mul .i64 2 f.m.2.2.2.1) 2,1,i)
def acv(A:aS)(f:Net)(i:Int):LT (Net×Unit) Empty:=.g_ A i f.n<|.ao (A.k wy<|Nh A f i)<|.qj A f.n<|.ret ((A.k uo<|Nh A f i).1,())
def Gk:Net×Int->Net×Unit:=λ(f,i)=>gi Empty.elim (acv af f i) (Ty.aO [kX],Ty.aO [])
def CW:Net×Int->Bool:=λ(f,i)=>gu Empty.elim (acv af f i)&&decide (VF.lens [fL] (Gk (f,i)).1=VF.lens [fL] ((f,i):Net×Int).1)
def aqj:cn:=⟨[fL],[yI],[],CW,Gk,false,false⟩
def ZQ:cn.bp prog 107 aqj:=bV ar dK sl 46 [] [] (λA (f,i)=>acv A f i) (λ_=>Empty.elim) Empty.elim ⟨fc func107 fz,(sc KU sz),oz,iz,(mc KD mz),pz⟩ (λ_ y=>y.elim) (λ((f,i):Net×Int) hp g h=>Fh hp) (z:=λ_ _ h=>Cf h)
def acY(A:aS)(f:Net)(i:Int)(on:Bool):List cB:=(A.set f.n i ((A.k SB (f.m,(A.n bo f.n i:cB).1,on)).1,(A.n bo f.n i:cB).2))
def acZ(A:aS)(g:Net)(i:Int)(on:Bool):List cB:=(md A bo (acY A g i on) i λ(f:cB)=>NC f<|A.bT f.2.2.2.2.1 1)
def ac0(A:aS)(g:Net)(i:Int)(on:Bool):List cB:=(md A bo (acZ A g i on) i λ(f:cB)=>Fo f false)
def ac1(A:aS)(g:Net)(i:Int)(on:Bool):List cB:=(md A bo (ac0 A g i on) i λ(f:cB)=>Py f false)
def Dm(A:aS)(g:Net)(i:Int)(on:Bool):List cB:=(md A bo (ac1 A g i on) i λ(f:cB)=>lp7 f false)
def acw(A:aS)(f:Net)(i:Int)(on:Bool):LT (Net×Unit) Empty:=.g_ A i f.n<|.br (A.cm (A.k SB (f.m,(A.n bo f.n i:cB).1,on)).2 0) (.ret (f,()))<|.br on (.ao (A.k Mn (sC f<|Dm A f i on,i))<|.qj A (Dm A f i on)<|.ret ((A.k Kq (sC f<|Dm A f i on,i)).1,()))<|.ret (sC f<|Dm A f i on,())
def xM:Net×(Int×Bool)->Net×Unit:=λ(f,(i,on))=>gi Empty.elim (acw af f i on) (Ty.aO [kX],Ty.aO [])
def u5:Net×(Int×Bool)->Bool:=λ(f,(i,on))=>gu Empty.elim (acw af f i on)&&decide (VF.lens [fL] (xM (f,(i,on))).1=VF.lens [fL] ((f,(i,on)):Net×(Int×Bool)).1)
def aqk:cn:=⟨[fL],[yI,.bool],[],u5,xM,false,false⟩
def ZR:cn.bp prog 108 aqk:=bV ar dK sl 87 [] [] (λA (f,(i,on))=>acw A f i on) (λ_=>Empty.elim) Empty.elim ⟨fc func108 fz,(sc arn sz),oz,iz,(mc ahu mz),pz⟩ (λ_ y=>y.elim) (λ((f,(i,on)):Net×(Int×Bool)) hp g h=>Fh hp) (z:=λ_ _ h=>Cf h)
def acU(A:aS)(g:Net)(i:Int)(n:Node)(f:Int):List cB:=(md A bo (md A bo g.n i λ(h:cB)=>VU h n) i λ(p:cB)=>Dq p (A.k rF (g.m,f,n.2.2.1.2.1)).1)
def acV(A:aS)(h:Net)(i:Int)(n:Node)(f:Int):List cB:=(md A bo (acU A h i n f) i λ(g:cB)=>NC g<|A.bT g.2.2.2.2.1 1)
def IQ(A:aS)(h:Net)(i:Int)(n:Node)(f:Int):List cB:=(md A bo (acV A h i n f) i λ(g:cB)=>Fo g true)
def acp(A:aS)(g:Net)(i:Int)(n:Node)(f:Int):LT (Net×Unit) Empty:=.g_ A i g.n<|.br (A.cm (A.k rF (g.m,f,n.2.2.1.2.1)).2 0) (.ret (g,()))<|.br (A.not<|A.k SJ (n.2.2.1,n.2.2.1.2.1)) (.ret (g,()))<|.ao (A.k CW (sC g<|md A bo (IQ A g i n f) i λ(h:cB)=>Py h false,i))<|.qj A (md A bo (IQ A g i n f) i λ(h:cB)=>Py h false)<|.ret ((A.k Gk (sC g<|md A bo (IQ A g i n f) i λ(h:cB)=>Py h false,i)).1,())
def SY:Net×(Int×Node×Int)->Net×Unit:=λ(g,(i,n,f))=>gi Empty.elim (acp af g i n f) (Ty.aO [kX],Ty.aO [])
def Q0:Net×(Int×Node×Int)->Bool:=λ(g,(i,n,f))=>gu Empty.elim (acp af g i n f)&&decide (VF.lens [fL] (SY (g,(i,n,f))).1=VF.lens [fL] ((g,(i,n,f)):Net×(Int×Node×Int)).1)
def aqd:cn:=⟨[fL],[yI,fE,yI],[],Q0,SY,false,false⟩
def apL:cn.bp prog 92 aqd:=bV ar dK sl 95 [] [] (λA (g,(i,n,f))=>acp A g i n f) (λ_=>Empty.elim) Empty.elim ⟨fc func92 fz,(sc ahR (sc ar8 sz)),oz,iz,(mc ZQ mz),pz⟩ (λ_ y=>y.elim) (λ((g,(i,n,f)):Net×(Int×Node×Int)) hp p h=>Fh hp) (z:=λ_ _ h=>Cf h)
def M5(q:Bool)(A:aS)(f:Net):Net×Int×Int×Int×Int:=(f,A.bT (A.bT (mP q f).2.1<|A.bT (A.bT (A.bT f.m.2.2.1 f.m.2.2.2.2.2.1) f.m.2.2.2.1)<|A.k DK f.m) 1,4,bif q then 1 else 0,0)
def VO(q:Bool)(A:aS)(f:Net)(k:Int):LT (Net×Unit) Empty:=.br (mP q f).1 (.ao (A.k nj<|M5 q A f)<|.qj A f.n<|.ret ((A.k qL<|M5 q A f).1,()))<|.ret (f,())
def Gn(q:Bool):Net×Int->Net×Unit:=λ(f,k)=>gi Empty.elim (VO q af f k) (Ty.aO [kX],Ty.aO [])
def Fa(q:Bool):Net×Int->Bool:=λ(f,k)=>(decide (k=kI q)&&gu Empty.elim (VO q af f k))&&decide (VF.lens [fL] (Gn q (f,k)).1=VF.lens [fL] ((f,k):Net×Int).1)
def alu(q:Bool):cn:=⟨[fL],[yI],[],Fa q,Gn q,false,false⟩
theorem ZS:∀q,cn.bp prog 23<|alu q
 | false=>jF ar dK sl 56 [] [] [some 0] (λA (f,k)=>VO false A f k) (λ_=>Empty.elim) Empty.elim ⟨fc func23 fz,(sc KU sz),oz,iz,(mc G0 mz),pz⟩ (λ_ y=>y.elim) (λ((f,k):Net×Int) hp g h=>eO ((eH _ _).mp ((eH _ _).mp hp).1).2) (v:=λ_ (y:Int) h=>⟨@of_decide_eq_true (y=0) _ ((eH _ _).mp ((eH _ _).mp h).1).1,trivial⟩) (z:=λ_ _ h=>Cf h)
 | true=>jF ar dK sl 56 [] [] [some 1] (λA (f,k)=>VO true A f k) (λ_=>Empty.elim) Empty.elim ⟨fc func23 fz,(sc KU sz),oz,iz,(mc G0 mz),pz⟩ (λ_ y=>y.elim) (λ((f,k):Net×Int) hp g h=>eO ((eH _ _).mp ((eH _ _).mp hp).1).2) (v:=λ_ (y:Int) h=>⟨@of_decide_eq_true (y=1) _ ((eH _ _).mp ((eH _ _).mp h).1).1,trivial⟩) (z:=λ_ _ h=>Cf h)
def lL:Net×Int->Net×Unit:=λx=>bif decide (x.2=0) then Gn false x else Gn true x
def qk:Net×Int->Bool:=λx=>bif decide (x.2=0) then Fa false x else Fa true x
def ap2:cn:=⟨[fL],[yI],[],qk,lL,false,false⟩
def ZP:cn.bp prog 23 ap2:=((ZS false).either<|ZS true)
structure ai1 where(a2 a3:fX)(a4:Int)(a5:Bool)(a6 a7:Int)(a8:List Int)(a9 mA:Int)
structure W4 where(b0:Int)(b2 b3:fX)(b4:Int)(b5:Bool)(b6 b7:Int)(b8:List Int)(b9 b10:Int)
inductive ad1 where|c0(p:ai1)|c1(p:W4)(b1:Int)(Co:List gY)
noncomputable def aj_:ad1->iF
 | .c0 p=>⟨[iN 28 39 [(1,pZ 0),(2,pZ 1),(19,vi 0),(20,vi 0)] f28 244],[gZ<|dc fq p.a2++dc fq p.a3 ++ [vi p.a4,vb p.a5,vi p.a6,vi p.a7,.sl yU p.a8,.eT false,vi p.a9,vi p.mA],gZ [vi 0,vi 0,vi 0,vi 0,vi 0,vi 0,vi 0,vi 0,vi 0,vi 0,vi 0,vi 0,vi 0,vi 0,vi 0,vb false,vi 0,vi 0,.eT true,.eT true,vi 0,vi 0],.aU]⟩
 | .c1 p b1 f=>⟨[iN 28 39 [(1,pZ 0),(2,pZ 1),(19,vi p.b0),(20,vi b1)] f28 244],[gZ<|dc fq p.b2++dc fq p.b3 ++ [vi p.b4,vb p.b5,vi p.b6,vi p.b7,.sl yU p.b8,.own 2,vi p.b9,vi p.b10],gZ [vi 0,vi 0,vi 0,vi 0,vi 0,vi 0,vi 0,vi 0,vi 0,vi 0,vi 0,vi 0,vi 0,vi 0,vi 0,vb false,vi 0,vi 0,.eT true,.eT true,vi 0,vi 0],aZ lg f,.aU]⟩
def anJ(A:aS)(n:Node):LT Node ad1:=.qj A n.2.2.2.2.2.2.2.2.2.1<|.br (A.bG (A.l n.2.2.2.2.2.2.2.2.2.1) 0) (.ak<|.c0 ⟨(n.1,n.2.1,n.2.2.1),n.2.2.2.1,n.2.2.2.2.1,n.2.2.2.2.2.1,n.2.2.2.2.2.2.1,n.2.2.2.2.2.2.2.1,A.k nQ n.2.2.2.2.2.2.2.2.1,n.2.2.2.2.2.2.2.2.2.2.1,n.2.2.2.2.2.2.2.2.2.2.2⟩)<|.ao (A.bQ (A.l n.2.2.2.2.2.2.2.2.2.1) 4398046511104)<|.ak<|.c1 ⟨A.l n.2.2.2.2.2.2.2.2.2.1,(n.1,n.2.1,n.2.2.1),n.2.2.2.1,n.2.2.2.2.1,n.2.2.2.2.2.1,n.2.2.2.2.2.2.1,n.2.2.2.2.2.2.2.1,A.k nQ n.2.2.2.2.2.2.2.2.1,n.2.2.2.2.2.2.2.2.2.2.1,n.2.2.2.2.2.2.2.2.2.2.2⟩ 0 n.2.2.2.2.2.2.2.2.2.1
def aaS(A:aS):ad1->LT Node ad1
 | .c0 p=>.br (A.bq 0 0) (.bU 37 "starnet.go:211")<|.ret (p.a2.1,p.a2.2.1,p.a2.2.2,p.a3,p.a4,p.a5,p.a6,p.a7,p.a8,([]:List gY),p.a9,p.mA)
 | .c1 p b1 f=>.br (A.bq b1 p.b0) (.g_ A b1 f<|.g_ A b1 f<|.ak<|.c1 p (A.bT b1 1)<|A.set f b1 (A.k nQ (A.n lg f b1:gY).1,(A.n lg f b1:gY).2))<|.ret (p.b2.1,p.b2.2.1,p.b2.2.2,p.b3,p.b4,p.b5,p.b6,p.b7,p.b8,f,p.b9,p.b10)
def aer(n:Node):Bool:=decide<|1<=n.2.2.2.2.2.2.2.2.2.1.length/\n.2.2.2.2.2.2.2.2.2.1.length<=4398046511103
def XY{p:W4}{l:List gY}(g:p.b0=(l.length:Int))(y:l.length<=140737488355328):∀(j i:Nat),l.length-i=j->i<=l.length->bi (aaS af) (.ak<|.c1 p i l) (p.b2.1,p.b2.2.1,p.b2.2.2,p.b3,p.b4,p.b5,p.b6,p.b7,p.b8,l,p.b9,p.b10):=by
 intro j
 induction j with
 | zero=>
   intro i v u;have:i=l.length:=by omega
   subst this;rw[aI,aaS,g];exact(al (by rw[bl];simp)).2 (.ret _)
 | succ j ih=>
   intro i v u;have f:i<l.length:=by omega
   rw[aI,aaS,g];refine(ap (by rw[bl];exact bX<|by omega)).2 (aA.2 ⟨dA f,aA.2 ⟨dA f,?_⟩⟩);have e:(af.n lg l (i:Int):gY)=l[i]:=fF f _;have h:af.set l i (af.k nQ (af.n lg l (i:Int):gY).1,(af.n lg l (i:Int):gY).2)=l:=by
    rw[e];show l.set (i:Int).toNat l[i]=l;rw[y7];exact List.set_getElem_self _
   rw[h,ald (i:=i)<|by omega];exact ih (i+1) (by omega) (by omega)
def awl{n:Node}(h:aer n=true):bi (aaS af) (anJ af n) n:=by
 have⟨f,g⟩:=of_decide_eq_true h;unfold anJ;refine aA.2 ⟨by rw[b_,eG];exact bne_iff_ne.2<|by omega,(al (by rw[bf,eG];exact beq_eq_false_iff_ne.2<|by omega)).2<|aA.2 ⟨by rw[ax,eG];exact bX<|by omega,?_⟩⟩;exact XY rfl (by omega) _ 0 rfl (by omega)
def xL:Node->Node:=λn=>n
def ya:Node->Bool:=aer
def aui:aL:=⟨[fE],[fE],ya,xL,false⟩
def abt:Sd 28 aui:=bE ar dK sl 62 [⟨28,4,[[1,2,19,20]]⟩] [] (λA n=>anJ A n) aaS aj_ (kz (fc func28 (fc func54 fz)) (sc Ea sz)) (λA y=>match y with |.c0 p=>⟨29,sl,by kernel_rfl⟩|.c1 p b1 f=>⟨42,sl,by kernel_rfl⟩) λ(n:Node) hp h=>awl hp
structure ajb where(a0:Int)
inductive ad_ where|c0(p:ajb)(a1:Int)(a2:Net)|c1(b0 b1:Int)(b2:Net)
noncomputable def XU(q:Bool):ad_->iF
 | .c0 p a1 a2=>⟨[iN 150 19 [(0,.own 2),(1,.fn 151 [] [pZ 3]),(7,vi p.a0),(8,vi a1)] f150 52,Jr 96 42 [(0,.own 2),(1,.fn 151 [] [pZ 3])] f96 6 2,fRZ 98 22 [(1,.int .i64 true (bif q then 1 else 0)),(2,pZ 3),(14,pZ 0),(15,.int .i64 true (bif q then 1 else 0)),(19,pZ 0),(20,.ptr 0 31)] [.sT (ow f98 30) [0,0,0,0,12,1,33,127,255] 4 [7,8] [6,5,1,0]]],[gZ (dc d_ a2.1++dc d_ a2.2.1 ++ [vi a2.2.2.1,vi a2.2.2.2.1,.own 4,.own 5,vb a2.2.2.2.2.2.2.1]++dc aW a2.m++dc gb a2.s ++ [vi a2.r,vi a2.e,pZ 6,.own 1,.own (bif q then 7 else 2),.own (bif q then 2 else 7),.own 8,.own 9]),bxN a2,aZ aY (xe q a2),gZ [pZ 0],bxC a2,bxD a2,bxQ a2 10,aZ aY (xe (!q) a2),bxS a2,bxP a2,bxH a2,.aU]⟩
 | .c1 b0 b1 b2=>⟨[iN 96 42 [(0,.own 2),(1,.fn 151 [] [pZ 3]),(5,vi b0),(6,vi b1)] f96 244,fRZ 98 22 [(1,.int .i64 true (bif q then 1 else 0)),(2,pZ 3),(14,pZ 0),(15,.int .i64 true (bif q then 1 else 0)),(19,pZ 0),(20,.ptr 0 31)] [.sT (ow f98 30) [0,0,0,0,12,1,33,127,255] 4 [7,8] [6,5,1,0]]],[gZ (dc d_ b2.1++dc d_ b2.2.1 ++ [vi b2.2.2.1,vi b2.2.2.2.1,.own 4,.own 5,vb b2.2.2.2.2.2.2.1]++dc aW b2.m++dc gb b2.s ++ [vi b2.r,vi b2.e,pZ 6,.own 1,.own (bif q then 7 else 2),.own (bif q then 2 else 7),.own 8,.own 9]),bxN b2,aZ aY (xe q b2),gZ [pZ 0],bxC b2,bxD b2,bxQ b2 10,aZ aY (xe (!q) b2),bxS b2,bxP b2,bxH b2,.aU]⟩
def acs(q:Bool)(A:aS)(f:Net)(k:Int):LT (Net×Unit) ad_:=.br (A.jr (A.l<|xe q f) 64) (.ak<|.c0 ⟨A.l<|xe q f⟩ 0 f)<|.ret (f,())
def OZ(q:Bool)(A:aS):ad_->LT (Net×Unit) ad_
 | .c0 p a1 a2=>.br (A.bq a1 p.a0) (.g_ A a1 (xe q a2)<|.ao (A.k nW (a2.q,()))<|.br (A.bq (A.n aY (xe q a2) a1:dx).2.1.2<|A.f_ (A.k gF (a2.q,())).2<|A.b .mul .i64 3 a2.m.2.1) (.br (A.bG a1<|-1) (.ret (vJ a2 (A.k gF (a2.q,())).1,()))<|.ak<|.c1 a1 (A.bT a1 1)<|vJ a2 (A.k gF (a2.q,())).1)<|.ak<|.c0 p (A.bT a1 1)<|vJ a2 (A.k gF (a2.q,())).1)<|.ret (a2,())
 | .c1 b0 b1 b2=>.br (A.bq b1<|A.l<|xe q b2) (.g_ A b1 (xe q b2)<|.ao (A.k nW (b2.q,()))<|.br (A.not<|A.bq (A.n aY (xe q b2) b1:dx).2.1.2<|A.f_ (A.k gF (b2.q,())).2<|A.b .mul .i64 3 b2.m.2.1) (.g_ A b0 (xe q b2)<|.ak<|.c1 (A.bT b0 1) (A.bT b1 1)<|(Y6 q) b2 (A.k gF (b2.q,())).1<|A.set (xe q b2) b0 (A.n aY (xe q b2) b1:dx))<|.ak<|.c1 b0 (A.bT b1 1)<|vJ b2 (A.k gF (b2.q,())).1)<|.ao (A.and (A.bQ 0 b0)<|A.and (A.bQ b0<|A.l<|xe q b2)<|A.bQ (A.l<|xe q b2)<|A.l<|xe q b2)<|.ao (A.and (A.bQ 0 0)<|A.and (A.bQ 0 b0)<|A.bQ b0<|A.l<|A.spl (xe q b2) b0<|A.r (A.f_ (A.l<|xe q b2) b0) (Ty.gH aY:dx))<|.ret ((NB q) b2<|A.s (A.spl (xe q b2) b0<|A.r (A.f_ (A.l<|xe q b2) b0) (Ty.gH aY:dx)) 0<|A.f_ b0 0,())
def Gr(q:Bool):Net×Int->Net×Unit:=λ(f,k)=>gi (OZ q af) (acs q af f k) (Ty.aO [kX],Ty.aO [])
def Ff(q:Bool):Net×Int->Bool:=λ(f,k)=>(decide (k=kI q)&&gu (OZ q af) (acs q af f k))&&decide (VF.lens [fL] (Gr q (f,k)).1=VF.lens [fL] ((f,k):Net×Int).1)
def aly(q:Bool):cn:=⟨[fL],[yI],[],Ff q,Gr q,false,false⟩
theorem ZV:∀q,cn.bp prog 98 (aly q)
 | false=>jF ar dK sl 57 [⟨96,5,[[0,1,5,6],[2,14,19,20,65537,65551]]⟩,⟨150,2,[[0,1,7,8],[0,1],[2,14,19,20,65537,65551]]⟩,⟨98,2000000,[]⟩] [] [some 0] (λA (f,k)=>acs false A f k) (OZ false) (XU false) ⟨(fc func98 (fc func96 (fc func150 (fc func151 fz)))),sz,oz,iz,(mc GZ mz),pz⟩ (λA y=>match y with |.c0 p a1 a2=>⟨81,sl,by kernel_rfl⟩|.c1 b0 b1 b2=>⟨80,sl,by kernel_rfl⟩) (λ((f,k):Net×Int) hp g h=>eO ((eH _ _).mp ((eH _ _).mp hp).1).2) (v:=(λ_ (y:Int) h=>⟨@of_decide_eq_true (y=0) _ ((eH _ _).mp ((eH _ _).mp h).1).1,trivial⟩)) (z:=λ_ _ h=>Cf h)
 | true=>jF ar dK sl 57 [⟨96,5,[[0,1,5,6],[2,14,19,20,65537,65551]]⟩,⟨150,2,[[0,1,7,8],[0,1],[2,14,19,20,65537,65551]]⟩,⟨98,2000000,[]⟩] [] [some 1] (λA (f,k)=>acs true A f k) (OZ true) (XU true) ⟨(fc func98 (fc func96 (fc func150 (fc func151 fz)))),sz,oz,iz,(mc GZ mz),pz⟩ (λA y=>match y with |.c0 p a1 a2=>⟨81,sl,by kernel_rfl⟩|.c1 b0 b1 b2=>⟨80,sl,by kernel_rfl⟩) (λ((f,k):Net×Int) hp g h=>eO ((eH _ _).mp ((eH _ _).mp hp).1).2) (v:=(λ_ (y:Int) h=>⟨@of_decide_eq_true (y=1) _ ((eH _ _).mp ((eH _ _).mp h).1).1,trivial⟩)) (z:=λ_ _ h=>Cf h)
def DV:Net×Int->Net×Unit:=λx=>bif decide (x.2=0) then Gr false x else Gr true x
def yb:Net×Int->Bool:=λx=>bif decide (x.2=0) then Ff false x else Ff true x
def aqf:cn:=⟨[fL],[yI],[],yb,DV,false,false⟩
def ahs:cn.bp prog 98 aqf:=((ZV false).either<|ZV true)
structure Fz where(a0:Net)(a1 a2 a3:Int)(a4:List Int)(a5:Int)(a6:Bool)(a7:gE)
structure Xa where(b0:Net)(b1 b2 b3:Int)(b4:List Int)(b5:Int)(b6:Bool)(b7:gE)(b8 b9 b10 b11:Int)
structure Xb where(c0:Net)(c1 c2 c3:Int)(c4:List Int)(c5:Int)(c6:Bool)(c7:gE)(c8:dx)
structure K6 where(d0:Net)(d1 d2 d3:Int)(d4:List Int)(d5:Int)(d6:Bool)(d7:gE)
structure Xc where(e0:Net)(e1 e2 e3:Int)(e4:List Int)(e5:Int)(e6:Bool)(e7:gE)(e8 e9 e10 e11:Int)
structure Xd where(f0:Net)(f1 f2 f3:Int)(f4:List Int)(f5:Int)(f6:Bool)(f7:gE)(f8:dx)
inductive Us where|c0(p:Fz)|c1(p:Xa)|c2(p:Xb)|c3(p:K6)|c4(p:Xc)|c5(p:Xd)
noncomputable def akj:Us->iF
 | .c0 p=>⟨[vh 165 54 [(0,pZ 0),(3,.fn 166 [] [pZ 2,pZ 3,pZ 4,pZ 5,pZ 6,pZ 7,pZ 8]),(8,iZ 0),(10,iZ 0)] f165 1842,⟨106,91,.leaf,[.ops (ow f106 1023) ((ow f106 1023).toList.drop 4)],[],none⟩],[bxX p.a0 9 10 11 1 12 13 14 15,bxN p.a0,vZ p.a1,vZ p.a2,gZ [vi p.a3,.sl yU p.a4],vZ p.a5,gZ [vb p.a6],gZ [pZ 0],dZ lf p.a7,bxC p.a0,bxD p.a0,bxQ p.a0 16,bxA p.a0,bxB p.a0,bxS p.a0,bxP p.a0,bxH p.a0,.aU]⟩
 | .c1 p=>⟨[vh 165 54 [(0,pZ 0),(3,.fn 166 [] [pZ 2,pZ 3,pZ 4,pZ 5,pZ 6,pZ 7,pZ 8]),(8,iZ 0),(9,pZ 9),(10,iZ 0)] f165 7374,⟨106,91,.leaf,[.ops (ow f106 1023) ((ow f106 1023).toList.drop 4)],[],none⟩],[bxX p.b0 10 11 12 1 13 14 15 16,bxN p.b0,vZ p.b1,vZ p.b2,gZ [vi p.b3,.sl yU p.b4],vZ p.b5,gZ [vb p.b6],gZ [pZ 0],dZ lf p.b7,gZ [vi p.b8,vi p.b9,vi p.b10,vi p.b11,vi 0,.eT true],bxC p.b0,bxD p.b0,bxQ p.b0 17,bxA p.b0,bxB p.b0,bxS p.b0,bxP p.b0,bxH p.b0,.aU]⟩
 | .c2 p=>⟨[vh 165 54 [(0,pZ 0),(3,.fn 166 [] [pZ 2,pZ 3,pZ 4,pZ 5,pZ 6,pZ 7,pZ 8]),(8,iZ 0),(9,pZ 9),(10,iZ 0)] f165 7374,⟨106,91,.leaf,[.ops (ow f106 1023) ((ow f106 1023).toList.drop 4)],[],none⟩],[bxX p.c0 10 11 12 1 13 14 15 16,bxN p.c0,vZ p.c1,vZ p.c2,gZ [vi p.c3,.sl yU p.c4],vZ p.c5,gZ [vb p.c6],gZ [pZ 0],dZ lf p.c7,dZ aY p.c8,bxC p.c0,bxD p.c0,bxQ p.c0 17,bxA p.c0,bxB p.c0,bxS p.c0,bxP p.c0,bxH p.c0,.aU]⟩
 | .c3 p=>⟨[vh 165 54 [(0,pZ 0),(3,.fn 166 [] [pZ 2,pZ 3,pZ 4,pZ 5,pZ 6,pZ 7,pZ 8]),(8,iZ 1),(10,iZ 1)] f165 1842,⟨106,91,.leaf,[.ops (ow f106 1023) ((ow f106 1023).toList.drop 4)],[],none⟩],[bxX p.d0 9 10 11 1 12 13 14 15,bxN p.d0,vZ p.d1,vZ p.d2,gZ [vi p.d3,.sl yU p.d4],vZ p.d5,gZ [vb p.d6],gZ [pZ 0],dZ lf p.d7,bxC p.d0,bxD p.d0,bxQ p.d0 16,bxA p.d0,bxB p.d0,bxS p.d0,bxP p.d0,bxH p.d0,.aU]⟩
 | .c4 p=>⟨[vh 165 54 [(0,pZ 0),(3,.fn 166 [] [pZ 2,pZ 3,pZ 4,pZ 5,pZ 6,pZ 7,pZ 8]),(8,iZ 1),(9,pZ 9),(10,iZ 1)] f165 7374,⟨106,91,.leaf,[.ops (ow f106 1023) ((ow f106 1023).toList.drop 4)],[],none⟩],[bxX p.e0 10 11 12 1 13 14 15 16,bxN p.e0,vZ p.e1,vZ p.e2,gZ [vi p.e3,.sl yU p.e4],vZ p.e5,gZ [vb p.e6],gZ [pZ 0],dZ lf p.e7,gZ [vi p.e8,vi p.e9,vi p.e10,vi p.e11,vi 0,.eT true],bxC p.e0,bxD p.e0,bxQ p.e0 17,bxA p.e0,bxB p.e0,bxS p.e0,bxP p.e0,bxH p.e0,.aU]⟩
 | .c5 p=>⟨[vh 165 54 [(0,pZ 0),(3,.fn 166 [] [pZ 2,pZ 3,pZ 4,pZ 5,pZ 6,pZ 7,pZ 8]),(8,iZ 1),(9,pZ 9),(10,iZ 1)] f165 7374,⟨106,91,.leaf,[.ops (ow f106 1023) ((ow f106 1023).toList.drop 4)],[],none⟩],[bxX p.f0 10 11 12 1 13 14 15 16,bxN p.f0,vZ p.f1,vZ p.f2,gZ [vi p.f3,.sl yU p.f4],vZ p.f5,gZ [vb p.f6],gZ [pZ 0],dZ lf p.f7,dZ aY p.f8,bxC p.f0,bxD p.f0,bxQ p.f0 17,bxA p.f0,bxB p.f0,bxS p.f0,bxP p.f0,bxH p.f0,.aU]⟩
def IV(A:aS)(f:Net)(i:Int):Span:=(A.k DW (f.m,(A.n bo f.n i:cB).2.1))
def Nb(A:aS)(p:Fz):Span:=(A.bT p.a2 p.a0.m.2.2.2.2.2.1,A.bT (A.bT p.a2<|A.k nP p.a3) p.a0.m.2.2.2.2.2.1)
def Nc(A:aS)(p:Fz):List dx:=(A.p p.a0.2.2.2.2.1 ([(p.a1,Nb A p,p.a5,0,([]:List Int))]:List dx))
def Nf(A:aS)(p:K6):Span:=(A.bT p.d2 p.d0.m.2.2.2.2.2.1,A.bT (A.bT p.d2<|A.k nP p.d3) p.d0.m.2.2.2.2.2.1)
def Ng(A:aS)(p:K6):List dx:=(A.p p.d0.2.2.2.2.2.1 ([(p.d1,Nf A p,p.d5,0,([]:List Int))]:List dx))
def agy(A:aS)(g:Net)(i:Int)(f:vP)(c:gE):LT (Net×Unit) Us:=.ao (A.k j_ (vw g,3,i,c))<|.br (A.k gM (vw g,3,i,c)).2 (.ret (g,()))<|.g_ A i g.n<|.br (A.cm (A.k CF f).2 0) (.ret (g,()))<|.br (A.cm (IV A g i).2 0) (.ret (g,()))<|.ao (A.k j_ (vw g,7,i,c))<|.br (A.k gM (vw g,7,i,c)).2 (.ao (A.k j_ (vw g,8,i,c))<|.br (A.k gM (vw g,8,i,c)).2 (.ao (A.k j_ (vw g,4,i,c))<|.ak<|.c0 ⟨g,i,A.mx (A.bT (IV A g i).1 (A.k gM (vw g,8,i,c)).1.2.2.2.2.2.1) 0,(A.k CF f).1.1,(A.k CF f).1.2,(A.k gM (vw g,7,i,c)).1.2.2.2.2.2.1,(A.k gM (vw g,4,i,c)).2,c⟩)<|.ao (A.k j_ (vw g,4,i,c))<|.ak<|.c0 ⟨g,i,(IV A g i).1,(A.k CF f).1.1,(A.k CF f).1.2,(A.k gM (vw g,7,i,c)).1.2.2.2.2.2.1,(A.k gM (vw g,4,i,c)).2,c⟩)<|.ao (A.k j_ (vw g,8,i,c))<|.br (A.k gM (vw g,8,i,c)).2 (.ao (A.k j_ (vw g,4,i,c))<|.ak<|.c0 ⟨g,i,A.mx (A.bT (IV A g i).1 (A.k gM (vw g,8,i,c)).1.2.2.2.2.2.1) 0,(A.k CF f).1.1,(A.k CF f).1.2,100,(A.k gM (vw g,4,i,c)).2,c⟩)<|.ao (A.k j_ (vw g,4,i,c))<|.ak<|.c0 ⟨g,i,(IV A g i).1,(A.k CF f).1.1,(A.k CF f).1.2,100,(A.k gM (vw g,4,i,c)).2,c⟩
def xq(A:aS):Us->LT (Net×Unit) Us
 | .c0 p=>.br p.a6 (.ao (A.bQ (A.l<|Nc A p) 2199023255552)<|.ak<|.c1 ⟨NC p.a0<|Nc A p,p.a1,p.a2,p.a3,p.a4,p.a5,p.a6,p.a7,p.a1,A.bT p.a2 p.a0.m.2.2.2.2.2.1,A.bT (A.bT p.a2<|A.k nP p.a3) p.a0.m.2.2.2.2.2.1,p.a5⟩)<|.ao (A.k Mm (vw p.a0,0,p.a7))<|.br (A.k YT (vw p.a0,0,p.a7)) (.ao (A.bQ (A.l<|Nc A p) 2199023255552)<|.ak<|.c1 ⟨NC p.a0<|Nc A p,p.a1,p.a2,p.a3,p.a4,p.a5,p.a6,p.a7,p.a1,A.bT p.a2 p.a0.m.2.2.2.2.2.1,A.bT (A.bT p.a2<|A.k nP p.a3) p.a0.m.2.2.2.2.2.1,p.a5⟩)<|.ao (A.bQ (A.l<|A.p p.a0.2.2.2.2.1 ([(p.a1,Nb A p,p.a5,p.a3,p.a4)]:List dx)) 2199023255552)<|.ak<|.c2 ⟨NC p.a0<|A.p p.a0.2.2.2.2.1 ([(p.a1,Nb A p,p.a5,p.a3,p.a4)]:List dx),p.a1,p.a2,p.a3,p.a4,p.a5,p.a6,p.a7,(p.a1,Nb A p,p.a5,p.a3,p.a4)⟩
 | .c1 p=>.br (A.not p.b0.1.1) (.ao (A.k nj (p.b0,p.b10,4,0,1))<|.qj A p.b0.n<|.ak<|.c3 ⟨(A.k qL (p.b0,p.b10,4,0,1)).1,p.b1,p.b2,p.b3,p.b4,p.b5,p.b6,p.b7⟩)<|.ak<|.c3 ⟨p.b0,p.b1,p.b2,p.b3,p.b4,p.b5,p.b6,p.b7⟩
 | .c2 p=>.br (A.not p.c0.1.1) (.ao (A.k nj (p.c0,p.c8.2.1.2,4,0,1))<|.qj A p.c0.n<|.ak<|.c3 ⟨(A.k qL (p.c0,p.c8.2.1.2,4,0,1)).1,p.c1,p.c2,p.c3,p.c4,p.c5,p.c6,p.c7⟩)<|.ak<|.c3 ⟨p.c0,p.c1,p.c2,p.c3,p.c4,p.c5,p.c6,p.c7⟩
 | .c3 p=>.br p.d6 (.ao (A.bQ (A.l<|Ng A p) 2199023255552)<|.ak<|.c4 ⟨Fo p.d0<|Ng A p,p.d1,p.d2,p.d3,p.d4,p.d5,p.d6,p.d7,p.d1,A.bT p.d2 p.d0.m.2.2.2.2.2.1,A.bT (A.bT p.d2<|A.k nP p.d3) p.d0.m.2.2.2.2.2.1,p.d5⟩)<|.ao (A.k Mm (vw p.d0,1,p.d7))<|.br (A.k YT (vw p.d0,1,p.d7)) (.ao (A.bQ (A.l<|Ng A p) 2199023255552)<|.ak<|.c4 ⟨Fo p.d0<|Ng A p,p.d1,p.d2,p.d3,p.d4,p.d5,p.d6,p.d7,p.d1,A.bT p.d2 p.d0.m.2.2.2.2.2.1,A.bT (A.bT p.d2<|A.k nP p.d3) p.d0.m.2.2.2.2.2.1,p.d5⟩)<|.ao (A.bQ (A.l<|A.p p.d0.2.2.2.2.2.1 ([(p.d1,Nf A p,p.d5,p.d3,p.d4)]:List dx)) 2199023255552)<|.ak<|.c5 ⟨Fo p.d0<|A.p p.d0.2.2.2.2.2.1 ([(p.d1,Nf A p,p.d5,p.d3,p.d4)]:List dx),p.d1,p.d2,p.d3,p.d4,p.d5,p.d6,p.d7,(p.d1,Nf A p,p.d5,p.d3,p.d4)⟩
 | .c4 p=>.br (A.not p.e0.2.1.1) (.ao (A.k nj (p.e0,p.e10,4,1,1))<|.qj A p.e0.n<|.ret ((A.k qL (p.e0,p.e10,4,1,1)).1,()))<|.ret (p.e0,())
 | .c5 p=>.br (A.not p.f0.2.1.1) (.ao (A.k nj (p.f0,p.f8.2.1.2,4,1,1))<|.qj A p.f0.n<|.ret ((A.k qL (p.f0,p.f8.2.1.2,4,1,1)).1,()))<|.ret (p.f0,())
def zD:Net×(Int×vP×gE)->Net×Unit:=λ(g,(i,f,c))=>gi (xq af) (agy af g i f c) (Ty.aO [kX],Ty.aO [])
def Hq:Net×(Int×vP×gE)->Bool:=λ(g,(i,f,c))=>gu (xq af) (agy af g i f c)&&decide (VF.lens [fL] (zD (g,(i,f,c))).1=VF.lens [fL] ((g,(i,f,c)):Net×(Int×vP×gE)).1)
def aqi:cn:=⟨[fL],[yI,JU,lf],[],Hq,zD,false,false⟩
theorem aht:cn.bp prog 106 aqi:=bV ar dK (.kP [0,0,0,1]) 180 [] [⟨165,4,[[0,3,65544,65546],[]]⟩,⟨165,6,[[0,3,9,65544,65546],[]]⟩] (λA (g,(i,f,c))=>agy A g i f c) xq akj ⟨(fc func106 (fc func165 (fc func166 (fc func228 fz)))),(sc arL (sc O7 (sc ah3 sz))),oz,iz,(mc G0 mz),(pc OJ (pc aqG pz))⟩ (λA y=>match y with |.c0 p=>⟨130,sl,by kernel_rfl⟩|.c1 p=>⟨46,sl,by kernel_rfl⟩|.c2 p=>⟨46,sl,by kernel_rfl⟩|.c3 p=>⟨130,sl,by kernel_rfl⟩|.c4 p=>⟨40,sl,by kernel_rfl⟩|.c5 p=>⟨40,sl,by kernel_rfl⟩) (λ((g,(i,f,c)):Net×(Int×vP×gE)) hp u h=>Fh hp) (z:=λ_ _ h=>Cf h)
structure Xe where(a0:Int)(a1:Net)(a2 a3:Int)(a4:fX)(a5:gE)
structure K8 where(b0:Int)(b1:Net)(b2 b3 b4:Int)(b5:List Int)(b6:gE)
structure Xf where(c0:Int)(c1:Net)(c2 c3:Int)(c4:fX)(c5 c6 c7:Int)(c10:gE)
structure Xg where(d0:Int)(d1:Net)(d2 d3 d4:Int)(d5:List Int)(d6:dx)(d7:gE)
structure PG where(e0:Int)(e1:Net)(e2 e3:Int)(e4:fX)(e5:gE)
structure PH where(f0:Int)(f1:Net)(f2 f3 f4:Int)(f5:List Int)(f6:gE)
structure FB where(g0:Int)(g1:Net)(g2 g3:Int)(g4:fX)(g5 g6 g7:Int)(g10:gE)
structure Xh where(h0:Int)(h1:Net)(h2 h3 h4:Int)(h5:List Int)(h6:dx)(h7:gE)
inductive Ut where|c0(p:Xe)|c1(p:K8)|c2(p:Xf)|c3(p:Xg)|c4(p:PG)|c5(p:PH)|c6(p:FB)|c7(p:Xh)
noncomputable def akl:Ut->iF
 | .c0 p=>⟨[vh 165 54 [(0,pZ 0),(3,.fn 179 [] [pZ 2,pZ 3,pZ 4]),(8,iZ 0),(10,iZ 0)] f165 1842,Jr 112 84 [(0,pZ 0),(4,pZ 2),(5,pZ 5),(6,.kR 1 p.a0 0)] f112 237 4],[bxX p.a1 6 7 8 1 9 10 11 12,bxN p.a1,vZ p.a2,vZ p.a3,dZ fq p.a4,dZ lf p.a5,bxC p.a1,bxD p.a1,bxQ p.a1 13,bxA p.a1,bxB p.a1,bxS p.a1,bxP p.a1,bxH p.a1,.aU]⟩
 | .c1 p=>⟨[vh 165 54 [(0,pZ 0),(3,.fn 180 [] [pZ 2,pZ 3,pZ 4]),(8,iZ 0),(10,iZ 0)] f165 1842,fDZ 112 84 [(0,pZ 0),(4,pZ 2),(5,pZ 5),(6,.kR 1 p.b0 0)] f112 255 4],[bxX p.b1 6 7 8 1 9 10 11 12,bxN p.b1,vZ p.b2,vZ p.b3,gZ [vi p.b4,.sl yU p.b5],dZ lf p.b6,bxC p.b1,bxD p.b1,bxQ p.b1 13,bxA p.b1,bxB p.b1,bxS p.b1,bxP p.b1,bxH p.b1,.aU]⟩
 | .c2 p=>⟨[vh 165 54 [(0,pZ 0),(3,.fn 179 [] [pZ 2,pZ 3,pZ 4]),(8,iZ 0),(9,pZ 5),(10,iZ 0)] f165 7374,Jr 112 84 [(0,pZ 0),(4,pZ 2),(5,pZ 6),(6,.kR 1 p.c0 0)] f112 237 4],[bxX p.c1 7 8 9 1 10 11 12 13,bxN p.c1,vZ p.c2,vZ p.c3,dZ fq p.c4,gZ [vi p.c5,vi p.c6,vi p.c7,vi 100,vi 0,.eT true],dZ lf p.c10,bxC p.c1,bxD p.c1,bxQ p.c1 14,bxA p.c1,bxB p.c1,bxS p.c1,bxP p.c1,bxH p.c1,.aU]⟩
 | .c3 p=>⟨[vh 165 54 [(0,pZ 0),(3,.fn 180 [] [pZ 2,pZ 3,pZ 4]),(8,iZ 0),(9,pZ 5),(10,iZ 0)] f165 7374,fDZ 112 84 [(0,pZ 0),(4,pZ 2),(5,pZ 6),(6,.kR 1 p.d0 0)] f112 255 4],[bxX p.d1 7 8 9 1 10 11 12 13,bxN p.d1,vZ p.d2,vZ p.d3,gZ [vi p.d4,.sl yU p.d5],dZ aY p.d6,dZ lf p.d7,bxC p.d1,bxD p.d1,bxQ p.d1 14,bxA p.d1,bxB p.d1,bxS p.d1,bxP p.d1,bxH p.d1,.aU]⟩
 | .c4 p=>⟨[vh 165 54 [(0,pZ 0),(3,.fn 179 [] [pZ 2,pZ 3,pZ 4]),(8,iZ 1),(10,iZ 1)] f165 1842,Jr 112 84 [(0,pZ 0),(4,pZ 2),(5,pZ 5),(6,.kR 1 p.e0 0)] f112 237 4],[bxX p.e1 6 7 8 1 9 10 11 12,bxN p.e1,vZ p.e2,vZ p.e3,dZ fq p.e4,dZ lf p.e5,bxC p.e1,bxD p.e1,bxQ p.e1 13,bxA p.e1,bxB p.e1,bxS p.e1,bxP p.e1,bxH p.e1,.aU]⟩
 | .c5 p=>⟨[vh 165 54 [(0,pZ 0),(3,.fn 180 [] [pZ 2,pZ 3,pZ 4]),(8,iZ 1),(10,iZ 1)] f165 1842,fDZ 112 84 [(0,pZ 0),(4,pZ 2),(5,pZ 5),(6,.kR 1 p.f0 0)] f112 255 4],[bxX p.f1 6 7 8 1 9 10 11 12,bxN p.f1,vZ p.f2,vZ p.f3,gZ [vi p.f4,.sl yU p.f5],dZ lf p.f6,bxC p.f1,bxD p.f1,bxQ p.f1 13,bxA p.f1,bxB p.f1,bxS p.f1,bxP p.f1,bxH p.f1,.aU]⟩
 | .c6 p=>⟨[vh 165 54 [(0,pZ 0),(3,.fn 179 [] [pZ 2,pZ 3,pZ 4]),(8,iZ 1),(9,pZ 5),(10,iZ 1)] f165 7374,Jr 112 84 [(0,pZ 0),(4,pZ 2),(5,pZ 6),(6,.kR 1 p.g0 0)] f112 237 4],[bxX p.g1 7 8 9 1 10 11 12 13,bxN p.g1,vZ p.g2,vZ p.g3,dZ fq p.g4,gZ [vi p.g5,vi p.g6,vi p.g7,vi 100,vi 0,.eT true],dZ lf p.g10,bxC p.g1,bxD p.g1,bxQ p.g1 14,bxA p.g1,bxB p.g1,bxS p.g1,bxP p.g1,bxH p.g1,.aU]⟩
 | .c7 p=>⟨[vh 165 54 [(0,pZ 0),(3,.fn 180 [] [pZ 2,pZ 3,pZ 4]),(8,iZ 1),(9,pZ 5),(10,iZ 1)] f165 7374,fDZ 112 84 [(0,pZ 0),(4,pZ 2),(5,pZ 6),(6,.kR 1 p.h0 0)] f112 255 4],[bxX p.h1 7 8 9 1 10 11 12 13,bxN p.h1,vZ p.h2,vZ p.h3,gZ [vi p.h4,.sl yU p.h5],dZ aY p.h6,dZ lf p.h7,bxC p.h1,bxD p.h1,bxQ p.h1 14,bxA p.h1,bxB p.h1,bxS p.h1,bxP p.h1,bxH p.h1,.aU]⟩
def RJ(A:aS)(f:Net)(i:Int)(c:gE):Bits×Int:=(A.k CF (1,0,(0,0,0,0,0),(A.k gM (vw f,10,i,c)).1.2.2.2.2.2.1,([]:List Int)))
def ac2(A:aS)(p:Xe):List dx:=(A.p p.a1.2.2.2.2.1 ([(p.a2,(A.bT p.a3 p.a1.m.2.2.2.2.2.1,A.bT (A.bT p.a3 p.a4.2.2.2.2.2.2) p.a1.m.2.2.2.2.2.1),100,0,([]:List Int))]:List dx))
def RL(A:aS)(p:K8):Int×Span×Int×Int×List Int:=(p.b2,(A.bT p.b3 p.b1.m.2.2.2.2.2.1,A.bT (A.bT p.b3<|A.k nP p.b4) p.b1.m.2.2.2.2.2.1),100,p.b4,p.b5)
def ac3(A:aS)(p:PG):List dx:=(A.p p.e1.2.2.2.2.2.1 ([(p.e2,(A.bT p.e3 p.e1.m.2.2.2.2.2.1,A.bT (A.bT p.e3 p.e4.2.2.2.2.2.2) p.e1.m.2.2.2.2.2.1),100,0,([]:List Int))]:List dx))
def RN(A:aS)(p:PH):Int×Span×Int×Int×List Int:=(p.f2,(A.bT p.f3 p.f1.m.2.2.2.2.2.1,A.bT (A.bT p.f3<|A.k nP p.f4) p.f1.m.2.2.2.2.2.1),100,p.f4,p.f5)
def tK(A:aS)(p:FB):Net:=(A.k qL (p.g1,p.g7,4,1,1)).1
def RO(A:aS)(p:FB):Bits×Int:=(A.k CF (1,0,(0,0,0,0,0),(A.k gM (vw<|tK A p,10,p.g2,p.g10)).1.2.2.2.2.2.1,([]:List Int)))
def RP(A:aS)(p:FB):Bits×Int:=(A.k CF (1,0,(0,0,0,0,0),(A.k gM (vw p.g1,10,p.g2,p.g10)).1.2.2.2.2.2.1,([]:List Int)))
def agz(A:aS)(f:Net)(i:Int)(c:gE):LT (Net×Unit) Ut:=.g_ A i f.n<|.ao (A.k j_ (vw f,9,i,c))<|.br (A.k gM (vw f,9,i,c)).2 (.ak<|.c0 ⟨i,f,i,A.bT (A.n bo f.n i:cB).2.1.1 (A.k gM (vw f,9,i,c)).1.2.2.2.2.2.1,(A.k gM (vw f,9,i,c)).1,c⟩)<|.ao (A.k j_ (vw f,10,i,c))<|.br (A.not (A.k gM (vw f,10,i,c)).2) (.ret (f,()))<|.br (A.cm (A.k DW (f.m,(A.n bo f.n i:cB).2.1)).2 0) (.ret (f,()))<|.br (A.cm (RJ A f i c).2 0) (.ret (f,()))<|.ak<|.c1 ⟨i,f,i,(A.k DW (f.m,(A.n bo f.n i:cB).2.1)).1,(RJ A f i c).1.1,(RJ A f i c).1.2,c⟩
def vH(A:aS):Ut->LT (Net×Unit) Ut
 | .c0 p=>.ao (A.bQ (A.l<|ac2 A p) 2199023255552)<|.ak<|.c2 ⟨p.a0,NC p.a1<|ac2 A p,p.a2,p.a3,p.a4,p.a2,A.bT p.a3 p.a1.m.2.2.2.2.2.1,A.bT (A.bT p.a3 p.a4.2.2.2.2.2.2) p.a1.m.2.2.2.2.2.1,p.a5⟩
 | .c1 p=>.ao (A.bQ (A.l<|A.p p.b1.2.2.2.2.1 ([(RL A p)]:List dx)) 2199023255552)<|.ak<|.c3 ⟨p.b0,NC p.b1<|A.p p.b1.2.2.2.2.1 ([(RL A p)]:List dx),p.b2,p.b3,p.b4,p.b5,RL A p,p.b6⟩
 | .c2 p=>.br (A.not p.c1.1.1) (.ao (A.k nj (p.c1,p.c7,4,0,1))<|.qj A p.c1.n<|.ak<|.c4 ⟨p.c0,(A.k qL (p.c1,p.c7,4,0,1)).1,p.c2,p.c3,p.c4,p.c10⟩)<|.ak<|.c4 ⟨p.c0,p.c1,p.c2,p.c3,p.c4,p.c10⟩
 | .c3 p=>.br (A.not p.d1.1.1) (.ao (A.k nj (p.d1,p.d6.2.1.2,4,0,1))<|.qj A p.d1.n<|.ak<|.c5 ⟨p.d0,(A.k qL (p.d1,p.d6.2.1.2,4,0,1)).1,p.d2,p.d3,p.d4,p.d5,p.d7⟩)<|.ak<|.c5 ⟨p.d0,p.d1,p.d2,p.d3,p.d4,p.d5,p.d7⟩
 | .c4 p=>.ao (A.bQ (A.l<|ac3 A p) 2199023255552)<|.ak<|.c6 ⟨p.e0,Fo p.e1<|ac3 A p,p.e2,p.e3,p.e4,p.e2,A.bT p.e3 p.e1.m.2.2.2.2.2.1,A.bT (A.bT p.e3 p.e4.2.2.2.2.2.2) p.e1.m.2.2.2.2.2.1,p.e5⟩
 | .c5 p=>.ao (A.bQ (A.l<|A.p p.f1.2.2.2.2.2.1 ([(RN A p)]:List dx)) 2199023255552)<|.ak<|.c7 ⟨p.f0,Fo p.f1<|A.p p.f1.2.2.2.2.2.1 ([(RN A p)]:List dx),p.f2,p.f3,p.f4,p.f5,RN A p,p.f6⟩
 | .c6 p=>.br (A.not p.g1.2.1.1) (.ao (A.k nj (p.g1,p.g7,4,1,1))<|.qj A p.g1.n<|.ao (A.k j_ (vw<|tK A p,10,p.g2,p.g10))<|.br (A.not (A.k gM (vw<|tK A p,10,p.g2,p.g10)).2) (.ret (tK A p,()))<|.br (A.cm (A.k DW ((tK A p).m,(A.n bo (tK A p).n p.g0:cB).2.1)).2 0) (.ret (tK A p,()))<|.br (A.cm (RO A p).2 0) (.ret (tK A p,()))<|.ak<|.c1 ⟨p.g0,tK A p,p.g2,(A.k DW ((tK A p).m,(A.n bo (tK A p).n p.g0:cB).2.1)).1,(RO A p).1.1,(RO A p).1.2,p.g10⟩)<|.ao (A.k j_ (vw p.g1,10,p.g2,p.g10))<|.br (A.not (A.k gM (vw p.g1,10,p.g2,p.g10)).2) (.ret (p.g1,()))<|.br (A.cm (A.k DW (p.g1.m,(A.n bo p.g1.n p.g0:cB).2.1)).2 0) (.ret (p.g1,()))<|.br (A.cm (RP A p).2 0) (.ret (p.g1,()))<|.ak<|.c1 ⟨p.g0,p.g1,p.g2,(A.k DW (p.g1.m,(A.n bo p.g1.n p.g0:cB).2.1)).1,(RP A p).1.1,(RP A p).1.2,p.g10⟩
 | .c7 p=>.br (A.not p.h1.2.1.1) (.ao (A.k nj (p.h1,p.h6.2.1.2,4,1,1))<|.qj A p.h1.n<|.ret ((A.k qL (p.h1,p.h6.2.1.2,4,1,1)).1,()))<|.ret (p.h1,())
def zG:Net×(Int×gE)->Net×Unit:=λ(f,(i,c))=>gi (vH af) (agz af f i c) (Ty.aO [kX],Ty.aO [])
def Q6:Net×(Int×gE)->Bool:=λ(f,(i,c))=>gu (vH af) (agz af f i c)&&decide (VF.lens [fL] (zG (f,(i,c))).1=VF.lens [fL] ((f,(i,c)):Net×(Int×gE)).1)
def aql:cn:=⟨[fL],[yI,lf],[],Q6,zG,false,false⟩
def apO:cn.bp prog 112 aql:=bV ar dK sl 133 [] [⟨165,4,[[0,3,65544,65546],[0,4,5,6]]⟩,⟨165,6,[[0,3,9,65544,65546],[0,4,5,6]]⟩] (λA (f,(i,c))=>agz A f i c) vH akl ⟨fc func112 (fc func165 (fc func179 (fc func180 (fc func228 fz)))),(sc arL (sc O7 (sc ah3 sz))),oz,iz,(mc G0 mz),(pc OJ pz)⟩ (λA y=>match y with |.c0 p=>⟨91,sl,by kernel_rfl⟩|.c1 p=>⟨93,sl,by kernel_rfl⟩|.c2 p=>⟨46,sl,by kernel_rfl⟩|.c3 p=>⟨46,sl,by kernel_rfl⟩|.c4 p=>⟨91,sl,by kernel_rfl⟩|.c5 p=>⟨93,sl,by kernel_rfl⟩|.c6 p=>⟨132,sl,by kernel_rfl⟩|.c7 p=>⟨40,sl,by kernel_rfl⟩) (λ((f,(i,c)):Net×(Int×gE)) hp g h=>Fh hp) (z:=λ_ _ h=>Cf h)
def rc(A:aS)(f:Net)(i:Int):Node×vP×Bool×Int:=(A.k ag2 (f.m,(A.n bo f.n i:cB).1))
def wT(A:aS)(f:Net)(i:Int):List cB:=(A.set f.n i ((rc A f i).1,(A.n bo f.n i:cB).2))
def yu(A:aS)(f:Net)(i:Int):Net:=(A.k Kq (sC f<|wT A f i,i)).1
def acy(A:aS)(f:Net)(i:Int)(c:gE):LT (Net×Bool) Empty:=.g_ A i f.n<|.br (A.cm (rc A f i).2.2.2 0) (.ret (f,true))<|.br (A.bG (rc A f i).1.2.1 1) (.ao (A.k Mn (sC f<|wT A f i,i))<|.qj A (wT A f i)<|.br (A.not (rc A f i).2.2.1) (.ret (yu A f i,A.k ot (rc A f i).1))<|.ao (A.k Hq (yu A f i,i,(rc A f i).2.1,c))<|.qj A (yu A f i).n<|.ret ((A.k zD (yu A f i,i,(rc A f i).2.1,c)).1,true))<|.br (A.not (rc A f i).2.2.1) (.ret (sC f<|wT A f i,A.k ot (rc A f i).1))<|.ao (A.k Hq (sC f<|wT A f i,i,(rc A f i).2.1,c))<|.qj A (wT A f i)<|.ret ((A.k zD (sC f<|wT A f i,i,(rc A f i).2.1,c)).1,true)
def xN:Net×(Int×gE)->Net×Bool:=λ(f,(i,c))=>gi Empty.elim (acy af f i c) (Ty.aO [kX],Ty.aO [.bool])
def Q7:Net×(Int×gE)->Bool:=λ(f,(i,c))=>gu Empty.elim (acy af f i c)&&decide (VF.lens [fL] (xN (f,(i,c))).1=VF.lens [fL] ((f,(i,c)):Net×(Int×gE)).1)
def aqm:cn:=⟨[fL],[yI,lf],[.bool],Q7,xN,false,false⟩
def apP:cn.bp prog 113 aqm:=bV ar dK sl 94 [] [] (λA (f,(i,c))=>acy A f i c) (λ_=>Empty.elim) Empty.elim ⟨fc func113 fz,(sc BW (sc arp sz)),oz,iz,(mc aht (mc ahu mz)),pz⟩ (λ_ y=>y.elim) (λ((f,(i,c)):Net×(Int×gE)) hp g h=>Fh hp) (z:=λ_ _ h=>Cf h)
def Di(A:aS)(f:Net)(i:Int):List cB:=(A.set f.n i ((A.k Gc (f.m,(A.n bo f.n i:cB).1)).1,(A.n bo f.n i:cB).2))
def IN(A:aS)(g:Net)(i:Int):List cB:=(md A bo (Di A g i) i λ(f:cB)=>up2 f<|A.bT f.2.2.1 1)
def M_(A:aS)(g:Net)(i:Int):List cB:=(md A bo (md A bo (IN A g i) i λ(f:cB)=>NC f<|A.bT f.2.2.2.2.1 1) i λ(h:cB)=>Dq h ((A.k gF (g.q,())).2,i,([]:List Int)))
def Dj(A:aS)(f:Net)(i:Int):Net×Int×vP×Int×Int×Int×Int×Int:=(RR f (A.k gF (f.q,())).1<|md A bo (md A bo (M_ A f i) i λ(g:cB)=>Fo g true) i λ(h:cB)=>Py h false,i,(A.k Gc (f.m,(A.n bo f.n i:cB).1)).2.1,(A.k Gc (f.m,(A.n bo f.n i:cB).1)).1.2.2.1)
def Na(A:aS)(f:Net)(i:Int):Net×Int×Int×Int:=(RR f (A.k gF (f.q,())).1<|IN A f i,A.bT (A.k gF (f.q,())).2<|A.bT f.m.2.1<|A.k zC (f.s,f.m.1,(A.n bo (Di A f i) i:cB).2.2.1,i),2,i)
def ach(A:aS)(f:Net)(i:Int):LT (Net×Unit) Empty:=.g_ A i f.n<|.br (A.cm (A.k Gc (f.m,(A.n bo f.n i:cB).1)).2.2.2 0) (.ret (f,()))<|.ao (A.k Mj (f.s,f.m.1,(A.n bo (Di A f i) i:cB).2.2.1,i))<|.br (A.not (A.k Gc (f.m,(A.n bo f.n i:cB).1)).2.2.1) (.ao (A.k nW (f.q,()))<|.ao (A.k wy<|Na A f i)<|.qj A (IN A f i)<|.ret ((A.k uo<|Na A f i).1,()))<|.ao (A.k nW (f.q,()))<|.ao (A.k Hq<|Dj A f i)<|.qj A (md A bo (md A bo (M_ A f i) i λ(g:cB)=>Fo g true) i λ(h:cB)=>Py h false)<|.ao (A.k CW ((A.k zD<|Dj A f i).1,i))<|.qj A (A.k zD<|Dj A f i).1.n<|.ret ((A.k Gk ((A.k zD<|Dj A f i).1,i)).1,())
def SQ:Net×Int->Net×Unit:=λ(f,i)=>gi Empty.elim (ach af f i) (Ty.aO [kX],Ty.aO [])
def QT:Net×Int->Bool:=λ(f,i)=>gu Empty.elim (ach af f i)&&decide (VF.lens [fL] (SQ (f,i)).1=VF.lens [fL] ((f,i):Net×Int).1)
def ap7:cn:=⟨[fL],[yI],[],QT,SQ,false,false⟩
def apF:cn.bp prog 64 ap7:=bV ar dK sl 144 [] [] (λA (f,i)=>ach A f i) (λ_=>Empty.elim) Empty.elim ⟨fc func64 fz,(sc ars (sc ah1 sz)),oz,iz,(mc GZ (mc KD (mc aht (mc ZQ mz)))),pz⟩ (λ_ y=>y.elim) (λ((f,i):Net×Int) hp g h=>Fh hp) (z:=λ_ _ h=>Cf h)
def acj(A:aS)(f:Net)(i:Int):LT (Net×Unit) Empty:=.ao (A.k u5 (f,i,true))<|.qj A f.n<|.ret ((A.k xM (f,i,true)).1,())
def SS:Net×Int->Net×Unit:=λ(f,i)=>gi Empty.elim (acj af f i) (Ty.aO [kX],Ty.aO [])
def QU:Net×Int->Bool:=λ(f,i)=>gu Empty.elim (acj af f i)&&decide (VF.lens [fL] (SS (f,i)).1=VF.lens [fL] ((f,i):Net×Int).1)
def ap8:cn:=⟨[fL],[yI],[],QU,SS,false,false⟩
def apG:cn.bp prog 65 ap8:=bV ar dK sl 11 [] [] (λA (f,i)=>acj A f i) (λ_=>Empty.elim) Empty.elim ⟨fc func65 fz,sz,oz,iz,(mc ZR mz),pz⟩ (λ_ y=>y.elim) (λ((f,i):Net×Int) hp g h=>Fh hp) (z:=λ_ _ h=>Cf h)
def acW(A:aS)(f:Net)(i:Int):List dx×Span×Span×Int:=(f.a,(A.k Ko (f.m,(A.n bo f.n i:cB).2.1)).1,(A.k xJ (f.m,(A.n bo f.n i:cB).2.1)).1,(A.n yI f.s.2.2.2.1 i:Int))
def qB(A:aS)(f:Net)(i:Int):List dx×Seen:=(A.k rW<|acW A f i)
def acX(A:aS)(f:Net)(i:Int):List dx×Span×Span×Int:=(f.b,(A.k Ko (f.m,(A.n bo f.n i:cB).2.1)).1,(A.k xJ (f.m,(A.n bo f.n i:cB).2.1)).1,(A.n yI f.s.2.2.2.1 i:Int))
def q_(A:aS)(f:Net)(i:Int):List dx×Seen:=(A.k rW<|acX A f i)
def AQ(A:aS)(f:Net)(i:Int):Node×pW×Int:=(A.k SD (f.m,(A.n bo f.n i:cB).1,A.p ([(qB A f i).2]:List Seen) ([(q_ A f i).2]:List Seen)))
def Dk(A:aS)(f:Net)(i:Int):List cB:=(A.set f.n i ((A.k SD (f.m,(A.n bo f.n i:cB).1,A.r 2 (Ty.gH pV:Seen))).1,(A.n bo f.n i:cB).2))
def Dl(A:aS)(f:Net)(i:Int):List cB:=(A.set f.n i ((AQ A f i).1,(A.n bo f.n i:cB).2))
def IT(A:aS)(f:Net)(i:Int):pW×Int:=(A.k SD (f.m,(A.n bo f.n i:cB).1,A.r 2 (Ty.gH pV:Seen))).2
def RH(A:aS)(f:Net)(i:Int):au×rh×Int:=(f.m,(A.n bo (Dl A f i) i:cB).2.1,(AQ A f i).2.1.2.2.2.2)
def RI(A:aS)(f:Net)(i:Int):au×rh×Int:=(f.m,(A.n bo (Dk A f i) i:cB).2.1,(IT A f i).1.2.2.2.2)
def agx(A:aS)(f:Net)(i:Int):LT (Net×Unit) Empty:=.g_ A i f.n<|.br (A.cm (A.k Ko (f.m,(A.n bo f.n i:cB).2.1)).2 0) (.ret (f,()))<|.br (A.cm (A.k xJ (f.m,(A.n bo f.n i:cB).2.1)).2 0) (.ret (f,()))<|.g_ A i f.s.2.2.2.1<|.ao (A.k CX<|acW A f i)<|.ao (A.bQ (A.l (([(qB A f i).2]:List Seen):List Seen)) 2932031007402)<|.ao (A.k CX<|acX A f i)<|.ao (A.bQ (A.l<|A.p ([(qB A f i).2]:List Seen) ([(q_ A f i).2]:List Seen)) 2932031007402)<|.ao (A.k j_ (vw f,6,i,(A.n bo f.n i:cB).1.2.2.1))<|.br (A.k gM (vw f,6,i,(A.n bo f.n i:cB).1.2.2.1)).2 (.ao (A.and (A.bG 2 2)<|A.and (A.bQ 0 2)<|A.bQ 2 2932031007402)<|.br (A.cm (IT A f i).2 0) (.ret (yv f (qB A f i).1 (q_ A f i).1,()))<|.br (A.cm (IT A f i).1.1 3) (.ret (nM f (Dk A f i) (qB A f i).1 (q_ A f i).1,()))<|.ao (A.k Hr<|RI A f i)<|.br (A.bG (A.k wZ<|RI A f i).2 0) (.ret (nM f (md A bo (Dk A f i) i λ(g:cB)=>Dq g (A.k wZ<|RI A f i).1) (qB A f i).1 (q_ A f i).1,()))<|.ret (nM f (Dk A f i) (qB A f i).1 (q_ A f i).1,()))<|.br (A.cm (AQ A f i).2.2 0) (.ret (yv f (qB A f i).1 (q_ A f i).1,()))<|.br (A.cm (AQ A f i).2.1.1 3) (.ret (nM f (Dl A f i) (qB A f i).1 (q_ A f i).1,()))<|.ao (A.k Hr<|RH A f i)<|.br (A.bG (A.k wZ<|RH A f i).2 0) (.ret (nM f (md A bo (Dl A f i) i λ(g:cB)=>Dq g (A.k wZ<|RH A f i).1) (qB A f i).1 (q_ A f i).1,()))<|.ret (nM f (Dl A f i) (qB A f i).1 (q_ A f i).1,())
def tc:Net×Int->Net×Unit:=λ(f,i)=>gi Empty.elim (agx af f i) (Ty.aO [kX],Ty.aO [])
def Q5:Net×Int->Bool:=λ(f,i)=>gu Empty.elim (agx af f i)&&decide (VF.lens [fL] (tc (f,i)).1=VF.lens [fL] ((f,i):Net×Int).1)
def aqg:cn:=⟨[fL],[yI],[],Q5,tc,false,false⟩
def apM:cn.bp prog 100 aqg:=bV ar dK (.kP [0,0,0,0,0,0,3,0,0,0,0,0,0,0,0,1,0,0,0,0,1]) 299 [] [] (λA (f,i)=>agx A f i) (λ_=>Empty.elim) Empty.elim ⟨fc func100 (fc func91 fz),(sc abe (sc art (sc ar9 (sc ar_ sz)))),oz,(ic ahh iz),mz,(pc OJ pz)⟩ (λ_ y=>y.elim) (λ((f,i):Net×Int) hp g h=>Fh hp) (z:=λ_ _ h=>Cf h)
structure ajc where(a0:Int)(a2:Net)(a3:gE)
structure ajd where(b0:Int)(b3:gE)
inductive aea where|c0(p:ajc)(a1:Int)|c1(p:ajd)(b1:Int)(b2:Net)
noncomputable def aki:aea->iF
 | .c0 p a1=>⟨[iN 101 102 [(0,pZ 0),(5,pZ 2),(34,vi p.a0),(35,vi a1)] f101 116],[bxX p.a2 3 4 5 1 6 7 8 9,bxN p.a2,dZ lf p.a3,bxC p.a2,bxD p.a2,bxQ p.a2 10,bxA p.a2,bxB p.a2,bxS p.a2,bxP p.a2,bxH p.a2,.aU]⟩
 | .c1 p b1 b2=>⟨[iN 101 102 [(0,pZ 0),(5,pZ 2),(52,.own 1),(53,vi p.b0),(54,vi b1)] f101 124],[bxX b2 3 4 5 1 6 7 8 9,bxN b2,dZ lf p.b3,bxC b2,bxD b2,bxQ b2 10,bxA b2,bxB b2,bxS b2,bxP b2,bxH b2,.aU]⟩
def IU(A:aS)(f:Int)(g:Net):Node:=(A.n bo g.n f:cB).1
def ob(A:aS)(f:Int):Int:=(A.bT f 1)
def acu(A:aS)(f:Net)(i:Int)(c:gE):LT (Net×Unit) aea:=.g_ A i f.n<|.br (A.not (A.n bo f.n i:cB).2.2.2.2.2.2.1) (.ret (f,()))<|.br (A.cm (A.n bo f.n i:cB).1.2.1 4) (.ret (f,()))<|.ak<|.c0 ⟨i,f,c⟩ 0
def Av(A:aS):aea->LT (Net×Unit) aea
 | .c0 p a1=>.br (A.bq a1 p.a0) (.g_ A a1 p.a2.n<|.br (A.bG (A.n bo p.a2.n a1:cB).1.2.1 4) (.ret (p.a2,()))<|.ak<|.c0 p<|A.bT a1 1)<|.ak<|.c1 ⟨A.l p.a2.n,p.a3⟩ 0 p.a2
 | .c1 p b1 b2=>.br (A.bq b1 p.b0) (.g_ A b1 b2.n<|.ao (A.k j_ (vw b2,2,b1,p.b3))<|.ao (A.k j_ (vw b2,1,b1,p.b3))<|.br (A.k gM (vw b2,2,b1,p.b3)).2 (.br (A.bG (IU A b1 b2).2.1 0) (.ao (A.k u5 (b2,b1,true))<|.qj A b2.n<|.ak<|.c1 p (ob A b1) (A.k xM (b2,b1,true)).1)<|.br (A.k gM (vw b2,1,b1,p.b3)).2 (.br (A.cm (IU A b1 b2).2.1 0) (.br (A.not<|A.k ot<|IU A b1 b2) (.ao (A.k u5 (b2,b1,false))<|.qj A b2.n<|.ak<|.c1 p (ob A b1) (A.k xM (b2,b1,false)).1)<|.ak<|.c1 p (ob A b1) b2)<|.ak<|.c1 p (ob A b1) b2)<|.ak<|.c1 p (ob A b1) b2)<|.br (A.k gM (vw b2,1,b1,p.b3)).2 (.br (A.cm (IU A b1 b2).2.1 0) (.br (A.not<|A.k ot<|IU A b1 b2) (.ao (A.k u5 (b2,b1,false))<|.qj A b2.n<|.ak<|.c1 p (ob A b1) (A.k xM (b2,b1,false)).1)<|.ak<|.c1 p (ob A b1) b2)<|.ak<|.c1 p (ob A b1) b2)<|.ak<|.c1 p (ob A b1) b2)<|.ret (b2,())
def Gj:Net×(Int×gE)->Net×Unit:=λ(f,(i,c))=>gi (Av af) (acu af f i c) (Ty.aO [kX],Ty.aO [])
def CV:Net×(Int×gE)->Bool:=λ(f,(i,c))=>gu (Av af) (acu af f i c)&&decide (VF.lens [fL] (Gj (f,(i,c))).1=VF.lens [fL] ((f,(i,c)):Net×(Int×gE)).1)
def aqh:cn:=⟨[fL],[yI,lf],[],CV,Gj,false,false⟩
def apN:cn.bp prog 101 aqh:=bV ar dK (.kP [0,0,2]) 45 [⟨101,3,[[0,5,34,35]]⟩,⟨101,8,[[0,5,52,53,54]]⟩] [] (λA (f,(i,c))=>acu A f i c) Av aki ⟨fc func101 fz,(sc BW sz),oz,iz,(mc ZR mz),(pc OJ pz)⟩ (λA y=>match y with |.c0 p a1=>⟨40,sl,by kernel_rfl⟩|.c1 p b1 b2=>⟨92,sl,by kernel_rfl⟩) (λ((f,(i,c)):Net×(Int×gE)) hp g h=>Fh hp) (z:=λ_ _ h=>Cf h)
structure zV where(a0 a1:Int)(a2:Net)
inductive Xz where|c0(p:zV)
noncomputable def akc:Xz->iF
 | .c0 p=>⟨[vh 63 138 [(0,pZ 0),(1,vi p.a0),(4,.kR 1 p.a1 0)] f63 508],[bxX p.a2 2 3 4 1 5 6 7 8,bxN p.a2,bxC p.a2,bxD p.a2,bxQ p.a2 9,bxA p.a2,bxB p.a2,bxS p.a2,bxP p.a2,bxH p.a2,.aU]⟩
def AN(A:aS)(f:Net)(i:Int):cB:=(A.n bo f.n i:cB)
def M8(A:aS)(f:Net)(i:Int):Net×Int×Int×Int×Int×Int×Int:=(sC f<|md A bo f.n i λ(g:cB)=>Fo g false,i,(AN A f i).1.2.2.1)
def M9(A:aS)(f:Net)(i:Int):Net×Int×Int×Int×Int×Int×Int:=(sC (A.k tc (f,i)).1<|md A bo (A.k tc (f,i)).1.n i λ(g:cB)=>Fo g false,i,(AN A f i).1.2.2.1)
def AO(A:aS)(p:zV):Node×Int:=(A.k YC (p.a2.m,(A.n bo p.a2.n p.a1:cB).1))
def wS(A:aS)(p:zV):List cB:=(A.set p.a2.n p.a1 ((AO A p).1,(A.n bo p.a2.n p.a1:cB).2))
def yj(A:aS)(p:zV):rh×Int:=(A.k Kk (p.a2.m,(A.n bo (wS A p) p.a1:cB).2.1,A.k zC (p.a2.s,p.a2.m.1,(A.n bo (wS A p) p.a1:cB).2.2.1,p.a0)))
def acT(A:aS)(p:zV):List cB:=(md A bo (wS A p) p.a1 λ(f:cB)=>Dq f (yj A p).1)
def yk(A:aS)(p:zV):List cB:=(md A bo (acT A p) p.a1 λ(f:cB)=>up2 f<|A.bT f.2.2.1 1)
def IM(A:aS)(p:zV):List fB:=(A.p p.a2.z ([((AO A p).1.2.2.1.1,A.k xL (AO A p).1)]:List fB))
abbrev acg(A:aS)(f:Net)(i:Int):LT (Net×Unit) Xz:=(.ao (A.k CV<|M8 A f i)<|.qj A (md A bo f.n i λ(g:cB)=>Fo g false)<|.ak<|.c0 ⟨i,i,(A.k Gj<|M8 A f i).1⟩)
def acf(A:aS)(f:Net)(i:Int):LT (Net×Unit) Xz:=.g_ A i f.n<|.br (A.not<|A.k ot (AN A f i).1) (.ret (f,()))<|.br (A.not (AN A f i).2.2.2.2.2.1) (.br (A.cm (AN A f i).1.2.2.1.2.1 i) (.ao (A.k Q5 (f,i))<|.qj A f.n<|.ao (A.k CV<|M9 A f i)<|.qj A (md A bo (A.k tc (f,i)).1.n i λ(g:cB)=>Fo g false)<|.ak<|.c0 ⟨i,i,(A.k Gj<|M9 A f i).1⟩)<|acg A f i)<|acg A f i
def OY(A:aS):Xz->LT (Net×Unit) Xz
 | .c0 p=>.br (A.not<|A.k ot (A.n bo p.a2.n p.a1:cB).1) (.ret (p.a2,()))<|.br (A.cm (AO A p).2 0) (.ret (p.a2,()))<|.ao (A.k Mj (p.a2.s,p.a2.m.1,(A.n bo (wS A p) p.a1:cB).2.2.1,p.a0))<|.ao (A.k QX (p.a2.m,(A.n bo (wS A p) p.a1:cB).2.1,A.k zC (p.a2.s,p.a2.m.1,(A.n bo (wS A p) p.a1:cB).2.2.1,p.a0)))<|.br (A.cm (yj A p).2 0) (.ret (sC p.a2<|md A bo (wS A p) p.a1 λ(f:cB)=>lp7 f true,()))<|.br (A.bG (AO A p).1.2.2.1.2.1 0) (.ao (A.k ya (AO A p).1)<|.ao (A.bQ (A.l<|IM A p) 651562446089)<|.ao (A.k wy (ac9 p.a2 (yk A p)<|IM A p,(yj A p).1.1,5,p.a0))<|.qj A (yk A p)<|.ret ((A.k uo (ac9 p.a2 (yk A p)<|IM A p,(yj A p).1.1,5,p.a0)).1,()))<|.ao (A.k wy (sC p.a2<|yk A p,(yj A p).1.1,5,p.a0))<|.qj A (yk A p)<|.ret ((A.k uo (sC p.a2<|yk A p,(yj A p).1.1,5,p.a0)).1,())
def SP:Net×Int->Net×Unit:=λ(f,i)=>gi (OY af) (acf af f i) (Ty.aO [kX],Ty.aO [])
def QS:Net×Int->Bool:=λ(f,i)=>gu (OY af) (acf af f i)&&decide (VF.lens [fL] (SP (f,i)).1=VF.lens [fL] ((f,i):Net×Int).1)
def ap6:cn:=⟨[fL],[yI],[],QS,SP,false,false⟩
def apE:cn.bp prog 63 ap6:=bV ar dK sl 75 [] [⟨63,7,[[0,1,4]]⟩] (λA (f,i)=>acf A f i) OY akc ⟨fc func63 fz,(sc BW (sc arq (sc abt (sc ar7 (sc ah1 sz))))),oz,iz,(mc KD (mc apM (mc apN mz))),pz⟩ (λA y=>match y with |.c0 p=>⟨143,.kP [0,0,0,0,1,2],by kernel_rfl⟩) (λ((f,i):Net×Int) hp g h=>Fh hp) (z:=λ_ _ h=>Cf h)
structure ai7 where(a0:Int)(a1:Net)
structure Cj where(b0:List dP)(b1 b3:Int)(b6:gK)(b13 Co:Int)
inductive XA where|c0(p:ai7)|c1(p:Cj)(b2:Int)(b4:Net)
noncomputable def akd:XA->iF
 | .c0 p=>⟨[vh 66 131 [(1,vi p.a0),(2,pZ 2),(4,pZ 3)] f66 508],[bxX p.a1 4 5 6 1 7 8 9 10,bxN p.a1,gZ [pZ 0],gZ [.kR 1 p.a0 0],bxC p.a1,bxD p.a1,bxQ p.a1 11,bxA p.a1,bxB p.a1,bxS p.a1,bxP p.a1,bxH p.a1,.aU]⟩
 | .c1 p b2 b4=>⟨[iN 172 37 [(0,.yield 2),(2,pZ 3),(3,pZ 4),(4,pZ 5),(8,.sl fv p.b0),(9,vi p.b1),(10,vi b2)] f172 12,⟨66,131,en [(1,vi p.b3),(2,pZ 6),(4,pZ 7)],[.oA 2,.inBlock 0,.code<|cw f66 255],[8],none⟩],[bxX b4 9 10 11 1 12 13 14 15,bxN b4,.loop ⟨66,131,en [(1,vi p.b3),(2,pZ 6),(4,pZ 7),(70,pZ 0),(71,pZ 0),(72,.ptr 0 19),(73,.agg<|dc gb p.b6),(74,vi p.b3),(75,.kR 1 p.b3 0),(76,.kR 1 p.b3 0),(77,.kR 1 p.b3 0),(78,.kR 1 p.b3 2),(79,.kR 1 p.b3 2),(80,vi p.b13),(81,.kR 1 p.b3 0),(82,.kR 1 p.b3 0),(83,.kR 1 p.b3 0),(84,.kR 1 p.b3 2),(85,.kR 1 p.b3 3),(86,vi p.Co),(87,.fn 172 [] [pZ 16,pZ 3,pZ 4,pZ 5])],[88],cw f66 2036,cw f66 2037,0,none⟩,vZ p.b3,vZ p.b13,vZ p.Co,gZ [pZ 0],gZ [.kR 1 p.b3 0],.FU,bxC b4,bxD b4,bxQ b4 17,bxA b4,bxB b4,bxS b4,bxP b4,gZ [.sl fv p.b0],bxH b4,.aU]⟩
def AP(A:aS)(f:Net)(i:Int):cB:=(A.n bo f.n i:cB)
def tJ(A:aS)(p:Cj)(f:Net):cB:=(A.n bo f.n p.b3:cB)
def yp(A:aS)(p:Cj)(f:Net):Net:=(A.k zG (f,p.b3,(tJ A p f).1.2.2.1)).1
def yn(A:aS)(p:Cj)(f:Net):Net×Int×Int×Int×Int×Int×Int:=(yp A p f,p.b3,(tJ A p f).1.2.2.1)
abbrev acm(A:aS)(f:Net)(i:Int):LT (Net×Unit) XA:=(.ao (A.k j_ (vw f,1,i,(AP A f i).1.2.2.1))<|.br (A.k gM (vw f,1,i,(AP A f i).1.2.2.1)).2 (.ao (A.k u5 (f,i,false))<|.qj A f.n<|.ret ((A.k xM (f,i,false)).1,()))<|.ak<|.c0 ⟨i,sC f<|md A bo f.n i λ(g:cB)=>Py g<|A.bG g.1.2.1 4⟩)
def ack(A:aS)(f:Net)(i:Int):LT (Net×Unit) XA:=.g_ A i f.n<|.br (A.not<|A.k ot (AP A f i).1) (.ret (f,()))<|.br (A.bG (AP A f i).1.2.2.1.1 f.r) (.br (A.bG (AP A f i).1.2.2.1.2.1 0) (.ret (sC f<|md A bo f.n i λ(g:cB)=>lp7 g true,()))<|acm A f i)<|acm A f i
def BU(A:aS):XA->LT (Net×Unit) XA
 | .c0 p=>.ao (A.k QL p.a1.s.2.2.2.2.2.2.1)<|.ak<|.c1 ⟨A.k YN p.a1.s.2.2.2.2.2.2.1,A.l<|A.k YN p.a1.s.2.2.2.2.2.2.1,p.a0,p.a1.s,(A.n bo p.a1.n p.a0:cB).1.2.2.1.1,(A.n bo p.a1.n p.a0:cB).1.2.2.1.2.1⟩ 0 p.a1
 | .c1 p b2 b4=>.br (A.bq b2 p.b1) (.g_ A b2 p.b0<|.br (A.bG (A.n fv p.b0 b2:dP).1 p.b3) (.br (A.bG (A.n fv p.b0 b2:dP).2.1 p.b13) (.br (A.bG (A.n fv p.b0 b2:dP).2.2.1 p.Co) (.br (A.bG (A.k SC (b4.m,(tJ A p b4).1,(A.n fv p.b0 b2:dP))).2 0) (.ak<|.c1 p (A.bT b2 1)<|sC b4<|A.set b4.n p.b3 ((A.k SC (b4.m,(tJ A p b4).1,(A.n fv p.b0 b2:dP))).1,(tJ A p b4).2))<|.ak<|.c1 p (A.bT b2 1) b4)<|.ak<|.c1 p (A.bT b2 1) b4)<|.ak<|.c1 p (A.bT b2 1) b4)<|.ak<|.c1 p (A.bT b2 1) b4)<|.ao (A.k Q6 (b4,p.b3,(tJ A p b4).1.2.2.1))<|.qj A b4.n<|.br (A.bG (tJ A p b4).1.2.2.1.2.1 p.b3) (.ao (A.k Q7<|yn A p b4)<|.qj A (yp A p b4).n<|.br (A.not (A.k xN<|yn A p b4).2) (.ret ((A.k xN<|yn A p b4).1,()))<|.ao (A.k CW ((A.k xN<|yn A p b4).1,p.b3))<|.qj A (A.k xN<|yn A p b4).1.n<|.ret ((A.k Gk ((A.k xN<|yn A p b4).1,p.b3)).1,()))<|.ao (A.k CW (yp A p b4,p.b3))<|.qj A (yp A p b4).n<|.ret ((A.k Gk (yp A p b4,p.b3)).1,())
def SU:Net×Int->Net×Unit:=λ(f,i)=>gi (BU af) (ack af f i) (Ty.aO [kX],Ty.aO [])
def QV:Net×Int->Bool:=λ(f,i)=>gu (BU af) (ack af f i)&&decide (VF.lens [fL] (SU (f,i)).1=VF.lens [fL] ((f,i):Net×Int).1)
def ap9:cn:=⟨[fL],[yI],[],QV,SU,false,false⟩
def apH:cn.bp prog 66 ap9:=bV ar dK sl 99 [⟨172,1,[[0,2,3,4,8,9,10],[1,2,4]]⟩] [⟨66,9,[[1,2,4]]⟩] (λA (f,i)=>ack A f i) BU akd ⟨fc func66 (fc func110 (fc func172 fz)),(sc BW (sc aro (sc arX sz))),oz,iz,(mc ZQ (mc ZR (mc apO (mc apP mz)))),(pc OJ pz)⟩ (λA y=>match y with |.c0 p=>⟨57,sl,by kernel_rfl⟩|.c1 p b2 b4=>⟨94,sl,by kernel_rfl⟩) (λ((f,i):Net×Int) hp g h=>Fh hp) (z:=λ_ _ h=>Cf h)
structure K4 where(a0:Int)(a2:Net)(a3 a4 a5:Int)
structure ai5 where(b0 b1 b2:Int)(b3:Bool)(b4 b5 b6:Int)(b7:Net)(b8 b9 b10:Int)(b11:Node)
inductive ad3 where|c0(p:K4)(a1:Int)|c1(p:ai5)
noncomputable def akb:ad3->iF
 | .c0 p a1=>⟨[iN 61 95 [(0,pZ 0),(4,pZ 2),(22,vi p.a0),(23,vi a1)] f61 28],[bxX p.a2 3 4 5 1 6 7 8 9,bxN p.a2,gZ [vi p.a3,vi p.a4,vi p.a5],bxC p.a2,bxD p.a2,bxQ p.a2 10,bxA p.a2,bxB p.a2,bxS p.a2,bxP p.a2,bxH p.a2,.aU]⟩
 | .c1 p=>⟨[vh 61 95 [(0,pZ 0),(4,pZ 2),(5,vi p.b0),(6,.kR 1 p.b1 0),(7,pZ 3),(8,vi p.b2),(9,vb p.b3),(10,vi p.b4),(22,vi p.b5),(23,vi p.b6)] f61 29500],[bxX p.b7 4 5 6 1 7 8 9 10,bxN p.b7,gZ [vi p.b8,vi p.b9,vi p.b10],dZ fE p.b11,bxC p.b7,bxD p.b7,bxQ p.b7 11,bxA p.b7,bxB p.b7,bxS p.b7,bxP p.b7,bxH p.b7,.aU]⟩
def IK(A:aS)(p:K4)(a1:Int):List dx×Span×Span×Int:=(p.a2.a,(p.a3,p.a4),(p.a3,A.bT p.a3 1),(A.n yI p.a2.s.2.2.2.1 a1:Int))
def IJ(A:aS)(p:K4)(a1:Int):List Seen:=(A.p ([(A.k rW<|IK A p a1).2]:List Seen) ([(A.k rW (p.a2.b,(p.a3,p.a4),(p.a3,A.bT p.a3 1),(A.n yI p.a2.s.2.2.2.1 a1:Int))).2]:List Seen))
def Df(A:aS)(p:K4)(a1:Int):Node×Int×Bool×Int:=(A.k ag1 (p.a2.m,(A.n bo p.a2.n a1:cB).1,IJ A p a1))
def acd(A:aS)(g:Net)(f:Int):LT (Net×Unit) ad3:=.g_ A f g.o<|.ak<|.c0 ⟨A.l g.n,g,(A.n jJ g.o f:A7).1.1,(A.n jJ g.o f:A7).1.2,(A.n jJ g.o f:A7).2⟩ 0
def MH(A:aS):ad3->LT (Net×Unit) ad3
 | .c0 p a1=>.br (A.bq a1 p.a0) (.g_ A a1 p.a2.n<|.br (A.cm (A.n bo p.a2.n a1:cB).1.2.1 1) (.ak<|.c0 p<|A.bT a1 1)<|.br (A.jr (A.n bo p.a2.n a1:cB).2.2.2.1 p.a3) (.ak<|.c0 p<|A.bT a1 1)<|.br (A.bG p.a5 a1) (.ak<|.c0 p<|A.bT a1 1)<|.g_ A a1 p.a2.s.2.2.2.1<|.ao (A.k CX<|IK A p a1)<|.ao (A.bQ (A.l (([(A.k rW<|IK A p a1).2]:List Seen):List Seen)) 2932031007402)<|.ao (A.k CX (p.a2.b,(p.a3,p.a4),(p.a3,A.bT p.a3 1),(A.n yI p.a2.s.2.2.2.1 a1:Int)))<|.ao (A.bQ (A.l<|IJ A p a1) 2932031007402)<|.ak<|.c1 ⟨a1,a1,(Df A p a1).2.1,(Df A p a1).2.2.1,(Df A p a1).2.2.2,p.a0,a1,yv p.a2 (A.k rW<|IK A p a1).1 (A.k rW (p.a2.b,(p.a3,p.a4),(p.a3,A.bT p.a3 1),(A.n yI p.a2.s.2.2.2.1 a1:Int))).1,p.a3,p.a4,p.a5,(Df A p a1).1⟩)<|.ret (p.a2,())
 | .c1 p=>.br (A.cm p.b4 0) (.ak<|.c0 ⟨p.b5,p.b7,p.b8,p.b9,p.b10⟩<|A.bT p.b6 1)<|.br (A.not p.b3) (.ak<|.c0 ⟨p.b5,sC p.b7<|md A bo p.b7.n p.b1 λ(f:cB)=>VU f p.b11,p.b8,p.b9,p.b10⟩<|A.bT p.b6 1)<|.ao (A.k Q0 (p.b7,p.b0,p.b11,p.b2))<|.qj A p.b7.n<|.ak<|.c0 ⟨p.b5,(A.k SY (p.b7,p.b0,p.b11,p.b2)).1,p.b8,p.b9,p.b10⟩<|A.bT p.b6 1
def SO:Net×Int->Net×Unit:=λ(g,f)=>gi (MH af) (acd af g f) (Ty.aO [kX],Ty.aO [])
def QR:Net×Int->Bool:=λ(g,f)=>gu (MH af) (acd af g f)&&decide (VF.lens [fL] (SO (g,f)).1=VF.lens [fL] ((g,f):Net×Int).1)
def ap4:cn:=⟨[fL],[yI],[],QR,SO,false,false⟩
def apC:cn.bp prog 61 ap4:=bV ar dK sl 29 [⟨61,2,[[0,4,22,23]]⟩] [⟨61,7,[[0,4,5,6,7,8,9,10,22,23]]⟩] (λA (g,f)=>acd A g f) MH akb ⟨fc func61 (fc func91 fz),(sc arl sz),oz,(ic ahh iz),(mc apL mz),pz⟩ (λA y=>match y with |.c0 p a1=>⟨214,.kP [0,0,0,0,0,0,0,0,3],by kernel_rfl⟩|.c1 p=>⟨31,sl,by kernel_rfl⟩) (λ((g,f):Net×Int) hp u h=>Fh hp) (z:=λ_ _ h=>Cf h)
structure Wc where(a1:Int)(a3:List dx)(a4:au)(a5:Bool)(a6 a7 a8 a9:Int)
structure Wd where(b1:Int)(b3:List dx)(b4:au)(b5:Bool)(b6 b7 b8 b9:Int)
inductive adr where|c0(p:Wc)(a2:Int)|c1(p:Wd)(b0 b2:Int)(E0:dx)
noncomputable def ajr:adr->iF
 | .c0 p a2=>⟨[iN 205 53 [(4,pZ 1),(5,pZ 2),(6,pZ 3),(8,pZ 4),(10,pZ 5),(11,vi 0),(14,.own 0),(15,vi p.a1),(16,vi a2)] f205 244],[aZ aY p.a3,dZ aW p.a4,gZ [vb p.a5,vi p.a6,vi p.a7],gZ [vi p.a8,vi p.a9],gZ [vi 0,vi 0,vi 0,vi 0,vi 0,.eT true],gZ [vi 0,vi 0,vi 0,vi 0,vi 0,.eT true],.aU]⟩
 | .c1 p b0 b2 f=>⟨[iN 205 53 [(4,pZ 1),(5,pZ 2),(6,pZ 3),(8,pZ 4),(10,pZ 5),(11,vi b0),(14,.own 0),(15,vi p.b1),(16,vi b2)] f205 244],[aZ aY p.b3,dZ aW p.b4,gZ [vb p.b5,vi p.b6,vi p.b7],gZ [vi p.b8,vi p.b9],gZ [vi 0,vi 0,vi 0,vi 0,vi 0,.eT true],dZ aY f,.aU]⟩
def aga(A:aS)(l:List dx)(m:au)(g:rN)(f:Span):LT (List dx×(dx×Bool)) adr:=.ak<|.c0 ⟨A.l l,l,m,g.1,g.2.1,g.2.2,f.1,f.2⟩ 0
def Mz(A:aS):adr->LT (List dx×(dx×Bool)) adr
 | .c0 p a2=>.br (A.bq a2 p.a1) (.g_ A a2 p.a3<|.br (A.bG (A.n aY p.a3 a2:dx).1 p.a7) (.br (A.qE (A.n aY p.a3 a2:dx).2.1.1 p.a8) (.br (A.bq (A.n aY p.a3 a2:dx).2.1.1 p.a9) (.br (A.k NY (p.a4,(A.n aY p.a3 a2:dx))) (.ak<|.c1 ⟨p.a1,p.a3,p.a4,p.a5,p.a6,p.a7,p.a8,p.a9⟩ (A.bT 0 1) (A.bT a2 1) (A.n aY p.a3 a2:dx))<|.ak<|.c0 p<|A.bT a2 1)<|.ak<|.c0 p<|A.bT a2 1)<|.ak<|.c0 p<|A.bT a2 1)<|.ak<|.c0 p<|A.bT a2 1)<|.ret (p.a3,(0,(0,0),0,0,([]:List Int)),A.bG 0 1)
 | .c1 p b0 b2 f=>.br (A.bq b2 p.b1) (.g_ A b2 p.b3<|.br (A.bG (A.n aY p.b3 b2:dx).1 p.b7) (.br (A.qE (A.n aY p.b3 b2:dx).2.1.1 p.b8) (.br (A.bq (A.n aY p.b3 b2:dx).2.1.1 p.b9) (.br (A.k NY (p.b4,(A.n aY p.b3 b2:dx))) (.ak<|.c1 p (A.bT b0 1) (A.bT b2 1) (A.n aY p.b3 b2:dx))<|.ak<|.c1 p b0 (A.bT b2 1) f)<|.ak<|.c1 p b0 (A.bT b2 1) f)<|.ak<|.c1 p b0 (A.bT b2 1) f)<|.ak<|.c1 p b0 (A.bT b2 1) f)<|.ret (p.b3,f,A.bG b0 1)
def Ka:List dx×(au×rN×Span)->List dx×(dx×Bool):=λ(l,(m,g,f))=>gi (Mz af) (aga af l m g f) ([],Ty.aO [aY,.bool])
def QF:List dx×(au×rN×Span)->Bool:=λ(l,(m,g,f))=>gu (Mz af) (aga af l m g f)&&decide ((Ka (l,(m,g,f))).1.length=l.length)
def ao9:fH:=⟨aY,[aW,d_,jV],[],[aY,.bool],QF,Ka,true⟩
def aoW:fH.bp prog 205 ao9:=fA ar dK sl 31 [⟨205,4,[[4,5,6,8,10,11,14,15,16]]⟩] [] (λA (l,(m,g,f))=>aga A l m g f) Mz ajr (kz (fc func205 fz) (sc ahI sz)) (λA y=>match y with |.c0 p a2=>⟨67,sl,by kernel_rfl⟩|.c1 p b0 b2 u=>⟨67,sl,by kernel_rfl⟩) λ((l,(m,g,f)):List dx×(au×rN×Span)) hp v h=>⟨of_decide_eq_true ((eH _ _).mp hp).2,Fh hp⟩
structure Pz where(a1:Int)(a3:List dx)(a4:au)
structure PD where(b1:Int)(b3:List dx)(b4:au)
inductive ads where|c0(p:Pz)(a2:Int)|c1(p:PD)(b2:Int)(b10:dx)
noncomputable def ajs:ads->iF
 | .c0 p a2=>⟨[iN 206 74 [(2,pZ 1),(4,pZ 2),(6,pZ 3),(7,vb false),(12,.own 0),(13,vi p.a1),(14,vi a2)] f206 244],[aZ aY p.a3,dZ aW p.a4,gZ [vi 0,vi 0,vi 0,vi 0,vi 0,.eT true],gZ [vi 0,vi 0,vi 0,vi 0,vi 0,.eT true],.aU]⟩
 | .c1 p b2 b10=>⟨[iN 206 74 [(2,pZ 1),(4,pZ 2),(6,pZ 3),(7,vb true),(12,.own 0),(13,vi p.b1),(14,vi b2)] f206 244],[aZ aY p.b3,dZ aW p.b4,gZ [vi 0,vi 0,vi 0,vi 0,vi 0,.eT true],dZ aY b10,.aU]⟩
def wP(A:aS)(p:Pz)(a2:Int):dx:=(A.n aY p.a3 a2:dx)
def wQ(A:aS)(p:PD)(f:Int):dx:=(A.n aY p.b3 f:dx)
def agb(A:aS)(l:List dx)(m:au):LT (List dx×(dx×Bool)) ads:=.ak<|.c0 ⟨A.l l,l,m⟩ 0
def MB(A:aS):ads->LT (List dx×(dx×Bool)) ads
 | .c0 p a2=>.br (A.bq a2 p.a1) (.g_ A a2 p.a3<|.br (A.not (A.k NZ (wP A p a2).2.2.2).2) (.ak<|.c0 p<|A.bT a2 1)<|.br (A.bq (wP A p a2).2.1.1<|A.bT p.a4.2.2.1 p.a4.2.2.2.2.2.1) (.ak<|.c0 p<|A.bT a2 1)<|.br (A.not<|A.k NY (p.a4,wP A p a2)) (.ak<|.c0 p<|A.bT a2 1)<|.br (A.not false) (.ak<|.c1 ⟨p.a1,p.a3,p.a4⟩ (A.bT a2 1)<|wP A p a2)<|.br (A.bq (wP A p a2).2.1.1 0) (.ak<|.c1 ⟨p.a1,p.a3,p.a4⟩ (A.bT a2 1)<|wP A p a2)<|.br (A.bG (wP A p a2).2.1.1 0) (.br (A.bq (wP A p a2).1 0) (.ak<|.c1 ⟨p.a1,p.a3,p.a4⟩ (A.bT a2 1)<|wP A p a2)<|.ak<|.c0 p<|A.bT a2 1)<|.ak<|.c0 p<|A.bT a2 1)<|.ret (p.a3,(0,(0,0),0,0,([]:List Int)),false)
 | .c1 p b2 b10=>.br (A.bq b2 p.b1) (.g_ A b2 p.b3<|.br (A.not (A.k NZ (wQ A p b2).2.2.2).2) (.ak<|.c1 p (A.bT b2 1) b10)<|.br (A.bq (wQ A p b2).2.1.1<|A.bT p.b4.2.2.1 p.b4.2.2.2.2.2.1) (.ak<|.c1 p (A.bT b2 1) b10)<|.br (A.not<|A.k NY (p.b4,wQ A p b2)) (.ak<|.c1 p (A.bT b2 1) b10)<|.br (A.not true) (.ak<|.c1 p (A.bT b2 1)<|wQ A p b2)<|.br (A.bq (wQ A p b2).2.1.1 b10.2.1.1) (.ak<|.c1 p (A.bT b2 1)<|wQ A p b2)<|.br (A.bG (wQ A p b2).2.1.1 b10.2.1.1) (.br (A.bq (wQ A p b2).1 b10.1) (.ak<|.c1 p (A.bT b2 1)<|wQ A p b2)<|.ak<|.c1 p (A.bT b2 1) b10)<|.ak<|.c1 p (A.bT b2 1) b10)<|.ret (p.b3,b10,true)
def Kb:List dx×au->List dx×(dx×Bool):=λ(l,m)=>gi (MB af) (agb af l m) ([],Ty.aO [aY,.bool])
def QG:List dx×au->Bool:=λ(l,m)=>gu (MB af) (agb af l m)&&decide ((Kb (l,m)).1.length=l.length)
def ao_:fH:=⟨aY,[aW],[],[aY,.bool],QG,Kb,true⟩
def aoX:fH.bp prog 206 ao_:=fA ar dK sl 29 [⟨206,4,[[2,4,6,7,12,13,14]]⟩] [] (λA (l,m)=>agb A l m) MB ajs (kz (fc func206 fz) (sc ahI (sc ahJ sz))) (λA y=>match y with |.c0 p a2=>⟨99,sl,by kernel_rfl⟩|.c1 p b2 b10=>⟨99,sl,by kernel_rfl⟩) λ((l,m):List dx×au) hp f h=>⟨of_decide_eq_true ((eH _ _).mp hp).2,Fh hp⟩
def zR(A:aS)(l:List dx)(m:au)(f:rN):List dx×(dx×Bool):=(A.k Ka (l,m,f,(A.k Es (m,f)).1))
def vI(A:aS)(l:List dx)(m:au)(f:rN):List dx×(dx×Bool):=(A.k Kb ((zR A l m f).1,m))
def Uo(A:aS)(l:List dx)(m:au)(f:rN):rN:=(true,A.f_ (vI A l m f).2.1.2.1.1<|A.bT m.2.2.1 m.2.2.2.2.2.1,(vI A l m f).2.1.1)
def IX:Int×Span×Int×Int×List Int:=(0,(0,0),0,0,([]:List Int))
def t69(A:aS)(l:List dx)(m:au)(f:rN):LT (List dx×(rN×dx×Bool×Int)) Empty:=.br (A.cm (A.k Es (m,f)).2 0) (.ret (l,(false,0,0),IX,false,(A.k Es (m,f)).2))<|.ao (A.k QF (l,m,f,(A.k Es (m,f)).1))<|.br (A.not f.1) (.ao (A.k QG ((zR A l m f).1,m))<|.br (A.not (vI A l m f).2.2) (.ret ((vI A l m f).1,f,IX,false,0))<|.br (A.not<|A.k k_ (m,true,A.f_ (vI A l m f).2.1.2.1.1<|A.bT m.2.2.1 m.2.2.2.2.2.1,(vI A l m f).2.1.1)) (.ret ((vI A l m f).1,f,IX,false,0))<|.br (A.not (A.k NT (m,Uo A l m f,(vI A l m f).2.1)).2) (.ret ((vI A l m f).1,Uo A l m f,IX,false,0))<|.ret ((vI A l m f).1,Uo A l m f,(A.k NT (m,Uo A l m f,(vI A l m f).2.1)).1,true,0))<|.br (A.not (zR A l m f).2.2) (.ret ((zR A l m f).1,f,IX,false,0))<|.br (A.not<|A.k k_ (m,f)) (.ret ((zR A l m f).1,f,IX,false,0))<|.br (A.not (A.k NT (m,f,(zR A l m f).2.1)).2) (.ret ((zR A l m f).1,f,IX,false,0))<|.ret ((zR A l m f).1,f,(A.k NT (m,f,(zR A l m f).2.1)).1,true,0)
def LB:List dx×(au×rN)->List dx×(rN×dx×Bool×Int):=λ(l,(m,f))=>gi Empty.elim (t69 af l m f) ([],Ty.aO [d_,aY,.bool,yI])
def aat:List dx×(au×rN)->Bool:=λ(l,(m,f))=>gu Empty.elim (t69 af l m f)&&decide ((LB (l,(m,f))).1.length=l.length)
def awy:fH:=⟨aY,[aW,d_],[],[d_,aY,.bool,yI],aat,LB,true⟩
def ao6:fH.bp prog 145 awy:=fA ar dK sl 133 [] [] (λA (l,(m,f))=>t69 A l m f) (λ_=>Empty.elim) Empty.elim ⟨fc func145 fz,(sc amr (sc abf (sc aq8 sz))),oz,(ic aoW (ic aoX iz)),mz,pz⟩ (λ_ y=>y.elim) λ((l,(m,f)):List dx×(au×rN)) hp g h=>⟨of_decide_eq_true ((eH _ _).mp hp).2,Fh hp⟩
structure W_ where(a0:List fX)(a1 a4:Int)
inductive ad9 where|c0(p:W_)(a2:Int)
noncomputable def XT(q:Bool):ad9->iF
 | .c0 p a2=>⟨[iN 263 19 [(0,.sl fq p.a0),(1,.fn 211 [] [pZ 0,pZ 1,pZ 2]),(7,vi p.a1),(8,vi a2)] f263 52,⟨210,9,.leaf,[.ops (ow f210 6)<|(ow f210 6).toList.drop 2,.code .ret],[],none⟩,⟨147,16,.leaf,[.ops (ow f147 6)<|(ow f147 6).toList.drop 6,.code .ret],[],none⟩,⟨94,21,.leaf,[.sT (ow f94 6) [0,0,0,2,10,26,62,126,0,256,768,1792,3840,8190,0,32767,65535] 15 [16] [],.code .ret],[],none⟩],[vZ 12,vZ p.a4,gZ [.fn 148 [] [pZ 3]],gZ [vi<|bif q then 1 else 0],.aU]⟩
def acr(q:Bool)(A:aS)(h:List Int)(p:Bool)(f:au)(g:gK)(k:Int):LT Bool ad9:=.ao (A.cm f.1 0)<|.ak<|.c0 ⟨g.2.2.2.2.2.2.2,A.l g.2.2.2.2.2.2.2,A.b .quo .i64 (A.n yI h (bif q then 1 else 0):Int) f.1⟩ 0
def MI(q:Bool)(A:aS):ad9->LT Bool ad9
 | .c0 p a2=>.br (A.bq a2 p.a1) (.g_ A a2 p.a0<|.br (A.bG (A.n fq p.a0 a2:fX).1 12) (.br (A.bQ (A.n fq p.a0 a2:fX).2.2.2.1 p.a4) (.br (A.bG (A.n fq p.a0 a2:fX).2.2.1<|bif q then 1 else 0) (.ret<|A.qE a2 0)<|.ak<|.c0 p<|A.bT a2 1)<|.ak<|.c0 p<|A.bT a2 1)<|.ak<|.c0 p<|A.bT a2 1)<|.ret false
def Qf(q:Bool):(Unit×List Int×Unit×Bool×au×gK×Unit)×Int->Bool:=λ(((),f,(),g,h,p,()),k)=>gi (MI q af) (acr q af f g h p k)<|Ty.aO [.bool]
def Fe(q:Bool):(Unit×List Int×Unit×Bool×au×gK×Unit)×Int->Bool:=λ(((),f,(),g,h,p,()),k)=>decide (k=kI q)&&gu (MI q af) (acr q af f g h p k)
def alV(q:Bool):lG:=⟨.struct [(.any 6),.arr 2 yI,.any 2,.bool,aW,gb,.any 8],[yI],[.bool],Fe q,Qf q⟩
theorem aan:∀q,lG.bp prog 94<|alV q
 | false=>wJ ar dK sl 67 [⟨263,2,[[0,1,7,8],[],[],[]]⟩] [] [some 0] (λA (((),f,(),g,u,B,()),k)=>acr false A f g u B k) (MI false) (XT false) (kz (fc func94 (fc func147 (fc func148 (fc func210 (fc func211 (fc func263 fz)))))) sz) (λA y=>match y with |.c0 p a2=>⟨84,sl,by kernel_rfl⟩) (λ(((),f,(),g,u,B,()),k) hp D h=>eO ((eH _ _).mp hp).2) (v:=λ_ (y:Int) h=>⟨@of_decide_eq_true (y=0) _ ((eH _ _).mp h).1,trivial⟩)
 | true=>wJ ar dK sl 67 [⟨263,2,[[0,1,7,8],[],[],[]]⟩] [] [some 1] (λA (((),f,(),g,u,B,()),k)=>acr true A f g u B k) (MI true) (XT true) (kz (fc func94 (fc func147 (fc func148 (fc func210 (fc func211 (fc func263 fz)))))) sz) (λA y=>match y with |.c0 p a2=>⟨84,sl,by kernel_rfl⟩) (λ(((),f,(),g,u,B,()),k) hp D h=>eO ((eH _ _).mp hp).2) (v:=λ_ (y:Int) h=>⟨@of_decide_eq_true (y=1) _ ((eH _ _).mp h).1,trivial⟩)
def Km:(Unit×List Int×Unit×Bool×au×gK×Unit)×Int->Bool:=λx=>bif decide (x.2=0) then Qf false x else Qf true x
def Ml:(Unit×List Int×Unit×Bool×au×gK×Unit)×Int->Bool:=λx=>bif decide (x.2=0) then Fe false x else Fe true x
def aqH:lG:=⟨.struct [(.any 6),.arr 2 yI,.any 2,.bool,aW,gb,.any 8],[yI],[.bool],Ml,Km⟩
def ahz:lG.bp prog 94 aqH:=(aan false).either<|aan true
structure Fy where(a0 a1:Bool)(a2:Int)(a3:Net)(a4:au)(mA:Bool)(pH a12:Int)(FD:dx)
structure W9 where(b0:Int)(b2:Net)(b3:au)(b5 b6 b7 b8:Int)(b12:Bool)(b13 Nx Dw:Int)(b33 b36:Bool)(b39 b42:Int)
inductive ad8 where|c0(p:Fy)|c1(p:W9)(b1:Int)
noncomputable def XS(q:Bool):ad8->iF
 | .c0 p=>⟨[vh 93 60 [(0,pZ 0),(2,.int .i64 true<|bif q then 1 else 0),(3,vb p.a0),(5,pZ 2),(8,pZ 3),(10,pZ 4),(11,pZ 5),(12,vb p.a1),(13,vi p.a2)] f93 28],[bxX p.a3 6 7 8 1 9 10 11 12,bxN p.a3,dZ aW p.a4,gZ [vi 0,vi 0,vi 0,vi 0,vi 0,.eT true],gZ [vb p.mA,vi p.pH,vi p.a12],dZ aY p.FD,bxC p.a3,bxD p.a3,bxQ p.a3 13,bxA p.a3,bxB p.a3,bxS p.a3,bxP p.a3,bxH p.a3,.aU]⟩
 | .c1 p b1=>⟨[iN 254 30 [(0,.yield 2),(2,pZ 3),(3,pZ 4),(7,.own 5),(8,vi p.b0),(9,vi b1)] f254 12,⟨146,88,en [(6,pZ 6),(7,pZ 7)],[.oA 2,.inBlock 0,.code<|cw f146 255],[8],none⟩,fRZ 93 60 [(8,pZ 9)] [.ops (ow f93 126)<|(ow f93 126).toList.drop 3,.code .ret]],[bxX p.b2 (bif q then 10 else 5) (bif q then 5 else 10) 11 1 12 13 14 15,bxN p.b2,.loop ⟨146,88,en [(0,pZ 0),(1,.agg<|dc aW p.b3),(2,vi<|bif q then 1 else 0),(3,pZ 16),(4,pZ 18),(5,pZ 17),(6,pZ 6),(7,pZ 7),(8,pZ 19),(9,vi p.b5),(10,pZ 21),(11,vi p.b6),(12,pZ 20),(15,.xb [.agg [vi p.b7,vi p.b8],vi p.b5]),(16,.agg<|dc aW p.b3),(17,pZ 0),(18,vi<|bif q then 1 else 0),(19,pZ 0),(20,pZ 0),(21,.ptr 0<|bif q then 3 else 0),(22,.agg [vb p.b12,vi p.b13,vi p.Nx]),(23,.xb [.agg [vi p.b7,vi p.b8],vi p.b5]),(24,.agg [vi p.b7,vi p.b8]),(25,vi p.b5),(26,.xb [vi p.Dw,vi p.b6]),(27,.agg<|dc aW p.b3),(28,pZ 0),(29,vi<|bif q then 1 else 0),(30,pZ 0),(31,pZ 0),(32,.ptr 0<|bif q then 3 else 0),(33,.agg [vb p.b12,vi p.b13,vi p.Nx]),(34,.xb [vi p.Dw,vi p.b6]),(35,vi p.Dw),(36,vi p.b6),(37,vi p.b5),(38,vb p.b33),(39,vb false),(40,vi p.b6),(41,vb p.b36),(42,vb p.b36),(44,.agg<|dc aW p.b3),(45,vi p.b39),(46,.ptr 19 1),(47,vi p.b8),(48,vi p.b39),(49,vi p.b42),(50,.ptr 19 1),(51,pZ 0),(52,vi<|bif q then 1 else 0),(53,pZ 0),(54,.ptr 0 8),(55,.ptr 0<|bif q then 9 else 8),(56,.own 5),(57,.agg [vi p.b7,vi p.b42]),(58,.fn 254 [] [pZ 22,pZ 3,pZ 4])],[59],cw f146 2036,cw f146 2037,0,none⟩,vZ 40,gZ [vi p.b7,vi p.b42],aZ aY<|pX q p.b2,gZ [vi 0,vi 0,vi 0,vi 0,vi 0,.eT true],gZ [vb false],.FU,gZ [vi 0,vi 0,vi 0,vi 0,vi 0,.eT true],aZ aY<|pX (!q) p.b2,bxQ p.b2 23,bxA p.b2,bxB p.b2,bxS p.b2,bxP p.b2,gZ [pZ 0],.cH true [.int .i64 true<|bif q then 1 else 0],dZ aW p.b3,gZ [vi p.b7,vi p.b42],vZ p.b39,vZ p.Dw,gZ [.own 5],bxH p.b2,.aU]⟩
def yt(q:Bool)(A:aS)(f:Net)(m:au):List dx×(rN×dx×Bool×Int):=(A.k LB (pX q f,m,mP q f))
def IR(q:Bool)(p:Fy):rN:=(p.mA,p.pH,p.a12)
def ve(q:Bool)(p:Fy):au×Bool×Int×Int:=(p.a4,p.mA,p.pH,p.a12)
def IS(q:Bool)(p:Fy):Net×(Int×Span×Int×Int×List Int)×Bool:=((VT q) p.a3<|IR q p,(0,(0,0),0,0,([]:List Int)),false)
def VS(q:Bool)(A:aS)(f:Net)(m:au)(k:Int)(aU:Bool):LT (Net×(dx×Bool)) ad8:=.ao (A.k aat (pX q f,m,mP q f))<|.ak<|.c0 ⟨aU,(yt q A f m).2.2.2.1,(yt q A f m).2.2.2.2,(V4 q) f (yt q A f m).1,m,(yt q A f m).2.1.1,(yt q A f m).2.1.2.1,(yt q A f m).2.1.2.2,(yt q A f m).2.2.1⟩
def JG(q:Bool)(A:aS):ad8->LT (Net×(dx×Bool)) ad8
 | .c0 p=>.br (A.cm p.a2 0) (.ret (p.a3,(0,(0,0),0,0,([]:List Int)),false))<|.br p.a0 (.ret<|IS q p)<|.br p.a1 (.ret ((VT q) p.a3<|IR q p,p.FD,p.a1))<|.br (A.not p.mA) (.ret ((VT q) p.a3<|IR q p,p.FD,p.a1))<|.br (A.cm (A.k Es<|ve q p).2 0) (.ret<|IS q p)<|.br (A.cm (A.k N1<|ve q p).2 0) (.ret<|IS q p)<|.ak<|.c1 ⟨A.l<|pX q p.a3,(VT q) p.a3<|IR q p,p.a4,(A.k Es<|ve q p).2,(A.k N1<|ve q p).2,(A.k Es<|ve q p).1.1,(A.k Es<|ve q p).1.2,p.mA,p.pH,p.a12,(A.k N1<|ve q p).1,A.cm (A.k Es<|ve q p).2 0,A.cm (A.k N1<|ve q p).2 0,A.k DK p.a4,A.bT (A.k Es<|ve q p).1.2<|A.k DK p.a4⟩ 0
 | .c1 p b1=>.br (A.bq b1 p.b0) (.g_ A b1 (pX q p.b2)<|.br (A.k YV ((A.n aY (pX q p.b2) b1:dx),40)) (.br (A.k YW ((A.n aY (pX q p.b2) b1:dx).2.1,p.b7,p.b42)) (.br (A.bG (A.n aY (pX q p.b2) b1:dx).1 (mP q p.b2).2.2) (.ret (p.b2,((A.n aY (pX q p.b2) b1:dx).1,(p.Dw,A.bT p.Dw p.b39),100,0,([]:List Int)),true))<|.ak<|.c1 p<|A.bT b1 1)<|.ak<|.c1 p<|A.bT b1 1)<|.ak<|.c1 p<|A.bT b1 1)<|.ret (p.b2,(0,(0,0),0,0,([]:List Int)),false)
def Gq(q:Bool):Net×(au×Int×Bool)->Net×(dx×Bool):=λ(f,(m,k,aU))=>gi (JG q af) (VS q af f m k aU) (Ty.aO [kX],Ty.aO [aY,.bool])
def Fc(q:Bool):Net×(au×Int×Bool)->Bool:=λ(f,(m,k,aU))=>(decide (k=kI q)&&gu (JG q af) (VS q af f m k aU))&&decide (VF.lens [fL] (Gq q (f,(m,k,aU))).1=VF.lens [fL] ((f,(m,k,aU)):Net×(au×Int×Bool)).1)
def alx(q:Bool):cn:=⟨[fL],[aW,yI,.bool],[aY,.bool],Fc q,Gq q,false,false⟩
theorem ZU:∀q,cn.bp prog 93<|alx q
 | false=>jF ar dK sl 44 [⟨254,1,[[0,2,3,7,8,9],[6,7],[8]]⟩,⟨146,3000005,[]⟩] [⟨93,2,[[0,3,5,8,10,11,12,13,65538]]⟩] [none,some 0] (λA (f,(m,k,aU))=>VS false A f m k aU) (JG false) (XS false) ⟨fc func93 (fc func146 (fc func201 (fc func254 fz))),(sc amr (sc KU (sc ahO (sc abu (sc abv sz))))),oz,(ic ao6 iz),mz,pz⟩ (λA y=>match y with |.c0 p=>⟨153,sl,by kernel_rfl⟩|.c1 p b1=>⟨98,.kP [0,0,0,0,3,3],by kernel_rfl⟩) (λ((f,(m,k,aU)):Net×(au×Int×Bool)) hp g h=>eO ((eH _ _).mp ((eH _ _).mp hp).1).2) (v:=λ_ (y:au×Int×Bool) h=>⟨@of_decide_eq_true (y.2.1=0) _ ((eH _ _).mp ((eH _ _).mp h).1).1,trivial⟩) (z:=λ_ _ h=>Cf h)
 | true=>jF ar dK sl 44 [⟨254,1,[[0,2,3,7,8,9],[6,7],[8]]⟩,⟨146,3000005,[]⟩] [⟨93,2,[[0,3,5,8,10,11,12,13,65538]]⟩] [none,some 1] (λA (f,(m,k,aU))=>VS true A f m k aU) (JG true) (XS true) ⟨fc func93 (fc func146 (fc func201 (fc func254 fz))),(sc amr (sc KU (sc ahO (sc abu (sc abv sz))))),oz,(ic ao6 iz),mz,pz⟩ (λA y=>match y with |.c0 p=>⟨153,sl,by kernel_rfl⟩|.c1 p b1=>⟨98,.kP [0,0,0,0,3,3],by kernel_rfl⟩) (λ((f,(m,k,aU)):Net×(au×Int×Bool)) hp g h=>eO ((eH _ _).mp ((eH _ _).mp hp).1).2) (v:=λ_ (y:au×Int×Bool) h=>⟨@of_decide_eq_true (y.2.1=1) _ ((eH _ _).mp ((eH _ _).mp h).1).1,trivial⟩) (z:=λ_ _ h=>Cf h)
def Od:Net×(au×Int×Bool)->Net×dx×Bool:=λx=>bif decide (x.2.2.1=0) then Gq false x else Gq true x
def Ho:Net×(au×Int×Bool)->Bool:=λx=>bif decide (x.2.2.1=0) then Fc false x else Fc true x
def aqe:cn:=⟨[fL],[aW,yI,.bool],[aY,.bool],Ho,Od,false,false⟩
def ahr:cn.bp prog 93 aqe:=((ZU false).either<|ZU true)
structure PE where(a0:Bool)(a1:Net)
structure Fx where(b0:Bool)(b1:Net)
structure ai6 where(c0:Int)
inductive Xy where|c0(p:PE)|c1(p:Fx)|c2(p:ai6)(c1:Int)(c2:Net)|c3(d0 d1:Int)(d2:Net)
noncomputable def XR(q:Bool):Xy->iF
 | .c0 p=>⟨[vh 62 135 [(1,.int .i64 true<|bif q then 1 else 0),(3,pZ 2),(6,vb p.a0)] f62 1003],[bxX p.a1 3 4 5 1 6 7 8 9,bxN p.a1,gZ [pZ 0],bxC p.a1,bxD p.a1,bxQ p.a1 10,bxA p.a1,bxB p.a1,bxS p.a1,bxP p.a1,bxH p.a1,.aU]⟩
 | .c1 p=>⟨[vh 62 135 [(1,.int .i64 true<|bif q then 1 else 0),(3,pZ 2),(6,vb p.b0)] f62 504],[bxX p.b1 3 4 5 1 6 7 8 9,bxN p.b1,gZ [pZ 0],bxC p.b1,bxD p.b1,bxQ p.b1 10,bxA p.b1,bxB p.b1,bxS p.b1,bxP p.b1,bxH p.b1,.aU]⟩
 | .c2 p c1 c2=>⟨[iN 150 19 [(0,.own 2),(1,.fn 97 [] [pZ 3]),(7,vi p.c0),(8,vi c1)] f150 52,Jr 96 42 [(0,.own 2),(1,.fn 97 [] [pZ 3])] f96 6 2,fRZ 62 135 [(1,.int .i64 true<|bif q then 1 else 0),(3,pZ 3),(79,pZ 0),(80,.int .i64 true<|bif q then 1 else 0),(90,pZ 0),(91,pZ 0),(92,.ptr 0 8)]<|.sT (ow f62 8094) [0,0,0,0,4,20,52,124,252,0,1020,1,2049,6145,16383,32767] 10 [14,15] [13,12,11,1,0]::sk f62 8094],[bxX c2 (bif q then 4 else 2) (bif q then 2 else 4) 5 1 6 7 8 9,bxN c2,aZ aY<|pX q c2,gZ [pZ 0],aZ aY<|pX (!q) c2,bxQ c2 10,bxA c2,bxB c2,bxS c2,bxP c2,bxH c2,.aU]⟩
 | .c3 d0 d1 d2=>⟨[iN 96 42 [(0,.own 2),(1,.fn 97 [] [pZ 3]),(5,vi d0),(6,vi d1)] f96 244,fRZ 62 135 [(1,.int .i64 true<|bif q then 1 else 0),(3,pZ 3),(79,pZ 0),(80,.int .i64 true<|bif q then 1 else 0),(90,pZ 0),(91,pZ 0),(92,.ptr 0 8)]<|.sT (ow f62 8094) [0,0,0,0,4,20,52,124,252,0,1020,1,2049,6145,16383,32767] 10 [14,15] [13,12,11,1,0]::sk f62 8094],[bxX d2 (bif q then 4 else 2) (bif q then 2 else 4) 5 1 6 7 8 9,bxN d2,aZ aY<|pX q d2,gZ [pZ 0],aZ aY<|pX (!q) d2,bxQ d2 10,bxA d2,bxB d2,bxS d2,bxP d2,bxH d2,.aU]⟩
def wR(q:Bool)(f:Net):(Unit×List Int×Unit×Bool×au×gK×Unit)×Int:=(((),[f.2.2.1,f.2.2.2.1],(),f.2.2.2.2.2.2.1,f.m,f.s,()),bif q then 1 else 0)
def pn(q:Bool)(A:aS)(f:Net):Net×(dx×Bool):=(A.k Od (f,f.m,bif q then 1 else 0,A.k Km<|wR q f))
def Dg(q:Bool)(A:aS)(f:Net):List A7:=(A.p (pn q A f).1.o ([((pn q A f).2.1.2.1,(pn q A f).2.1.1)]:List A7))
def Dh(q:Bool)(A:aS)(f:Net):List dx:=(A.p (xe q (pn q A f).1) ([(pn q A f).2.1]:List dx))
def M7(q:Bool)(A:aS)(p:PE):Net×Int×Int×Int×Int:=(vJ p.a1 (A.k gF (p.a1.q,())).1,(A.k gF (p.a1.q,())).2,3,bif q then 1 else 0,A.f_ (A.l p.a1.o) 1)
def IL(q:Bool)(A:aS)(p:Fx):Net×Int:=((V4 q) ((utG q) ((VT q) p.b1 (A.k Gl (p.b1.m,mP q p.b1)).1)<|A.bT (Un q p.b1) 1) ([]:List dx),bif q then 1 else 0)
def AJ(q:Bool)(A:aS)(p:Fx):Net:=(A.k lL ((V4 q) p.b1 ([]:List dx),bif q then 1 else 0)).1
def AL(q:Bool)(A:aS)(p:Fx):Net:=(A.k lL<|IL q A p).1
abbrev ace(q:Bool)(A:aS)(f:Net):LT (Net×Unit) Xy:=(.ao (A.k Ml<|wR q f)<|.ao (A.k Ho (f,f.m,bif q then 1 else 0,A.k Km<|wR q f))<|.qj A f.n<|.br (pn q A f).2.2 (.ao (A.bQ (A.l<|Dh q A f) 2199023255552)<|.ao (A.bQ (A.l<|Dg q A f) 5864062014805)<|.ak<|.c0 ⟨(mP q f).1,(Qj q) (pn q A f).1 (Dh q A f)<|Dg q A f⟩)<|.ak<|.c1 ⟨(mP q f).1,(pn q A f).1⟩)
def VQ(q:Bool)(A:aS)(f:Net)(k:Int)(first:Bool):LT (Net×Unit) Xy:=.br (mP q f).1 (.br first (.ret (f,())) (ace q A f))<|ace q A f
def zm(q:Bool)(A:aS):Xy->LT (Net×Unit) Xy
 | .c0 p=>.ao (A.k nW (p.a1.q,()))<|.ao (A.k nj<|M7 q A p)<|.qj A p.a1.n<|.ak<|.c1 ⟨p.a0,(A.k qL<|M7 q A p).1⟩
 | .c1 p=>.br p.b0 (.br (A.bG (A.k Gl (p.b1.m,mP q p.b1)).2 0) (.ao (A.k qk<|IL q A p)<|.qj A p.b1.n<|.ao (A.k yb (AL q A p,bif q then 1 else 0))<|.qj A (AL q A p).n<|.ret ((A.k DV (AL q A p,bif q then 1 else 0)).1,()))<|.ao (A.k qk ((V4 q) p.b1 ([]:List dx),bif q then 1 else 0))<|.qj A p.b1.n<|.ao (A.k yb (AJ q A p,bif q then 1 else 0))<|.qj A (AJ q A p).n<|.ret ((A.k DV (AJ q A p,bif q then 1 else 0)).1,()))<|.br (mP q p.b1).1 (.br (A.bG (A.k Gl (p.b1.m,mP q p.b1)).2 0) (.ao (A.k qk<|IL q A p)<|.qj A p.b1.n<|.ao (A.k yb (AL q A p,bif q then 1 else 0))<|.qj A (AL q A p).n<|.ret ((A.k DV (AL q A p,bif q then 1 else 0)).1,()))<|.ao (A.k qk ((V4 q) p.b1 ([]:List dx),bif q then 1 else 0))<|.qj A p.b1.n<|.ao (A.k yb (AJ q A p,bif q then 1 else 0))<|.qj A (AJ q A p).n<|.ret ((A.k DV (AJ q A p,bif q then 1 else 0)).1,()))<|.ak<|.c2 ⟨A.l<|pX q p.b1⟩ 0 p.b1
 | .c2 p c1 c2=>.br (A.bq c1 p.c0) (.g_ A c1 (pX q c2)<|.ao (A.k nW (c2.q,()))<|.br (A.bQ (A.n aY (pX q c2) c1:dx).2.1.2 (A.k gF (c2.q,())).2) (.br (A.bG c1<|-1) (.ret (vJ c2 (A.k gF (c2.q,())).1,()))<|.ak<|.c3 c1 (A.bT c1 1)<|vJ c2 (A.k gF (c2.q,())).1)<|.ak<|.c2 p (A.bT c1 1)<|vJ c2 (A.k gF (c2.q,())).1)<|.ret (c2,())
 | .c3 d0 d1 d2=>.br (A.bq d1<|A.l<|pX q d2) (.g_ A d1 (pX q d2)<|.ao (A.k nW (d2.q,()))<|.br (A.not<|A.bQ (A.n aY (pX q d2) d1:dx).2.1.2 (A.k gF (d2.q,())).2) (.g_ A d0 (pX q d2)<|.ak<|.c3 (A.bT d0 1) (A.bT d1 1)<|(ahb q) d2 (A.set (pX q d2) d0 (A.n aY (pX q d2) d1:dx)) (A.k gF (d2.q,())).1)<|.ak<|.c3 d0 (A.bT d1 1)<|vJ d2 (A.k gF (d2.q,())).1)<|.ao (A.and (A.bQ 0 d0)<|A.and (A.bQ d0<|A.l<|pX q d2)<|A.bQ (A.l<|pX q d2)<|A.l<|pX q d2)<|.ao (A.and (A.bQ 0 0)<|A.and (A.bQ 0 d0)<|A.bQ d0<|A.l<|A.spl (pX q d2) d0<|A.r (A.f_ (A.l<|pX q d2) d0) (Ty.gH aY:dx))<|.ret ((V4 q) d2<|A.s (A.spl (pX q d2) d0<|A.r (A.f_ (A.l<|pX q d2) d0) (Ty.gH aY:dx)) 0<|A.f_ d0 0,())
def Gp(q:Bool):Net×(Int×Bool)->Net×Unit:=λ(f,(k,first))=>gi (zm q af) (VQ q af f k first) (Ty.aO [kX],Ty.aO [])
def Fb(q:Bool):Net×(Int×Bool)->Bool:=λ(f,(k,first))=>(decide (k=kI q)&&gu (zm q af) (VQ q af f k first))&&decide (VF.lens [fL] (Gp q (f,(k,first))).1=VF.lens [fL] ((f,(k,first)):Net×(Int×Bool)).1)
def alv(q:Bool):cn:=⟨[fL],[yI,.bool],[],Fb q,Gp q,false,false⟩
theorem ZT:∀q,cn.bp prog 62<|alv q
 | false=>jF ar dK sl 97 [⟨96,5,[[0,1,5,6],[3,79,90,91,92,65537,65616]]⟩,⟨150,2,[[0,1,7,8],[0,1],[3,79,90,91,92,65537,65616]]⟩,⟨62,2000000,[]⟩] [⟨62,7,[[3,6,65537]]⟩,⟨62,9,[[3,6,65537]]⟩] [some 0] (λA (f,(k,first))=>VQ false A f k first) (zm false) (XR false) ⟨fc func62 (fc func95 (fc func96 (fc func97 (fc func150 fz)))),(sc asd sz),oz,iz,(mc GZ (mc ZP (mc G0 (mc ahr (mc ahs mz))))),(pc ahz pz)⟩ (λA y=>match y with |.c0 p=>⟨24,sl,by kernel_rfl⟩|.c1 p=>⟨116,sl,by kernel_rfl⟩|.c2 p c1 c2=>⟨74,sl,by kernel_rfl⟩|.c3 d0 d1 d2=>⟨73,sl,by kernel_rfl⟩) (λ((f,(k,first)):Net×(Int×Bool)) hp g h=>eO ((eH _ _).mp ((eH _ _).mp hp).1).2) (v:=λ_ (y:Int×Bool) h=>⟨@of_decide_eq_true (y.1=0) _ ((eH _ _).mp ((eH _ _).mp h).1).1,trivial⟩) (z:=λ_ _ h=>Cf h)
 | true=>jF ar dK sl 97 [⟨96,5,[[0,1,5,6],[3,79,90,91,92,65537,65616]]⟩,⟨150,2,[[0,1,7,8],[0,1],[3,79,90,91,92,65537,65616]]⟩,⟨62,2000000,[]⟩] [⟨62,7,[[3,6,65537]]⟩,⟨62,9,[[3,6,65537]]⟩] [some 1] (λA (f,(k,first))=>VQ true A f k first) (zm true) (XR true) ⟨fc func62 (fc func95 (fc func96 (fc func97 (fc func150 fz)))),(sc asd sz),oz,iz,(mc GZ (mc ZP (mc G0 (mc ahr (mc ahs mz))))),(pc ahz pz)⟩ (λA y=>match y with |.c0 p=>⟨24,sl,by kernel_rfl⟩|.c1 p=>⟨116,sl,by kernel_rfl⟩|.c2 p c1 c2=>⟨74,sl,by kernel_rfl⟩|.c3 d0 d1 d2=>⟨73,sl,by kernel_rfl⟩) (λ((f,(k,first)):Net×(Int×Bool)) hp g h=>eO ((eH _ _).mp ((eH _ _).mp hp).1).2) (v:=λ_ (y:Int×Bool) h=>⟨@of_decide_eq_true (y.1=1) _ ((eH _ _).mp ((eH _ _).mp h).1).1,trivial⟩) (z:=λ_ _ h=>Cf h)
def Oc:Net×(Int×Bool)->Net×Unit:=λx=>bif decide (x.2.1=0) then Gp false x else Gp true x
def Mi:Net×(Int×Bool)->Bool:=λx=>bif decide (x.2.1=0) then Fb false x else Fb true x
def ap5:cn:=⟨[fL],[yI,.bool],[],Mi,Oc,false,false⟩
def apD:cn.bp prog 62 ap5:=((ZT false).either<|ZT true)
def mr(A:aS)(f:Net):oR×(gw×Int):=(A.k zB (f.q,()))
def De(A:aS)(f:Net):Int×Int×Int×Bool×Bool×Bool:=(A.n bo f.n (mr A f).2.1.2.2.1:cB).2.2
def IG(A:aS)(f:Net):Bool:=(A.and (A.bQ 0 (mr A f).2.1.2.2.1)<|A.bq (mr A f).2.1.2.2.1<|A.l f.n)
def vc(A:aS)(f:Net):Net:=(vJ f (mr A f).1)
def u_(A:aS)(f:Net):Net×Int:=(vc A f,(mr A f).2.1.2.2.1)
def AI(A:aS)(f:Net):Bool:=(A.cm (A.l f.n) 0)
def II(A:aS)(f:Net):Bool:=(A.bG (De A f).2.2.1 (mr A f).2.1.2.2.2)
abbrev zO(A:aS)(f:Net):LT (Net×Unit) Empty:=(.ret (vc A f,()))
def ab9(A:aS)(f:Net):LT (Net×Unit) Empty:=.ao (A.k QQ (f.q,()))<|.br (A.cm (mr A f).2.2 0) (zO A f)<|.br (A.bG (mr A f).2.1.2.1 3) (.ao (A.k QR (vc A f,(mr A f).2.1.2.2.2))<|.ao (AI A f)<|.ret ((A.k SO (vc A f,(mr A f).2.1.2.2.2)).1,()))<|.br (A.bG (mr A f).2.1.2.1 4) (.ao (A.k Mi (vc A f,(mr A f).2.1.2.2.1,A.bG (mr A f).2.1.2.2.2 1))<|.ao (AI A f)<|.ret ((A.k Oc (vc A f,(mr A f).2.1.2.2.1,A.bG (mr A f).2.1.2.2.2 1)).1,()))<|.br (A.bG (mr A f).2.1.2.1 1) (.ao (IG A f)<|.br (II A f) (.br (A.not (De A f).2.2.2.2.2) (.ao (A.k QS<|u_ A f)<|.ao (AI A f)<|.ret ((A.k SP<|u_ A f).1,()))<|zO A f)<|zO A f)<|.br (A.bG (mr A f).2.1.2.1 2) (.ao (IG A f)<|.br (II A f) (.br (A.not (De A f).2.2.2.2.2) (.ao (A.k QT<|u_ A f)<|.ao (AI A f)<|.ret ((A.k SQ<|u_ A f).1,()))<|zO A f)<|zO A f)<|.br (A.bG (mr A f).2.1.2.1 6) (.ao (IG A f)<|.br (II A f) (.br (A.not (De A f).2.2.2.2.2) (.ao (A.k QU<|u_ A f)<|.ao (AI A f)<|.ret ((A.k SS<|u_ A f).1,()))<|zO A f)<|zO A f)<|.ao (IG A f)<|.br (II A f) (.br (A.not (De A f).2.2.2.2.2) (.ao (A.k QV<|u_ A f)<|.ao (AI A f)<|.ret ((A.k SU<|u_ A f).1,()))<|zO A f)<|zO A f
def ta:Net×Unit->Net×Unit:=λ(f,())=>gi Empty.elim (ab9 af f) (Ty.aO [kX],Ty.aO [])
def CU:Net×Unit->Bool:=λ(f,())=>gu Empty.elim (ab9 af f)&&decide (VF.lens [fL] (ta (f,())).1=VF.lens [fL] ((f,()):Net×Unit).1)
def ap0:cn:=⟨[fL],[],[],CU,ta,false,false⟩
def ahq:cn.bp prog 33 ap0:=bV ar dK (.kP [0,0,0,0,0,0,0,0,0,0,1,0,0,0,0,0,0,1,0,0,0,0,0,0,1,0,0,0,0,0,1]) 108 [] [] (λA (f,())=>ab9 A f) (λ_=>Empty.elim) Empty.elim ⟨fc func33 fz,sz,oz,iz,(mc apB (mc apC (mc apD (mc apE (mc apF (mc apG (mc apH mz))))))),pz⟩ (λ_ y=>y.elim) (λ((f,()):Net×Unit) hp g h=>Fh hp) (z:=λ_ _ h=>Cf h)
def avf(A:aS)(a:fB)(b:fB):LT Int Empty:=.ret<|A.k N7 [(A.k rE (a.1,b.1)),A.k rE (a.2.1,b.2.1)]
def Ob:(fB×fB)->Int:=λ(a,b)=>(avf af a b).val<|Ty.aO [yI]
def auj:aL:=.all [eB,eB] [yI] Ob
def ah0:Sd 39 auj:=fa<|aN ar dK sl 30 [] (λA (a,b)=>avf A a b)<|kz (fc func39 fz)<|sc abq<|sc abr sz
def fj{Y:Type}(s:Y->LT (List fB×Unit) Y)(N:Nat)(t:LT (List fB×Unit) Y):Prop:=∃r:List fB,r.length=N/\bi s t (r,())
section
variable {Y:Type} {s:Y->LT (List fB×Unit) Y} {N:Nat} {t e:LT (List fB×Unit) Y} {a b:Int}
def fj.ret{r:List fB}(h:r.length=N):fj s N<|.ret (r,()):=⟨r,h,.ret _⟩
def fj.ak{y:Y}(h:fj s N<|s y):fj s N<|.ak y:=h.elim λr k=>⟨r,k.1,.ak k.2⟩
def fj.ao{b:Bool}(f:b=true)(h:fj s N t):fj s N<|.ao b t:=h.elim λr k=>⟨r,k.1,.ao f k.2⟩
def fj.br{b:Bool}(f:b=true->fj s N t)(g:b=false->fj s N e):fj s N<|.br b t e:=by
 cases b
 .exact(g rfl).elim λr k=>⟨r,k.1,.br k.2⟩
 .exact(f rfl).elim λr k=>⟨r,k.1,.br k.2⟩
def fj.lss(f:a<b->fj s N t)(g:b<=a->fj s N e):fj s N<|.br (af.bq a b) t e:=
 fj.br (λh=>f<|of_decide_eq_true (p:=a<b) h) λh=>g<|jG.1<|of_decide_eq_false (p:=a<b) h
def fj.gtr(f:b<a->fj s N t)(g:a<=b->fj s N e):fj s N<|.br (af.jr a b) t e:=
 fj.br (λh=>f<|of_decide_eq_true (p:=b<a) h) λh=>g<|jG.1<|of_decide_eq_false (p:=b<a) h
def fj.leq(f:a<=b->fj s N t)(g:b<a->fj s N e):fj s N<|.br (af.bQ a b) t e:=
 fj.br (λh=>f<|of_decide_eq_true (p:=a<=b) h) λh=>g<|Int.not_le.1<|of_decide_eq_false (p:=a<=b) h
def fj.eql(f:a=b->fj s N t)(g:¬a=b->fj s N e):fj s N<|.br (af.bG a b) t e:=by
 rw[dq];exact fj.br (λh=>f<|of_decide_eq_true h) λh=>g<|of_decide_eq_false h
def fj.neq(f:¬a=b->fj s N t)(g:a=b->fj s N e):fj s N<|.br (af.cm a b) t e:=by
 rw[dU];exact fj.br (λh=>f<|of_decide_eq_true h) λh=>g<|bY.1<|of_decide_eq_false h
end
def rQ{Y:Type}(s:Y->LT (List fB×Unit) Y)(t:LT (List fB×Unit) Y)(d:List fB):List fB:=bif Nat.beq (gi s t (d,())).1.length d.length then(gi s t (d,())).1 else d
variable{Y:Type}{d:List fB}
def o4{s:Y->LT (List fB×Unit) Y}{t:LT (List fB×Unit) Y}:(rQ s t d).length=d.length:=by
 unfold rQ;cases h:Nat.beq (gi s t (d,())).1.length d.length
 .rfl
 .exact vL h
def sK{s:Y->LT (List fB×Unit) Y}{t:LT (List fB×Unit) Y}(h:fj s d.length t):(rQ s t d).length=d.length/\bi s t (rQ s t d,()):=by
 refine⟨o4,?_⟩;have⟨r,g,f⟩:=h;rw[rQ,Mw f,tA.2 g];exact f
def E5{l:List fB}{i j:Int}{v:fB}(h:0<=i/\i<(l.length:Int)):af.and (af.bQ 0 i) (af.bq i<|af.l<|af.set l j v)=true:=cr (by rw[h_];exact h)
structure Xl where(a0 a1 a2:Int)
inductive aef where|c0(p:Xl)(a3:Int)(a4:List fB)
noncomputable def akp:aef->iF
 | .c0 p a3 a4=>⟨[iN 234 38 [(0,.own 0),(1,vi p.a0),(2,vi p.a1),(3,vi p.a2),(10,vi a3)] f234 12],[aZ eB a4,.aU]⟩
def anM(A:aS)(f:List fB)(a:Int)(b:Int)(n:Int):LT (List fB×Unit) aef:=.ak<|.c0 ⟨a,b,n⟩ 0 f
def afH(A:aS):aef->LT (List fB×Unit) aef
 | .c0 p a3 a4=>.br (A.bq a3 p.a2) (.g_ A (A.bT p.a1 a3) a4<|.g_ A (A.bT p.a0 a3) a4<|.g_ A (A.bT p.a0 a3) a4<|.g_ A (A.bT p.a1 a3) (A.set a4 (A.bT p.a0 a3) (A.n eB a4 (A.bT p.a1 a3):fB))<|.ak<|.c0 p (A.bT a3 1)<|A.set (A.set a4 (A.bT p.a0 a3) (A.n eB a4 (A.bT p.a1 a3):fB)) (A.bT p.a1 a3) (A.n eB a4 (A.bT p.a0 a3):fB))<|.ret (a4,())
variable{N:Nat}
def af9{p:Xl}(v:0<=p.a0)(A:0<=p.a1)(B:p.a0+p.a2<=N)(D:p.a1+p.a2<=N)(E:N<=1000000):∀(j:Nat) (k:Int) (d:List fB),(p.a2-k).toNat<=j->0<=k->d.length=N->fj (afH af) N (.ak<|.c0 p k d):=by
 intro j
 induction j with
 | zero=>intro k d g u f;exact fj.ak (fj.lss (λh=>by omega) λ_=>fj.ret f)
 | succ j ih=>
   intro k d g u f;refine fj.ak (fj.lss (λh=>?_) λ_=>fj.ret f);rw[dw (x:=p.a1) (y:=k)<|by omega,dw (x:=p.a0) (y:=k)<|by omega,dw (x:=k) (y:=1)<|by omega];exact fj.ao (cr<|by omega)<|fj.ao (cr<|by omega)<|fj.ao (cr<|by omega)<|fj.ao (E5<|by omega)<|ih (k+1) _ (by omega) (by omega)<|h_.trans<|h_.trans f
def amI{a b n:Int}(h:0<=a/\0<=n/\a+n<=b/\b+n<=(d.length:Int)/\d.length<=1000000):fj (afH af) d.length<|anM af d a b n:=
 af9 (p:=⟨a,b,n⟩) (by simp only;omega) (by simp only;omega) (by simp only;omega) (by simp only;omega) (by omega) _ 0 d (ah _) (ai 0) rfl
def Of:List fB×(Int×Int×Int)->List fB×Unit:=λ(d,a,b,n)=>(rQ (afH af) (anM af d a b n) d,())
def Ht:List fB×(Int×Int×Int)->Bool:=λ(d,a,b,n)=>decide<|0<=a/\0<=n/\a+n<=b/\b+n<=(d.length:Int)/\d.length<=1000000
def apl:fH:=⟨eB,[yI,yI,yI],[39],[],Ht,Of,false⟩
def ao8:fH.bp prog 234 apl:=fA ar dK sl 12 [⟨234,1,[[0,1,2,3,10]]⟩] [] (λA (f,(a,b,n))=>anM A f a b n) afH akp (kz (fc func234 fz) sz) (λA y=>match y with |.c0 p g u=>⟨49,sl,by kernel_rfl⟩) λ((f,(a,b,n)):List fB×(Int×Int×Int)) hp v h=>sK<|amI<|of_decide_eq_true hp
structure Xj where(a0:Int)
inductive aed where|c0(p:Xj)(a1 a2:Int)(a3:List fB)
noncomputable def akn:aed->iF
 | .c0 p a1 a2 a3=>⟨[iN 182 58 [(0,.own 0),(2,vi p.a0),(4,.fn 39 [] []),(10,vi a1),(11,vi a2)] f182 56],[aZ eB a3,.aU]⟩
def agC(A:aS)(f:List fB)(a:Int)(m:Int)(b:Int):LT (List fB×Unit) aed:=.ak<|.c0 ⟨m⟩ (A.f_ m a) (A.f_ b m) f
def afG(A:aS):aed->LT (List fB×Unit) aed
 | .c0 p a1 a2 a3=>.br (A.cm a1 a2) (.br (A.jr a1 a2) (.ao (A.k Ht (a3,A.f_ p.a0 a1,p.a0,a2))<|.ak<|.c0 p (A.f_ a1 a2) a2 (A.k Of (a3,A.f_ p.a0 a1,p.a0,a2)).1)<|.ao (A.k Ht (a3,A.f_ p.a0 a1,A.f_ (A.bT p.a0 a2) a1,a1))<|.ak<|.c0 p a1 (A.f_ a2 a1) (A.k Of (a3,A.f_ p.a0 a1,A.f_ (A.bT p.a0 a2) a1,a1)).1)<|.ao (A.k Ht (a3,A.f_ p.a0 a1,p.a0,a1))<|.ret ((A.k Of (a3,A.f_ p.a0 a1,p.a0,a1)).1,())
def Mq{a b n:Int}(h:0<=a/\0<=n/\a+n<=b/\b+n<=(d.length:Int)/\d.length<=1000000):af.k Ht (d,a,b,n)=true:=bX h
def Qq{a b n:Int}:(af.k Of (d,a,b,n)).1.length=d.length:=o4
def afy{p:Xj}(G:N<=1000000):∀(f:Nat) (i j:Int) (d:List fB),(i+j).toNat<=f->1<=i->1<=j->i<=p.a0->p.a0+j<=N->d.length=N->fj (afG af) N (.ak<|.c0 p i j d):=by
 intro f
 induction f with
 | zero=>intro i j d B v A;omega
 | succ f ih=>
   intro i j d B v A D E u;refine fj.ak (fj.neq (λh=>fj.gtr (λg=>?_) λg=>?_) λh=>?_)
   .rw[lT (x:=p.a0) (y:=i)<|by omega,lT (x:=i) (y:=j)<|by omega];exact fj.ao (Mq<|by omega)<|ih (i-j) j _ (by omega) (by omega) A (by omega) E<|Qq.trans u
   .rw[dw (x:=p.a0) (y:=j)<|by omega,lT (x:=p.a0) (y:=i)<|by omega,lT (x:=p.a0+j) (y:=i)<|by omega,lT (x:=j) (y:=i)<|by omega];exact fj.ao (Mq<|by omega)<|ih i (j-i) _ (by omega) v (by omega) D (by omega)<|Qq.trans u
   .rw[lT (x:=p.a0) (y:=i)<|by omega];exact fj.ao (Mq<|by omega)<|fj.ret<|Qq.trans u
def al9{a m b:Int}(h:0<=a/\a<m/\m<b/\b<=(d.length:Int)/\d.length<=1000000):fj (afG af) d.length<|agC af d a m b:=by
 unfold agC;rw[lT (x:=m) (y:=a)<|by omega,lT (x:=b) (y:=m)<|by omega];exact afy (p:=⟨m⟩) (by omega) _ (m-a) (b-m) d (ah _) (by omega) (by omega) (by simp only;omega) (by simp only;omega) rfl
def tf:List fB×(Int×Int×Int)->List fB×Unit:=λ(d,a,m,b)=>(rQ (afG af) (agC af d a m b) d,())
def Q9:List fB×(Int×Int×Int)->Bool:=λ(d,a,m,b)=>decide<|0<=a/\a<m/\m<b/\b<=(d.length:Int)/\d.length<=1000000
def apk:fH:=⟨eB,[yI,yI,yI],[39],[],Q9,tf,false⟩
def ao7:fH.bp prog 182 apk:=fA ar dK sl 23 [⟨182,2,[[0,2,4,10,11]]⟩] [] (λA (f,(a,m,b))=>agC A f a m b) afG akn ⟨fc func182 fz,sz,oz,(ic ao8 iz),mz,pz⟩ (λA y=>match y with |.c0 p a1 a2 g=>⟨45,sl,by kernel_rfl⟩) λ((f,(a,m,b)):List fB×(Int×Int×Int)) hp u h=>sK<|al9<|of_decide_eq_true hp
structure ai8 where(a0 a1 a2:Int)(a3:List fB)
structure ai9 where(b0 b1 b2:Int)
inductive ad6 where|c0(p:ai8)|c1(p:ai9)(b3:Int)(b4:List fB)
noncomputable def akg:ad6->iF
 | .c0 p=>⟨[iN 114 53 [(0,.own 0),(1,vi p.a0),(2,vi p.a1),(3,.fn 39 [] []),(8,vi p.a2)] f114 12],[aZ eB p.a3,.aU]⟩
 | .c1 p b3 b4=>⟨[iN 114 53 [(0,.own 0),(1,vi p.b0),(2,vi p.b1),(3,.fn 39 [] []),(8,vi p.b2),(9,vi b3)] f114 804],[aZ eB b4,.aU]⟩
def agw(A:aS)(f:List fB)(a:Int)(b:Int):LT (List fB×Unit) ad6:=.ak<|.c0 ⟨a,b,A.bT a 1,f⟩
def Vt(A:aS):ad6->LT (List fB×Unit) ad6
 | .c0 p=>.br (A.bq p.a2 p.a1) (.ak<|.c1 ⟨p.a0,p.a1,p.a2⟩ p.a2 p.a3)<|.ret (p.a3,())
 | .c1 p b3 b4=>.br (A.jr b3 p.b0) (.g_ A b3 b4<|.g_ A (A.f_ b3 1) b4<|.br (A.bq (A.k Ob ((A.n eB b4 b3:fB),(A.n eB b4 (A.f_ b3 1):fB))) 0) (.g_ A (A.f_ b3 1) b4<|.g_ A b3 b4<|.g_ A b3 b4<|.g_ A (A.f_ b3 1) (A.set b4 b3 (A.n eB b4 (A.f_ b3 1):fB))<|.ak<|.c1 p (A.f_ b3 1)<|A.set (A.set b4 b3 (A.n eB b4 (A.f_ b3 1):fB)) (A.f_ b3 1) (A.n eB b4 b3:fB))<|.ak<|.c0 ⟨p.b0,p.b1,A.bT p.b2 1,b4⟩)<|.ak<|.c0 ⟨p.b0,p.b1,A.bT p.b2 1,b4⟩
def aeW(O:N<=1000000){a b:Int}(J:0<=a)(Q:b<=N):∀(f:Nat) (i:Int) (d:List fB),(b-i).toNat<=f->a<i->d.length=N->fj (Vt af) N (.ak<|.c0 ⟨a,b,i,d⟩):=by
 intro f
 induction f with
 | zero=>intro i d E H u;exact fj.ak (fj.lss (λh=>by have:i<b:=h;omega) λ_=>fj.ret u)
 | succ f ih=>
   intro i d E H u;refine fj.ak (fj.lss (λh=>?_) λ_=>fj.ret u);have h:i<b:=h;have D:∀e:List fB,e.length=N->fj (Vt af) N (.ak<|.c0 ⟨a,b,af.bT i 1,e⟩):=λe p=>by
    rw[dw (x:=i) (y:=1)<|by omega];exact ih (i+1) e (by omega) (by omega) p
   have B:∀(g:Nat) (j:Int) (e:List fB),(j-a).toNat<=g->a<=j->j<=i->e.length=N->fj (Vt af) N (.ak<|.c1 ⟨a,b,i⟩ j e):=by
    intro g
    induction g with
    | zero=>intro j e G I v p;exact fj.ak (fj.gtr (λh=>by have:a<j:=h;omega) λ_=>D e p)
    | succ g A=>
      intro j e G I v p;refine fj.ak (fj.gtr (λh=>?_) λ_=>D e p);have h:a<j:=h;rw[lT (x:=j) (y:=1)<|by omega];exact fj.ao (cr<|by omega)<|fj.ao (cr<|by omega)<|fj.br (λ_=>fj.ao (cr<|by omega)<|fj.ao (cr<|by omega)<|fj.ao (cr<|by omega)<|fj.ao (E5<|by omega)<|A (j-1) _ (by omega) (by omega) (by omega)<|h_.trans<|h_.trans p) λ_=>D e p
   exact B _ i d (ah _) (by omega) (ai i) u
def alf{a b:Int}(h:0<=a/\a<=b/\b<=(d.length:Int)/\d.length<=1000000):fj (Vt af) d.length<|agw af d a b:=by
 unfold agw;rw[dw (x:=a) (y:=1)<|by omega];exact aeW (by omega) h.1 h.c _ (a+1) d (ah _) (by omega) rfl
def SX:List fB×(Int×Int)->List fB×Unit:=λ(d,a,b)=>(rQ (Vt af) (agw af d a b) d,())
def Mk:List fB×(Int×Int)->Bool:=λ(d,a,b)=>decide<|0<=a/\a<=b/\b<=(d.length:Int)/\d.length<=1000000
def api:fH:=⟨eB,[yI,yI],[39],[],Mk,SX,false⟩
def ao5:fH.bp prog 114 api:=fA ar dK sl 14 [⟨114,1,[[0,1,2,3,8]]⟩,⟨114,4,[[0,1,2,3,8,9]]⟩] [] (λA (f,(a,b))=>agw A f a b) Vt akg (kz (fc func114 fz) (sc ah0 sz)) (λA y=>match y with |.c0 p=>⟨24,sl,by kernel_rfl⟩|.c1 p b3 b4=>⟨57,sl,by kernel_rfl⟩) λ((f,(a,b)):List fB×(Int×Int)) hp g h=>sK<|alf<|of_decide_eq_true hp
abbrev V8:Type:=List fB×Int×Int×Int->List fB×Unit
def jC(k:Nat):List fB×Int×Int×Int->Bool:=λ(d,a,m,b)=>decide<|0<=a/\a<m/\m<b/\b<=(d.length:Int)/\d.length<=1000000/\b-a<=(k:Int)
def Zs(k:Nat)(F:V8):fH:=⟨eB,[yI,yI,yI],[39],[],jC k,F,false⟩
structure W6 where(a0:Int)(a3:List fB)
structure W7 where(b0:Int)(b3:List fB)
structure W8 where(c0 c1 c2 c3 c4 c7:Int)(c8:List fB)
structure ai_ where(d0:Int)
structure aja where(e0:Int)
inductive ad7 where|c0(p:W6)(a1 a2:Int)|c1(p:W7)(b1 b2:Int)|c2(p:W8)(c5 c6:Int)|c3(p:ai_)(d1:Int)(d2:List fB)|c4(p:aja)(e1:Int)(e2:List fB)
noncomputable def akh:ad7->iF
 | .c0 p a1 a2=>⟨[iN 115 220 [(0,.own 0),(1,vi p.a0),(4,.fn 39 [] []),(10,vi a1),(11,vi a2)] f115 344],[aZ eB p.a3,.aU]⟩
 | .c1 p b1 b2=>⟨[iN 115 220 [(0,.own 0),(2,vi p.b0),(4,.fn 39 [] []),(14,vi b1),(15,vi b2)] f115 856],[aZ eB p.b3,.aU]⟩
 | .c2 p c5 c6=>⟨[iN 115 220 [(0,.own 0),(1,vi p.c0),(2,vi p.c1),(3,vi p.c2),(4,.fn 39 [] []),(18,vi p.c3),(19,vi p.c4),(20,vi c5),(21,vi c6),(22,vi p.c7)] f115 2040],[aZ eB p.c8,.aU]⟩
 | .c3 p d1 d2=>⟨[iN 115 220 [(0,.own 0),(10,vi p.d0),(13,vi d1)] f115 1396],[aZ eB d2,.aU]⟩
 | .c4 p e1 e2=>⟨[iN 115 220 [(0,.own 0),(14,vi p.e0),(17,vi e1)] f115 3444],[aZ eB e2,.aU]⟩
abbrev zP(A:aS)(a:Int)(b:Int):=(A.v .i64<|A.b .shr .u64 (A.v .u64<|A.bT a b) 1)
def aco(A:aS)(f:List fB)(a:Int)(m:Int)(b:Int):LT (List fB×Unit) ad7:=.br (A.bG (A.f_ m a) 1) (.ak<|.c0 ⟨a,f⟩ m b)<|.br (A.bG (A.f_ b m) 1) (.ak<|.c1 ⟨m,f⟩ a m)<|.br (A.jr m<|zP A a b) (.ak<|.c2 ⟨a,m,b,zP A a b,A.bT (zP A a b) m,A.f_ (A.bT (zP A a b) m) 1,f⟩ (A.f_ (A.bT (zP A a b) m) b)<|zP A a b)<|.ak<|.c2 ⟨a,m,b,zP A a b,A.bT (zP A a b) m,A.f_ (A.bT (zP A a b) m) 1,f⟩ a m
def xn(F:V8)(k:Nat)(A:aS):ad7->LT (List fB×Unit) ad7
 | .c0 p a1 a2=>.br (A.bq a1 a2) (.g_ A (A.v .i64<|A.b .shr .u64 (A.v .u64<|A.bT a1 a2) 1) p.a3<|.g_ A p.a0 p.a3<|.br (A.bq (A.k Ob ((A.n eB p.a3 (A.v .i64<|A.b .shr .u64 (A.v .u64<|A.bT a1 a2) 1):fB),(A.n eB p.a3 p.a0:fB))) 0) (.ak<|.c0 p (A.bT (A.v .i64<|A.b .shr .u64 (A.v .u64<|A.bT a1 a2) 1) 1) a2)<|.ak<|.c0 p a1<|A.v .i64<|A.b .shr .u64 (A.v .u64<|A.bT a1 a2) 1)<|.ak<|.c3 ⟨a1⟩ p.a0 p.a3
 | .c1 p b1 b2=>.br (A.bq b1 b2) (.g_ A p.b0 p.b3<|.g_ A (A.v .i64<|A.b .shr .u64 (A.v .u64<|A.bT b1 b2) 1) p.b3<|.br (A.not<|A.bq (A.k Ob ((A.n eB p.b3 p.b0:fB),(A.n eB p.b3 (A.v .i64<|A.b .shr .u64 (A.v .u64<|A.bT b1 b2) 1):fB))) 0) (.ak<|.c1 p (A.bT (A.v .i64<|A.b .shr .u64 (A.v .u64<|A.bT b1 b2) 1) 1) b2)<|.ak<|.c1 p b1<|A.v .i64<|A.b .shr .u64 (A.v .u64<|A.bT b1 b2) 1)<|.ak<|.c4 ⟨b1⟩ p.b0 p.b3
 | .c2 p c5 c6=>.br (A.bq c5 c6) (.g_ A (A.f_ p.c7<|A.v .i64<|A.b .shr .u64 (A.v .u64<|A.bT c5 c6) 1) p.c8<|.g_ A (A.v .i64<|A.b .shr .u64 (A.v .u64<|A.bT c5 c6) 1) p.c8<|.br (A.not<|A.bq (A.k Ob ((A.n eB p.c8 (A.f_ p.c7<|A.v .i64<|A.b .shr .u64 (A.v .u64<|A.bT c5 c6) 1):fB),(A.n eB p.c8 (A.v .i64<|A.b .shr .u64 (A.v .u64<|A.bT c5 c6) 1):fB))) 0) (.ak<|.c2 p (A.bT (A.v .i64<|A.b .shr .u64 (A.v .u64<|A.bT c5 c6) 1) 1) c6)<|.ak<|.c2 p c5<|A.v .i64<|A.b .shr .u64 (A.v .u64<|A.bT c5 c6) 1)<|.br (A.bq c5 p.c1) (.br (A.bq p.c1<|A.f_ p.c4 c5) (.ao (A.k Q9 (p.c8,c5,p.c1,A.f_ p.c4 c5))<|.br (A.bq p.c0 c5) (.br (A.bq c5 p.c3) (.ao (A.k (jC k) ((A.k tf (p.c8,c5,p.c1,A.f_ p.c4 c5)).1,p.c0,c5,p.c3))<|.br (A.bq p.c3<|A.f_ p.c4 c5) (.br (A.bq (A.f_ p.c4 c5) p.c2) (.ao (A.k (jC k) ((A.k F ((A.k tf (p.c8,c5,p.c1,A.f_ p.c4 c5)).1,p.c0,c5,p.c3)).1,p.c3,A.f_ p.c4 c5,p.c2))<|.ret ((A.k F ((A.k F ((A.k tf (p.c8,c5,p.c1,A.f_ p.c4 c5)).1,p.c0,c5,p.c3)).1,p.c3,A.f_ p.c4 c5,p.c2)).1,()))<|.ret ((A.k F ((A.k tf (p.c8,c5,p.c1,A.f_ p.c4 c5)).1,p.c0,c5,p.c3)).1,()))<|.ret ((A.k F ((A.k tf (p.c8,c5,p.c1,A.f_ p.c4 c5)).1,p.c0,c5,p.c3)).1,()))<|.br (A.bq p.c3<|A.f_ p.c4 c5) (.br (A.bq (A.f_ p.c4 c5) p.c2) (.ao (A.k (jC k) ((A.k tf (p.c8,c5,p.c1,A.f_ p.c4 c5)).1,p.c3,A.f_ p.c4 c5,p.c2))<|.ret ((A.k F ((A.k tf (p.c8,c5,p.c1,A.f_ p.c4 c5)).1,p.c3,A.f_ p.c4 c5,p.c2)).1,()))<|.ret ((A.k tf (p.c8,c5,p.c1,A.f_ p.c4 c5)).1,()))<|.ret ((A.k tf (p.c8,c5,p.c1,A.f_ p.c4 c5)).1,()))<|.br (A.bq p.c3<|A.f_ p.c4 c5) (.br (A.bq (A.f_ p.c4 c5) p.c2) (.ao (A.k (jC k) ((A.k tf (p.c8,c5,p.c1,A.f_ p.c4 c5)).1,p.c3,A.f_ p.c4 c5,p.c2))<|.ret ((A.k F ((A.k tf (p.c8,c5,p.c1,A.f_ p.c4 c5)).1,p.c3,A.f_ p.c4 c5,p.c2)).1,()))<|.ret ((A.k tf (p.c8,c5,p.c1,A.f_ p.c4 c5)).1,()))<|.ret ((A.k tf (p.c8,c5,p.c1,A.f_ p.c4 c5)).1,()))<|.br (A.bq p.c0 c5) (.br (A.bq c5 p.c3) (.ao (A.k (jC k) (p.c8,p.c0,c5,p.c3))<|.br (A.bq p.c3<|A.f_ p.c4 c5) (.br (A.bq (A.f_ p.c4 c5) p.c2) (.ao (A.k (jC k) ((A.k F (p.c8,p.c0,c5,p.c3)).1,p.c3,A.f_ p.c4 c5,p.c2))<|.ret ((A.k F ((A.k F (p.c8,p.c0,c5,p.c3)).1,p.c3,A.f_ p.c4 c5,p.c2)).1,()))<|.ret ((A.k F (p.c8,p.c0,c5,p.c3)).1,()))<|.ret ((A.k F (p.c8,p.c0,c5,p.c3)).1,()))<|.br (A.bq p.c3<|A.f_ p.c4 c5) (.br (A.bq (A.f_ p.c4 c5) p.c2) (.ao (A.k (jC k) (p.c8,p.c3,A.f_ p.c4 c5,p.c2))<|.ret ((A.k F (p.c8,p.c3,A.f_ p.c4 c5,p.c2)).1,()))<|.ret (p.c8,()))<|.ret (p.c8,()))<|.br (A.bq p.c3<|A.f_ p.c4 c5) (.br (A.bq (A.f_ p.c4 c5) p.c2) (.ao (A.k (jC k) (p.c8,p.c3,A.f_ p.c4 c5,p.c2))<|.ret ((A.k F (p.c8,p.c3,A.f_ p.c4 c5,p.c2)).1,()))<|.ret (p.c8,()))<|.ret (p.c8,()))<|.br (A.bq p.c0 c5) (.br (A.bq c5 p.c3) (.ao (A.k (jC k) (p.c8,p.c0,c5,p.c3))<|.br (A.bq p.c3<|A.f_ p.c4 c5) (.br (A.bq (A.f_ p.c4 c5) p.c2) (.ao (A.k (jC k) ((A.k F (p.c8,p.c0,c5,p.c3)).1,p.c3,A.f_ p.c4 c5,p.c2))<|.ret ((A.k F ((A.k F (p.c8,p.c0,c5,p.c3)).1,p.c3,A.f_ p.c4 c5,p.c2)).1,()))<|.ret ((A.k F (p.c8,p.c0,c5,p.c3)).1,()))<|.ret ((A.k F (p.c8,p.c0,c5,p.c3)).1,()))<|.br (A.bq p.c3<|A.f_ p.c4 c5) (.br (A.bq (A.f_ p.c4 c5) p.c2) (.ao (A.k (jC k) (p.c8,p.c3,A.f_ p.c4 c5,p.c2))<|.ret ((A.k F (p.c8,p.c3,A.f_ p.c4 c5,p.c2)).1,()))<|.ret (p.c8,()))<|.ret (p.c8,()))<|.br (A.bq p.c3<|A.f_ p.c4 c5) (.br (A.bq (A.f_ p.c4 c5) p.c2) (.ao (A.k (jC k) (p.c8,p.c3,A.f_ p.c4 c5,p.c2))<|.ret ((A.k F (p.c8,p.c3,A.f_ p.c4 c5,p.c2)).1,()))<|.ret (p.c8,()))<|.ret (p.c8,())
 | .c3 p d1 d2=>.br (A.bq d1<|A.f_ p.d0 1) (.g_ A (A.bT d1 1) d2<|.g_ A d1 d2<|.g_ A d1 d2<|.g_ A (A.bT d1 1) (A.set d2 d1 (A.n eB d2 (A.bT d1 1):fB))<|.ak<|.c3 p (A.bT d1 1)<|A.set (A.set d2 d1 (A.n eB d2 (A.bT d1 1):fB)) (A.bT d1 1) (A.n eB d2 d1:fB))<|.ret (d2,())
 | .c4 p e1 e2=>.br (A.jr e1 p.e0) (.g_ A (A.f_ e1 1) e2<|.g_ A e1 e2<|.g_ A e1 e2<|.g_ A (A.f_ e1 1) (A.set e2 e1 (A.n eB e2 (A.f_ e1 1):fB))<|.ak<|.c4 p (A.f_ e1 1)<|A.set (A.set e2 e1 (A.n eB e2 (A.f_ e1 1):fB)) (A.f_ e1 1) (A.n eB e2 e1:fB))<|.ret (e2,())
section
variable {k:Nat} {F:V8}
def afq{a m b:Int}(h:0<=a/\a<m/\m<b/\b<=(d.length:Int)/\d.length<=1000000):af.k Q9 (d,a,m,b)=true:=bX h
def alr{a m b:Int}:(af.k tf (d,a,m,b)).1.length=d.length:=o4
def TE{a m b:Int}(h:0<=a/\a<m/\m<b/\b<=(d.length:Int)/\d.length<=1000000/\b-a<=(k:Int)):af.k (jC k) (d,a,m,b)=true:=bX h
def anX(A:N<=1000000){i:Int}(v:0<=i)(B:i<=N):∀(f:Nat) (j:Int) (d:List fB),(i-j).toNat<=f->0<=j->d.length=N->fj (xn F k af) N (.ak<|.c3 ⟨i⟩ j d):=by
 intro f
 induction f with
 | zero=>
   intro j d p u g;refine fj.ak ?_;rw[xn,lT (x:=i) (y:=1) (by omega)];exact fj.lss (λh=>by omega) λ_=>fj.ret g
 | succ f ih=>
   intro j d p u g;refine fj.ak ?_;rw[xn,lT (x:=i) (y:=1) (by omega)];refine fj.lss (λh=>?_) λ_=>fj.ret g;rw[dw (x:=j) (y:=1)<|by omega];exact fj.ao (cr<|by omega)<|fj.ao (cr<|by omega)<|fj.ao (cr<|by omega)<|fj.ao (E5<|by omega)<|ih (j+1) _ (by omega) (by omega)<|h_.trans<|h_.trans g
def akH(v:N<=1000000){i:Int}(A:0<=i):∀(f:Nat) (j:Int) (d:List fB),(j-i).toNat<=f->j<N->d.length=N->fj (xn F k af) N (.ak<|.c4 ⟨i⟩ j d):=by
 intro f
 induction f with
 | zero=>intro j d p u g;exact fj.ak (fj.gtr (λh=>by have:i<j:=h;omega) λ_=>fj.ret g)
 | succ f ih=>
   intro j d p u g;refine fj.ak (fj.gtr (λh=>?_) λ_=>fj.ret g);have h:i<j:=h;rw[lT (x:=j) (y:=1)<|by omega];exact fj.ao (cr<|by omega)<|fj.ao (cr<|by omega)<|fj.ao (cr<|by omega)<|fj.ao (E5<|by omega)<|ih (j-1) _ (by omega) (by omega)<|h_.trans<|h_.trans g
def amg{p:W6}(D:N<=1000000)(E:p.a3.length=N)(B:0<=p.a0/\p.a0<N):∀(f:Nat) (i j:Int),(j-i).toNat<=f->0<=i->i<=j->j<=N->fj (xn F k af) N (.ak<|.c0 p i j):=by
 intro f;have u:∀i:Int,0<=i->i<=N->fj (xn F k af) N (.ak (.c3 ⟨i⟩ p.a0 p.a3)):=λi h g=>anX D h g _ p.a0 p.a3 (ah _) B.1 E
 induction f with
 | zero=>intro i j G g v A;exact fj.ak (fj.lss (λh=>by omega) λ_=>u i g<|by omega)
 | succ f ih=>
   intro i j G g v A;refine fj.ak (fj.lss (λh=>?_) λ_=>u i g<|by omega);have⟨c,e,c1,c2⟩:=Ox g (show 0<=j by omega) (by omega);rw[e,dw (x:=c) (y:=1)<|by omega];exact fj.ao (cr<|by omega)<|fj.ao (cr<|by omega)<|fj.br (λ_=>ih (c+1) j (by omega) (by omega) (by omega) A) λ_=>ih i c (by omega) g (by omega) (by omega)
def amh{p:W7}(D:N<=1000000)(E:p.b3.length=N)(B:0<=p.b0/\p.b0<N):∀(f:Nat) (i j:Int),(j-i).toNat<=f->0<=i->i<=j->j<=N->fj (xn F k af) N (.ak<|.c1 p i j):=by
 intro f;have u:∀i:Int,0<=i->fj (xn F k af) N (.ak (.c4 ⟨i⟩ p.b0 p.b3)):=λi g=>akH D g _ p.b0 p.b3 (ah _) B.2 E
 induction f with
 | zero=>intro i j G g v A;exact fj.ak (fj.lss (λh=>by omega) λ_=>u i g)
 | succ f ih=>
   intro i j G g v A;refine fj.ak (fj.lss (λh=>?_) λ_=>u i g);have⟨c,e,c1,c2⟩:=Ox g (show 0<=j by omega) (by omega);rw[e,dw (x:=c) (y:=1)<|by omega];exact fj.ao (cr<|by omega)<|fj.ao (cr<|by omega)<|fj.br (λ_=>ih (c+1) j (by omega) (by omega) (by omega) A) λ_=>ih i c (by omega) g (by omega) (by omega)
def aaL(Q:∀x,(F x).1.length=x.1.length){p:W8}(hN:N<=1000000)(g:p.c8.length=N){lo:Int}(W:0<=p.c0/\p.c0<p.c1/\p.c1<p.c2/\p.c2<=N/\p.c2-p.c0<=(k:Int)+1)
  (X:2*p.c3<=p.c0+p.c2/\p.c0+p.c2<=2*p.c3+1) (Z:p.c4=p.c3+p.c1) (g3:p.c7=p.c4-1) (g4:p.c0<=lo/\p.c4-lo<=p.c2) :
  ∀(f:Nat) (i j:Int),(j-i).toNat<=f->lo<=i->i<=j->j<=p.c1->j<=p.c3\/p.c1<=p.c3->fj (xn F k af) N (.ak<|.c2 p i j):=by
 have J:∀{d:List fB} {a m b:Int},(af.k F (d,a,m,b)).1.length=d.length:=Q _;have u:∀i:Int,lo<=i->i<=p.c1->i<=p.c3\/p.c1<=p.c3->fj (xn F k af) N (.ak<|.c2 p i i):=λi h1 h2 h3=>by
  refine fj.ak ?_;rw[xn,lT (x:=p.c4) (y:=i)<|by omega];refine fj.lss (λh=>by omega) λ_=>?_;have O:∀{d:List fB},d.length=N->p.c3<p.c4-i->p.c4-i<p.c2->fj (xn F k af) N (.ao (af.k (jC k) (d,p.c3,p.c4-i,p.c2))<|.ret ((af.k F (d,p.c3,p.c4-i,p.c2)).1,())):=λg v A=>fj.ao (TE<|by omega)<|fj.ret<|J.trans g
  have B:∀{d:List fB},d.length=N->fj (xn F k af) N (.br (af.bq p.c3<|p.c4-i) (.br (af.bq (p.c4-i) p.c2) (.ao (af.k (jC k) (d,p.c3,p.c4-i,p.c2))<|.ret ((af.k F (d,p.c3,p.c4-i,p.c2)).1,()))<|.ret (d,()))<|.ret (d,())):=λg=>
   fj.lss (λv=>fj.lss (λA=>O g v A) λ_=>fj.ret g) λ_=>fj.ret g
  have D:∀{d:List fB},d.length=N->fj (xn F k af) N (.br (af.bq p.c0 i) (.br (af.bq i p.c3) (.ao (af.k (jC k) (d,p.c0,i,p.c3))<|.br (af.bq p.c3<|p.c4-i) (.br (af.bq (p.c4-i) p.c2) (.ao (af.k (jC k) ((af.k F (d,p.c0,i,p.c3)).1,p.c3,p.c4-i,p.c2))<|.ret ((af.k F ((af.k F (d,p.c0,i,p.c3)).1,p.c3,p.c4-i,p.c2)).1,()))<|.ret ((af.k F (d,p.c0,i,p.c3)).1,()))<|.ret ((af.k F (d,p.c0,i,p.c3)).1,()))
    (.br (af.bq p.c3<|p.c4-i) (.br (af.bq (p.c4-i) p.c2) (.ao (af.k (jC k) (d,p.c3,p.c4-i,p.c2))<|.ret ((af.k F (d,p.c3,p.c4-i,p.c2)).1,()))<|.ret (d,()))<|.ret (d,())))
    (.br (af.bq p.c3<|p.c4-i) (.br (af.bq (p.c4-i) p.c2) (.ao (af.k (jC k) (d,p.c3,p.c4-i,p.c2))<|.ret ((af.k F (d,p.c3,p.c4-i,p.c2)).1,()))<|.ret (d,()))<|.ret (d,()))):=λg=>
   fj.lss (λv=>fj.lss (λA=>fj.ao (TE<|by omega)<|B<|J.trans g) λ_=>B g) λ_=>B g
  refine fj.lss (λv=>fj.lss (λA=>fj.ao (afq<|by omega)<|D<|alr.trans g) λ_=>D g) λ_=>D g
 intro f
 induction f with
 | zero=>intro i j V G H I E;rw[show j=i by omega];exact u i G (by omega) (by omega)
 | succ f ih=>
   intro i j V G H I E;by_cases S:i=j
   .rw[S];exact u j (by omega) I E
   refine fj.ak (fj.lss (λh=>?_) λh=>by omega);have⟨c,e,c1,c2⟩:=Ox (i:=i) (j:=j) (by omega) (by omega) (by omega);rw[e,dw (x:=c) (y:=1)<|by omega,lT (x:=p.c7) (y:=c)<|by omega];exact fj.ao (cr<|by omega)<|fj.ao (cr<|by omega)<|fj.br (λ_=>ih (c+1) j (by omega) (by omega) (by omega) I E) λ_=>ih i c (by omega) G (by omega) (by omega) (by omega)
def af_(v:∀x,(F x).1.length=x.1.length){a m b:Int}(h:0<=a/\a<m/\m<b/\b<=(d.length:Int)/\d.length<=1000000/\b-a<=((k+1:Nat):Int)):fj (xn F k af) d.length<|aco af d a m b:=by
 have⟨A,D,E,B,f,u⟩:=h;have u:b-a<=(k:Int)+1:=u;unfold aco zP;have⟨c,e,c1,c2⟩:=Ox (i:=a) (j:=b) (by omega) (by omega) (by omega);rw[e,lT (x:=m) (y:=a)<|by omega,lT (x:=b) (y:=m)<|by omega,dw (x:=c) (y:=m)<|by omega,lT (x:=c+m) (y:=1)<|by omega,lT (x:=c+m) (y:=b)<|by omega];refine fj.eql (λ_=>amg (p:=⟨a,d⟩) f rfl (by simp only;omega) _ m b (ah _) (by omega) (by omega) B) λ_=>fj.eql (λ_=>amh (p:=⟨m,d⟩) f rfl (by simp only;omega) _ a m (ah _) A (by omega)<|by omega) λ_=>fj.gtr (λg=>?_) λg=>?_
 .exact aaL v (p:=⟨a,m,b,c,c+m,c+m-1,d⟩) (lo:=c+m-b) f rfl (by simp only;omega) (by simp only;omega) rfl rfl (by simp only;omega) _ (c+m-b) c (ah _) (ai _) (by omega) (by simp only;omega) (by simp only;omega)
 .exact aaL v (p:=⟨a,m,b,c,c+m,c+m-1,d⟩) (lo:=a) f rfl (by simp only;omega) (by simp only;omega) rfl rfl (by simp only;omega) _ a m (ah _) (ai _) (by omega) (by simp only;omega) (by simp only;omega)
end
def ali{k:Nat}{F:V8}(g:∀x,(F x).1.length=x.1.length)(u:fH.bp prog 115<|Zs k F):fH.bp prog 115 (Zs (k+1) λ(d,a,m,b)=>(rQ (xn F k af) (aco af d a m b) d,())):=fA ar dK sl 76 [⟨115,3,[[0,1,4,10,11]]⟩,⟨115,9,[[0,10,13]]⟩,⟨115,15,[[0,2,4,14,15]]⟩,⟨115,21,[[0,14,17]]⟩,⟨115,33,[[0,1,2,3,4,18,19,20,21,22]]⟩] [] (λA (f,(a,m,b))=>aco A f a m b) (xn F k) akh ⟨fc func115 fz,(sc ah0 sz),oz,(ic u (ic ao7 iz)),mz,pz⟩ (λA y=>match y with |.c0 p a1 a2=>⟨47,sl,by kernel_rfl⟩|.c1 p b1 b2=>⟨48,sl,by kernel_rfl⟩|.c2 p c5 c6=>⟨84,sl,by kernel_rfl⟩|.c3 p d1 d2=>⟨44,sl,by kernel_rfl⟩|.c4 p e1 e2=>⟨43,sl,by kernel_rfl⟩) λ((f,(a,m,b)):List fB×(Int×Int×Int)) hp v h=>sK<|af_ g<|of_decide_eq_true hp
def Kl:Nat->V8
 | 0=>λx=>(x.1,())
 | k+1=>λ(d,a,m,b)=>(rQ (xn (Kl k) k af) (aco af d a m b) d,())
theorem ZF:∀(k:Nat) (x:List fB×Int×Int×Int),(Kl k x).1.length=x.1.length
 | 0,_=>rfl
 | _+1,_=>o4
def aas{x:List fB×Int×Int×Int}:jC 0 x=false:=by
 have⟨d,a,m,b⟩:=x;exact fQ (by omega)
theorem ahg:∀k,fH.bp prog 115<|Zs k<|Kl k
 | 0=>⟨λw I x y v f B _ _ _ _ hp=>Bool.noConfusion<|(aas (x:=(x,y))).symm.trans hp,f115,func115,by kernel_rfl,by kernel_rfl⟩
 | k+1=>ali (ZF k)<|ahg k
structure ai2 where(a0:Int)
structure ai3 where(b0 b1:Int)(b2:List fB)
structure ai4 where(c0 c1:Int)
inductive ad2 where|c0(p:ai2)(a2 a3:Int)(a4:List fB)|c1(p:ai3)|c2(p:ai4)(c2 c3:Int)(c4:List fB)
noncomputable def aka:ad2->iF
 | .c0 p a2 a3 a4=>⟨[iN 68 63 [(0,.own 0),(1,vi p.a0),(2,.fn 39 [] []),(6,vi 20),(7,vi a2),(8,vi a3)] f68 56],[aZ eB a4,.aU]⟩
 | .c1 p=>⟨[iN 68 63 [(0,.own 0),(1,vi p.b0),(2,.fn 39 [] []),(6,vi p.b1)] f68 124],[aZ eB p.b2,.aU]⟩
 | .c2 p c2 c3 c4=>⟨[iN 68 63 [(0,.own 0),(1,vi p.c0),(2,.fn 39 [] []),(6,vi p.c1),(7,vi c2),(8,vi c3)] f68 7976],[aZ eB c4,.aU]⟩
def anK(A:aS)(f:List fB)(n:Int):LT (List fB×Unit) ad2:=.ak<|.c0 ⟨n⟩ 0 20 f
def Rl(A:aS):ad2->LT (List fB×Unit) ad2
 | .c0 p a2 a3 a4=>.br (A.bQ a3 p.a0) (.ao (A.k Mk (a4,a2,a3))<|.ak<|.c0 p a3 (A.bT a3 20) (A.k SX (a4,a2,a3)).1)<|.ao (A.k Mk (a4,a2,p.a0))<|.ak<|.c1 ⟨p.a0,20,(A.k SX (a4,a2,p.a0)).1⟩
 | .c1 p=>.br (A.bq p.b1 p.b0) (.ak<|.c2 ⟨p.b0,p.b1⟩ 0 (A.b .mul .i64 2 p.b1) p.b2)<|.ret (p.b2,())
 | .c2 p c2 c3 c4=>.br (A.bQ c3 p.c0) (.ao (A.k (jC 1000000) (c4,c2,A.bT c2 p.c1,c3))<|.ak<|.c2 p c3 (A.bT c3<|A.b .mul .i64 2 p.c1) (A.k (Kl 1000000) (c4,c2,A.bT c2 p.c1,c3)).1)<|.br (A.bq (A.bT c2 p.c1) p.c0) (.ao (A.k (jC 1000000) (c4,c2,A.bT c2 p.c1,p.c0))<|.ak<|.c1 ⟨p.c0,A.b .mul .i64 p.c1 2,(A.k (Kl 1000000) (c4,c2,A.bT c2 p.c1,p.c0)).1⟩)<|.ak<|.c1 ⟨p.c0,A.b .mul .i64 p.c1 2,c4⟩
def af8(G:N<=1000000){bs:Int}(E:1<=bs/\bs<=1000000)(p:∀d:List fB,d.length=N->fj (Rl af) N (.ak<|.c1 ⟨(N:Int),af.b .mul .i64 bs 2,d⟩)):∀(f:Nat) (a:Int) (d:List fB),(N-a).toNat<=f->0<=a->a<=N->d.length=N->fj (Rl af) N (.ak<|.c2 ⟨(N:Int),bs⟩ a (a+2*bs) d):=by
 have e:af.b .mul .i64 2 bs=2*bs:=by rw[jh,my (by omega)<|by omega]
 have u:∀{d:List fB} {a m b:Int},(af.k (Kl 1000000) (d,a,m,b)).1.length=d.length:=ZF _ _;have v:∀{d:List fB} {a m b:Int},(0<=a/\a<m/\m<b/\b<=(d.length:Int)/\d.length<=1000000/\b-a<=((1000000:Nat):Int))->af.k (jC 1000000) (d,a,m,b)=true:=λh=>bX h;intro f
 induction f with
 | zero=>
   intro a d B A D g;refine fj.ak (fj.leq (λh=>by have:a+2*bs<=N:=h;omega) λ_=>?_);rw[show af.bT a bs=a+bs from dw<|by omega];exact fj.lss (λh=>by have:a+bs<N:=h;omega) λ_=>p d g
 | succ f ih=>
   intro a d B A D g;refine fj.ak (fj.leq (λh=>?_) λ_=>?_)
   .have h:a+2*bs<=N:=h;rw[show af.bT a bs=a+bs from dw<|by omega,show af.b .mul .i64 2 bs=2*bs from e,dw (x:=a+2*bs) (y:=2*bs)<|by omega];exact fj.ao (v<|by omega)<|ih (a+2*bs) _ (by omega) (by omega) h<|u.trans g
   .rw[show af.bT a bs=a+bs from dw<|by omega];exact fj.lss (λh=>by have h:a+bs<N:=h;exact fj.ao (v (by simp only;omega))<|p _<|u.trans g) λ_=>p d g
def Ua(u:N<=1000000):∀(f:Nat) (bs:Int) (d:List fB),(N-bs).toNat<=f->1<=bs->d.length=N->fj (Rl af) N (.ak<|.c1 ⟨(N:Int),bs,d⟩):=by
 intro f
 induction f with
 | zero=>intro bs d y p g;exact fj.ak (fj.lss (λh=>by have:bs<N:=h;omega) λ_=>fj.ret g)
 | succ f ih=>
   intro bs d y p g;refine fj.ak (fj.lss (λh=>?_) λ_=>fj.ret g);have h:bs<N:=h;rw[show af.b .mul .i64 2 bs=0+2*bs by rw[jh,my (by omega)<|by omega];omega];refine af8 u ⟨p,by omega⟩ (λe v=>?_) _ 0 d (ah _) (ai 0) (by omega) g;rw[show af.b .mul .i64 bs 2=bs*2 by rw[jh,my (by omega)<|by omega]];exact ih (bs*2) e (by omega) (by omega) v
def af7(v:N<=1000000):∀(f:Nat) (a:Int) (d:List fB),(N-a).toNat<=f->0<=a->a<=N->d.length=N->fj (Rl af) N (.ak<|.c0 ⟨(N:Int)⟩ a (a+20) d):=by
 have p:∀{d:List fB} {a b:Int},(af.k SX (d,a,b)).1.length=d.length:=o4;have u:∀{d:List fB} {a b:Int},(0<=a/\a<=b/\b<=(d.length:Int)/\d.length<=1000000)->af.k Mk (d,a,b)=true:=λh=>bX h;intro f
 induction f with
 | zero=>intro a d B A D g;exact fj.ak (fj.leq (λh=>by have:a+20<=N:=h;omega) λ_=>fj.ao (u (by simp only;omega))<|Ua v _ 20 _ (ah _) (by omega)<|p.trans g)
 | succ f ih=>
   intro a d B A D g;refine fj.ak (fj.leq (λh=>?_) λ_=>fj.ao (u (by simp only;omega))<|Ua v _ 20 _ (ah _) (by omega)<|p.trans g);have h:a+20<=N:=h;rw[dw (x:=a+20) (y:=20)<|by omega];exact fj.ao (u<|by omega)<|ih (a+20) _ (by omega) (by omega) h<|p.trans g
def amD{n:Int}(h:n=(d.length:Int)/\d.length<=1000000):fj (Rl af) d.length<|anK af d n:=by
 obtain⟨rfl,h⟩:=h;exact af7 h _ 0 d (ah _) (ai 0) (by omega) rfl
def YQ:List fB×Int->List fB×Unit:=λ(d,n)=>(rQ (Rl af) (anK af d n) d,())
def aar:List fB×Int->Bool:=λ(d,n)=>decide<|n=(d.length:Int)/\d.length<=1000000
def aph:fH:=⟨eB,[yI],[39],[],aar,YQ,false⟩
def ao4:fH.bp prog 68 aph:=fA ar dK sl 19 [⟨68,2,[[0,1,2,6,7,8]]⟩,⟨68,7,[[0,1,2,6]]⟩,⟨68,9,[[0,1,2,6,7,8]]⟩] [] (λA (f,n)=>anK A f n) Rl aka ⟨fc func68 fz,sz,oz,(ic ao5 (ic (ahg 1000000) iz)),mz,pz⟩ (λA y=>match y with |.c0 p a2 g u=>⟨36,sl,by kernel_rfl⟩|.c1 p=>⟨26,sl,by kernel_rfl⟩|.c2 p c2 c3 c4=>⟨44,sl,by kernel_rfl⟩) λ((f,n):List fB×Int) hp v h=>sK<|amD<|of_decide_eq_true hp
def anI(A:aS)(f:List fB):LT (List fB×Unit) Empty:=.ao (A.k aar (f,A.l f))<|.ret ((A.k YQ (f,A.l f)).1,())
def amC(h:d.length<=1000000):fj Empty.elim d.length<|anI af d:=
 fj.ao (bX ⟨rfl,h⟩) (fj.ret<|show(af.k YQ (d,af.l d)).1.length=d.length from o4)
def YP:List fB×Unit->List fB×Unit:=λ(d,_)=>(rQ Empty.elim (anI af d) d,())
def CS:List fB×Unit->Bool:=λ(d,_)=>decide<|d.length<=1000000
def apg:fH:=⟨eB,[],[39],[],CS,YP,false⟩
def ahf:fH.bp prog 38 apg:=fA ar dK sl 13 [] [] (λA (f,())=>anI A f) (λ_=>Empty.elim) Empty.elim ⟨fc func38 fz,sz,oz,(ic ao4 iz),mz,pz⟩ (λ_ y=>y.elim) λ((f,()):List fB×Unit) hp g h=>sK<|amC<|of_decide_eq_true hp
structure aiY where(a4:au)(a5:gK)
structure aiZ where(b4:au)(b5:gK)
structure W3 where(c0:Int)(c2 c12:au)(c13:gK)(c14 Je:Int)
structure ai0 where(d0:Int)(d2 X4:au)(d13:gK)(d14 d15:Int)
inductive ad0 where|c0(p:aiY)|c1(p:aiZ)|c2(p:W3)|c3(p:ai0)(d1:Int)(V1:List cB)
noncomputable def aj9:ad0->iF
 | .c0 p=>⟨[iN 44 55 [(0,.eT true),(4,pZ 0),(14,.eT true),(15,vi 0),(16,vi 0)] f44 244,Jr 20 83 [(2,pZ 1),(6,pZ 2)] f20 30 0],[gZ [vb true,.eT true,vi 0],dZ aW p.a4,dZ gb p.a5,.aU]⟩
 | .c1 p=>⟨[iN 44 55 [(4,pZ 0),(29,.eT true),(30,vi 0),(31,vi 0)] f44 500,Jr 20 83 [(2,pZ 1),(6,pZ 2)] f20 30 0],[gZ [vb true,.eT true,vi 0],dZ aW p.b4,dZ gb p.b5,.aU]⟩
 | .c2 p=>⟨[iN 20 83 [(2,pZ 0),(9,pZ 1),(57,vi p.c0),(58,vi 0)] f20 4084],[dZ aW p.c2,gZ<|[vb false,vi 0,vi 0,vb false,vi 0,vi 0,vi 0,vi 0,.eT true,.eT true,vb true]++dc aW p.c12++dc gb p.c13 ++ [vi p.c14,vi p.Je,pZ 2,.eT true,.eT true,.eT true,.eT true,.eT true],gZ [vb true,.eT true,vi 0],.aU]⟩
 | .c3 p d1 f=>⟨[iN 20 83 [(2,pZ 0),(9,pZ 1),(57,vi p.d0),(58,vi d1)] f20 4084],[dZ aW p.d2,gZ<|[vb false,vi 0,vi 0,vb false,vi 0,vi 0,vi 0,vi 0,.eT true,.eT true,vb true]++dc aW p.X4++dc gb p.d13 ++ [vi p.d14,vi p.d15,pZ 2,.own 3,.eT true,.eT true,.eT true,.eT true],gZ [vb true,.eT true,vi 0],aZ bo f,.aU]⟩
def acS(A:aS)(p:W3):List cB:=([((A.k uj (p.c2,0)).1,(0,0,([]:List Int)),0,0,0,false,false,false)]:List cB)
def VN(A:aS)(m:au)(s:gK):LT (Bool×Net×Int) ad0:=.ao (A.k rR (m,s))<|.br (A.cm (A.k Kh (m,s)).2 0) (.ret (false,(Ty.gH kX:Net),(A.k Kh (m,s)).2))<|.ak<|.c0 ⟨m,(A.k Kh (m,s)).1⟩
def MG(A:aS):ad0->LT (Bool×Net×Int) ad0
 | .c0 p=>.br (A.bq 0 0) (.bU 37 "queue.go:33")<|.ak<|.c1 ⟨p.a4,p.a5⟩
 | .c1 p=>.br (A.bq 0 0) (.bU 37 "queue.go:38")<|.ak<|.c2 ⟨p.b4.1,p.b4,p.b4,p.b5,p.b5.1,A.bT (A.b .mul .i64 p.b4.2.1<|A.bT (A.b .mul .i64 (A.bT p.b5.1 2) p.b4.1) 1)<|A.b .mul .i64 4<|A.b .mul .i64 p.b5.1 p.b4.2.2.2.1⟩
 | .c2 p=>.br (A.bq 0 p.c0) (.br (A.cm (A.k uj (p.c2,0)).2 0) (.ret (false,(Ty.gH kX:Net),(A.k uj (p.c2,0)).2))<|.ao (A.bQ (A.l ((acS A p):List cB)) 502633886983)<|.ak<|.c3 ⟨p.c0,p.c2,p.c12,p.c13,p.c14,p.Je⟩ (A.bT 0 1)<|acS A p)<|.ret (true,((false,0,0),(false,0,0),0,0,([]:List dx),([]:List dx),true,p.c12,p.c13,p.c14,p.Je,(true,([]:List gw),0),([]:List cB),([]:List dx),([]:List dx),([]:List A7),([]:List fB)),0)
 | .c3 p d1 f=>.br (A.bq d1 p.d0) (.br (A.cm (A.k uj (p.d2,d1)).2 0) (.ret (false,(Ty.gH kX:Net),(A.k uj (p.d2,d1)).2))<|.ao (A.bQ (A.l<|A.p f ([((A.k uj (p.d2,d1)).1,(0,0,([]:List Int)),0,0,0,false,false,false)]:List cB)) 502633886983)<|.ak<|.c3 p (A.bT d1 1)<|A.p f ([((A.k uj (p.d2,d1)).1,(0,0,([]:List Int)),0,0,0,false,false,false)]:List cB))<|.ret (true,((false,0,0),(false,0,0),0,0,([]:List dx),([]:List dx),true,p.X4,p.d13,p.d14,p.d15,(true,([]:List gw),0),f,([]:List dx),([]:List dx),([]:List A7),([]:List fB)),0)
def mC:(au×gK)->Bool×Net×Int:=λ(m,s)=>gi (MG af) (VN af m s) (false,Ty.gH kX,Ty.aO [yI])
def Hm:(au×gK)->Bool:=λ(m,s)=>gu (MG af)<|VN af m s
def aqy:pG:=⟨[aW,gb],avV,true,[yI],Hm,mC⟩
def ahx:pG.bp prog 20 aqy:=wI ar dK sl 65 [⟨20,10,[[2,9,57,58]]⟩,⟨44,5,[[0,4,14,15,16],[2,6]]⟩,⟨44,11,[[4,29,30,31],[2,6]]⟩] [] (λA (m,s)=>VN A m s) MG aj9 (kz (fc func20 (fc func44 fz)) (sc ahP (sc arP sz))) (λA y=>match y with |.c0 p=>⟨22,sl,by kernel_rfl⟩|.c1 p=>⟨78,sl,by kernel_rfl⟩|.c2 p=>⟨59,sl,by kernel_rfl⟩|.c3 p d1 f=>⟨59,sl,by kernel_rfl⟩) λ((m,s):(au×gK)) hp h=>eO hp
structure WY where(a1:List Bool)(a2:Int)(a4:au)(a5:Net)
structure Ci where(b0:Int)(b1:List Bool)(b2:Int)(b4:au)
inductive adW where|c0(p:WY)(a0 a3:Int)|c1(p:Ci)(b3:Int)(b5:Net)
noncomputable def aj5:adW->iF
 | .c0 p a0 a3=>⟨[iN 7 117 [(2,pZ 0),(6,pZ 1),(8,vi a0),(28,.sl .bool p.a1),(29,vi p.a2),(30,vi a3)] f7 500],[dZ aW p.a4,bxX p.a5 2 3 4 5 6 7 8 9,bxC p.a5,bxD p.a5,bxQ p.a5 10,bxN p.a5,bxA p.a5,bxB p.a5,bxS p.a5,bxP p.a5,bxH p.a5,.aU]⟩
 | .c1 p b3 f=>⟨[iN 7 117 [(2,pZ 0),(6,pZ 1),(8,vi p.b0),(45,.sl .bool p.b1),(46,vi p.b2),(47,vi b3)] f7 1012],[dZ aW p.b4,bxX f 2 3 4 5 6 7 8 9,bxC f,bxD f,bxQ f 10,bxN f,bxA f,bxB f,bxS f,bxP f,bxH f,.aU]⟩
def RG(A:aS)(p:Ci)(f:Int)(g:Net):List cB:=(A.set g.n f ((A.k SA (p.b4,(A.n bo g.n f:cB).1,p.b0)).1,(A.n bo g.n f:cB).2))
def AF(A:aS)(p:Ci)(f:Int)(g:Net):List cB:=(md A bo (RG A p f g) f λ(h:cB)=>Dq h (A.bT p.b4.2.1 (A.n yI g.s.2.2.1 f:Int),(0:Int),([]:List Int)))
def qA(p:Ci)(f:Net):Net×Int:=(VU f (true,p.b4.2.1,(0:Int)),0)
def VK(A:aS)(m:au)(s:gK):LT (Bool×Net×Int) adW:=.ao (A.k Hm (m,s))<|.br (A.k mC (m,s)).1 (.br (A.cm (A.k mC (m,s)).2.2 0) (.ret (false,(Ty.gH kX:Net),(A.k mC (m,s)).2.2))<|.ak<|.c0 ⟨(A.k mC (m,s)).2.1.2.2.2.2.2.2.2.2.1.2.1,A.l (A.k mC (m,s)).2.1.2.2.2.2.2.2.2.2.1.2.1,m,(A.k mC (m,s)).2.1⟩ 0 0)<|.br (A.cm (A.k mC (m,s)).2.2 0) (.ret (false,(Ty.gH kX:Net),(A.k mC (m,s)).2.2))<|.bU 73 "starnet.go:146"
def Eu(A:aS):adW->LT (Bool×Net×Int) adW
 | .c0 p a0 a3=>.br (A.bq a3 p.a2) (.g_ A a3 p.a1<|.br (A.n .bool p.a1 a3:Bool) (.ao (A.bQ 0 a3)<|.ak<|.c0 p (A.b .or .i64 a0<|A.b .shl .i64 1 a3)<|A.bT a3 1)<|.ak<|.c0 p a0<|A.bT a3 1)<|.ak<|.c1 ⟨a0,p.a5.s.2.1,A.l p.a5.s.2.1,p.a4⟩ 0 p.a5
 | .c1 p b3 f=>.br (A.bq b3 p.b2) (.g_ A b3 p.b1<|.br (A.not (A.n .bool p.b1 b3:Bool)) (.ak<|.c1 p (A.bT b3 1) f)<|.g_ A b3 f.n<|.br (A.cm (A.k SA (p.b4,(A.n bo f.n b3:cB).1,p.b0)).2 0) (.ret (false,(Ty.gH kX:Net),(A.k SA (p.b4,(A.n bo f.n b3:cB).1,p.b0)).2))<|.g_ A b3 f.s.2.2.1<|.ao (A.k wy (sC f<|AF A p b3 f,(A.n bo (AF A p b3 f) b3:cB).2.1.1,5,b3))<|.qj A (AF A p b3 f)<|.ak<|.c1 p (A.bT b3 1) (A.k uo (sC f<|AF A p b3 f,(A.n bo (AF A p b3 f) b3:cB).2.1.1,5,b3)).1)<|.ao (A.k qk<|qA p f)<|.qj A f.n<|.ao (A.k qk (Dq (A.k lL<|qA p f).1 (true,p.b4.2.1,(0:Int)),1))<|.qj A (A.k lL<|qA p f).1.n<|.ret (true,(A.k lL (Dq (A.k lL<|qA p f).1 (true,p.b4.2.1,(0:Int)),1)).1,0)
def qa:(au×gK)->Bool×Net×Int:=λ(m,s)=>gi (Eu af) (VK af m s) (false,Ty.gH kX,Ty.aO [yI])
def Mf:(au×gK)->Bool:=λ(m,s)=>gu (Eu af)<|VK af m s
def aqx:pG:=⟨[aW,gb],avV,true,[yI],Mf,qa⟩
def aqv:pG.bp prog 7 aqx:=wI ar dK sl 49 [⟨7,6,[[2,6,8,28,29,30]]⟩,⟨7,12,[[2,6,8,45,46,47]]⟩] [] (λA (m,s)=>VK A m s) Eu aj5 ⟨fc func7 fz,(sc arm sz),(oc ahx oz),iz,(mc KD (mc ZP mz)),pz⟩ (λA y=>match y with |.c0 p f g=>⟨40,sl,by kernel_rfl⟩|.c1 p b3 u=>⟨110,sl,by kernel_rfl⟩) λ((m,s):(au×gK)) hp h=>eO hp
def ab8(A:aS)(f:Net):LT (Net×Bool) Empty:=.br (A.not f.2.2.2.2.2.2.1) (.ret (f,true))<|.ao (A.k QP (f.q,()))<|.ret (vJ f (A.k Oa (f.q,())).1,A.bG (A.k Oa (f.q,())).2 0)
def qb:Net×Unit->Net×Bool:=λ(f,())=>gi Empty.elim (ab8 af f) (Ty.aO [kX],Ty.aO [.bool])
def Mg:Net×Unit->Bool:=λ(f,())=>gu Empty.elim (ab8 af f)&&decide (VF.lens [fL] (qb (f,())).1=VF.lens [fL] ((f,()):Net×Unit).1)
def apW:cn:=⟨[fL],[],[.bool],Mg,qb,false,false⟩
def ahp:cn.bp prog 11 apW:=bV ar dK sl 42 [] [] (λA (f,())=>ab8 A f) (λ_=>Empty.elim) Empty.elim ⟨fc func11 (fc func27 fz),sz,oz,iz,(mc apA mz),pz⟩ (λ_ y=>y.elim) (λ((f,()):Net×Unit) hp g h=>Fh hp) (z:=λ_ _ h=>Cf h)
structure aiW where(a0:Int)(a2:Net)
structure aiX where(b0:Int)(b2:Net)
inductive adX where|c0(p:aiW)|c1(p:aiX)(b1:Int)(b3:List Node)
noncomputable def aj6:adX->iF
 | .c0 p=>⟨[iN 9 25 [(3,.eT true),(11,.own 1),(12,vi p.a0),(13,vi 0)] f9 468],[bxX p.a2 2 3 4 1 5 6 7 8,bxN p.a2,bxC p.a2,bxD p.a2,bxQ p.a2 9,bxA p.a2,bxB p.a2,bxS p.a2,bxP p.a2,bxH p.a2,.aU]⟩
 | .c1 p b1 b3=>⟨[iN 9 25 [(3,.own 2),(11,.own 1),(12,vi p.b0),(13,vi b1)] f9 468],[bxX p.b2 3 4 5 1 6 7 8 9,bxN p.b2,aZ fE b3,bxC p.b2,bxD p.b2,bxQ p.b2 10,bxA p.b2,bxB p.b2,bxS p.b2,bxP p.b2,bxH p.b2,.aU]⟩
def agn(A:aS)(f:Net):LT (Net×(List Node)) adX:=.br f.2.2.2.2.2.2.1 (.ak<|.c0 ⟨A.l f.n,f⟩)<|.ret (f,([]:List Node))
def Vr(A:aS):adX->LT (Net×(List Node)) adX
 | .c0 p=>.br (A.bq 0 p.a0) (.g_ A 0 p.a2.n<|.ao (A.k ya (A.n bo p.a2.n 0:cB).1)<|.ao (A.bQ (A.l (([(A.k xL (A.n bo p.a2.n 0:cB).1)]:List Node):List Node)) 676622540169)<|.ak<|.c1 ⟨p.a0,p.a2⟩ (A.bT 0 1) ([(A.k xL (A.n bo p.a2.n 0:cB).1)]:List Node))<|.ret (p.a2,([]:List Node))
 | .c1 p b1 b3=>.br (A.bq b1 p.b0) (.g_ A b1 p.b2.n<|.ao (A.k ya (A.n bo p.b2.n b1:cB).1)<|.ao (A.bQ (A.l<|A.p b3 ([(A.k xL (A.n bo p.b2.n b1:cB).1)]:List Node)) 676622540169)<|.ak<|.c1 p (A.bT b1 1)<|A.p b3 ([(A.k xL (A.n bo p.b2.n b1:cB).1)]:List Node))<|.ret (p.b2,b3)
def N_:Net×Unit->Net×(List Node):=λ(f,())=>gi (Vr af) (agn af f) (Ty.aO [kX],Ty.aO [(.slice fE)])
def QO:Net×Unit->Bool:=λ(f,())=>gu (Vr af) (agn af f)&&decide (VF.lens [fL] (N_ (f,())).1=VF.lens [fL] ((f,()):Net×Unit).1)
def apV:cn:=⟨[fL],[],[(.slice fE)],QO,N_,false,false⟩
def apy:cn.bp prog 9 apV:=bV ar dK sl 49 [⟨9,4,[[3,11,12,13]]⟩] [] (λA (f,())=>agn A f) Vr aj6 (kz (fc func9 (fc func27 fz)) (sc abt sz)) (λA y=>match y with |.c0 p=>⟨36,sl,by kernel_rfl⟩|.c1 p b1 b3=>⟨36,sl,by kernel_rfl⟩) (λ((f,()):Net×Unit) hp g h=>Fh hp) (z:=λ_ _ h=>Cf h)
structure W0 where(a0:Int)(a2:Net)
structure W1 where(b0:Int)(b2:Net)
inductive adZ where|c0(p:W0)|c1(p:W1)(b1:Int)(b3:List fB)
noncomputable def aj8:adZ->iF
 | .c0 p=>⟨[iN 16 30 [(3,.eT true),(11,.own 2),(12,vi p.a0),(13,vi 0)] f16 468],[bxX p.a2 3 4 5 1 6 7 8 2,bxN p.a2,bxP p.a2,bxC p.a2,bxD p.a2,bxQ p.a2 9,bxA p.a2,bxB p.a2,bxS p.a2,bxH p.a2,.aU]⟩
 | .c1 p b1 b3=>⟨[iN 16 30 [(3,.own 2),(11,.own 3),(12,vi p.b0),(13,vi b1)] f16 468],[bxX p.b2 4 5 6 1 7 8 9 3,bxN p.b2,aZ eB b3,bxP p.b2,bxC p.b2,bxD p.b2,bxQ p.b2 10,bxA p.b2,bxB p.b2,bxS p.b2,bxH p.b2,.aU]⟩
def IE(A:aS)(p:W0):fB:=(A.n eB p.a2.z 0:fB)
def IF(A:aS)(p:W1)(f:Int):fB:=(A.n eB p.b2.z f:fB)
def ago(A:aS)(f:Net):LT (Net×(List fB)) adZ:=.br f.2.2.2.2.2.2.1 (.ak<|.c0 ⟨A.l f.z,f⟩)<|.ao (A.k CS (([]:List fB),()))<|.ret (f,([]:List fB))
def Vs(A:aS):adZ->LT (Net×(List fB)) adZ
 | .c0 p=>.br (A.bq 0 p.a0) (.g_ A 0 p.a2.z<|.ao (A.k ya (IE A p).2)<|.ao (A.bQ (A.l (([(lp1 (IE A p)<|A.k xL (IE A p).2)]:List fB):List fB)) 651562446089)<|.ak<|.c1 ⟨p.a0,p.a2⟩ (A.bT 0 1) ([(lp1 (IE A p)<|A.k xL (IE A p).2)]:List fB))<|.ao (A.k CS (([]:List fB),()))<|.ret (p.a2,([]:List fB))
 | .c1 p b1 b3=>.br (A.bq b1 p.b0) (.g_ A b1 p.b2.z<|.ao (A.k ya (IF A p b1).2)<|.ao (A.bQ (A.l<|A.p b3 ([(lp1 (IF A p b1)<|A.k xL (IF A p b1).2)]:List fB)) 651562446089)<|.ak<|.c1 p (A.bT b1 1)<|A.p b3 ([(lp1 (IF A p b1)<|A.k xL (IF A p b1).2)]:List fB))<|.ao (A.k CS (b3,()))<|.ret (p.b2,(A.k YP (b3,())).1)
def Kj:Net×Unit->Net×(List fB):=λ(f,())=>gi (Vs af) (ago af f) (Ty.aO [kX],Ty.aO [(.slice eB)])
def Mh:Net×Unit->Bool:=λ(f,())=>gu (Vs af) (ago af f)&&decide (VF.lens [fL] (Kj (f,())).1=VF.lens [fL] ((f,()):Net×Unit).1)
def apX:cn:=⟨[fL],[],[(.slice eB)],Mh,Kj,false,false⟩
def apz:cn.bp prog 16 apX:=bV ar dK sl 49 [⟨16,4,[[3,11,12,13]]⟩] [] (λA (f,())=>ago A f) Vs aj8 ⟨fc func16 (fc func27 fz),(sc abt sz),oz,(ic ahf iz),mz,pz⟩ (λA y=>match y with |.c0 p=>⟨39,sl,by kernel_rfl⟩|.c1 p b1 b3=>⟨39,sl,by kernel_rfl⟩) (λ((f,()):Net×Unit) hp g h=>Fh hp) (z:=λ_ _ h=>Cf h)
inductive adV where|c0(a0:Net)|c1
noncomputable def aj4:adV->iF
 | .c0 a0=>⟨[iN 17 24 [(6,pZ 0)] f17 120],[bxX a0 1 2 3 4 5 6 7 8,bxC a0,bxD a0,bxQ a0 9,bxN a0,bxA a0,bxB a0,bxS a0,bxP a0,bxH a0,.aU]⟩
 | .c1=>⟨[iN 17 24 [(6,.gN)] f17 120],[.aU]⟩
def ab7(A:aS)(m:au)(s:gK):LT (List fB×Int) adV:=.ao (A.k Mf (m,s))<|.br (A.k qa (m,s)).1 (.br (A.cm (A.k qa (m,s)).2.2 0) (.ret (([]:List fB),(A.k qa (m,s)).2.2))<|.ak<|.c0 (A.k qa (m,s)).2.1)<|.br (A.cm (A.k qa (m,s)).2.2 0) (.ret (([]:List fB),(A.k qa (m,s)).2.2))<|.ak<|.c1
def H7(A:aS):adV->LT (List fB×Int) adV
 | .c0 a0=>.ao (A.k Mg (a0,()))<|.qj A a0.n<|.br (A.not (A.k qb (a0,())).2) (.ao (A.k CU ((A.k qb (a0,())).1,()))<|.qj A (A.k qb (a0,())).1.n<|.ak<|.c0 (A.k ta ((A.k qb (a0,())).1,())).1)<|.ao (A.k Mh ((A.k qb (a0,())).1,()))<|.qj A (A.k qb (a0,())).1.n<|.ret ((A.k Kj ((A.k qb (a0,())).1,())).2,0)
 | .c1=>.bU 194 "starnet.go:302"
def vx:(au×gK)->(List fB×Int):=λ(m,s)=>gi (H7 af) (ab7 af m s)<|Ty.aO [(.slice eB),yI]
def Hg:(au×gK)->Bool:=λ(m,s)=>gu (H7 af)<|ab7 af m s
def auf:aL:=⟨[aW,gb],[(.slice eB),yI],Hg,vx,false⟩
def ahZ:Sd 17 auf:=bE ar dK sl 37 [⟨17,4,[[6]]⟩] [] (λA (m,s)=>ab7 A m s) H7 aj4 ⟨fc func17 fz,sz,(oc aqv oz),iz,(mc ahp (mc apz (mc ahq mz))),pz⟩ (λA y=>match y with |.c0 f=>⟨22,sl,by kernel_rfl⟩|.c1=>⟨10,sl,by kernel_rfl⟩) λ((m,s):au×gK) hp h=>eO hp
def anH(A:aS)(m:au):LT (Int×Int) Empty:=.br (A.cm (A.k iR m) 0) (.ret (0,A.k iR m))<|.ret (A.b .mul .i64 40 m.1,0)
def DU:au->(Int×Int):=λm=>(anH af m).val<|Ty.aO [yI,yI]
def auh:aL:=.all [aW] [yI,yI] DU
def ar6:Sd 42 auh:=fa<|aN ar dK sl 34 [] (λA m=>anH A m)<|kz (fc func42 fz)<|sc yd sz
structure WZ where(a0:List Int)(a1:Int)(a3:au)
inductive adY where|c0(p:WZ)(a2:Int)(a4:Net)|c1(b0:Net)
noncomputable def aj7:adY->iF
 | .c0 p a2 a4=>⟨[iN 18 90 [(3,pZ 0),(8,pZ 1),(55,.sl yI p.a0),(56,vi p.a1),(57,vi a2)] f18 8180],[dZ aW p.a3,bxX a4 2 3 4 5 6 7 8 9,bxC a4,bxD a4,bxQ a4 10,bxN a4,bxA a4,bxB a4,bxS a4,bxP a4,bxH a4,.aU]⟩
 | .c1 b0=>⟨[iN 18 90 [(8,pZ 0)] f18 8184],[bxX b0 1 2 3 4 5 6 7 8,bxC b0,bxD b0,bxQ b0 9,bxN b0,bxA b0,bxB b0,bxS b0,bxP b0,bxH b0,.aU]⟩
def tH(m:au)(s:gK):au×Int×List Bool×List Int×List Int×List Int×List Int×List dP×List fX:=(m,s.1,([]:List Bool),([]:List Int),s.2.2.2.1,s.2.2.2.2.1,s.2.2.2.2.2.1,([]:List dP),([]:List fX))
def VM(A:aS)(m:au)(s:gK)(f:List Int):LT (List Node×Int) adY:=.ao (A.k Hm<|tH m s)<|.br (A.k mC<|tH m s).1 (.br (A.cm (A.k mC<|tH m s).2.2 0) (.ret (([]:List Node),(A.k mC<|tH m s).2.2))<|.br (A.cm (A.l f) m.1) (.ret (([]:List Node),2))<|.br (A.cm (A.k DU m).2 0) (.ret (([]:List Node),(A.k DU m).2))<|.ak<|.c0 ⟨f,A.l f,m⟩ 0<|avY (A.k mC<|tH m s).2.1 (1048576:Int)<|A.b .mul .i64 m.2.1<|A.bT (A.k DU m).1 1)<|.br (A.cm (A.k mC<|tH m s).2.2 0) (.ret (([]:List Node),(A.k mC<|tH m s).2.2))<|.br (A.cm (A.l f) m.1) (.ret (([]:List Node),2))<|.br (A.cm (A.k DU m).2 0) (.ret (([]:List Node),(A.k DU m).2))<|.bU 73 "starnet.go:322"
def Au(A:aS):adY->LT (List Node×Int) adY
 | .c0 p a2 a4=>.br (A.bq a2 p.a1) (.g_ A a2 p.a0<|.br (A.bq (A.n yI p.a0 a2:Int)<|-1) (.ret (([]:List Node),2))<|.br (A.jr (A.n yI p.a0 a2:Int)<|A.b .mul .i64 p.a3.1 p.a3.2.1) (.ret (([]:List Node),2))<|.br (A.qE (A.n yI p.a0 a2:Int) 0) (.ao (A.k wy (a4,A.bT p.a3.2.1 (A.n yI p.a0 a2:Int),6,a2))<|.qj A a4.n<|.ak<|.c0 p (A.bT a2 1) (A.k uo (a4,A.bT p.a3.2.1 (A.n yI p.a0 a2:Int),6,a2)).1)<|.ak<|.c0 p (A.bT a2 1) a4)<|.ak<|.c1 a4
 | .c1 b0=>.ao (A.k Mg (b0,()))<|.qj A b0.n<|.br (A.not (A.k qb (b0,())).2) (.ao (A.k CU ((A.k qb (b0,())).1,()))<|.qj A (A.k qb (b0,())).1.n<|.ak<|.c1 (A.k ta ((A.k qb (b0,())).1,())).1)<|.ao (A.k QO ((A.k qb (b0,())).1,()))<|.qj A (A.k qb (b0,())).1.n<|.ret ((A.k N_ ((A.k qb (b0,())).1,())).2,0)
def qc:(au×gK×List Int)->(List Node×Int):=λ(m,s,f)=>gi (Au af) (VM af m s f)<|Ty.aO [(.slice fE),yI]
def Hl:(au×gK×List Int)->Bool:=λ(m,s,f)=>gu (Au af)<|VM af m s f
def aug:aL:=⟨[aW,gb,Ce],[(.slice fE),yI],Hl,qc,false⟩
def ar5:Sd 18 aug:=bE ar dK sl 99 [⟨18,12,[[3,8,55,56,57]]⟩,⟨18,19,[[8]]⟩] [] (λA (m,s,f)=>VM A m s f) Au aj7 ⟨fc func18 fz,(sc ar6 sz),(oc ahx oz),iz,(mc apy (mc ahp (mc ahq (mc KD mz)))),pz⟩ (λA y=>match y with |.c0 p a2 g=>⟨60,sl,by kernel_rfl⟩|.c1 b0=>⟨22,sl,by kernel_rfl⟩) λ((m,s,f):au×gK×List Int) hp h=>eO hp
def anG(A:aS)(s:gK):LT Bool Empty:=.br (A.bQ (A.l s.2.2.2.2.2.2.1) 300) (.br (A.bQ (A.l s.2.2.2.2.2.2.2) 300) (.ret<|A.bQ (A.l s.2.2.2.2.2.1) 1100)<|.ret false)<|.ret false
def YO:gK->Bool:=λs=>(anG af s).val<|Ty.aO [.bool]
def aue:aL:=.all [gb] [.bool] YO
def ar4:Sd 6 aue:=fa<|aN ar dK sl 31 [] (λA s=>anG A s)<|kz (fc func6 fz) sz
def mW:List Int:=([2]:List Int)
def ID(A:aS):au×Int×List Bool×List Int×List Int×List Int×List Int×List dP×List fX:=((4,A.bT 76<|A.k NW (4,0,38,16,0,1,A.p (A.p (A.p [true] [true]) [true]) [true],([(A.p (A.p (A.p (mW)<|mW)<|mW)<|mW,A.p (A.p (A.p [true] [true]) [true]) [true],[true])]:List Mode)),38,16,0,1,A.p (A.p (A.p [true] [true]) [true]) [true],([(A.p (A.p (A.p (mW)<|mW)<|mW)<|mW,A.p (A.p (A.p [true] [true]) [true]) [true],[true])]:List Mode)),0,([]:List Bool),([]:List Int),([]:List Int),([]:List Int),([]:List Int),([]:List dP),([]:List fX))
def Dd(A:aS):fB:=(A.n eB (A.k vx<|ID A).1 3:fB)
def anF(A:aS):LT Bool Empty:=.ao (A.bQ (A.l ([true]:List Bool)) 140737488355328)<|.ao (A.bQ (A.l<|mW) 17592186044416)<|.ao (A.bQ (A.l<|A.p [true] [true]) 140737488355328)<|.ao (A.bQ (A.l<|A.p (mW)<|mW) 17592186044416)<|.ao (A.bQ (A.l<|A.p (A.p [true] [true]) [true]) 140737488355328)<|.ao (A.bQ (A.l<|A.p (A.p (mW)<|mW)<|mW) 17592186044416)<|.ao (A.bQ (A.l<|A.p (A.p (A.p [true] [true]) [true]) [true]) 140737488355328)<|.ao (A.bQ (A.l<|A.p (A.p (A.p (mW)<|mW)<|mW)<|mW) 17592186044416)<|.ao (A.k Hg<|ID A)<|.br (A.bG (A.k vx<|ID A).2 0) (.br (A.bG (A.l (A.k vx<|ID A).1) 4) (.g_ A 3 (A.k vx<|ID A).1<|.br (A.bG (Dd A).1 1) (.ret<|A.and (A.bG (Dd A).2.2.2.1.1 1)<|A.and (A.bG (Dd A).2.2.2.1.2.1 0)<|A.and (A.bG (Dd A).2.2.2.1.2.2.1 0)<|A.and (A.bG (Dd A).2.2.2.1.2.2.2.1 0)<|A.and (A.bG (Dd A).2.2.2.1.2.2.2.2 15) true)<|.ret false)<|.ret false)<|.ret false
def Gi:Unit->Bool:=λ_=>gi Empty.elim (anF af)<|Ty.aO [.bool]
def Me:Unit->Bool:=λ_=>gu Empty.elim<|anF af
def aud:aL:=⟨[],[.bool],Me,Gi,false⟩
def ar3:Sd 5 aud:=cK ar dK (.kP [0,0,2,0,0,2,0,0,2,0,0,2,0,0,0,0,0,2]) 343 [] (λA _=>anF A) (kz (fc func5 (fc func19 fz)) (sc ahH (sc ahZ sz))) λ_ hp h=>eO hp
structure aiV where(a0 a2:List Int)(a3:Int)(a5:au)(a6:gK)
inductive Xx where|c0(p:aiV)(a1 a4:Int)
noncomputable def aj3:Xx->iF
 | .c0 p a1 a4=>⟨[iN 4 140 [(2,.sl yI p.a0),(4,pZ 0),(5,pZ 1),(11,vi a1),(100,.sl yI p.a2),(101,vi p.a3),(102,vi a4)] f4 4084],[dZ aW p.a5,dZ gb p.a6,.aU]⟩
abbrev ab6(A:aS)(m:au)(s:gK)(f:List Int):LT Bool Xx:=(.br (A.bG (A.k Gd m) 0) (.br (A.cm (A.l f) m.1) (.ak<|.c0 ⟨f,f,A.l f,m,s⟩ 2 0)<|.ak<|.c0 ⟨f,f,A.l f,m,s⟩ (A.k Gd m) 0)<|.ak<|.c0 ⟨f,f,A.l f,m,s⟩ (A.k Gd m) 0)
def RB(A:aS)(m:au)(s:gK)(f:List Int)(g:Int):LT Bool Xx:=.ao (A.k CS (([]:List fB),()))<|.ao (A.k Me ())<|.br (A.not<|A.k Gi ()) (.ret<|A.k Gi ())<|.br (A.not<|A.k YO s) (.ret<|A.k Gi ())<|.br (A.jr (A.l f) 20) (.ret<|A.k Gi ())<|.ao (A.k Hg (m,s))<|.br (A.cm (A.k vx (m,s)).2<|A.k Gd m) (.ret false)<|.br (A.cm (A.k vx (m,s)).2 0) (.br (A.cm (A.l (A.k vx (m,s)).1) 0) (.ret false)<|ab6 A m s f)<|ab6 A m s f
def H6(A:aS):Xx->LT Bool Xx
 | .c0 p a1 a4=>.br (A.bq a4 p.a3) (.g_ A a4 p.a2<|.br (A.bG a1 0) (.br (A.bq (A.n yI p.a2 a4:Int)<|-1) (.ak<|.c0 p 2<|A.bT a4 1)<|.br (A.jr (A.n yI p.a2 a4:Int)<|A.b .mul .i64 p.a5.1 p.a5.2.1) (.ak<|.c0 p 2<|A.bT a4 1)<|.ak<|.c0 p a1<|A.bT a4 1)<|.ak<|.c0 p a1<|A.bT a4 1)<|.ao (A.k Hl (p.a5,p.a6,p.a0))<|.br (A.bG (A.k qc (p.a5,p.a6,p.a0)).2 a1) (.ret<|A.q (A.bG (A.k qc (p.a5,p.a6,p.a0)).2 0)<|A.jr (A.l (A.k qc (p.a5,p.a6,p.a0)).1) 0)<|.ret false
def SN:(au×gK×List Int×Int)->Bool:=λ(m,s,g,f)=>gi (H6 af) (RB af m s g f)<|Ty.aO [.bool]
def Mb:(au×gK×List Int×Int)->Bool:=λ(m,s,g,f)=>gu (H6 af)<|RB af m s g f
def aqP(x:au×gK×List Int×Int)(hp:Mb x=true):bi (H6 af) (RB af x.1 x.2.1 x.2.2.1 x.2.2.2)<|SN x:=@eO _ _ (H6 af) (RB af x.1 x.2.1 x.c x.C) (Ty.aO [.bool]) hp
def auc:aL:=⟨[aW,gb,Ce,yI],[.bool],Mb,SN,false⟩
def ar2:Sd 4 auc:=bE ar dK (.kP [0,1,0,0,2,0,3,0,4]) 690 [⟨4,16,[[2,4,5,11,100,101,102]]⟩] [] (λA (m,s,g,f)=>RB A m s g f) H6 aj3 ⟨fc func4 (fc func9 (fc func11 (fc func12 (fc func13 (fc func14 (fc func16 (fc func27 fz))))))),(sc aru (sc ar3 (sc ar4 (sc ahZ (sc ar5 sz))))),oz,(ic ahf iz),mz,pz⟩ (λA y=>match y with |.c0 p a1 h=>⟨48,sl,by kernel_rfl⟩) λx hp _=>aqP x hp
def Xm(k:Nat->Int)(n i:Nat):Prop:=i<n/\(∀j,0<j->j<n->j≠i->k ((j-1)/2)<=k j)/\∀j,0<j->j<n->(j-1)/2=i->0<i->k ((i-1)/2)<=k j
def Xn(k:Nat->Int)(n i:Nat):Prop:=(∀j,0<j->j<n->(j-1)/2≠i->k ((j-1)/2)<=k j)/\∀j,0<j->j<n->(j-1)/2=i->0<i->k ((i-1)/2)<=k j
def Hp(k:Nat->Int)(n:Nat):Prop:=∀j,0<j->j<n->k ((j-1)/2)<=k j
variable{i:Nat}
theorem aaD{k f:Nat->Int}{n u:Nat}(h:Xm k n i)(H:0<i)(O:u=(i-1)/2)(I:k i<=k u)(D:f i=k u)(E:f u=k i)(g:∀j,j≠i->j≠u->f j=k j):Xm f n u:=by
 have⟨a,b,c⟩:=h;refine⟨by omega,λj y A v=>?_,λj y A v B=>?_⟩
 .by_cases p:j=i
  .simp_all
  .rw[g j p v];by_cases hp:(j-1)/2=i
   .simp_all
   .by_cases J:(j-1)/2=u
    all_goals grind
 .have G:=b u B (by omega) (by omega);rw[g ((u-1)/2) (by omega)<|by omega];by_cases p:j=i
  .simp_all
  .rw[g j p<|by omega]
   grind
theorem Ms{k:Nat->Int}{n:Nat}(h:Xm k n i)(u:0<i->k ((i-1)/2)<=k i):Hp k n:=λj f g=>by
 by_cases p:j=i
 .simp_all
 .exact h.2.1 j f g p
theorem abb{k g:Nat->Int}{n f:Nat}(h:Xn k n i)(D:f<n)(hp:0<f/\(f-1)/2=i)(H:k f<=k i)(I:∀j,0<j->j<n->(j-1)/2=i->k f<=k j)(u:g i=k f)(G:g f=k i)(p:∀j,j≠i->j≠f->g j=k j):Xn g n f:=by
 have⟨a,b⟩:=h;refine⟨λj v B y=>?_,λj v B y _=>?_⟩
 .by_cases E:j=f
  .simp_all
  .by_cases A:j=i
   .subst A;rw[u,p _ (by omega) y];exact b f hp.1 D hp.2 v
   .rw[p j A E];by_cases J:(j-1)/2=i
    all_goals simp_all
 .rw[hp.2,u,p j (by omega)<|by omega]
  grind
theorem TX{k:Nat->Int}{n:Nat}(h:Xn k n i)(u:∀j,0<j->j<n->(j-1)/2=i->k i<=k j):Hp k n:=λj f g=>by
 by_cases p:(j-1)/2=i
 .simp_all
 .exact h.1 j f g p
theorem ak9{k:Nat->Int}{n:Nat}(h:Hp k n):∀j,j<n->k 0<=k j:=λj=>by
 induction j using Nat.strongRecOn with
 | _ j ih=>
   intro f;by_cases g:j=0
   .simp_all
   .exact bu (ih _ (by omega)<|by omega)<|h j (by omega) f
def CB(l:List gw)(j:Nat):Int:=(l.getD j (0,0,0,0)).1
def EY(l:List gw):Prop:=Hp (CB l) l.length
def XZ(a b:Int):Kr (a,b)=vn a b:=by
 show(agF af a b).val _=_;simp[agF,bZ,show ∀x,DX x=false from λx=>by show(x != x)=false;simp];rfl
theorem E6{a b:gw}:(Kn (a,b)=true->a.1<=b.1)/\(Kn (a,b)=false->b.1<=a.1):=by
 have e:Kn (a,b)=decide (orF [vn a.1 b.1,vn a.2.1 b.2.1,vn a.c b.c,vn a.C b.C]<0):=by
  show decide (SZ (a,b)<0)=_;rw[show SZ (a,b)=orF [Kr (a.1,b.1),rE (a.2.1,b.2.1),rE (a.c,b.c),Kr (a.C,b.C)] from rfl,XZ,XZ];rfl
 rw[e];rcases Int.lt_trichotomy a.1 b.1 with h|h|h
 .have:vn a.1 b.1 = -1:=by rw[vn,bX h];rfl
  rw[this,show orF [-1,vn a.2.1 b.2.1,vn a.c b.c,vn a.C b.C] = -1 from rfl]
  grind
 .omega
 .have:vn a.1 b.1=1:=by rw[vn,fQ<|by omega,bX h];rfl
  rw[this,show orF [1,vn a.2.1 b.2.1,vn a.c b.c,vn a.C b.C]=1 from rfl]
  grind
variable{j:Nat}
def yT{l:List gw}:(af.n gv l (j:Int):gw)=l.getD j (0,0,0,0):=by rfl
def JR(l:List gw)(i j:Nat):List gw:=(l.set i<|l.getD j (0,0,0,0)).set j<|l.getD i (0,0,0,0)
theorem KZ{l:List gw}(f:i<l.length)(g:j<l.length):(JR l i j).Perm l:=by
 have e:∀{k},(h:k<l.length)->l.getD k (0,0,0,0)=l[k]:=λh=>by simp_all
 rw[JR,e f,e g]
 grind
def Ir{l:List gw}:(JR l i j).length=l.length:=by simp[JR]
theorem Pd{l:List gw}(f:i<l.length)(g:j<l.length):CB (JR l i j) i=CB l j/\CB (JR l i j) j=CB l i/\∀k,k≠i->k≠j->CB (JR l i j) k=CB l k:=by
 simp[CB,JR]
 grind
def Ue{l:List gw}:af.set (af.set l i (af.n gv l (j:Int):gw)) (j:Int) (af.n gv l (i:Int):gw)=JR l i j:=by rfl
def half{a:Nat}(h:0<a)(f:a<=1000000):af.b .quo .i64 (af.f_ a 1) 2=(((a-1)/2:Nat):Int):=by
 rw[y5,my (by omega)<|by omega,MW,show((a:Int)-1)=((a-1:Nat):Int) from by omega];rw[show((a-1:Nat):Int).tdiv 2=(((a-1)/2:Nat):Int) from rfl,my (by omega)<|by omega]
def Tf{l:List gw}{i j:Int}{v:gw}(h:0<=i/\i<(l.length:Int)):af.and (af.bQ 0 i) (af.bq i<|af.l<|af.set l j v)=true:=cr (by rw[h_];exact h)
def afv{p:W5}{A:List gw}(I:A.length<=1000000):∀(f i:Nat) (l:List gw),i<=f->l.Perm A->Xm (CB l) l.length i->Go (aaT af) (.ak<|.c0 p i l) λr=>∃y,r=((p.a1,y,p.a2),())/\y.Perm A/\EY y:=by
 intro f
 induction f with
 | zero=>
   intro i l H hp u;have:i=0:=by omega
   exact aP<|lM (λh=>by omega) λ_=>ay ⟨l,rfl,hp,Ms u<|by omega⟩
 | succ f ih=>
   intro i l H hp u;refine aP (lM (λh=>?_) λh=>ay ⟨l,rfl,hp,Ms u<|by omega⟩);have B:0<i:=by omega
   have J:=hp.length_eq;have v:i<l.length:=u.1;rw[show yr af (i:Int)=(((i-1)/2:Nat):Int) from half B<|by omega];refine aj (cr<|by omega)<|aj (cr<|by omega)<|dO (λh=>aj (Tf<|by omega) ?_) λh=>?_
   .rw[Ue];have⟨D,E,G⟩:=Pd (l:=l) (i:=i) (j:=(i-1)/2) v (by omega);have g:=E6.1 h;exact ih _ _ (by omega) ((KZ v<|by omega).trans hp) (by rw[Ir];exact aaD u B rfl g D E G)
   .have g:=E6.2 h;exact ay ⟨l,rfl,hp,Ms u λ_=>g⟩
def afw{q:oR}(g:q.2.1.length<=1000000)(h:Xm (CB q.2.1) q.2.1.length i):QY (q,(i:Int))=true/\∃f,YR (q,(i:Int))=((q.1,f,q.2.2),())/\f.Perm q.2.1/\EY f:=
 gm (s:=aaT af) (t:=agu af q i) (afv (p:=⟨q.1,q.2.2⟩) g i i q.2.1 (ah _) (.refl _) h)
def dbl{a:Nat}{c:Int}(h:a<=1000000)(f:0<=c/\c<=2):af.bT (af.b .mul .i64 2 a) c=2*(a:Int)+c:=by
 rw[VI,jh,my (a:=2*(a:Int)) (by omega)<|by omega,my (by omega)<|by omega]
variable{P:oR×Unit->Prop}{p:K5}
def H8{f c:Nat}{a2 g k:Int}{l:List gw}(u:0<=k/\k<2)(B:(af.n yI [a2,g] k:Int)=(c:Int))(D:c<l.length->f<l.length)(A:c<l.length->CB l c<=CB l f->Go (JF af) (.ak<|.c0 p (i:Int) (c:Int) a2 g (k+1) l) P)(v:(c<l.length->CB l f<=CB l c)->Go (JF af) (.ak<|.c0 p (i:Int) (f:Int) a2 g (k+1) l) P):
  Go (JF af) (.ak<|.c0 p (i:Int) (f:Int) a2 g k l) P:=by
 refine aP<|bH (λ_=>?_) λh=>absurd u.2 (by omega);rw[B,dw (x:=k) (y:=1)<|by omega];refine aj (by rw[bF,ax,bl,bX u.1,bX u.2];rfl)<|bH (λh=>?_) λh=>v λk=>?_
 .have h:c<l.length:=by rw[eG] at h;omega
  refine aj (cr<|by omega)<|aj (cr<|by omega)<|dO (λe=>A h ?_) λe=>v λ_=>?_
  .have:=E6.1 e;rwa [yT,yT] at this
  .have:=E6.2 e;rwa [yT,yT] at this
 .rw[eG] at h;omega
theorem KS{l:List gw}(K:∀f:Nat,(f=i\/f<l.length/\(f=2*i+1\/f=2*i+2))->CB l f<=CB l i->(∀j,j<l.length->(j=2*i+1\/j=2*i+2)->CB l f<=CB l j)->Go (JF af) (.ak (.c0 p (i:Int) (f:Int) ((2*i+1:Nat):Int) ((2*i+2:Nat):Int) 2 l)) P):
  Go (JF af) (.ak (.c0 p (i:Int) (i:Int) ((2*i+1:Nat):Int) ((2*i+2:Nat):Int) 0 l)) P:=by
 refine H8 (c:=2*i+1) (by omega) rfl (by omega) (λa1 a2=>?_) λa1=>?_
 .refine H8 (k:=0+1) (c:=2*i+2) (by omega) rfl (by omega) (λg v=>K _ (by omega) (by omega) λj h u=>?_) λg=>K _ (by omega) a2 λj h u=>?_
  all_goals grind
 .refine H8 (k:=0+1) (c:=2*i+2) (by omega) rfl (by omega) (λg v=>K _ (by omega) v λj h u=>?_) λg=>K _ (by omega) (ai _) λj h u=>?_
  all_goals grind
theorem afN{y:List gw}(O:y.length<=1000000):∀(f i:Nat) (l:List gw),l.length-i<=f->l.Perm y->Xn (CB l) l.length i->
  Go (JF af) (.ak (.c0 p (i:Int) (i:Int) ((2*i+1:Nat):Int) ((2*i+2:Nat):Int) 0 l)) λr=>∃v,r=((p.a5,v,p.a6),())/\v.Perm y/\EY v:=by
 intro f
 induction f with
 | zero=>
   intro i l J hp u;refine KS λc I B D=>aP (bH (λh=>absurd h (by decide)) λ_=>dD (λh=>?_) λ_=>ay ⟨l,rfl,hp,TX u λj a1 a2 A=>absurd a2 (by omega)⟩);omega
 | succ f ih=>
   intro i l J hp u;have Q:=hp.length_eq;refine KS λc I B D=>aP (bH (λh=>absurd h (by decide)) λ_=>dD (λh=>?_) λh=>ay ⟨l,rfl,hp,TX u λj a1 a2 A=>?_⟩)
   .have g:c<l.length/\(c=2*i+1\/c=2*i+2):=by omega
    refine aj (cr (by omega)) (aj (cr (by omega)) (aj (Tf (by omega)) ?_));rw[Ue,dbl (by omega) (by omega),dbl (by omega) (by omega)];obtain⟨E,G,H⟩:=Pd (l:=l) (i:=i) (j:=c) (by omega) g.1;have:=ih c (JR l i c) (by rw[Ir];omega) ((KZ (by omega) g.1).trans hp) (by
     rw[Ir];exact abb u g.1 (by omega) B (λj a1 a2 A=>D j a2 (by omega)) E G H)
    simp_all
   grind
def afO{q:oR}(g:q.2.1.length<=1000000)(h:Xn (CB q.2.1) q.2.1.length 0):QW (q,0)=true/\∃f,SV (q,0)=((q.1,f,q.2.2),())/\f.Perm q.2.1/\EY f:=
 gm (s:=JF af) (t:=agr af q 0) (afN (p:=⟨q.1,q.2.2⟩) g _ 0 q.2.1 (ah _) (.refl _) h)
theorem afs{q:oR}{e:gw}(E:q.1=true)(J:q.2.1.length<=16384)(G:EY q.2.1):QZ (q,e)=true/\((wY (q,e)).2≠0/\(wY (q,e)).1=q\/(wY (q,e)).2=0/\q.2.2<=e.1/\∃f,(wY (q,e)).1=(q.1,f,q.2.2)/\f.Perm (e::q.2.1)/\f.length<=16384/\EY f):=by
 refine gm (s:=Empty.elim) (t:=agv af q e) (d:=_) (P:=λr=>r.2≠0/\r.1=q\/r.2=0/\q.2.2<=e.1/\∃f,r.1=(q.1,f,q.2.2)/\f.Perm (e::q.2.1)/\f.length<=16384/\EY f) ?_;refine dG (λk=>absurd (E.symm.trans k)<|by decide) λ_=>bH (λ_=>ay<|.inl ⟨show ¬(140:Int)=0 by decide,rfl⟩) λD=>lM (λ_=>ay<|.inl ⟨show ¬(140:Int)=0 by decide,rfl⟩) λ_=>xS (λ_=>ay<|.inl ⟨show ¬(3:Int)=0 by decide,rfl⟩) λh=>?_;have h:q.2.1.length<16384:=by rw[eG] at h;omega
 have B:af.f_ (af.l<|af.p q.2.1 ([e]:List gw)) 1=(q.2.1.length:Int):=by
  rw[show af.p q.2.1 [e]=q.2.1 ++ [e] from rfl,eG,uy,bP,y5,my (by omega)<|by omega];omega
 rw[B];have p:∀j,j<q.2.1.length->CB (q.2.1 ++ [e]) j=CB q.2.1 j:=λj H=>by
  simp[CB,GB,cN H]
 have⟨a1,f,a2,u,v⟩:=afw (q:=(q.1,q.2.1 ++ [e],q.2.2)) (i:=q.2.1.length) (by grind) (by
  rw[uy,bP];refine⟨Nat.lt_succ_self _,λj g y A=>?_,λj g y A I=>by omega⟩;rw[p _<|by omega,p _<|by omega];exact G j g<|by omega)
 refine aj ?_<|aj a1<|ay<|.inr ⟨rfl,D,f,?_,?_,?_,v⟩
 .rw[show af.p q.2.1 [e]=q.2.1 ++ [e] from rfl,eG,uy,bP,ax]
  grind
 .exact congrArg Prod.fst a2
 .grind
 .have:=u.length_eq;grind
def acM{l:List gw}{v:gw}(h:0<l.length):af.and (af.bQ 0 0) (af.and (af.bQ 0<|(l.length:Int)-1)<|af.bQ ((l.length:Int)-1)<|af.l<|af.set l 0 v)=true:=by
 rw[bF,bF,ax,ax,ax,eG,h_,bX (by omega:(0:Int)<=(l.length:Int)-1),bX (by omega:(l.length:Int)-1<=(l.length:Int))];rfl
theorem alU{q:oR}(W:q.1=true)(hN:q.2.1.length<=16384)(D:EY q.2.1):QQ (q,())=true/\(q.2.1=[]/\(zB (q,())).2.2≠0/\(zB (q,())).1=q\/(zB (q,())).2.2=0/\∃f,(zB (q,())).1=(q.1,f,(zB (q,())).2.1.1)/\((zB (q,())).2.1::f).Perm q.2.1/\EY f/\∀y∈q.2.1,(zB (q,())).2.1.1<=y.1):=by
 refine gm (s:=Empty.elim) (t:=acb af q) (d:=_) (P:=λr=>q.2.1=[]/\r.2.2≠0/\r.1=q\/r.2.2=0/\∃f,r.1=(q.1,f,r.2.1.1)/\(r.2.1::f).Perm q.2.1/\EY f/\∀y∈q.2.1,r.2.1.1<=y.1) ?_;have B:yh af q=(q.2.1.length:Int)-1:=by
  show af.f_ (af.l q.2.1) 1=_;rw[eG,y5,my (by omega) (by omega)]
 unfold acb;rw[B];refine dG (λk=>absurd (W.symm.trans k) (by decide)) λ_=>bH (λh=>ay (.inl ⟨cu.1 (by omega),(show ¬(4:Int)=0 by decide),rfl⟩)) λh=>?_;have hp:0<q.2.1.length:=by omega
 have X:((q.2.1.length:Int)-1)=((q.2.1.length-1:Nat):Int):=by omega
 have O:M6 af q=((q.1,(q.2.1.set 0 (q.2.1.getD (q.2.1.length-1) (0,0,0,0))).take (q.2.1.length-1),q.2.2),0):=by
  unfold M6;rw[B,X,yT,y5,my (by omega) (by omega),jU,Int.sub_zero,y7];rfl
 rw[O];have v:((q.2.1.set 0 (q.2.1.getD (q.2.1.length-1) (0,0,0,0))).take (q.2.1.length-1)).length=q.2.1.length-1:=by simp_all
 have E:∀j,0<j->j<q.2.1.length-1->CB ((q.2.1.set 0 (q.2.1.getD (q.2.1.length-1) (0,0,0,0))).take (q.2.1.length-1)) j=CB q.2.1 j:=λj h0 u=>by
  simp only[CB]
  grind
 obtain⟨a1,f,a2,G,H⟩:=afO (q:=(q.1,(q.2.1.set 0 (q.2.1.getD (q.2.1.length-1) (0,0,0,0))).take (q.2.1.length-1),q.2.2)) (by grind) (by
  rw[v];refine⟨λj p A I=>?_,λj p A I J=>absurd J (bJ 0)⟩;rw[E _ (by omega) (by omega),E _ p A];exact D j p (by omega))
 have Q:(af.n gv q.2.1 0:gw)=q.2.1.getD 0 (0,0,0,0):=yT (j:=0);refine aj (cr (i:=0) (by omega)) (aj (cr (by omega)) (aj ?_ (aj a1 (ay (.inr ⟨rfl,f,?_,?_,H,λy Z=>?_⟩)))))
 .exact acM hp
 .show lp2 (af.k SV _).1 _=_;rw[bZ,a2]
 .refine(G.cons _).trans ?_;generalize q.2.1=l at hp;cases l with
  | nil=>simp_all
  | cons a t=>
    rcases List.eq_nil_or_concat t with rfl|⟨g,z,rfl⟩
    .rfl
    .have S:(a::(g ++ [z])).length-1=g.length+1:=by simp
     have V:(a::(g ++ [z])).getD (g.length+1) (0,0,0,0)=z:=by simp
     rw[List.concat_eq_append,S,V,mV,im,gQ]
     .show(a::z::g).Perm _;exact(List.perm_append_comm (l₁:=[z])).cons a
     .rfl
 .rw[Q];obtain⟨j,u⟩:=gX Z;have:=ak9 D j (aR.1 u).1;simp only[CB,u] at this
  simp_all
def VY(b:Int)(l:List Int):Prop:=∀i:Nat, -b<=l.getD i 0/\l.getD i 0<=b
theorem VY.set{b v:Int}{l:List Int}{j:Int}(h:VY b l)(f:-b<=v/\v<=b):VY b<|af.set l j v:=λi=>by
 show -b<=(l.set j.toNat v).getD i 0/\(l.set j.toNat v).getD i 0<=b;have:=h i
 grind
theorem VY.of{b:Int}{l:List Int}(f:0<=b)(h:∀x∈l, -b<=x/\x<=b):VY b l:=λi=>by
 rw[GB];cases k:l[i]? with
 | none=>simp_all
 | some x=>exact h x<|jf k
def aeX{l:List Int}{i j:Int}{v:Int}(h:0<=i/\i<(l.length:Int)):af.and (af.bQ 0 i) (af.bq i<|af.l<|af.set l j v)=true:=cr (by rw[h_];exact h)
def aa2{l:List Int}{i j v w:Int}:(af.set (af.set l i v) j w).length=l.length:=by rw[h_,h_]
def alz(x:Int):DX x=false:=by show(x != x)=false;simp
def akT{l:List Int}(p:l.length<=1000000)(h:VY 1099511627776 l):Rb (l,1099511627776)=true/\YY (l,1099511627776)=false:=by
 refine gm (s:=Vu af) (t:=agG af l 1099511627776) (d:=_) (P:=λr=>r=false)<|aP ?_;have:∀(j k:Nat),l.length-k<=j->Go (Vu af) (Vu af<|.c0 ⟨l,af.l l,1099511627776⟩ k) λr=>r=false:=by
  intro j
  induction j with
  | zero=>intro k f;exact bH (λg=>absurd g (by show ¬(k:Int)<(l.length:Int);omega)) λ_=>ay rfl
  | succ j ih=>
    intro k f;refine bH (λg=>?_) λ_=>ay rfl;have g:k<l.length:=by have g:(k:Int)<(l.length:Int):=g;omega
    have u:=h k;refine aj (cr (l:=l)<|by omega)<|bH (λe=>?_) λ_=>lM (λe=>?_) λ_=>aP ?_
    .exfalso;have e:l.getD (k:Int).toNat 0 < -1099511627776:=e;rw[y7] at e;omega
    .exfalso;have e:1099511627776<l.getD (k:Int).toNat 0:=e;rw[y7] at e;omega
    .rw[dw<|by omega,show(k:Int)+1=((k+1:Nat):Int) from by omega];exact ih (k+1) (by omega)
 exact this _ 0<|ah _
def NE(b:Int)(r:Int×Int×Int):Prop:=r.2.2=0/\(-b<=r.1/\r.1<=b)/\ -b<=r.2.1/\r.2.1<=b
theorem aeY{b:Int}{n:Nat}(J:1<=n/\n<=9):∀(f i:Nat) (l:List Int),n-i<=f->l.length=n->VY b l->Go (MJ af) (.ak<|.c1 ⟨(n:Int),(i:Int),l⟩) (NE b):=by
 have D:∀(l:List Int) (i:Nat),¬i<n->l.length=n->VY b l->Go (MJ af) (.ak<|.c1 ⟨(n:Int),(i:Int),l⟩) (NE b):=by
  intro l i E u p;have B:AR af ⟨(n:Int),(i:Int),l⟩=(n:Int)-1:=by
   show af.f_ (af.l l) 1=_;rw[eG,u,lT<|by omega]
  have G:Dn af ⟨(n:Int),(i:Int),l⟩=(n:Int)-2:=by
   show af.f_ (AR af _) 1=_;rw[B,lT<|by omega];omega
  refine aP<|bH (λh=>absurd h<|by grind) λ_=>xS (λg=>?_) λg=>?_
  .have g:4<=n:=by have g:(4:Int)<=(l.length:Int):=g;omega
   refine aj ?_<|aj ?_<|aj ?_<|ay ⟨rfl,p _,p _⟩
   .simp[bF,ax,eG,eH,tP];omega
   .simp[bF,ax,bl,eH,tP];omega
   .rw[lT<|by omega];simp[bF,ax,bl,eH,tP];omega
  .rw[B];exact aj (cr (l:=l)<|by omega)<|aj (cr (l:=l)<|by omega)<|ay ⟨rfl,p _,p _⟩
 intro f
 induction f with
 | zero=>grind
 | succ f ih=>
   intro i l H u p;by_cases E:i<n
   .refine aP<|bH (λ_=>aP ?_) λh=>absurd h (by grind);have A:∀(k:Nat) (l:List Int),k<=i->l.length=n->VY b l->Go (MJ af) (MJ af<|.c2 ⟨(n:Int),(i:Int)⟩ k l) (NE b):=by
     have v:∀(l:List Int),l.length=n->VY b l->Go (MJ af) (.ak<|.c1 ⟨(n:Int),af.bT i 1,l⟩) (NE b):=λl u p=>by
      rw[dw<|by omega,show(i:Int)+1=((i+1:Nat):Int) from by omega];exact ih (i+1) l (by omega) u p
     intro k
     induction k with
     | zero=>intro l _ u p;exact lM (λh=>absurd h<|by decide) λ_=>v l u p
     | succ k y=>
       intro l I u p;refine lM (λ_=>?_) λh=>absurd h (by omega);have e:af.f_ ((k+1:Nat):Int) 1=(k:Int):=by rw[lT<|by omega];omega
       refine aj (cr<|by omega)<|aj (cr<|by omega)<|dO (λg=>absurd (g.symm.trans<|alz _)<|by decide) λ_=>bH (λ_=>aj ?_<|aP ?_) λ_=>v l u p
       .unfold Nk;exact aeX (by omega)
       .unfold Nl;rw[e];exact y _ (by omega) (aa2.trans u)<|(p.set<|p _).set<|p _
    simp_all
   grind
def alp{n:Nat}(h:n<=9):L_ (af.v .u64 n)=true:=by
 have:∀k:Fin 10,L_ (af.v .u64 ((k.val:Nat):Int))=true:=by decide +kernel
 exact this ⟨n,by omega⟩
def X3{l:List Int}:af.spl (af.r (af.l l) (0:Int)) 0 (af.s l 0<|af.mn (af.l l)<|af.l<|af.r (af.l l) (0:Int))=l:=by
 have e:af.r (af.l l) (0:Int)=List.replicate l.length 0:=by rfl
 rw[e,eG,eG,GU,n_,if_neg<|by omega,jU,oQ,y7,jv];simp
variable{α:Type}
def alt{l:List α}{N:Int}(h:(l.length:Int)<=N):af.and (af.bG (af.l l)<|af.l l) (af.and (af.bQ 0<|af.l l)<|af.bQ (af.l l) N)=true:=by
 rw[bF,bF,bf,ax,ax,eG,bX h,bX (by omega:(0:Int)<=l.length)];simp
def aeZ{l:List Int}{b:Int}(y:0<=b/\b<=1099511627776)(p:1<=l.length/\l.length<=9)(h:∀x∈l, -b<=x/\x<=b):Ra l=true/\NE b (Bs l):=by
 refine gm (s:=MJ af) (t:=acE af l) (d:=_) ?_;have f:=VY.of y.1 h;have⟨u,v⟩:=akT (l:=l) (by omega) λi=>by have:=f i;omega
 have e:IZ af l=l:=X3;unfold acE;rw[e];refine dJ (λg=>by rw[eG] at g;omega) λ_=>aj u<|dO (λg=>absurd (v.symm.trans g)<|by decide) λ_=>aj ?_<|aj (alp p.2)<|aP<|Ag (λ_=>?_) λg=>?_
 .exact alt (l:=l) (by omega)
 .exact aeY p _ 1 l (ah _) rfl f
 .exfalso;have g:12<af.f_ (l.length:Int) 0:=g;rw[lT<|by omega] at g;omega
theorem awW{x:Int}:af.b .shr .i64 x 1=x/2:=by
 show Int.fdiv x (2^(min (1:Int).toNat 64))=_
 grind
def als{l:List Int}{b:Int}(p:0<=b/\b<=1099511627776)(u:1<=l.length/\l.length<=9)(h:∀x∈l, -b<=x/\x<=b):Q_ l=true/\(Oe l).2=0/\ -b<=(Oe l).1/\(Oe l).1<=b:=by
 have⟨f,g,v,y⟩:=aeZ p u h;refine gm (s:=Empty.elim) (t:=agE af l) (d:=_) (P:=λr=>r.2=0/\ -b<=r.1/\r.1<=b)<|aj f<|ay ⟨g,?_⟩;show -b<=af.b .shr .i64 (af.bT (Bs l).1 (Bs l).2.1) 1/\af.b .shr .i64 (af.bT (Bs l).1 (Bs l).2.1) 1<=b;rw[dw<|by omega,awW];omega
def aeB{w x:Int}(f:0<=w/\w<=1048576):X8 w x=true↔ -w<=x/\x<=w:=by
 simp[X8,eH,fK,bl,gD,decide_eq_false_iff_not];rw[show af.u .neg .i64 w = -w from by show IntKind.i64.wrap (0-w)=_;rw[my (by omega)<|by omega];omega];omega
theorem Bb{w:Int}{c:rh}(f:0<=w/\w<=1048576):zf w c=true↔(0<=c.1/\c.1<=1099494850560)/\(0<=c.2.1/\c.2.1<=1048576)/\c.2.2.length<=8/\∀x∈c.2.2, -w<=x/\x<=w:=by
 simp[zf,eH,cv,aeB f]
 grind
theorem UB{m:au}{c:rh}(h:XX (m,c)=0):df m=true/\zf m.2.2.2.1 c=true:=by
 unfold XX at h
 grind
theorem uB{m:au}(h:df m=true):(4<=m.1/\m.1<=8)/\(0<=m.2.2.2.2.1/\m.2.2.2.2.1<=64)/\(0<=m.2.2.2.2.2.1/\m.2.2.2.2.2.1<=64)/\(16*m.1*m.2.2.2.2.1+16<=m.2.2.2.1/\0<=m.2.2.2.1/\m.2.2.2.1<=1048576)/\(2*m.2.2.2.1+2*m.2.2.2.2.2.1+4<=m.2.2.1/\m.2.2.1<=1048576)/\2*m.2.2.1+ig m<=m.2.1/\m.2.1<=16777216/\0<=ig m:=by
 have⟨n,s,g,w,d,u,p,f⟩:=m;have:=ZN h;have v:=sI (m:=(n,s,g,w,d,u,p,f));simp[df,qU] at h
 grind
theorem akx{m:au}{c:rh}:Q8 (m,c)=true/\((w6 (m,c)).2=0->df m=true/\zf m.2.2.2.1 c=true/\ -m.2.2.2.1<=(w6 (m,c)).1/\(w6 (m,c)).1<=m.2.2.2.1):=by
 refine gm (s:=Empty.elim) (t:=acC af m c) (d:=_) (P:=λr=>r.2=0->df m=true/\zf m.2.2.2.1 c=true/\ -m.2.2.2.1<=r.1/\r.1<=m.2.2.2.1) ?_;unfold acC;rw[show af.k wW (m,c)=XX (m,c) from Yw];refine dD (λg=>ay λh=>absurd h g) λg=>?_;have⟨f,p⟩:=UB g;have A:=uB f;have⟨_,_,v,y⟩:=(Bb<|by omega).1 p;have e:IW af c=c.2.2 ++ [0]:=by
  unfold IW;rw[X3];rfl
 rw[e];have⟨a1,a2,u⟩:=als (l:=c.2.2 ++ [0]) (b:=m.2.2.2.1) (by omega) (by simp_all) λx B=>by grind
 refine aj ?_<|aj ?_<|aj a1<|ay λ_=>⟨f,p,u⟩
 .simp[bF,ax,eG,eH,tP];rw[dw<|by omega];omega
 .rw[ax,eG,uy,bP];grind
structure Fw(m:au)(c:rh)(d:Int)(r:rh):Prop where
 ml:df m=true
 ck:zf m.2.2.2.1 c=true
 ck':zf m.2.2.2.1 r=true
 dr:-m.2.2.2.2.1<=d/\d<=m.2.2.2.2.1
 sl:r.2.1=c.2.1+1
 st:(c.2.1+1)%m.1=0/\(c.1+m.2.1+d-m.2.2.2.1<=r.1/\r.1<=c.1+m.2.1+d+m.2.2.2.1)\/(c.2.1+1)%m.1≠0/\r.1=c.1+m.2.1+d
theorem alG{m:au}{c:rh}{d:Int}:QX (m,c,d)=true/\((Kk (m,c,d)).2=0->Fw m c d (Kk (m,c,d)).1):=by
 refine gm (s:=Empty.elim) (t:=ags af m c d) (d:=_) (P:=λr=>r.2=0->Fw m c d r.1) ?_;have⟨G,H⟩:=akx (m:=m) (c:=c);refine aj G<|dD (λg=>ay λh=>absurd h g) λg=>?_;have⟨u,v,S⟩:=H g;have V:=uB u;have⟨I,J,O,Q⟩:=(Bb<|by omega).1 v;rw[show af.u .neg .i64 m.2.2.2.2.1 = -m.2.2.2.2.1 from by show IntKind.i64.wrap (0-_)=_;rw[my (by omega)<|by omega];omega];refine bH (λ_=>ay λh=>absurd h<|by omega) λy=>lM (λ_=>ay λh=>absurd h<|by omega) λA=>aj (by rw[b_];grind) ?_;have B:af.b .rem .i64 (af.bT c.2.1 1) m.1=(c.2.1+1)%m.1:=by
  rw[dw<|by omega,MX,i_<|by omega]
 have D:af.bT c.1 (af.bT m.2.1 d)=c.1+m.2.1+d:=by rw[dw (x:=m.2.1)<|by omega,dw<|by omega];omega
 rw[B,D];refine dJ (λp=>dG (λ_=>ay λh=>absurd h<|by omega) λf=>ay λ_=>?_) λp=>aj ?_<|dG (λ_=>ay λh=>absurd h<|by omega) λf=>ay λ_=>?_
 .have E:af.bT (c.1+m.2.1+d) (af.k w6 (m,c)).1=c.1+m.2.1+d+(w6 (m,c)).1:=dw (by show _<=_+(w6 (m,c)).1/\_+(w6 (m,c)).1<_;omega);rw[E,dw (x:=c.2.1)<|by omega] at f ⊢;exact⟨u,v,f,⟨y,A⟩,rfl,.inl ⟨p,by grind⟩⟩
 .refine(gm (s:=Empty.elim) (t:=agB af c.2.2 0) (d:=[]) (P:=λ_=>True)<|aj ?_<|ay trivial).1;simp[bF,ax,bf,eG];rw[dw<|by omega];grind
 .rw[dw (x:=c.2.1)<|by omega] at f ⊢;exact⟨u,v,f,⟨y,A⟩,rfl,.inr ⟨p,rfl⟩⟩
variable{t:Int}
theorem amk{m:au}{c:rh}(u:c.2.2.length<=1000000):Hr (m,c,t)=true/\((wZ (m,c,t)).2=0->(wZ (m,c,t)).1.1=c.1/\(wZ (m,c,t)).1.2.1=c.2.1/\(c.2.2.length<=8->(wZ (m,c,t)).1.2.2.length<=8)):=by
 refine gm (s:=Empty.elim) (t:=acB af m c t) (d:=_) (P:=λr=>r.2=0->r.1.1=c.1/\r.1.2.1=c.2.1/\(c.2.2.length<=8->r.1.2.2.length<=8)) ?_;have e:Ni af m c t=c.2.2 ++ [af.f_ t<|af.k NV (m,c)]:=by
  unfold Ni;rw[X3];rfl
 unfold acB;rw[e];refine dD (λg=>ay λh=>absurd h g) λ_=>dJ (λ_=>ay λh=>absurd h<|by omega) λf=>bH (λ_=>ay λh=>absurd h<|by omega) λ_=>xS (λ_=>ay λh=>absurd h<|by omega) λ_=>aj ?_<|aj ?_<|ay λ_=>⟨rfl,rfl,λp=>?_⟩
 .simp[bF,ax,eG,eH,tP];rw[dw<|by omega];omega
 .rw[ax,eG,uy,bP];grind
 .have f:c.2.2.length≠8:=λe=>f (by rw[eG,e];rfl)
  grind
def K0{R:Type}{P:R->Prop}{t:LT R Empty}{d:R}(h:Go Empty.elim t P)(e:t.Eqs)(f:t.pre=true):P<|t.val d:=by
 have⟨r,a,b⟩:=h;rw[<-a.one<|LT.runs (d:=d) e f];exact b
def XV{m:au}{p:Int}(h:(rF (m,t,p)).2=0):df m=true/\(0<=t/\t<=1099511627776)/\(0<=p/\p<m.1)/\rF (m,t,p)=((t-(m.2.2.1+m.2.2.2.2.2.1),p,[]),0)/\zf m.2.2.2.1 (t-(m.2.2.1+m.2.2.2.2.2.1),p,[])=true:=by
 revert h;refine K0 (t:=agA af m t p) (P:=λr=>r.2=0->df m=true/\(0<=t/\t<=1099511627776)/\(0<=p/\p<m.1)/\r=((t-(m.2.2.1+m.2.2.2.2.2.1),p,[]),0)/\zf m.2.2.2.1 (t-(m.2.2.1+m.2.2.2.2.2.1),p,[])=true) ?_ (LT.kG<|by rfl)<|LT.nG (by rfl);have v:∀x:rh,zf m.2.2.2.1 (-1,p,vf)=false:=λ_=>by rfl
 unfold agA acA;refine dD (λg=>ay λh=>absurd h g) λg=>bH (λ_=>ay λh=>absurd h<|by omega) λy=>xS (λ_=>ay λh=>absurd h<|by omega) λA=>?_;have u:=oZ.1 g;have E:=uB u;refine xS (λB=>Ag (λD=>?_) λ_=>?_) λ_=>?_
 .have e:af.f_ t (af.bT m.2.2.1 m.2.2.2.2.2.1)=t-(m.2.2.1+m.2.2.2.2.2.1):=by rw[dw<|by omega,lT<|by omega]
  rw[e];exact dG (λ_=>ay λh=>absurd h<|by omega) λf=>ay λ_=>⟨u,⟨B,D⟩,⟨y,A⟩,rfl,f⟩
 .exact dG (λ_=>ay λh=>absurd h<|by omega) λf=>absurd (f.symm.trans<|v (0,0,[])) (by decide)
 .exact dG (λ_=>ay λh=>absurd h<|by omega) λf=>absurd (f.symm.trans<|v (0,0,[])) (by decide)
theorem CK{l:List α}(h:l.length≠0):af.cm (af.l l) 0=true:=by
 rw[b_,eG];simp_all
def X9{s:gK}{n k i d:Int}(A:0<=d)(h:∀x∈s.2.2.2.2.2.1, -d<=x/\x<=d)(G:s.2.2.2.2.2.1.length<=1000000):Mj (s,n,k,i)=true/\ -d<=zC (s,n,k,i)/\zC (s,n,k,i)<=d:=by
 refine gm (s:=Empty.elim) (t:=agt af s n k i) (d:=_) (P:=λr=> -d<=r/\r<=d) ?_;have z:-d<=(0:Int)/\(0:Int)<=d:=by omega
 refine dJ (λ_=>ay z) λp=>bH (λ_=>ay z) λy=>bH (λ_=>ay z) λB=>bH (λ_=>ay z) λD=>lM (λ_=>ay z) λf=>?_;have p:s.f.length≠0:=λe=>p (by rw[eG,e];rfl);have f:k<=1048576/\i<=1048576/\n<=1048576:=by
  rw[wN,wN] at f;split at f<;>split at f<;>omega
 have E:0<=k*n/\k*n<=1048576*1048576:=⟨cO y<|by omega,bu (cY f.1<|by omega)<|bM f.2.2<|by decide⟩;have e:af.b .rem .i64 (af.bT (af.b .mul .i64 k n) i) (af.l s.f)=(k*n+i)%(s.f.length:Int):=by
  rw[jh,my (by omega)<|by omega,dw<|by omega,MX,eG,i_<|by omega]
 have u:=jR (k*n+i) (b:=(s.f.length:Int)) (by omega);have v:=mR (k*n+i) (b:=(s.f.length:Int)) (by omega);have g:∀X,X=(k*n+i)%(s.f.length:Int)->Go Empty.elim (.ao (af.cm (af.l s.f) 0)<|.ao (af.and (af.bQ 0 X)<|af.bq X<|af.l s.f)<|.ret (af.n yI s.f X:Int)) λr:Int=> -d<=r/\r<=d:=λX e=>by
  subst e;exact aj (CK p)<|aj (cr ⟨u,v⟩)<|ay<|VY.of A h _
 exact g _ e
def dS:cB:=Ty.gH bo
def aD(x:Net)(i:Nat):cB:=x.n.getD i dS
def aa1(x:Net)(e:Int)(h:List gw):Net:=(x.1,x.2.1,x.2.2.1,x.2.2.2.1,x.2.2.2.2.1,x.2.2.2.2.2.1,x.2.2.2.2.2.2.1,x.m,x.s,x.r,e,(x.q.1,h,x.q.2.2),x.2.2.2.2.2.2.2.2.2.2.2.2)
def cJ(x:Net)(l:List cB):Net:=(x.1,x.2.1,x.2.2.1,x.2.2.2.1,x.2.2.2.2.1,x.2.2.2.2.2.1,x.2.2.2.2.2.2.1,x.m,x.s,x.r,x.e,x.q,l,x.2.2.2.2.2.2.2.2.2.2.2.2.2)
variable{x y:Net}
def vC:VF.lens [fL] x=VF.lens [fL] y↔x.n.length=y.n.length:=by
 show[x.n.length]=[y.n.length]↔_;simp
def jA{R:Type}{s:Y->LT (Net×R) Y}{t:LT (Net×R) Y}{d:Net×R}{P:Net×R->Prop}(h:Go s t P)(p:∀r,P r->(r.1.n).length=x.n.length):(gu s t&&decide (VF.lens [fL] (gi s t d).1=VF.lens [fL] x))=true/\P (gi s t d):=by
 have⟨g,f⟩:=gm (d:=d) h;rw[g,bX<|vC.2<|p _ f];exact⟨rfl,f⟩
def CO{q:oR}(h:q.1=true):nW (q,())=true/\gF (q,())=(q,q.2.2):=
 gm (s:=Empty.elim) (t:=agq af q) (d:=_) (P:=λr=>r=(q,q.2.2)) (dG (λk=>absurd (h.symm.trans k)<|by decide) λ_=>ay rfl)
def ae5{q:oR}(h:q.1=true):QP (q,())=true/\Oa (q,())=(q,(q.2.1.length:Int)):=
 gm (s:=Empty.elim) (t:=agp af q) (d:=_) (P:=λr=>r=(q,(q.2.1.length:Int))) (dG (λk=>absurd (h.symm.trans k)<|by decide) λ_=>ay rfl)
structure wU(x:Net):Prop where
 made:x.q.1=true
 len:(x.q.2.1).length<=16384
 heap:EY (x.q.2.1)
def qH(x:Net)(t:Int):Int:=if x.q.2.2 > t then x.q.2.2 else t
def qK(x:Net)(e:gw)(h:Net):Prop:=∃g f,h=aa1 x g f/\f.length<=16384/\EY f/\((g=x.e/\e.1<=x.e/\f.Perm (e::x.q.2.1))\/(f=x.q.2.1/\g<=x.e/\g<=e.1))
def Fg{k nd n:Int}(h:wU x):nj (x,t,k,nd,n)=true/\qK x (qH x t,k,nd,n) (qL (x,t,k,nd,n)).1:=by
 refine jA (s:=Empty.elim) (t:=acn af x t k nd n) (P:=λr=>qK x (qH x t,k,nd,n) r.1) ?_ λr ⟨H,I,A,_⟩=>by rw[A];rfl
 have⟨u,G⟩:=CO h.made;unfold acn;have f:af.k gF (x.q,())=(x.q,x.q.2.2):=G;have v:af.mx t (x.q.2.2)=qH x t:=rfl;rw[f,v];refine aj u<|Ag (λg=>?_) λg=>ay ?_
 .have y:yq af x t k nd n=(x.q,(qH x t,k,nd,n)):=by
   unfold yq;rw[f];rfl
  rw[y];have⟨p1,p2⟩:=afs (e:=(qH x t,k,nd,n)) h.made h.len h.heap;refine aj p1<|dD (λp=>?_) λp=>ay ?_
  .rcases p2 with ⟨_,p2⟩|⟨p2,_⟩
   .rw[show(af.k wY (x.q,qH x t,k,nd,n)).1=x.q from p2,f];refine aj u<|ay ⟨af.mn x.e<|x.q.2.2,x.q.2.1,rfl,h.len,h.heap,.inr ⟨rfl,?_,?_⟩⟩
    .rw[n_];split<;>omega
    .show af.mn x.e (x.q.2.2)<=qH x t;rw[n_,qH];split<;>split<;>omega
   .exact absurd p2 p
  .rcases p2 with ⟨p2,_⟩|⟨_,p3,B,p4,p5,D,E⟩
   .exact absurd p p2
   .exact⟨x.e,B,by show vJ x (wY (x.q,qH x t,k,nd,n)).1=_;rw[p4];rfl,D,E,.inl ⟨rfl,g,p5⟩⟩
 .exact⟨x.e,x.q.2.1,rfl,h.len,h.heap,.inr ⟨rfl,ai _,Int.le_of_lt g⟩⟩
def qi(h:x.n.length≠0):af.cm (af.l x.n) 0=true:=CK h
def CY{k:Int}(h:wU x)(y:i<x.n.length)(p:k≠3):wy (x,t,k,(i:Int))=true/\qK x (qH x t,k,(i:Int),(aD x i).2.2.2.2.1) (uo (x,t,k,(i:Int))).1:=by
 refine jA (s:=Empty.elim) (t:=ab_ af x t k i) (P:=λr=>qK x (qH x t,k,(i:Int),(aD x i).2.2.2.2.1) r.1) ?_ λr ⟨u,v,f,_⟩=>by rw[f];rfl
 unfold ab_;have⟨p1,p2⟩:=Fg (t:=t) (k:=k) (nd:=(i:Int)) (n:=(aD x i).2.2.2.2.1) h;have en:(af.n bo x.n (i:Int):cB)=aD x i:=by
  show x.n.getD (i:Int).toNat _=_;rw[y7];rfl
 rw[en];refine dD (λ_=>bH (λ_=>aj (cr (l:=x.n)<|by omega) ?_) λg=>absurd g (by show ¬(x.n.length:Int)<=(i:Int);omega)) λg=>absurd g p;exact aj p1<|aj (qi<|by omega)<|ay p2
def bw(l:List cB)(i:Nat)(f:cB->cB):List cB:=l.set i<|f<|l.getD i dS
variable{f:cB->cB}
def bO{l:List cB}:(bw l i f).length=l.length:=cd ..
def uD{l:List cB}(g:i<l.length):(bw l i f).getD i dS=f (l.getD i dS):=by
 rw[bw,GB,List.getElem?_set_self g];rfl
def ae_{l:List cB}(h:j≠i):(bw l i f).getD j dS=l.getD j dS:=by
 rw[bw,GB,List.getElem?_set_ne<|ir h,<-GB]
def qg{l:List cB}(h:i<l.length):af.cm (af.l<|bw l i f) 0=true:=CK (by rw[bO];omega)
def jk{l:List cB}:md af bo l i f=bw l i f:=by rfl
theorem mod_mod{l:List cB}{g:cB->cB}(h:i<l.length):bw (bw l i f) i g=bw l i λy=>g<|f y:=by
 unfold bw
 simp_all
def iV:(af.n bo x.n (i:Int):cB)=aD x i:=by
 show x.n.getD (i:Int).toNat _=_;rw[y7];rfl
def BH{l:List cB}(g:i<l.length):(af.n bo (bw l i f) (i:Int):cB)=f (l.getD i dS):=by
 show(bw l i f).getD (i:Int).toNat _=_;rw[y7];exact uD g
def uI{l:List cB}{v:cB}:af.set l i v=bw l i λ_=>v:=by rfl
def ovT(m:au)(t:Int):Int:=t+(m.2.2.1+ig m+m.2.2.2.2.2.1+2*m.2.2.2.1)+2
def ovI{s g a l w:Int}(hs:0<=s/\s<=2199023255552)(h:0<=g/\g<=1048576)(f:0<=a/\a<=2062)(p:0<=l/\l<=64)(u:0<=w/\w<=1048576):af.bT (af.bT s<|af.bT (af.bT (af.bT g a) l)<|af.b .mul .i64 2 w) 2=s+(g+a+l+2*w)+2:=by
 rw[jh,my (a:=2*w) (by omega)<|by omega,dw (x:=g) (y:=a)<|by omega,dw (x:=g+a) (y:=l)<|by omega,dw (x:=g+a+l) (y:=2*w)<|by omega,dw (x:=s)<|by omega,dw<|by omega]
def E_(h:wU x)(g:i<x.n.length)(p:df x.m=true)(hs:0<=(aD x i).2.1.1/\(aD x i).2.1.1<=2199023255552):CW (x,(i:Int))=true/\qK x (qH x<|ovT x.m (aD x i).2.1.1,1,(i:Int),(aD x i).2.2.2.2.1) (Gk (x,(i:Int))).1:=by
 refine jA (s:=Empty.elim) (t:=acv af x i) (P:=λr=>qK x (qH x<|ovT x.m (aD x i).2.1.1,1,(i:Int),(aD x i).2.2.2.2.1) r.1) ?_ λr ⟨v,y,f,_⟩=>by rw[f];rfl
 have A:=uB p;have u:=sI (m:=x.m);have e:Nh af x (i:Int)=(x,ovT x.m (aD x i).2.1.1,1,(i:Int)):=by
  unfold Nh;rw[iV,show af.k DK x.m=ig x.m from rfl,ovI hs (by omega) u (by omega)<|by omega];rfl
 unfold acv;rw[e];have⟨p1,p2⟩:=CY (t:=ovT x.m (aD x i).2.1.1) (k:=1) h g (by decide);exact aj (cr (l:=x.n)<|by omega)<|aj p1<|aj (qi<|by omega)<|ay p2
def qG(w:Int)(y:cB):cB:=(y.1,y.2.1,y.2.2.1,w,y.2.2.2.2.1+1,y.2.2.2.2.2)
def Lst(x:Net)(i:Nat)(f:Net):Prop:=qK (cJ x<|bw x.n i<|qG<|x.q.2.2) (x.q.2.2+x.m.2.1,2,(i:Int),(aD x i).2.2.2.2.1+1) f
def GN(h:wU x)(u:i<x.n.length)(I:df x.m=true)(W:0<=(aD x i).2.2.2.2.1/\(aD x i).2.2.2.2.1<=1000000000000)(X:0<=x.q.2.2/\x.q.2.2<=2199023255552):Mn (x,(i:Int))=true/\Lst x i (Kq (x,(i:Int))).1:=by
 refine jA (s:=Empty.elim) (t:=acD af x i) (P:=λr=>Lst x i r.1) ?_ λr ⟨O,Q,H,_⟩=>by rw[H];exact bO (f:=qG<|x.q.2.2)
 have S:=uB I;have⟨A,B⟩:=CO h.made;have g:af.k gF (x.q,())=(x.q,x.q.2.2):=B;have p:IY af x (i:Int)=bw x.n i λy=>NC y<|af.bT y.2.2.2.2.1 1:=by
  unfold IY;exact jk
 have v:md af bo (IY af x i) (i:Int) (λp:cB=>up3 p (af.k gF (x.q,())).2)=bw x.n i (qG<|x.q.2.2):=by
  rw[g,p];refine jk.trans<|(mod_mod u).trans ?_;unfold bw;congr 1;show up3 (NC (aD x i)<|af.bT (aD x i).2.2.2.2.1 1) (x.q.2.2)=qG (x.q.2.2) (aD x i);rw[dw<|by omega];rfl
 have D:Nj af x (i:Int)=(cJ x<|bw x.n i<|qG<|x.q.2.2,x.q.2.2+x.m.2.1,2,(i:Int)):=by
  unfold Nj;rw[v,g,show af.k gF (((x.q,x.q.2.2):oR×Int).1,())=(x.q,x.q.2.2) from B,dw<|by omega];rfl
 have J:wU<|cJ x<|bw x.n i<|qG<|x.q.2.2:=⟨h.made,h.len,h.heap⟩;have V:(bw x.n i<|qG<|x.q.2.2).length=x.n.length:=bO;have⟨p1,p2⟩:=CY (x:=cJ x<|bw x.n i<|qG<|x.q.2.2) (t:=x.q.2.2+x.m.2.1) (k:=2) (i:=i) J (by show i<(bw _ _ _).length;omega) (by decide);unfold acD;rw[v,D];refine aj (cr (l:=x.n)<|by omega)<|aj A<|aj (by rw[g];exact A)<|aj p1<|aj (qg u)<|ay ?_;have E:(aD (cJ x<|bw x.n i<|qG<|x.q.2.2) i).2.2.2.2.1=(aD x i).2.2.2.2.1+1:=by
  show((bw x.n i<|qG<|x.q.2.2).getD i dS).2.2.2.2.1=_;rw[uD u];rfl
 have G:qH (cJ x<|bw x.n i<|qG<|x.q.2.2) (x.q.2.2+x.m.2.1)=x.q.2.2+x.m.2.1:=by
  unfold qH;exact if_neg (by show ¬x.q.2.2 > _;omega)
 rw[E,G] at p2;exact p2
def o5(n:Node)(y:cB):cB:=(n,y.2.1,y.2.2.1,y.2.2.2.1,y.2.2.2.2.1+1,false,false,false)
def Pwr(x:Net)(i:Nat)(on:Bool)(f:Net):Prop:=
 ((ju x.m (aD x i).1 on).2≠0/\f=x)\/((ju x.m (aD x i).1 on).2=0/\(on=false/\f=cJ x (bw x.n i<|o5 (ju x.m (aD x i).1 on).1)\/on=true/\Lst (cJ x<|bw x.n i<|o5 (ju x.m (aD x i).1 on).1) i f))
def Lst.len{g:Net}(h:Lst x i g):g.n.length=x.n.length:=by
 have⟨u,v,p,_⟩:=h;rw[p];exact bO (f:=qG<|x.q.2.2)
def Ha{on:Bool}(h:wU x)(f:i<x.n.length)(G:df x.m=true)(J:0<=(aD x i).2.2.2.2.1/\(aD x i).2.2.2.2.1<=900000000000)(I:0<=x.q.2.2/\x.q.2.2<=2199023255552):u5 (x,(i:Int),on)=true/\Pwr x i on (xM (x,(i:Int),on)).1:=by
 refine jA (s:=Empty.elim) (t:=acw af x i on) (P:=λr=>Pwr x i on r.1) ?_ λr H=>?_
 .have A:af.k SB (x.m,(af.n bo x.n (i:Int):cB).1,on)=ju x.m (aD x i).1 on:=by rw[iV];rfl
  have p:Dm af x i on=bw x.n i (o5 (ju x.m (aD x i).1 on).1):=by
   unfold Dm ac1 ac0 acZ acY;rw[A,iV];refine(congrArg (λl=>md af bo l (i:Int) (λD:cB=>lp7 D false))<|(congrArg (λl=>md af bo l (i:Int) (λp:cB=>Py p false))<|(congrArg (λl=>md af bo l (i:Int) (λB:cB=>Fo B false))<|(congrArg (λl=>md af bo l (i:Int) (λy:cB=>NC y<|af.bT y.2.2.2.2.1 1))<|uI (l:=x.n) (i:=i) (v:=((ju x.m (aD x i).1 on).1,(aD x i).2))).trans<|jk.trans<|mod_mod f).trans<|jk.trans<|mod_mod f).trans<|jk.trans<|mod_mod f).trans (jk.trans<|(mod_mod f).trans ?_);unfold bw;congr 1;show lp7 (Py (Fo (NC ((ju x.m (aD x i).1 on).1,(aD x i).2)<|af.bT (aD x i).2.2.2.2.1 1) false) false) false=o5 _ (aD x i);rw[dw<|by omega];rfl
  unfold acw;rw[p,A];refine aj (cr (l:=x.n)<|by omega)<|dD (λg=>ay<|.inl ⟨g,rfl⟩) λg=>dO (λu=>?_) λu=>ay<|.inr ⟨g,.inl ⟨u,rfl⟩⟩;have E:(aD (cJ x<|bw x.n i<|o5 (ju x.m (aD x i).1 on).1) i)=o5 (ju x.m (aD x i).1 on).1 (aD x i):=uD f;have⟨p1,p2⟩:=GN (x:=cJ x<|bw x.n i<|o5 (ju x.m (aD x i).1 on).1) (i:=i) ⟨h.made,h.len,h.heap⟩ (by show i<(bw _ _ _).length;rw[bO];exact f) G (by rw[E];show 0<=(aD x i).2.2.2.2.1+1/\(aD x i).2.2.2.2.1+1<=_;omega) I;exact aj p1<|aj (qg f)<|ay<|.inr ⟨g,.inr ⟨u,p2⟩⟩
 .rcases H with ⟨_,e⟩|⟨_,⟨_,e⟩|⟨_,e⟩⟩
  .rw[e]
  .rw[e];exact bO
  .rw[e.len];exact bO
def jnY(n:Node)(c:rh)(y:cB):cB:=(n,c,y.2.2.1,y.2.2.2.1,y.2.2.2.2.1+1,true,false,y.2.2.2.2.2.2.2)
def Jns(x:Net)(i:Nat)(n:Node)(t:Int)(f:Net):Prop:=
 f=x\/((rF (x.m,t,n.2.2.1.2.1)).2=0/\qK (cJ x<|bw x.n i<|jnY n (rF (x.m,t,n.2.2.1.2.1)).1) (qH x<|ovT x.m (rF (x.m,t,n.2.2.1.2.1)).1.1,1,(i:Int),(aD x i).2.2.2.2.1+1) f)
def Zx{n:Node}(h:wU x)(p:i<x.n.length)(W:0<=(aD x i).2.2.2.2.1/\(aD x i).2.2.2.2.1<=900000000000):Q0 (x,(i:Int),n,t)=true/\Jns x i n t (SY (x,(i:Int),n,t)).1:=by
 refine jA (s:=Empty.elim) (t:=acp af x i n t) (P:=λr=>Jns x i n t r.1) ?_ λr I=>?_
 .have u:md af bo (IQ af x i n t) (i:Int) (λv:cB=>Py v false)=bw x.n i (jnY n (rF (x.m,t,n.2.2.1.2.1)).1):=by
   unfold IQ acV acU;refine(congrArg (λl=>md af bo l (i:Int) (λv:cB=>Py v false))<|(congrArg (λl=>md af bo l (i:Int) (λu:cB=>Fo u true))<|(congrArg (λl=>md af bo l (i:Int) (λy:cB=>NC y<|af.bT y.2.2.2.2.1 1))<|(congrArg (λl=>md af bo l (i:Int) (λE:cB=>Dq E (af.k rF (x.m,t,n.2.2.1.2.1)).1))<|jk (l:=x.n) (f:=λD:cB=>VU D n)).trans<|jk.trans<|mod_mod p).trans<|jk.trans<|mod_mod p).trans<|jk.trans<|mod_mod p).trans (jk.trans<|(mod_mod p).trans ?_);unfold bw;congr 1;show Py (Fo (NC (Dq (VU (aD x i) n) (rF (x.m,t,n.2.2.1.2.1)).1)<|af.bT (aD x i).2.2.2.2.1 1) true) false=jnY n _ (aD x i);rw[dw<|by omega];rfl
  unfold acp;rw[u];refine aj (cr (l:=x.n)<|by omega)<|dD (λ_=>ay<|.inl rfl) λg=>dG (λ_=>ay<|.inl rfl) λ_=>?_;have⟨B,_,_,J,O⟩:=XV g;have V:=uB B;have hs:=((Bb<|by omega).1 O).1;have A:(aD (cJ x<|bw x.n i<|jnY n (rF (x.m,t,n.2.2.1.2.1)).1) i)=jnY n (rF (x.m,t,n.2.2.1.2.1)).1 (aD x i):=uD p;have G:(rF (x.m,t,n.2.2.1.2.1)).1.1=t-(x.m.2.2.1+x.m.2.2.2.2.2.1):=by rw[J]
  have⟨p1,p2⟩:=E_ (x:=cJ x<|bw x.n i<|jnY n (rF (x.m,t,n.2.2.1.2.1)).1) (i:=i) ⟨h.made,h.len,h.heap⟩ (by show i<(bw _ _ _).length;rw[bO];exact p) B (by rw[A];show 0<=(rF (x.m,t,n.2.2.1.2.1)).1.1/\(rF (x.m,t,n.2.2.1.2.1)).1.1<=_;rw[G];exact⟨hs.1,by have:=hs.2;dsimp only at this;omega⟩);rw[A] at p2;exact aj p1<|aj (qg p)<|ay<|.inr ⟨g,p2⟩
 .rcases I with e|⟨_,Q,S,H,_⟩
  .rw[e]
  .rw[H];exact bO
def goes_go{p:K7}{l:List fX}{k n u:Int}(D:p.a0=l)(E:p.a1=(l.length:Int))(I:p.R_=k)(J:p.a21=n)(O:p.Nw=u)(Q:l.length<=1000000):∀(f i:Nat),l.length-i<=f->Go (Ew af) (Ew af<|.c0 p i) λr=>r.2=true->r.1∈l/\r.1.1=k/\r.1.2.1=n/\(r.1.2.2.2.2.1=u\/zA r.1.1=false):=by
 intro f
 induction f with
 | zero=>intro i H;exact bH (λg=>absurd g (by rw[E];omega)) λ_=>ay nofun
 | succ f ih=>
   intro i H;refine bH (λg=>?_) λ_=>ay nofun
   have g:i<l.length:=by rw[E] at g;omega
   have h:Go (Ew af) (.ak<|.c0 p<|af.bT i 1) λr=>r.2=true->r.1∈l/\r.1.1=k/\r.1.2.1=n/\(r.1.e=u\/zA r.1.1=false):=by
    rw[dw<|by omega,show(i:Int)+1=((i+1:Nat):Int) from by omega];exact aP<|ih (i+1) (by omega)
   have G:od af p (i:Int)=l[i]:=by
    unfold od;rw[D];exact fF g _
   have B:(od af p i).1=p.R_->(od af p i).2.1=p.a21->((od af p i).e=p.Nw\/zA (od af p i).1=false)->Go (Ew af) (.ret (od af p i,true)) λr=>r.2=true->r.1∈l/\r.1.1=k/\r.1.2.1=n/\(r.1.e=u\/zA r.1.1=false):=λv y A=>ay λ_=>⟨by rw[G];exact dQ g,by rw[<-I];exact v,by rw[<-J];exact y,by rw[<-O];exact A⟩;refine aj (by rw[D];exact cr (l:=l)<|by omega)<|dJ (λ_=>dJ (λA=>dJ (λv=>dJ (λy=>B v y<|.inl A) λ_=>h) λ_=>h) λ_=>dG (λA=>dJ (λv=>dJ (λy=>B v y<|.inr A) λ_=>h) λ_=>h) λ_=>h) λ_=>h
variable{v:(Unit×Bool×au×gK×Unit)×(Int×Int×gE)}
def v7(f:v.1.2.2.2.1.2.2.2.2.2.2.2.length<=1000000):j_ v=true/\((gM v).2=true->(gM v).1∈v.1.2.2.2.1.2.2.2.2.2.2.2/\(gM v).1.1=v.2.1/\(gM v).1.2.1=v.2.2.1/\((gM v).1.2.2.2.2.1=v.2.2.2.2.1\/zA (gM v).1.1=false)):=by
 have⟨⟨⟨⟩,h,p,g,⟨⟩⟩,k,n,c⟩:=v;have f:g.2.2.2.2.2.2.2.length<=1000000:=f;exact gm (s:=Ew af) (t:=acx af h p g k n c) (d:=_)<|aj (bX<|by omega)<|aP<|goes_go (l:=g.2.2.2.2.2.2.2) rfl rfl rfl rfl rfl f _ 0<|ah _
def ae8{p:Xk}{l:List fX}(v:p.a0=l)(u:p.a1=(l.length:Int))(A:l.length<=1000000):∀(f i:Nat),l.length-i<=f->Go (Rm af) (Rm af<|.c0 p i) λ_=>True:=by
 intro f
 induction f with
 | zero=>intro i y;exact bH (λg=>absurd g (by rw[u];omega)) λ_=>ay trivial
 | succ f ih=>
   intro i y;refine bH (λg=>?_) λ_=>ay trivial;have g:i<l.length:=by rw[u] at g;omega
   have h:Go (Rm af) (.ak<|.c0 p<|af.bT i 1) λ_=>True:=by
    rw[dw<|by omega,show(i:Int)+1=((i+1:Nat):Int) from by omega];exact aP<|ih (i+1) (by omega)
   exact aj (by rw[v];exact cr (l:=l)<|by omega)<|dJ (λ_=>dJ (λ_=>dJ (λ_=>dJ (λ_=>ay trivial) λ_=>h) λ_=>h) λ_=>dG (λ_=>dJ (λ_=>dJ (λ_=>ay trivial) λ_=>h) λ_=>h) λ_=>h) λ_=>h
def Tl{v:(Unit×Bool×au×gK×Unit)×(Int×gE)}(f:v.1.2.2.2.1.2.2.2.2.2.2.2.length<=1000000):Mm v=true:=by
 have⟨⟨⟨⟩,h,p,g,⟨⟩⟩,k,c⟩:=v;have f:g.2.2.2.2.2.2.2.length<=1000000:=f;exact(gm (s:=Rm af) (t:=agD af h p g k c) (d:=false)<|aj (bX<|by omega)<|aP<|ae8 (l:=g.2.2.2.2.2.2.2) rfl rfl f _ 0<|ah _).1
def Wa(l:List dx)(w:Span)(r:List dx×Seen):Prop:=r.1=l/\(r.2.1=2->w.1<=r.2.2.1/\r.2.2.1<w.2)
def XW{s:dx}{a b:Span}(h:YU (s,a,b)=true):b.1<=s.2.1.1/\s.2.1.1<b.2:=by
 revert h;refine K0 (t:=anL af s a b) (P:=λr=>r=true->b.1<=s.2.1.1/\s.2.1.1<b.2) ?_ (LT.kG<|by rfl)<|LT.nG (by rfl);exact dO (λ_=>dO (λ_=>dJ (λ_=>xS (λg=>ay λh=>⟨g,of_decide_eq_true h⟩) λ_=>ay nofun) λ_=>ay nofun) λ_=>ay nofun) λ_=>ay nofun
variable{l:List dx}
theorem Zy{p:Xi}{w:Span}(h:p.a2=l)(J:p.a0=(l.length:Int))(G:(p.a16,p.a17)=w)(Q:l.length<=1000000):∀(f i:Nat) (n t:Int),l.length-i<=f->i<=l.length->0<=n/\n<=i->0<=t->(n=0\/t<l.length)->Go (JH af) (JH af<|.c0 p i n t) (Wa l w):=by
 have A:∀(i n t:Int),¬i<p.a0->0<=t->(n=0\/t<l.length)->Go (JH af) (JH af<|.c0 p i n t) (Wa l w):=by
  intro i n t v u E;refine bH (λg=>absurd g v) λ_=>dJ (λ_=>ay ⟨h,nofun⟩) λH=>dJ (λI=>aj (by rw[h];exact cr (l:=l)<|by omega)<|dO (λg=>ay ⟨h,λ_=>?_⟩) λ_=>ay ⟨h,nofun⟩) λ_=>ay ⟨h,nofun⟩;have:=XW g;rw[<-G];omega
 intro f
 induction f with
 | zero=>grind
 | succ f ih=>
   intro i n t O v E u D;by_cases g:i<l.length
   .refine bH (λ_=>?_) λB=>absurd B (by omega);have y:Go (JH af) (.ak<|.c0 p (af.bT i 1) n t)<|Wa l w:=by
     rw[dw<|by omega,show(i:Int)+1=((i+1:Nat):Int) from by omega];exact aP<|ih (i+1) n t (by omega) (by omega) (by omega) u D
    refine aj (by rw[h];exact cr (l:=l)<|by omega)<|dO (λ_=>dO (λ_=>?_) λ_=>y) λ_=>y;rw[dw (x:=n)<|by omega,dw (x:=(i:Int))<|by omega,show(i:Int)+1=((i+1:Nat):Int) from by omega];exact dJ (λ_=>aP<|ih (i+1) (n+1) i (by omega) (by omega) (by omega) (by omega)<|.inr<|by omega) λe=>aP<|ih (i+1) (n+1) t (by omega) (by omega) (by omega) u<|.inr (by omega)
   simp_all
theorem Bw{a w:Span}{th:Int}(g:l.length<=1000000):CX (l,a,w,th)=true/\Wa l w (rW (l,a,w,th)):=by
 have⟨h,f⟩:=gm (s:=JH af) (t:=acz af l a w th) (d:=([],Ty.aO [pV])) (P:=Wa l w)<|aP<|Zy rfl rfl rfl g _ 0 0 0 (ah _) (aQ _) (by omega) (by omega)<|.inl rfl;have e:(rW (l,a,w,th)).1=l:=f.1;refine⟨?_,f⟩;show(gu (JH af) (acz af l a w th)&&decide ((rW (l,a,w,th)).1.length=l.length))=true
 simp_all
def aeE{m:au}{f:fX}(h:ng (m,f)=true):DT ((af.n jV (Br (m,f.1)).1 3:Span),f.2.2.2.2.2.1)=true/\DT ((af.n jV (Br (m,f.1)).1 4:Span),f.2.2.2.2.2.2)=true/\(f.1=10->f.2.2.2.2.1≠f.2.1):=by
 revert h;have g:∀{P:Prop},Go Empty.elim (.ret false) λr=>r=true->P:=ay nofun
 exact K0 (t:=anB af m f) (P:=λr=>r=true->_) (dG (λ_=>g) λ_=>bH (λ_=>g) λ_=>xS (λ_=>g) λ_=>dJ (λ_=>dJ (λ_=>g) λe=>dG (λ_=>g) λ_=>dG (λ_=>g) λ_=>dG (λ_=>g) λ_=>dG (λ_=>g) λa=>dG (λ_=>g) λb=>ay λ_=>⟨a,b,λ_=>e⟩) λe=>dG (λ_=>g) λ_=>dG (λ_=>g) λ_=>dG (λ_=>g) λ_=>dG (λ_=>g) λa=>dG (λ_=>g) λb=>ay λ_=>⟨a,b,λk=>absurd k e⟩) (LT.kG<|by rfl)<|LT.nG (by rfl)
def SgO(_:dx):Prop:=True
def I9(l a:List dx)(k:Nat):Prop:=a.length<=l.length+k/\∀s∈a,s∈l\/SgO s
def I9.rfl{k:Nat}:I9 l l k:=⟨Nat.le_add_right _ _,λ_=>.inl⟩
def I9.trans{a b:List dx}{k f:Nat}(h:I9 l a k)(g:I9 a b f):I9 l b<|k+f:=⟨by have:=h.1;have:=g.1;omega,λs hs=>(g.2 s hs).elim (h.2 s) .inr⟩
def I9.app{s:dx}(hs:SgO s):I9 l (l ++ [s]) 1:=⟨by rw[uy];exact ah _,λz f=>(oJ.1 f).elim .inl λk=>.inr (by rw[aG.1 k];exact hs)⟩
theorem abB{l:List α}{v:α}(h:i<=l.length)(f:l.length<=1000000):(af.spl l i<|af.r (af.f_ (af.l l) i) v).length=l.length:=by
 rw[eG,lT<|by omega,uL,oQ]
 simp_all
theorem aml{L:List dx}{i:Int}{v s:dx}(h:∀s∈l,s∈L)(hs:s∈(af.set l i v:List dx))(f:v∈L):s∈L:=(List.mem_or_eq_of_mem_set hs).elim (h s) λe=>by simp_all
def alD(h:i<l.length):(af.n aY l (i:Int):dx)=l[i]:=fF h _
def u13{a:List dx}:Nm (Nm x l) a=Nm x a:=rfl
def u14{a:List dx}:Nn (Nn x l) a=Nn x a:=rfl
def avS{q:Bool}{a:List dx}:NB q (NB q x l) a=NB q x a:=by
 cases q
 .exact u13
 .exact u14
def ayh{a:List dx}:ac7 (Nm x l) x.q a=Nm x a:=rfl
def ayi{a:List dx}:ac8 (Nn x l) x.q a=Nn x a:=rfl
def aye{q:Bool}{a:List dx}:Y6 q (NB q x l) x.q a=NB q x a:=by
 cases q
 .exact ayh
 .exact ayi
def ayf{q:Bool}:vJ (NB q x l) x.q=NB q x l:=by
 cases q
 .show vJ (Nm x l) x.q=Nm x l;rfl
 .show vJ (Nn x l) x.q=Nn x l;rfl
def ayd{q:Bool}:xe q (NB q x l)=l:=by cases q<;>rfl
def ayg{q:Bool}:(NB q x l).q=x.q:=by cases q<;>rfl
def avR{q:Bool}:NB q x (xe q x)=x:=by
 cases q
 .show Nm x x.a=x;rfl
 .show Nn x x.b=x;rfl
def akC{Y:Type}(c:Int->Int->List dx->Y)(C:dx->Bool)(P:Bool)(U:List dx->Net)(i j:Int)(l:List dx):LT (Net×Unit) Y:=
 .br (af.bq j<|af.l l) (.ao (af.and (af.bQ 0 j)<|af.bq j<|af.l l)<|.ao P<|.br (af.not<|C (af.n aY l j:dx)) (.ao (af.and (af.bQ 0 i)<|af.bq i<|af.l l)<|.ak<|c (af.bT i 1) (af.bT j 1)<|af.set l i (af.n aY l j:dx))<|.ak<|c i (af.bT j 1) l)
  (.ao (af.and (af.bQ 0 i)<|af.and (af.bQ i<|af.l l)<|af.bQ (af.l l)<|af.l l)<|.ao (af.and (af.bQ 0 0)<|af.and (af.bQ 0 i)<|af.bQ i<|af.l<|af.spl l i<|af.r (af.f_ (af.l l) i) (Ty.gH aY:dx))<|.ret (U<|af.s (af.spl l i<|af.r (af.f_ (af.l l) i) (Ty.gH aY:dx)) 0<|af.f_ i 0,()))
section
variable {Y:Type} {s:Y->LT (Net×Unit) Y} {c:Int->Int->List dx->Y} {d:Int->Y} {C:dx->Bool} {P:Bool} {U:List dx->Net} {L:List dx} (hs:∀i j l,s (c i j l)=akC c C P U i j l) (hp:P=true)
include hs hp
def akD{n:Nat}(W:n<=1000000):∀(f i j:Nat) (l:List dx),n-j<=f->i<=j->j<=n->l.length=n->(∀z∈l,z∈L)->Go s (s<|c (i:Int) (j:Int) l) λr=>∃a:List dx,(a.length<=n/\∀z∈a,z∈L)/\r.1=U a:=by
 have u:∀(i j:Nat) (l:List dx),¬j<n->i<=j->j<=n->l.length=n->(∀z∈l,z∈L)->Go s (s<|c (i:Int) (j:Int) l) λr=>∃a:List dx,(a.length<=n/\∀z∈a,z∈L)/\r.1=U a:=by
  intro i j l A v I p h;have E:(af.spl l i (af.r (af.f_ (af.l l) i) (Ty.gH aY:dx))).length=n:=(abB (by omega)<|by omega).trans p;have Q:af.and (af.bQ 0 i) (af.and (af.bQ i<|af.l l)<|af.bQ (af.l l)<|af.l l)=true:=by
   simp only[bF,ax,eH,tP];exact⟨by omega,by show(i:Int)<=(l.length:Int);omega,ai _⟩
  have S:af.and (af.bQ 0 0) (af.and (af.bQ 0 i)<|af.bQ i<|af.l<|af.spl l i<|af.r (af.f_ (af.l l) i) (Ty.gH aY:dx))=true:=by
   simp only[bF,ax,eH,tP];exact⟨by omega,by omega,by show(i:Int)<=((af.spl l i<|af.r (af.f_ (af.l l) i) (Ty.gH aY:dx)).length:Int);omega⟩
  have V:(af.s (af.spl l i<|af.r (af.f_ (af.l l) i) (Ty.gH aY:dx)) 0 (af.f_ i 0):List dx).length<=n/\∀z∈(af.s (af.spl l i<|af.r (af.f_ (af.l l) i) (Ty.gH aY:dx)) 0 (af.f_ i 0):List dx),z∈L:=by
   refine⟨?_,λz D=>?_⟩
   .rw[jU,dR,c_];exact aV (Nat.sub_le _ _)<|aV (Nat.min_le_right _ _)<|iC E
   .rw[jU,oQ,lT<|by omega] at D;exact h z<|List.mem_of_mem_take (by rwa [e_,show((i:Int)-0).toNat=i by omega,gQ (by rw[c_];omega)] at D)
  have B:¬(j:Int)<(l.length:Int):=by omega
  rw[hs];exact bH (λg=>absurd g B) λ_=>aj Q<|aj S<|ay ⟨_,V,rfl⟩
 intro f
 induction f with
 | zero=>intro i j l H v A p h;exact u i j l (by omega) v A p h
 | succ f ih=>
   intro i j l H v A p h;by_cases g:j<n
   .have B:¬(l.length:Int)<=(j:Int):=by omega
    have O:=dw (x:=(j:Int)) (y:=1) (by omega);have J:=dw (x:=(i:Int)) (y:=1) (by omega);have a1:=ih (i+1) (j+1) (af.set l i (af.n aY l (j:Int):dx)) (by omega) (by omega) (by omega) (h_.trans p) λs hs=>aml h hs (by rw[alD<|by omega];exact h _<|dQ _);have a2:=ih i (j+1) l (by omega) (by omega) (by omega) p h;rw[show((j+1:Nat):Int)=af.bT j 1 by rw[O];omega] at a1 a2;rw[show((i+1:Nat):Int)=af.bT i 1 by rw[J];omega] at a1;rw[hs];exact bH (λ_=>aj (cr (l:=l)<|by omega)<|aj hp<|dG (λ_=>aj (cr (l:=l)<|by omega)<|aP a1) λ_=>aP a2) λG=>absurd G B
   .exact u i j l g v A p h
def X6(h:∀i:Int,s (d i)=.br (af.bq i<|af.l L) (.ao (af.and (af.bQ 0 i)<|af.bq i<|af.l L)<|.ao P<|.br (C (af.n aY L i:dx)) (.br (af.bG i<|-1) (.ret (U L,()))<|.ak<|c i (af.bT i 1) L)<|.ak<|d<|af.bT i 1) (.ret (U L,())))(u:L.length<=1000000):∀(f i:Nat),L.length-i<=f->Go s (s<|d i) λr=>∃a:List dx,I9 L a 0/\r.1=U a:=by
 intro f
 induction f with
 | zero=>intro i p;rw[h];exact bH (λg=>absurd g (by show ¬(i:Int)<(L.length:Int);omega)) λ_=>ay ⟨_,I9.rfl,rfl⟩
 | succ f ih=>
   intro i p;rw[h];refine bH (λg=>?_) λ_=>ay ⟨_,I9.rfl,rfl⟩;have g:(i:Int)<(L.length:Int):=g;rw[dw (x:=(i:Int))<|by omega,show(i:Int)+1=((i+1:Nat):Int) from by omega];exact aj (cr (l:=L)<|by omega)<|aj hp<|dO (λ_=>dJ (λe=>by omega) λ_=>aP<|(akD hs hp u _ i (i+1) L (ah _) (by omega) (by omega) rfl λ_=>id).mono λr ⟨a,k,e⟩=>⟨a,⟨k.1,λs hs=>.inl<|k.2 s hs⟩,e⟩) λ_=>aP<|ih (i+1) (by omega)
end
def UK{q:Bool}(h:x.q.1=true)(A:(xe q x).length<=1000000):yb (x,kI q)=true/\∃a:List dx,I9 (xe q x) a 0/\(DV (x,kI q)).1=NB q x a:=by
 have id:NB q x (xe q x)=x:=avR;have⟨n1,E⟩:=CO h;have g:af.k gF (x.q,())=(x.q,x.q.2.2):=E;have B:vJ x x.q=x:=rfl;have D:∀l,(NB q x l).m=x.m:=λl=>by cases q<;>rfl
 have v:=X6 (s:=OZ q af) (c:=λi j l=>.c1 i j<|NB q x l) (d:=λi=>.c0 ⟨af.l<|xe q x⟩ i x) (P:=af.k nW (x.q,())) (U:=NB q x) (C:=λz=>af.bq z.2.1.2<|af.f_ x.q.2.2<|af.b .mul .i64 3 x.m.2.1) (λi j l=>by
  dsimp only[OZ,akC];rw[ayd,avS,ayg,g,ayf,aye,D]) n1 (λi=>by
  dsimp only[OZ];rw[g,B,id]) A _ 0<|ah _
 have⟨f,y⟩:=jA (x:=x) (s:=OZ q af) (t:=acs q af x<|kI q) (d:=(Ty.aO [kX],Ty.aO [])) (P:=λr=>∃a:List dx,I9 (xe q x) a 0/\r.1=NB q x a) (lM (λ_=>aP v) λ_=>ay ⟨_,I9.rfl,id.symm⟩) λr ⟨a,_,e⟩=>by rw[e];cases q<;>rfl
 have u:yb (x,kI q)=Ff q (x,kI q):=by cases q<;>rfl
 have p:DV (x,kI q)=Gr q (x,kI q):=by cases q<;>rfl
 rw[eH] at f;rw[u,p];refine⟨?_,y⟩;show(decide (kI q=kI q)&&gu _ _&&_)=true;rw[bX rfl,f.1];exact f.2
def awV(x:Net)(a b:List dx):Net:=(x.1,x.2.1,x.2.2.1,x.2.2.2.1,a,b,x.2.2.2.2.2.2)
def rv(x p:Net)(k l j:Nat):Prop:=∃(a b:List dx) (h:Int) (g f:List gw),p=aa1 (awV x a b) h g/\a.length<=x.2.2.2.2.1.length+k/\b.length<=x.2.2.2.2.2.1.length+l/\
 g.length<=16384/\EY g/\h<=x.e/\f.length<=j/\(x.1.1=true/\x.2.1.1=true->f=[])/\g.Perm (f++x.q.2.1)/\∀e∈f,e.2.1=4/\(x.q.2.2<=e.1/\e.1<=x.e)/\(e.2.2.1=0\/e.2.2.1=1)/\e.2.2.2=1
def rv.id(h:wU x):rv x x 0 0 0:=⟨_,_,_,_,[],rfl,ah _,ah _,h.len,h.heap,ai _,ah _,λ_=>rfl,.refl _,nofun⟩
def rv.ok{f:Net}{k l:Nat}(v:x.q.1=true)(h:rv x f k l j):wU f:=by
 obtain⟨a,b,y,A,g,rfl,_,_,p,u,_⟩:=h;exact⟨v,p,u⟩
def rv.trans{z:Net}{k l B D O:Nat}(h:rv x y k l j)(g:rv y z B D O):rv x z (k+B) (l+D)<|j+O:=by
 obtain⟨a,b,e',h',v,rfl,h1,h2,h4,h5,J,h7,h0,h8,h9⟩:=h;obtain⟨E,G,u,A,f,rfl,H,I,V,W,X,g7,S,Z,g9⟩:=g;have H:E.length<=a.length+B:=H;have I:G.length<=b.length+D:=I;refine⟨E,G,u,A,f++v,rfl,by omega,by omega,V,W,bu X J,?_,λq=>by rw[S q,h0 q];rfl,?_,λe p=>?_⟩
 .rw[uy];omega
 .rw[e_];exact Z.trans<|h8.append_left _
 .rcases oJ.1 p with p|p
  .have⟨q1,Q,q3⟩:=g9 e p;exact⟨q1,⟨Q.1,bu Q.2 J⟩,q3⟩
  .exact h9 e p
theorem rv.mono{k l k' l' j':Nat}(h:rv x y k l j)(H:k<=k')(I:l<=l')(J:j<=j'):rv x y k' l' j':=by
 have⟨a,b,p,B,f,e,D,E,u,v,A,G,g⟩:=h;exact⟨a,b,p,B,f,e,by omega,by omega,u,v,A,by omega,g⟩
def rv.aD{k l:Nat}(e:rv x y k l j)(n:Nat):aD y n=aD x n:=by
 obtain⟨a,b,g,h,f,rfl,_⟩:=e;rfl
def FW{q:Bool}{s:dx}(h:wU x):rv x (V4 q x<|pX q x ++ [s]) (bif q then 0 else 1) (bif q then 1 else 0) 0:=by
 have e:(pX q x ++ [s]).length=(pX q x).length+1:=by rw[uy,bP]
 cases q
 .exact⟨pX false x ++ [s],x.2.2.2.2.2.1,x.e,x.q.2.1,[],rfl,iC e,ah _,h.len,h.heap,ai _,ah _,λ_=>rfl,.refl _,nofun⟩
 .exact⟨x.2.2.2.2.1,pX true x ++ [s],x.e,x.q.2.1,[],rfl,ah _,iC e,h.len,h.heap,ai _,ah _,λ_=>rfl,.refl _,nofun⟩
structure xt(x:Net)(i:Nat)(K:Nat):Prop where
 k:K<=800010
 q:wU x
 i:i<x.n.length
 f:x.s.2.2.2.2.2.2.2.length<=1000000
 c:x.a.length<=K/\x.b.length<=K/\x.o.length<=K
 a:x.2.2.2.2.1.length<=K/\x.2.2.2.2.2.1.length<=K
theorem mB{l:List α}{v:α}{N:Int}(h:(l.length:Int)+1<=N):af.bQ (af.l<|af.p l [v]) N=true:=by
 rw[ax,eG,show af.p l [v]=l ++ [v] from rfl,uy,bP]
 simp_all
def mg(h:i<x.n.length):af.cm (af.l x.n) 0=true:=CK (by omega)
variable{K:Nat}
def xt.V2{k l n:Nat}(h:xt x i K)(e:rv x y k l j)(D:k<=n)(E:l<=n)(g:K+n<=800010):xt y i<|K+n:=by
 have p:=e.ok h.q.made;obtain⟨a,b,u,B,f,rfl,v,A,_⟩:=e;have H:=h.c;have G:=h.a;exact⟨g,p,h.i,h.f,by show x.a.length<=_/\x.b.length<=_/\x.o.length<=_;omega,by show a.length<=_/\b.length<=_;omega⟩
def Te{q:Bool}(h:wU x):nj (x,t,4,kI q,1)=true/\((mP q x).1=false->rv x (qL (x,t,4,kI q,1)).1 0 0 1):=by
 have⟨p1,u,v,p2,p3,p4,p5⟩:=Fg (t:=t) (k:=4) (nd:=kI q) (n:=1) h;refine⟨p1,λg=>?_⟩;have A:¬(x.1.1=true/\x.2.1.1=true):=λa=>by
  cases q
  .exact absurd (a.1.symm.trans g) (by decide)
  .exact absurd (a.2.symm.trans g) (by decide)
 rw[p2];rcases p5 with ⟨f,p,B⟩|⟨f,p,_⟩
 .refine⟨x.2.2.2.2.1,x.2.2.2.2.2.1,u,v,[(qH x t,4,kI q,1)],rfl,ah _,ah _,p3,p4,oO f,ah _,λa=>absurd a A,B,λe y=>?_⟩;rw[aG.1 y];exact⟨rfl,⟨by show x.q.2.2<=qH x t;unfold qH;split<;>omega,p⟩,by cases q<;>simp[kI],rfl⟩
 .exact⟨x.2.2.2.2.1,x.2.2.2.2.2.1,u,v,[],rfl,ah _,ah _,p3,p4,p,aQ _,λ_=>rfl,by rw[f];exact .refl _,nofun⟩
def emt{s:Y->LT (Net×Unit) Y}{q:Bool}{F:Net->LT (Net×Unit) Y}{P:Net×Unit->Prop}(h:xt x i K)(H:∀y,rv x y 0 0 1->Go s (F y) P):Go s (.br (af.not (mP q x).1) (.ao (af.k nj (x,t,4,kI q,1))<|.ao (af.cm (af.l x.n) 0)<|F (qL (x,t,4,kI q,1)).1)<|F x) P:=by
 have⟨p1,p2⟩:=Te (q:=q) (t:=t) h.q;exact dG (λg=>aj p1<|aj (mg h.i)<|H _<|p2 g) λ_=>H _<|(rv.id h.q).mono (ah _) (ah _)<|aQ _
variable{c:gE}
section
variable {x:Net} {i K:Nat}
def Cu(h:xt x i K)(q:Bool)(s:dx)(f:K+1<=800010):xt (V4 q x<|pX q x ++ [s]) i<|K+1:=
 h.V2 (FW (q:=q) (s:=s) h.q) (by cases q<;>decide) (by cases q<;>decide) f
def aa_{p:Xc}(h:xt x i K)(hp:p.e0=x):Go (xq af) (xq af<|.c4 p) λr=>rv x r.1 0 0 1:=by
 subst hp;exact emt (q:=true) (F:=λy=>.ret (y,())) h λy e=>ay e
def amo{p:Xd}(h:xt x i K)(hp:p.f0=x):Go (xq af) (xq af<|.c5 p) λr=>rv x r.1 0 0 1:=by
 subst hp;exact emt (q:=true) (F:=λy=>.ret (y,())) h λy e=>ay e
def aa9{p:K6}(h:xt x i K)(f:K+1<=800010)(hp:p.d0=x):Go (xq af) (xq af<|.c3 p) λr=>rv x r.1 0 1 1:=by
 subst hp;have u:=h.a;have A:=λs=>Cu h true s f;have E:=λs=>FW (q:=true) (s:=s) h.q;have g:=Tl (v:=(vw p.d0,1,p.d7)) h.f;have r:∀s:dx,af.bQ (af.l<|af.p p.d0.2.2.2.2.2.1 ([s]:List dx)) 2199023255552=true:=λs=>mB (by omega);exact dO (λ_=>aj (r _)<|aP<|(aa_ (A _) rfl).mono λ_ k=>(E _).trans k) λ_=>aj g<|dO (λ_=>aj (r _)<|aP<|(aa_ (A _) rfl).mono λ_ k=>(E _).trans k) λ_=>aj (r _)<|aP<|(amo (A _) rfl).mono λ_ k=>(E _).trans k
def aa8{p:Xa}(h:xt x i K)(f:K+1<=800010)(hp:p.b0=x):Go (xq af) (xq af<|.c1 p) λr=>rv x r.1 0 1 2:=by
 subst hp;exact emt (q:=false) (F:=λy=>.ak<|Us.c3 ⟨y,p.b1,p.b2,p.b3,p.b4,p.b5,p.b6,p.b7⟩) h λy e=>aP<|(aa9 (h.V2 e (n:=0) (ah _) (ah _) h.k) f rfl).mono λ_ k=>e.trans k
def amn{p:Xb}(h:xt x i K)(f:K+1<=800010)(hp:p.c0=x):Go (xq af) (xq af<|.c2 p) λr=>rv x r.1 0 1 2:=by
 subst hp;exact emt (q:=false) (F:=λy=>.ak<|Us.c3 ⟨y,p.c1,p.c2,p.c3,p.c4,p.c5,p.c6,p.c7⟩) h λy e=>aP<|(aa9 (h.V2 e (n:=0) (ah _) (ah _) h.k) f rfl).mono λ_ k=>e.trans k
def amm{p:Fz}(h:xt x i K)(f:K+2<=800010)(hp:p.a0=x):Go (xq af) (xq af<|.c0 p) λr=>rv x r.1 1 1 2:=by
 subst hp;have u:=h.a;have A:=λs=>Cu h false s (by omega);have E:=λs=>FW (q:=false) (s:=s) h.q;have g:=Tl (v:=(vw p.a0,0,p.a7)) h.f;have y:=h.k;have r:∀s:dx,af.bQ (af.l<|af.p p.a0.2.2.2.2.1 ([s]:List dx)) 2199023255552=true:=λs=>mB (by omega);exact dO (λ_=>aj (r _)<|aP<|(aa8 (A _) f rfl).mono λ_ k=>(E _).trans k) λ_=>aj g<|dO (λ_=>aj (r _)<|aP<|(aa8 (A _) f rfl).mono λ_ k=>(E _).trans k) λ_=>aj (r _)<|aP<|(amn (A _) f rfl).mono λ_ k=>(E _).trans k
def MM{f:vP}(h:xt x i K)(A:K+2<=800010):Hq (x,(i:Int),f,c)=true/\rv x (zD (x,(i:Int),f,c)).1 1 1 2:=by
 refine jA (s:=xq af) (t:=agy af x i f c) (P:=λr=>rv x r.1 1 1 2) ?_ λr ⟨_,_,_,_,_,B,_⟩=>by rw[B];rfl
 have g:=λk=>(v7 (v:=(vw x,k,(i:Int),c)) h.f).1;have id:Go (xq af) (.ret (x,())) λr=>rv x r.1 1 1 2:=ay<|(rv.id h.q).mono (by omega) (by omega) (by omega);have u:∀(p:Fz),p.a0=x->Go (xq af) (.ak<|.c0 p) λr=>rv x r.1 1 1 2:=λp y=>aP<|amm h A y;exact aj (g 3)<|dO (λ_=>id) λ_=>aj (cr (l:=x.n) (by have:=h.i;omega))<|dD (λ_=>id) λ_=>dD (λ_=>id) λ_=>aj (g 7)<|dO (λ_=>aj (g 8)<|dO (λ_=>aj (g 4)<|u _ rfl) λ_=>aj (g 4)<|u _ rfl) λ_=>aj (g 8)<|dO (λ_=>aj (g 4)<|u _ rfl) λ_=>aj (g 4)<|u _ rfl
end
def K2(x:Net)(i:Nat)(c:gE)(r:Net×Unit):Prop:=rv x r.1 2 2 4/\((gM (vw x,10,(i:Int),c)).2=false->rv x r.1 1 1 2)
section
variable {x:Net} {i K:Nat}
def akO{p:Xh}(h:xt x i K)(hp:p.h1=x):Go (vH af) (vH af<|.c7 p) λr=>rv x r.1 0 0 1:=by
 subst hp;exact emt (q:=true) (F:=λy=>.ret (y,())) h λy e=>ay e
def akM{p:PH}(h:xt x i K)(f:K+1<=800010)(hp:p.f1=x):Go (vH af) (vH af<|.c5 p) λr=>rv x r.1 0 1 1:=by
 subst hp;have g:=h.a;have u:=h.k;exact aj (mB<|by omega)<|aP<|(akO (Cu h true _ f) rfl).mono λ_ k=>(FW (q:=true) h.q).trans k
def akK{p:Xg}(h:xt x i K)(f:K+1<=800010)(hp:p.d1=x):Go (vH af) (vH af<|.c3 p) λr=>rv x r.1 0 1 2:=by
 subst hp;exact emt (q:=false) (F:=λy=>.ak<|Ut.c5 ⟨p.d0,y,p.d2,p.d3,p.d4,p.d5,p.d7⟩) h λy e=>aP<|(akM (h.V2 e (n:=0) (ah _) (ah _) h.k) f rfl).mono λ_ k=>e.trans k
def akI{p:K8}(h:xt x i K)(f:K+2<=800010)(hp:p.b1=x):Go (vH af) (vH af<|.c1 p) λr=>rv x r.1 1 1 2:=by
 subst hp;have g:=h.a;have u:=h.k;exact aj (mB<|by omega)<|aP<|(akK (Cu h false _<|by omega) f rfl).mono λ_ k=>(FW (q:=false) h.q).trans k
def FV{A B:Bool}{p:K8}{u:Int}(G:u=(i:Int))(h:xt y i K)(E:K+2<=800010)(f:rv x y 1 1 2)(hp:p.b1=y):Go (vH af) (.ao (af.k j_ (vw y,10,u,c))<|.br (af.not (af.k gM (vw y,10,u,c)).2) (.ret (y,()))<|.br A (.ret (y,()))<|.br B (.ret (y,()))<|.ak<|.c1 p)<|K2 x i c:=by
 subst G;have H:vw y=vw x:=by
  obtain⟨a,b,I,J,D,rfl,_⟩:=f;rfl
 have one:Go (vH af) (.ret (y,()))<|K2 x i c:=ay ⟨f.mono (by omega) (by omega)<|by omega,λ_=>f⟩;refine aj (v7 (v:=(vw y,10,(i:Int),c)) h.f).1<|dG (λ_=>one) λg=>dO (λ_=>one) λ_=>dO (λ_=>one) λ_=>aP<|(akI h E hp).mono λr k=>⟨f.trans k,λn=>?_⟩;have g:(gM (vw y,10,(i:Int),c)).2=true:=g;rw[H,n] at g;cases g
def akN{p:FB}(h:xt y i K)(f:K+2<=800010)(v:rv x y 1 1 1)(hp:p.g1=y)(u:p.g2=(i:Int))(B:p.g10=c):Go (vH af) (vH af<|.c6 p)<|K2 x i c:=by
 subst hp B;have⟨p1,p2⟩:=Te (q:=true) (t:=p.g7) h.q;have A:=(rv.id h.q).mono (k':=0) (l':=0) (j':=1) (ah _) (ah _)<|aQ _;refine dG (λg=>aj p1<|aj (mg h.i) ?_) λ_=>FV u h f (v.trans A) rfl;exact FV u (h.V2 (p2 g) (n:=0) (ah _) (ah _) h.k) f (v.trans<|p2 g) rfl
def akL{p:PG}(h:xt y i K)(f:K+3<=800010)(v:rv x y 1 0 1)(hp:p.e1=y)(u:p.e2=(i:Int))(g:p.e5=c):Go (vH af) (vH af<|.c4 p)<|K2 x i c:=by
 subst hp;have A:=h.a;have B:=h.k;exact aj (mB<|by omega)<|aP<|akN (Cu h true _<|by omega) f (v.trans<|FW (q:=true) h.q) rfl u g
def akJ{p:Xf}(h:xt y i K)(f:K+3<=800010)(v:rv x y 1 0 0)(hp:p.c1=y)(u:p.c2=(i:Int))(g:p.c10=c):Go (vH af) (vH af<|.c2 p)<|K2 x i c:=by
 subst hp;exact emt (q:=false) (F:=λy=>.ak<|Ut.c4 ⟨p.c0,y,p.c2,p.c3,p.c4,p.c10⟩) h λy e=>aP<|akL (h.V2 e (n:=0) (ah _) (ah _) h.k) f (v.trans e) rfl u g
def PS(h:xt x i K)(g:K+4<=800010):Q6 (x,(i:Int),c)=true/\K2 x i c (zG (x,(i:Int),c)):=by
 refine jA (s:=vH af) (t:=agz af x i c) (P:=K2 x i c) ?_ λr ⟨⟨_,_,_,_,_,f,_⟩,_⟩=>by rw[f];rfl
 have u:=h.i;have p:=h.a;refine aj (cr (l:=x.n)<|by omega)<|aj (v7 (v:=(vw x,9,(i:Int),c)) h.f).1<|dO (λ_=>aP ?_) λ_=>FV rfl h (by omega) ((rv.id h.q).mono (by omega) (by omega)<|by omega) rfl;have r:∀s:dx,af.bQ (af.l<|af.p x.2.2.2.2.1 ([s]:List dx)) 2199023255552=true:=λs=>mB (by omega);exact aj (r _)<|aP<|akJ (Cu h false _<|by omega) (by omega) (FW (q:=false) h.q) rfl rfl rfl
end
def gG(n:Node)(y:cB):cB:=(n,y.2)
def qK.aD{f:Net}{e:gw}(h:qK x e f)(j:Nat):aD f j=aD x j:=by
 obtain⟨g,p,rfl,_⟩:=h;rfl
def fP(h:i<x.n.length):aD (cJ x<|bw x.n i f) i=f (aD x i):=uD h
def qK.snd{f:Net}{e:gw}(h:xt x i K)(p:qK x e f):xt f i K:=by
 obtain⟨g,u,rfl,l1,l2,_⟩:=p;exact⟨h.k,⟨h.q.made,l1,l2⟩,h.i,h.f,h.c,h.a⟩
def xt.mod(h:xt x i K):xt (cJ x<|bw x.n j f) i K:=
 ⟨h.k,⟨h.q.made,h.q.len,h.q.heap⟩,by show i<(bw _ _ _).length;rw[bO];exact h.i,h.f,h.c,h.a⟩
def Spk(x:Net)(i:Nat)(r:Net×Bool):Prop:=
 let o:=rH x.m (aD x i).1
 (o.2.2.2≠0/\r=(x,true))\/(o.2.2.2=0/\∃y,(o.1.2.1=1/\Lst (cJ x<|bw x.n i<|gG o.1) i y\/o.1.2.1≠1/\y=cJ x (bw x.n i<|gG o.1))/\(o.2.2.1=false/\r=(y,kT o.1)\/o.2.2.1=true/\r.2=true/\rv y r.1 1 1 2))
def rv.len{k l:Nat}(e:rv x y k l j):y.n.length=x.n.length:=by
 obtain⟨a,b,g,h,f,rfl,_⟩:=e;rfl
def Spk.len{r:Net×Bool}(h:Spk x i r):(r.1.n).length=x.n.length:=by
 rcases h with ⟨_,rfl⟩|⟨_,y,g,f⟩
 .rfl
 .have e:y.n.length=x.n.length:=by
   rcases g with ⟨_,g⟩|⟨_,rfl⟩
   .rw[g.len];exact bO
   .exact bO
  rcases f with ⟨_,rfl⟩|⟨_,_,f⟩
  .exact e
  .rw[f.len];exact e
def abA(h:xt x i K)(G:K+2<=800010)(J:df x.m=true)(S:0<=(aD x i).2.2.2.2.1/\(aD x i).2.2.2.2.1<=900000000000)(Q:0<=x.q.2.2/\x.q.2.2<=2199023255552)(V:0<=(aD x i).2.1.1/\(aD x i).2.1.1<=1000000000000):Q7 (x,(i:Int),c)=true/\Spk x i (xN (x,(i:Int),c)):=by
 have v:=h.i;refine jA (s:=Empty.elim) (t:=acy af x i c) (P:=Spk x i) ?_ λr O=>O.len;have D:rc af x (i:Int)=rH x.m (aD x i).1:=by
  unfold rc;rw[iV];rfl
 have B:wT af x (i:Int)=bw x.n i (gG (rH x.m (aD x i).1).1):=by
  unfold wT;rw[D,iV];exact uI
 have I:aD (cJ x<|bw x.n i<|gG (rH x.m (aD x i).1).1) i=gG (rH x.m (aD x i).1).1 (aD x i):=uD v;have hs:=h.mod (j:=i) (f:=gG (rH x.m (aD x i).1).1);unfold acy;rw[D,B];refine aj (cr (l:=x.n)<|by omega)<|dD (λg=>ay<|.inl ⟨g,rfl⟩) λg=>dJ (λu=>?_) λu=>dG (λp=>ay<|.inr ⟨g,_,.inr ⟨u,rfl⟩,.inl ⟨p,rfl⟩⟩) λp=>?_
 .have⟨p1,p2⟩:=GN (x:=cJ x<|bw x.n i<|gG (rH x.m (aD x i).1).1) hs.q hs.i J (by rw[I];show 0<=(aD x i).2.2.2.2.1/\(aD x i).2.2.2.2.1<=_;omega) Q;have E:yu af x (i:Int)=(Kq (cJ x<|bw x.n i<|gG (rH x.m (aD x i).1).1,(i:Int))).1:=by
   unfold yu;rw[B];rfl
  have H:xt (yu af x i) i K:=by rw[E];exact p2.snd<|hs.mod
  have p3:Lst (cJ x<|bw x.n i<|gG (rH x.m (aD x i).1).1) i<|yu af x i:=by rw[E];exact p2
  have⟨y,A⟩:=MM (f:=(rH x.m (aD x i).1).2.1) (c:=c) H G;exact aj p1<|aj (qg v)<|dG (λp=>ay<|.inr ⟨g,_,.inl ⟨u,p3⟩,.inl ⟨p,rfl⟩⟩) λp=>aj y<|aj (mg H.i)<|ay<|.inr ⟨g,_,.inl ⟨u,p3⟩,.inr ⟨p,rfl,A⟩⟩
 .have⟨y,A⟩:=MM (f:=(rH x.m (aD x i).1).2.1) (c:=c) hs G;exact aj y<|aj (qg v)<|ay<|.inr ⟨g,_,.inr ⟨u,rfl⟩,.inr ⟨p,rfl,A⟩⟩
def ak7(n:Node)(c:rh)(y:cB):cB:=(n,c,y.2.2)
def aik(c f:rh):Prop:=f.1=c.1/\f.2.1=c.2.1/\(c.2.2.length<=8->f.2.2.length<=8)
def aik.id{c:rh}:aik c c:=⟨rfl,rfl,λh=>h⟩
def V9(x:Net)(i:Nat)(f:Net):Prop:=f=x\/∃l c,(oD x.m (aD x i).1 l).2.2=0/\aik (aD x i).2.1 c/\f=cJ x (bw x.n i<|ak7 (oD x.m (aD x i).1 l).1 c)
def V9.len{f:Net}(h:V9 x i f):f.n.length=x.n.length:=by
 rcases h with rfl|⟨_,_,_,_,rfl⟩
 .rfl
 .exact bO
def Zh{l:List Seen}{L:List cB}{a b:List dx}{o:pW×Int}(h:i<x.n.length)(v:a=x.a)(y:b=x.b)(u:L=bw x.n i (gG (oD x.m (aD x i).1 l).1))(A:o=(oD x.m (aD x i).1 l).2)(E:(aD x i).2.1.2.2.length<=8):
  Go Empty.elim (.br (af.cm o.2 0) (.ret (yv x a b,())) (.br (af.cm o.1.1 3) (.ret (nM x L a b,()))<|.ao (af.k Hr (x.m,(af.n bo L (i:Int):cB).2.1,t))<|.br (af.bG (af.k wZ (x.m,(af.n bo L (i:Int):cB).2.1,t)).2 0) (.ret (nM x (md af bo L i λ(f:cB)=>Dq f (af.k wZ (x.m,(af.n bo L (i:Int):cB).2.1,t)).1) a b,()))<|.ret (nM x L a b,())):LT (Net×Unit) Empty) λr=>V9 x i r.1:=by
 subst v y u A;have en:(af.n bo (bw x.n i<|gG (oD x.m (aD x i).1 l).1) (i:Int):cB).2.1=(aD x i).2.1:=by rw[BH h];rfl
 rw[en];have⟨B,D⟩:=amk (m:=x.m) (c:=(aD x i).2.1) (t:=t) (by omega);have same:(oD x.m (aD x i).1 l).2.2=0->V9 x i (cJ x<|bw x.n i<|gG (oD x.m (aD x i).1 l).1):=λg=>.inr ⟨l,(aD x i).2.1,g,.id,rfl⟩;refine dD (λ_=>ay<|.inl rfl) λg=>dD (λ_=>ay<|same g) λ_=>aj B<|dJ (λp=>ay<|.inr ⟨l,_,g,D p,?_⟩) λ_=>ay<|same g;show cJ x (md af bo (bw x.n i<|gG (oD x.m (aD x i).1 l).1) i λ(f:cB)=>Dq f (af.k wZ (x.m,(aD x i).2.1,t)).1)=_;exact congrArg (cJ x)<|jk.trans<|mod_mod h
theorem tu{l:List α}{N:Int}(h:(l.length:Int)<=N):af.bQ (af.l l) N=true:=by
 rw[ax,eG];simp_all
def aeR(h:xt x i K)(S:x.n.length<=x.s.2.2.2.1.length)(u:(aD x i).2.1.2.2.length<=8):Q5 (x,(i:Int))=true/\V9 x i (tc (x,(i:Int))).1:=by
 have y:=h.i;have V:=h.k;have Q:=h.c;refine jA (s:=Empty.elim) (t:=agx af x i) (P:=λr=>V9 x i r.1) ?_ λr G=>G.len;have⟨H,I,_⟩:=Bw (l:=x.a) (a:=(af.k Ko (x.m,(af.n bo x.n (i:Int):cB).2.1)).1) (w:=(af.k xJ (x.m,(af.n bo x.n (i:Int):cB).2.1)).1) (th:=(af.n yI x.s.2.2.2.1 (i:Int):Int)) (by omega);have⟨J,O,_⟩:=Bw (l:=x.b) (a:=(af.k Ko (x.m,(af.n bo x.n (i:Int):cB).2.1)).1) (w:=(af.k xJ (x.m,(af.n bo x.n (i:Int):cB).2.1)).1) (th:=(af.n yI x.s.2.2.2.1 (i:Int):Int)) (by omega);have g:=(v7 (v:=(vw x,6,(i:Int),(af.n bo x.n (i:Int):cB).1.2.2.1)) h.f).1;have f:(qB af x i).1=x.a:=I;have p:(q_ af x i).1=x.b:=O;have A:Dk af x (i:Int)=bw x.n i (gG (oD x.m (aD x i).1<|af.r 2 (Ty.gH pV:Seen)).1):=by
  unfold Dk;rw[iV];exact uI
 have B:Dl af x (i:Int)=bw x.n i (gG (oD x.m (aD x i).1<|af.p ([(qB af x i).2]:List Seen) ([(q_ af x i).2]:List Seen)).1):=by
  unfold Dl AQ;rw[iV];exact uI
 have D:IT af x (i:Int)=(oD x.m (aD x i).1<|af.r 2 (Ty.gH pV:Seen)).2:=by
  unfold IT;rw[iV];rfl
 have E:(AQ af x i).2=(oD x.m (aD x i).1<|af.p ([(qB af x i).2]:List Seen) ([(q_ af x i).2]:List Seen)).2:=by
  unfold AQ;rw[iV];rfl
 refine aj (cr (l:=x.n)<|by omega)<|dD (λ_=>ay<|.inl rfl) λ_=>dD (λ_=>ay<|.inl rfl) λ_=>aj (cr (l:=x.s.2.2.2.1)<|by omega)<|aj H<|aj ?_<|aj J<|aj ?_<|aj g<|dO (λ_=>aj (by decide)<|Zh y f p A D u) λ_=>Zh y f p B E u
 .exact tu (by show(1:Int)<=_;omega)
 .exact tu (by show(2:Int)<=_;omega)
def Sw1(k:Nat)(x y:Net):Prop:=y=x\/∃on,kT (aD x k).1=false/\(on=true↔(aD x k).1.2.1=0)/\Pwr x k on y
def VZ:Nat->Nat->Net->Net->Prop
 | 0,_,x,x'=>x'=x
 | f+1,k,x,x'=>∃y,Sw1 k x y/\VZ f (k+1) y x'
def Swt(x:Net)(i:Nat)(f:Net):Prop:=f=x\/((aD x i).2.2.2.2.2.2.1=true/\(aD x i).1.2.1=4/\VZ x.n.length 0 x f)
structure Swo(x:Net)(k:Nat):Prop where
 q:wU x
 m:df x.m=true
 f:x.s.2.2.2.2.2.2.2.length<=1000000
 w:0<=x.q.2.2/\x.q.2.2<=2199023255552
 t:∀j,k<=j->j<x.n.length->0<=(aD x j).2.2.2.2.1/\(aD x j).2.2.2.2.1<=900000000000
def iv(h:j≠i):aD (cJ x<|bw x.n i f) j=aD x j:=ae_ h
def qK.same{f:Net}{e:gw}(h:qK x e f):f.n=x.n/\f.m=x.m/\f.s=x.s/\f.q.2.2=x.q.2.2/\f.q.1=x.q.1/\f.2.2.2.2.2.2.1=x.2.2.2.2.2.2.1/\f.2.2.2.2.2.2.2.2.2.2.2.2.2=x.2.2.2.2.2.2.2.2.2.2.2.2.2/\(f.q.2.1).length<=16384/\EY (f.q.2.1):=by
 obtain⟨g,p,rfl,a,b,_⟩:=h;exact⟨rfl,rfl,rfl,rfl,rfl,rfl,rfl,a,b⟩
def Swo.sw1{k:Nat}(h:Swo x k)(H:k<x.n.length)(s:Sw1 k x y):Swo y (k+1)/\y.n.length=x.n.length:=by
 have up:Swo x<|k+1:=⟨h.q,h.m,h.f,h.w,λj g f=>h.t j (by omega) f⟩;rcases s with rfl|⟨on,_,_,p⟩
 .exact⟨up,rfl⟩
 .rcases p with ⟨_,rfl⟩|⟨_,⟨_,rfl⟩|⟨_,p⟩⟩
  .exact⟨up,rfl⟩
  .refine⟨⟨⟨h.q.made,h.q.len,h.q.heap⟩,h.m,h.f,h.w,λj g f=>?_⟩,bO⟩;rw[iv<|by omega];exact h.t j (by omega) (by have f:j<(bw _ _ _).length:=f;rwa [bO] at f)
  .have e:=p.len;have u:y.n.length=x.n.length:=e.trans bO;have⟨I,v,A,B,D,_,_,E,G⟩:=qK.same p;refine⟨⟨⟨D.trans h.q.made,E,G⟩,by rw[v];exact h.m,by rw[A];exact h.f,by rw[B];exact h.w,λj g f=>?_⟩,u⟩;rw[qK.aD p,iv<|by omega,iv<|by omega];exact h.t j (by omega) (by omega)
def amK{n:Nat}:∀(f k:Nat) (x:Net),n-k<=f->k<=n->x.n.length=n->1<=n->n<=1000->Swo x k->Go (Av af) (Av af<|.c1 ⟨(n:Int),c⟩ k x) λr=>VZ (n-k) k x r.1:=by
 have A:∀(k:Nat) (x:Net),¬k<n->k<=n->Go (Av af) (Av af<|.c1 ⟨(n:Int),c⟩ k x) λr=>VZ (n-k) k x r.1:=λk x B hn=>by
  refine bH (λg=>absurd g (by show ¬(k:Int)<(n:Int);omega)) λ_=>ay ?_;rw[show n-k=0 from by omega];rfl
 intro f
 induction f with
 | zero=>intro k x W B _ _ _ _;exact A k x (by omega) B
 | succ f ih=>
   intro k x W B hl S V h;by_cases g:k<n
   .have u:k<x.n.length:=by omega
    have G:∀y,Sw1 k x y->Go (Av af) (.ak<|.c1 ⟨(n:Int),c⟩ (ob af k) y) λr=>VZ (n-k) k x r.1:=λy s=>by
     have⟨Z,s2⟩:=h.sw1 u s;rw[show ob af (k:Int)=((k+1:Nat):Int) from by unfold ob;rw[dw<|by omega];omega,show n-k=(n-(k+1))+1 from by omega];exact aP<|(ih (k+1) y (by omega) (by omega) (by omega) S V Z).mono λr X=>⟨y,s,X⟩
    have E:∀m,af.k j_ (vw x,m,(k:Int),c)=true:=λm=>(v7 (v:=(vw x,m,(k:Int),c)) h.f).1;have D:(af.n bo x.n (k:Int):cB)=aD x k:=iV;have p:=G x<|.inl rfl;have H:∀on,kT (aD x k).1=false->(on=true↔(aD x k).1.2.1=0)->Go (Av af) (.ao (af.k u5 (x,(k:Int),on))<|.ao (af.cm (af.l x.n) 0)<|.ak<|.c1 ⟨(n:Int),c⟩ (ob af k) (xM (x,(k:Int),on)).1) λr=>VZ (n-k) k x r.1:=λon a b=>by
     have⟨p1,p2⟩:=Ha (on:=on) h.q u h.m (h.t k (ah _) u) h.w;exact aj p1<|aj (mg u)<|G _<|.inr ⟨on,a,b,p2⟩
    have off:Go (Av af) (.br (af.cm (af.n bo x.n (k:Int):cB).1.2.1 0) (.br (af.not<|af.k ot (af.n bo x.n (k:Int):cB).1) (.ao (af.k u5 (x,(k:Int),false))<|.ao (af.cm (af.l x.n) 0)<|.ak<|.c1 ⟨(n:Int),c⟩ (ob af k) (xM (x,(k:Int),false)).1)<|.ak<|.c1 ⟨(n:Int),c⟩ (ob af k) x)<|.ak<|.c1 ⟨(n:Int),c⟩ (ob af k) x) λr=>VZ (n-k) k x r.1:=by
     rw[D];exact dD (λe=>dG (λJ=>H false J ⟨nofun,λO=>absurd O e⟩) λ_=>p) λ_=>p
    refine bH (λ_=>aj (cr (l:=x.n)<|by omega)<|aj (E 2)<|aj (E 1)<|dO (λ_=>dJ (λe=>?_) λ_=>dO (λ_=>off) λ_=>p) λ_=>dO (λ_=>off) λ_=>p) λQ=>absurd Q (by show ¬(n:Int)<=(k:Int);omega);have e:(aD x k).1.2.1=0:=by rw[<-D];exact e
    have I:kT (aD x k).1=false:=by unfold kT;rw[e];rfl
    exact H true I ⟨λ_=>e,λ_=>rfl⟩
   .exact A k x g B
theorem VZ.len:∀{f k:Nat} {x y:Net},VZ f k x y->Swo x k->k+f<=x.n.length->y.n.length=x.n.length
 | 0,_,_,_,h,_,_=>by rw[h]
 | f+1,k,x,_,h,hs,hk=>by
   have⟨z,g,p⟩:=h;have⟨u,v⟩:=hs.sw1 (by omega) g;rw[VZ.len p u<|by omega];exact v
def Pb(h:Swo x 0)(G:i<x.n.length)(D:x.n.length<=1000):CV (x,(i:Int),c)=true/\Swt x i (Gj (x,(i:Int),c)).1:=by
 refine jA (s:=Av af) (t:=acu af x i c) (P:=λr=>Swt x i r.1) ?_ λr u=>?_
 .have y:(af.n bo x.n (i:Int):cB)=aD x i:=iV;unfold acu;rw[y];refine aj (cr (l:=x.n)<|by omega)<|dG (λ_=>ay<|.inl rfl) λa=>dD (λ_=>ay<|.inl rfl) λb=>aP ?_;have E:∀(f k:Nat),i-k<=f->k<=i->Go (Av af) (Av af<|.c0 ⟨(i:Int),x,c⟩ k) λr=>Swt x i r.1:=by
   have p:∀k,¬k<i->Go (Av af) (Av af<|.c0 ⟨(i:Int),x,c⟩ ((k:Nat):Int)) λr=>Swt x i r.1:=λk v=>
    bH (λg=>absurd g (by show ¬(k:Int)<(i:Int);omega)) λ_=>aP<|(amK (n:=x.n.length) (c:=c) _ 0 x (ah _) (aQ _) rfl (by omega) D h).mono λr u=>.inr ⟨a,b,u⟩
   intro f
   induction f with
   | zero=>intro k B v;exact p k (by omega)
   | succ f ih=>
     intro k B v;by_cases g:k<i
     .refine bH (λ_=>aj (cr (l:=x.n)<|by omega)<|dJ (λ_=>ay<|.inl rfl) λ_=>?_) λA=>absurd A (by show ¬(i:Int)<=(k:Int);omega);rw[dw<|by omega,show(k:Int)+1=((k+1:Nat):Int) from by omega];exact aP<|ih (k+1) (by omega) (by omega)
     .exact p k g
  exact E i 0 (ah _)<|aQ _
 .rcases u with e|⟨_,_,e⟩
  .rw[e]
  .exact e.len h (by omega)
def zg(y:cB):cB:=(y.1,y.2.1,y.2.2.1,y.2.2.2.1,y.2.2.2.2.1,false,y.2.2.2.2.2.2)
def edY(n:Node)(y:cB):cB:=(n,y.2.1,y.2.2.1,y.2.2.2.1,y.2.2.2.2.1,y.2.2.2.2.2.1,y.2.2.2.2.2.2.1,true)
def nxY(n:Node)(c:rh)(y:cB):cB:=(n,c,IntKind.i64.wrap<|y.2.2.1+1,y.2.2.2)
def Vx(x:Net)(s:List fB):Net:=(x.1,x.2.1,x.2.2.1,x.2.2.2.1,x.2.2.2.2.1,x.2.2.2.2.2.1,x.2.2.2.2.2.2.1,x.m,x.s,x.r,x.e,x.q,x.n,x.a,x.b,x.o,s)
def Ev2(x:Net)(i:Nat)(f:Net):Prop:=
 f=x/\(kT (aD x i).1=false\/(jq x.m (aD x i).1).2≠0)\/
 kT (aD x i).1=true/\(jq x.m (aD x i).1).2=0/\(f=cJ x (bw x.n i<|edY (jq x.m (aD x i).1).1)\/
  ∃d c s,Fw x.m (aD x i).2.1 d c/\s.length<=x.z.length+1/\(∀z∈s,z∈x.z\/z.2=(jq x.m (aD x i).1).1)/\
   qK (Vx (cJ x<|bw x.n i<|nxY (jq x.m (aD x i).1).1 c) s) (qH x c.1,5,(i:Int),(aD x i).2.2.2.2.1) f)
structure Evo(x:Net)(i:Nat):Prop where
 q:wU x
 m:df x.m=true
 lt:i<x.n.length
 d:∀v∈x.s.2.2.2.2.2.1, -x.m.2.2.2.2.1<=v/\v<=x.m.2.2.2.2.1
 l:x.s.2.2.2.2.2.1.length<=1000000
 s:x.z.length<=800000
 b:∀n,(jq x.m (aD x i).1).2=0->n=(jq x.m (aD x i).1).1->aer n=true
def nxC(x:Net)(i:Nat):rh×Int:=Kk (x.m,(aD x i).2.1,zC (x.s,x.m.1,(aD x i).2.2.1,(i:Int)))
def akQ(h:Evo x i):Go (OY af) (OY af<|.c0 ⟨(i:Int),(i:Int),x⟩) λr=>Ev2 x i r.1:=by
 have⟨B,Z,f,W,X,hs,S⟩:=h;have v:(af.n bo x.n (i:Int):cB)=aD x i:=iV;have A:AO af ⟨(i:Int),(i:Int),x⟩=jq x.m (aD x i).1:=by
  show YC (x.m,(af.n bo x.n (i:Int):cB).1)=_;rw[v];rfl
 have y:wS af ⟨(i:Int),(i:Int),x⟩=bw x.n i (gG (jq x.m (aD x i).1).1):=by
  unfold wS;rw[A];show af.set x.n i ((jq x.m (aD x i).1).1,(af.n bo x.n (i:Int):cB).2)=_;rw[v];exact uI
 have en:(af.n bo (bw x.n i<|gG (jq x.m (aD x i).1).1) (i:Int):cB)=gG (jq x.m (aD x i).1).1 (aD x i):=BH f;have E:yj af ⟨(i:Int),(i:Int),x⟩=nxC x i:=by
  unfold yj;rw[y];show Kk (x.m,(af.n bo (bw x.n i<|gG (jq x.m (aD x i).1).1) (i:Int):cB).2.1,zC (x.s,x.m.1,(af.n bo (bw x.n i<|gG (jq x.m (aD x i).1).1) (i:Int):cB).2.2.1,(i:Int)))=_;rw[en];rfl
 have O:yk af ⟨(i:Int),(i:Int),x⟩=bw x.n i (nxY (jq x.m (aD x i).1).1 (nxC x i).1):=by
  unfold yk acT;rw[y,E];exact(congrArg (λl=>md af bo l i λ(D:cB)=>up2 D<|af.bT D.2.2.1 1)<|jk.trans<|mod_mod f).trans (jk.trans<|mod_mod f)
 have Q:IM af ⟨(i:Int),(i:Int),x⟩=x.z ++ [((jq x.m (aD x i).1).1.2.2.1.1,(jq x.m (aD x i).1).1)]:=by
  unfold IM;rw[A];rfl
 have V:=uB Z;have⟨J,d2,d3⟩:=X9 (s:=x.s) (n:=x.m.1) (k:=(aD x i).2.2.1) (i:=(i:Int)) (d:=x.m.2.2.2.2.1) (by omega) W X;have⟨n1,n2⟩:=alG (m:=x.m) (c:=(aD x i).2.1) (d:=zC (x.s,x.m.1,(aD x i).2.2.1,(i:Int)));have hr:(x.z.length:Int)+1<=651562446089:=by omega
 have I:af.cm (af.l<|bw x.n i<|nxY (jq x.m (aD x i).1).1 (nxC x i).1) 0=true:=qg f;have P:=λs=>CY (x:=Vx (cJ x<|bw x.n i<|nxY (jq x.m (aD x i).1).1 (nxC x i).1) s) (t:=(nxC x i).1.1) (k:=5) (i:=i) ⟨B.made,B.len,B.heap⟩ (by show i<(bw _ _ _).length;rw[bO];exact f) (by decide);have G:∀s,(aD (Vx (cJ x<|bw x.n i<|nxY (jq x.m (aD x i).1).1 (nxC x i).1) s) i).2.2.2.2.1=(aD x i).2.2.2.2.1:=λs=>by
  show((bw x.n i _).getD i dS).2.2.2.2.1=_;rw[uD f];rfl
 refine dG (λg=>ay<|.inl ⟨rfl,.inl ?_⟩) λg=>?_
 .rw[<-v];exact g
 have g:kT (aD x i).1=true:=by rw[<-v];exact g
 dsimp only;rw[A,y,en,E,O,Q];refine dD (λu=>ay<|.inl ⟨rfl,.inr u⟩) λu=>aj J<|aj n1<|dD (λH=>ay<|.inr ⟨g,u,.inl ?_⟩) λH=>?_
 .exact congrArg (cJ x)<|jk.trans<|mod_mod f
 .have N:=n2 H;refine dJ (λ_=>aj (S _ u rfl)<|aj (mB hr)<|aj (P _).1<|aj I<|ay<|.inr ⟨g,u,.inr ⟨_,_,x.z ++ [((jq x.m (aD x i).1).1.2.2.1.1,(jq x.m (aD x i).1).1)],N,?_,λz p=>?_,?_⟩⟩) λ_=>aj (P x.z).1<|aj I<|ay<|.inr ⟨g,u,.inr ⟨_,_,x.z,N,iq _,λz p=>.inl p,?_⟩⟩
  .rw[uy,bP];exact ah _
  .rcases oJ.1 p with p|p
   .exact .inl p
   .rw[aG.1 p];exact .inr rfl
  .have:=(P<|x.z ++ [((jq x.m (aD x i).1).1.2.2.1.1,(jq x.m (aD x i).1).1)]).2;rw[G] at this;exact this
  .have:=(P x.z).2;rw[G] at this;exact this
def Evl(x:Net)(i:Nat)(f:Net):Prop:=
 (kT (aD x i).1=false/\f=x)\/(kT (aD x i).1=true/\∃y z,V9 x i y/\((aD x i).2.2.2.2.2.1=true\/(aD x i).1.2.2.1.2.1=(i:Int)->y=x)/\Swt (cJ y<|bw y.n i zg) i z/\Ev2 z i f)
def Ev2.len{f:Net}(h:Ev2 x i f):f.n.length=x.n.length:=by
 rcases h with ⟨rfl,_⟩|⟨_,_,rfl|⟨_,_,_,_,_,_,p⟩⟩
 .rfl
 .exact bO
 .rw[(qK.same p).1];exact bO
structure Evi(x:Net)(i K:Nat):Prop where
 s:xt x i K
 m:df x.m=true
 w:0<=x.q.2.2/\x.q.2.2<=2199023255552
 n:x.n.length<=1000
 g:x.n.length<=x.s.2.2.2.1.length
 c:(aD x i).2.1.2.2.length<=8
 t:∀j,j<x.n.length->0<=(aD x j).2.2.2.2.1/\(aD x j).2.2.2.2.1<=900000000000
 e:∀y z,V9 x i y->Swt (cJ y (bw y.n i zg)) i z->Evo z i
def aeC(h:Evi x i K):QS (x,(i:Int))=true/\Evl x i (SP (x,(i:Int))).1:=by
 have v:=h.s.i;have I:AN af x (i:Int)=aD x i:=by
  unfold AN;exact iV
 have E:∀y,V9 x i y->Swo (cJ y<|bw y.n i zg) 0/\i<(cJ y<|bw y.n i zg).n.length/\(cJ y<|bw y.n i zg).n.length=x.n.length:=λy f=>by
  have p:y.n.length=x.n.length:=f.len;have H:(cJ y<|bw y.n i zg).n.length=x.n.length:=bO.trans p;have W:∀j,j<x.n.length->0<=(aD y j).2.2.2.2.1/\(aD y j).2.2.2.2.1<=900000000000:=λj A=>by
   rcases f with rfl|⟨l,c,_,_,rfl⟩
   .exact h.t j A
   .by_cases e:j=i
    .rw[e,fP v];exact h.t i v
    .rw[iv e];exact h.t j A
  have D:∀j,j<x.n.length->0<=(aD (cJ y<|bw y.n i zg) j).2.2.2.2.1/\(aD (cJ y<|bw y.n i zg) j).2.2.2.2.1<=900000000000:=λj A=>by
   by_cases e:j=i
   .rw[e,fP<|by omega];exact W i v
   .rw[iv e];exact W j A
  refine⟨?_,by omega,H⟩;rcases f with rfl|⟨l,c,_,_,rfl⟩
  .exact⟨⟨h.s.q.made,h.s.q.len,h.s.q.heap⟩,h.m,h.s.f,h.w,λj _ A=>D j<|by omega⟩
  .exact⟨⟨h.s.q.made,h.s.q.len,h.s.q.heap⟩,h.m,h.s.f,h.w,λj _ A=>D j<|by omega⟩
 refine jA (s:=OY af) (t:=acf af x i) (P:=λr=>Evl x i r.1) ?_ λr J=>?_
 .unfold acf acg;rw[I];have u:∀y:Net,i<y.n.length->md af bo y.n i (λ(p:cB)=>Fo p false)=bw y.n i zg:=λy f=>jk;have tail:∀(y:Net) (c:gE),kT (aD x i).1=true->V9 x i y->((aD x i).2.2.2.2.2.1=true\/(aD x i).1.2.2.1.2.1=(i:Int)->y=x)->CV (cJ y<|bw y.n i zg,(i:Int),c)=true/\Go (OY af) (.ak<|.c0 ⟨(i:Int),(i:Int),(Gj (cJ y<|bw y.n i zg,(i:Int),c)).1⟩) λr=>Evl x i r.1:=λy c g f hf=>by
   have⟨V,Z,G⟩:=E y f;have⟨p1,p2⟩:=Pb (c:=c) V Z (by rw[G];exact h.n);exact⟨p1,aP<|(akQ<|h.e y _ f p2).mono λr J=>.inr ⟨g,y,_,f,hf,p2,J⟩⟩
  have⟨q1,X⟩:=aeR h.s h.g h.c;have hY:x.n.length=(tc (x,(i:Int))).1.n.length:=X.len.symm;have H:M9 af x (i:Int)=(cJ (tc (x,(i:Int))).1<|bw (tc (x,(i:Int))).1.n i zg,(i:Int),(aD x i).1.2.2.1):=by
   unfold M9;rw[I];exact congrArg (λl=>(cJ (tc (x,(i:Int))).1 l,(i:Int),(aD x i).1.2.2.1))<|u (tc (x,(i:Int))).1 (by omega)
  have p:M8 af x (i:Int)=(cJ x<|bw x.n i zg,(i:Int),(aD x i).1.2.2.1):=by
   unfold M8;rw[I];exact congrArg (λl=>(cJ x l,(i:Int),(aD x i).1.2.2.1))<|u x v
  rw[p,H];have B:kT (aD x i).1=true->Go (OY af) (.ao (af.k CV (cJ x<|bw x.n i zg,(i:Int),(aD x i).1.2.2.1))<|.ao (af.cm (af.l<|md af bo x.n i λ(p:cB)=>Fo p false) 0)<|.ak<|.c0 ⟨(i:Int),(i:Int),(Gj (cJ x<|bw x.n i zg,(i:Int),(aD x i).1.2.2.1)).1⟩) λr=>Evl x i r.1:=λg=>by
   have⟨Q,S⟩:=tail x (aD x i).1.2.2.1 g (.inl rfl) λ_=>rfl;exact aj Q<|aj (by rw[u x v];exact qg v) S
  refine aj (cr (l:=x.n)<|by omega)<|dG (λg=>ay<|.inl ⟨g,rfl⟩) λg=>dG (λg2=>dD (λg3=>?_) λ_=>B g) λ_=>B g;have⟨Q,S⟩:=tail (tc (x,(i:Int))).1 (aD x i).1.2.2.1 g X λk=>k.elim (λk=>absurd (g2.symm.trans k)<|by decide) λk=>absurd k g3;refine aj q1<|aj (mg v)<|aj Q<|aj ?_ S;rw[show md af bo (af.k tc (x,(i:Int))).1.n i (λ(p:cB)=>Fo p false)=bw (tc (x,(i:Int))).1.n i zg from u (tc (x,(i:Int))).1<|by omega];exact qg (by omega)
 .rcases J with ⟨_,e⟩|⟨_,y,z,f,_,O,he⟩
  .rw[e]
  .have⟨V,Z,G⟩:=E y f;rw[he.len];rcases O with rfl|⟨_,_,O⟩
   .exact G
   .rw[O.len V<|by omega];exact G
inductive Up (m:au) (n:Node):Node->Prop where
 | rfl:Up m n n
 | step {k:Node} {o:dP}:Up m n k->(zh m k o).2=0->Up m n (zh m k o).1
def Bg2(x:Net)(i:Nat)(f:Net):Prop:=∃y,K2 x i (aD x i).1.2.2.1 (y,())/\
 ((aD x i).1.2.2.1.2.1=(i:Int)/\(∃r:Net×Bool,Spk y i r/\(r.2=false/\f=r.1\/r.2=true/\qK r.1 (qH r.1<|ovT x.m (aD r.1 i).2.1.1,1,(i:Int),(aD r.1 i).2.2.2.2.1) f))\/
   (aD x i).1.2.2.1.2.1≠(i:Int)/\qK y (qH y<|ovT x.m (aD y i).2.1.1,1,(i:Int),(aD y i).2.2.2.2.1) f)
structure Bgo(x:Net)(i K:Nat):Prop where
 s:xt x i K
 k:K+8<=800010
 m:df x.m=true
 w:0<=x.q.2.2/\x.q.2.2<=2199023255552
 t:0<=(aD x i).2.2.2.2.1/\(aD x i).2.2.2.2.1<=900000000000
 c:0<=(aD x i).2.1.1/\(aD x i).2.1.1<=1000000000000
 o:x.s.2.2.2.2.2.2.1.length<=1000000
def rv.same{k l:Nat}(e:rv x y k l j):y.m=x.m/\y.q.2.2=x.q.2.2:=by
 obtain⟨a,b,g,h,f,rfl,_⟩:=e;exact⟨rfl,rfl⟩
def Spk.clk{r:Net×Bool}(h:Spk x i r)(p:i<x.n.length):(aD r.1 i).2.1=(aD x i).2.1/\r.1.m=x.m:=by
 rcases h with ⟨_,rfl⟩|⟨_,y,g,f⟩
 .exact⟨rfl,rfl⟩
 .have e:(aD y i).2.1=(aD x i).2.1/\y.m=x.m:=by
   rcases g with ⟨_,g⟩|⟨_,rfl⟩
   .refine⟨?_,(qK.same g).2.1⟩;have u:i<(cJ x<|bw x.n i<|gG (rH x.m (aD x i).1).1).n.length:=by show i<(bw _ _ _).length;rw[bO];exact p
    rw[qK.aD g,fP u,fP p];rfl
   .exact⟨by rw[fP p];rfl,rfl⟩
  rcases f with ⟨_,rfl⟩|⟨_,_,f⟩
  .exact e
  .exact⟨by rw[f.aD];exact e.1,by rw[f.same.1];exact e.2⟩
def Spk.qok{r:Net×Bool}(h:Spk x i r)(f:wU x):wU r.1:=by
 rcases h with ⟨_,rfl⟩|⟨_,y,p,g⟩
 .omega
 .have e:wU y:=by
   rcases p with ⟨_,p⟩|⟨_,rfl⟩
   .have⟨_,_,_,_,u,_,_,v,A⟩:=qK.same p;exact⟨u.trans f.made,v,A⟩
   .exact⟨f.made,f.len,f.heap⟩
  rcases g with ⟨_,rfl⟩|⟨_,_,g⟩
  .exact e
  .exact g.ok e.made
def ajm{k:Nat}{p:Cj}(h:Bgo x i K)(Z:p.b1<=(k:Int))(G:p.b3=(i:Int)):Go (BU af) (BU af<|.c1 p k x) λr=>Bg2 x i r.1:=by
 have W:=h.s.i;have hk:=h.k;have D:tJ af p x=aD x i:=by
  unfold tJ;rw[G];exact iV
 have S:yp af p x=(zG (x,(i:Int),(aD x i).1.2.2.1)).1:=by
  unfold yp;rw[D,G];rfl
 have Q:yn af p x=(yp af p x,(i:Int),(aD x i).1.2.2.1):=by
  unfold yn;rw[D,G]
 refine bH (λg=>absurd g<|by omega) λ_=>?_;rw[Q,D,S,G,show af.k xN ((zG (x,(i:Int),(aD x i).1.2.2.1)).1,(i:Int),(aD x i).1.2.2.1)=xN ((zG (x,(i:Int),(aD x i).1.2.2.1)).1,(i:Int),(aD x i).1.2.2.1) from rfl];clear Q D S;have⟨V,v⟩:=PS (c:=(aD x i).1.2.2.1) h.s (by omega);have f:xt (zG (x,(i:Int),(aD x i).1.2.2.1)).1 i<|K+2:=h.s.V2 v.1 (ah _) (ah _) (by omega);have E:=v.1.aD;have u:=v.1.same;have H:K2 x i (aD x i).1.2.2.1 ((zG (x,(i:Int),(aD x i).1.2.2.1)).1,()):=v;clear v;generalize (zG (x,(i:Int),(aD x i).1.2.2.1)).1=y at *;refine aj V<|aj (mg W)<|dJ (λg=>?_) λg=>?_
 .have⟨X,B⟩:=abA (c:=(aD x i).1.2.2.1) f (by omega) (by rw[u.1];exact h.m) (by rw[E];exact h.t) (by rw[u.2];exact h.w) (by rw[E];exact h.c);generalize xN (y,(i:Int),(aD x i).1.2.2.1)=r at *;have hl:(r.1.n).length=y.n.length:=B.len;have J:=B.clk f.i;have⟨O,A⟩:=E_ (x:=r.1) (i:=i) (B.qok f.q) (by have:=f.i;omega) (by rw[J.2,u.1];exact h.m) (by rw[J.1,E];exact⟨h.c.1,bu h.c.2<|by decide⟩);have e:r.1.m=x.m:=by rw[J.2,u.1]
  rw[e] at A;exact aj X<|aj (mg f.i)<|dG (λI=>ay ⟨y,H,.inl ⟨g,r,B,.inl ⟨I,rfl⟩⟩⟩) λI=>aj O<|aj (mg (i:=i) (by have:=f.i;omega))<|ay ⟨y,H,.inl ⟨g,r,B,.inr ⟨I,A⟩⟩⟩
 .have⟨O,A⟩:=E_ (x:=y) f.q f.i (by rw[u.1];exact h.m) (by rw[E];exact⟨h.c.1,bu h.c.2<|by decide⟩);rw[u.1] at A;exact aj O<|aj (mg f.i)<|ay ⟨y,H,.inr ⟨g,A⟩⟩
theorem U0{l:List cB}(h:i<l.length):bw l i (gG (l.getD i dS).1)=l:=by
 have e:gG (l.getD i dS).1 (l.getD i dS)=l.getD i dS:=rfl;unfold bw
 simp_all
def XH{l:List dP}{p:Cj}{u:Node}(D:i<x.n.length)(I:p.b0=l)(B:p.b1=(l.length:Int))(A:p.b3=(i:Int))(V:l.length<=1000000)(J:∀n,Up x.m u n->Bgo (cJ x<|bw x.n i<|gG n) i K):∀(f k:Nat) (n:Node),l.length-k<=f->Up x.m u n->Go (BU af) (BU af<|.c1 p k<|cJ x<|bw x.n i<|gG n) λr=>∃n,Up x.m u n/\Bg2 (cJ x<|bw x.n i<|gG n) i r.1:=by
 have v:∀(k:Nat) (n:Node),¬k<l.length->Up x.m u n->Go (BU af) (BU af<|.c1 p k<|cJ x<|bw x.n i<|gG n) λr=>∃n,Up x.m u n/\Bg2 (cJ x<|bw x.n i<|gG n) i r.1:=λk n S h=>(ajm (J n h) (by rw[B];omega) A).mono λr Q=>⟨n,h,Q⟩;intro f
 induction f with
 | zero=>intro k n O h;exact v k n (by omega) h
 | succ f ih=>
   intro k n O h;by_cases g:k<l.length
   .have en:tJ af p (cJ x<|bw x.n i<|gG n)=gG n (aD x i):=by
     unfold tJ;rw[A];exact BH D
    have y:Go (BU af) (.ak<|.c1 p (af.bT k 1)<|cJ x<|bw x.n i<|gG n) λr=>∃n,Up x.m u n/\Bg2 (cJ x<|bw x.n i<|gG n) i r.1:=by
     rw[dw<|by omega,show(k:Int)+1=((k+1:Nat):Int) from by omega];exact aP<|ih (k+1) n (by omega) h
    refine bH (λ_=>aj (by rw[I];exact cr (l:=l)<|by omega)<|dJ (λ_=>dJ (λ_=>dJ (λ_=>?_) λ_=>y) λ_=>y) λ_=>y) λG=>absurd G (by rw[B];omega);rw[en];refine dJ (λH=>?_) λ_=>y;have E:af.set (bw x.n i<|gG n) p.b3 ((af.k SC (x.m,(gG n<|aD x i).1,(af.n fv p.b0 (k:Int):dP))).1,(gG n<|aD x i).2)=bw x.n i (gG (zh x.m n (af.n fv p.b0 (k:Int):dP)).1):=by
     rw[A];exact uI.trans<|mod_mod D
    rw[dw<|by omega,show(k:Int)+1=((k+1:Nat):Int) from by omega];have q:=ih (k+1) _ (by omega)<|.step h H;rw[<-E] at q;exact aP q
   .exact v k n g h
def Pp(y:cB):cB:=(y.1,y.2.1,y.2.2.1,y.2.2.2.1,y.2.2.2.2.1,y.2.2.2.2.2.1,y.1.2.1==4,y.2.2.2.2.2.2.2)
def ovY(y:cB):cB:=(y.1,y.2.1,y.2.2.1,y.2.2.2.1,y.2.2.2.2.1,y.2.2.2.2.2.1,y.2.2.2.2.2.2.1,true)
def yw(x:Net)(i:Nat):Net:=cJ x<|bw x.n i Pp
def On(x:Net)(i:Nat)(n:Node):Net:=cJ (yw x i)<|bw (yw x i).n i<|gG n
def Bgn(x:Net)(i:Nat)(f:Net):Prop:=
 (kT (aD x i).1=false/\f=x)\/(kT (aD x i).1=true/\(f=cJ x (bw x.n i ovY)\/Pwr x i false f\/∃n,Up x.m (aD x i).1 n/\Bg2 (On x i n) i f))
structure Bgi(x:Net)(i K:Nat):Prop where
 q:wU x
 lt:i<x.n.length
 f:x.s.2.2.2.2.2.2.2.length<=1000000
 o:x.s.2.2.2.2.2.2.1.length<=1000000
 m:df x.m=true
 w:0<=x.q.2.2/\x.q.2.2<=2199023255552
 t:0<=(aD x i).2.2.2.2.1/\(aD x i).2.2.2.2.1<=900000000000
 b:∀n,Up x.m (aD x i).1 n->Bgo (On x i n) i K
def Bg2.len{f:Net}(h:Bg2 x i f):f.n.length=x.n.length:=by
 obtain⟨y,⟨d,_⟩,⟨_,r,s,⟨_,rfl⟩|⟨_,p⟩⟩|⟨_,p⟩⟩:=h
 .rw[s.len,d.len]
 .rw[(qK.same p).1,s.len,d.len]
 .rw[(qK.same p).1,d.len]
def XG(h:Bgi x i K):QV (x,(i:Int))=true/\Bgn x i (SU (x,(i:Int))).1:=by
 have u:=h.lt;have D:AP af x (i:Int)=aD x i:=by
  unfold AP;exact iV
 refine jA (s:=BU af) (t:=ack af x i) (P:=λr=>Bgn x i r.1) ?_ λr H=>?_
 .unfold ack acm;rw[D];have G:af.k j_ (vw x,1,(i:Int),(aD x i).1.2.2.1)=true:=(v7 (v:=(vw x,1,(i:Int),(aD x i).1.2.2.1)) h.f).1;have⟨p1,p2⟩:=Ha (on:=false) h.q u h.m h.t h.w;have B:af.k QL x.s.2.2.2.2.2.2.1=true:=bX (by have:=h.o;omega);have A:i<(yw x i).n.length:=by show i<(bw _ _ _).length;rw[bO];exact u
  have b:(aD x i).1=((yw x i).n.getD i dS).1:=by
   show _=((bw x.n i Pp).getD i dS).1;rw[uD u];rfl
  have E:yw x i=cJ (yw x i) (bw (yw x i).n i<|gG (aD x i).1):=by
   rw[b];exact congrArg (cJ<|yw x i) (U0 A).symm
  have L:∀(s:gK) (c d:Int),Go (BU af) (BU af<|.c1 ⟨x.s.2.2.2.2.2.2.1,(x.s.2.2.2.2.2.2.1.length:Int),(i:Int),s,c,d⟩ ((0:Nat):Int)<|yw x i) λr=>∃n,Up x.m (aD x i).1 n/\Bg2 (On x i n) i r.1:=λs c d=>by
   have q:=XH (x:=yw x i) (l:=x.s.2.2.2.2.2.2.1) (p:=⟨x.s.2.2.2.2.2.2.1,(x.s.2.2.2.2.2.2.1.length:Int),(i:Int),s,c,d⟩) A rfl rfl rfl h.o h.b _ 0 _ (ah _) .rfl;rw[<-E] at q;exact q
  have f:kT (aD x i).1=true->Go (BU af) (.ao (af.k j_ (vw x,1,(i:Int),(aD x i).1.2.2.1))<|.br (af.k gM (vw x,1,(i:Int),(aD x i).1.2.2.1)).2 (.ao (af.k u5 (x,(i:Int),false))<|.ao (af.cm (af.l x.n) 0)<|.ret ((af.k xM (x,(i:Int),false)).1,()))<|.ak<|.c0 ⟨(i:Int),yw x i⟩) (λr=>Bgn x i r.1):=λg=>aj G<|dO (λ_=>aj p1<|aj (mg u)<|ay<|.inr ⟨g,.inr<|.inl p2⟩) λ_=>aP<|aj B<|aP<|(L _ _ _).mono λr ⟨n,a,b⟩=>.inr ⟨g,.inr<|.inr ⟨n,a,b⟩⟩;rw[show sC x (md af bo x.n i λ(y:cB)=>Py y<|af.bG y.1.2.1 4)=yw x i from congrArg (cJ x) jk];exact aj (cr (l:=x.n)<|by omega)<|dG (λg=>ay<|.inl ⟨g,rfl⟩) λg=>dJ (λ_=>dJ (λ_=>ay<|.inr ⟨g,.inl<|congrArg (cJ x) jk⟩) λ_=>f g) λ_=>f g
 .rcases H with ⟨_,e⟩|⟨_,e|p|⟨n,_,p⟩⟩
  .rw[e]
  .rw[e];exact bO
  .rcases p with ⟨_,e⟩|⟨_,⟨_,e⟩|⟨k,_⟩⟩
   .rw[e]
   .rw[e];exact bO
   .cases k
  .rw[p.len];show(bw (bw _ _ _) _ _).length=_;rw[bO,bO]
def IA(n:Node)(y:cB):cB:=(n,y.2.1,IntKind.i64.wrap<|y.2.2.1+1,y.2.2.2)
def ze(n:Node)(c:rh)(y:cB):cB:=(n,c,IntKind.i64.wrap<|y.2.2.1+1,y.2.2.2.1,y.2.2.2.2.1+1,true,false,y.2.2.2.2.2.2.2)
def Tck(x:Net)(i:Nat)(f:Net):Prop:=
 let o:=iL x.m (aD x i).1
 (o.2.2.2≠0/\f=x)\/(o.2.2.2=0/\(o.2.2.1=false/\(∃d,(-x.m.2.2.2.2.1<=d/\d<=x.m.2.2.2.2.1)/\qK (cJ x<|bw x.n i<|IA o.1) (qH x<|x.q.2.2+(x.m.2.1+d),2,(i:Int),(aD x i).2.2.2.2.1) f)\/
   o.2.2.1=true/\∃y,rv (cJ x<|bw x.n i<|ze o.1 (x.q.2.2,(i:Int),[])) y 1 1 2/\qK y (qH y<|ovT x.m<|x.q.2.2,1,(i:Int),(aD x i).2.2.2.2.1+1) f))
structure Tki(x:Net)(i K:Nat):Prop where
 s:xt x i K
 k:K+2<=800010
 m:df x.m=true
 w:0<=x.q.2.2/\x.q.2.2<=1000000000000
 t:0<=(aD x i).2.2.2.2.1/\(aD x i).2.2.2.2.1<=900000000000
 d:∀v∈x.s.2.2.2.2.2.1, -x.m.2.2.2.2.1<=v/\v<=x.m.2.2.2.2.1
 l:x.s.2.2.2.2.2.1.length<=1000000
def agL(h:Tki x i K):QT (x,(i:Int))=true/\Tck x i (SQ (x,(i:Int))).1:=by
 have u:=h.s.i;have hm:=uB h.m;have hs:=h.s.mod (j:=i) (f:=ze (iL x.m (aD x i).1).1 (x.q.2.2,(i:Int),[]));have ht:=h.s.mod (j:=i) (f:=IA (iL x.m (aD x i).1).1);refine jA (s:=Empty.elim) (t:=ach af x i) (P:=λr=>Tck x i r.1) ?_ λr hr=>?_
 .have⟨w1,w2⟩:=CO h.s.q.made;have I:af.k gF (x.q,())=(x.q,x.q.2.2):=w2;have S:af.k Gc (x.m,(af.n bo x.n (i:Int):cB).1)=iL x.m (aD x i).1:=by rw[iV];rfl
  have f0:Di af x (i:Int)=bw x.n i (gG (iL x.m (aD x i).1).1):=by
   unfold Di;rw[S,iV];exact uI
  have en:(af.n bo (Di af x i) (i:Int):cB).2.2.1=(aD x i).2.2.1:=by rw[f0,BH u];rfl
  have V:IN af x (i:Int)=bw x.n i (IA (iL x.m (aD x i).1).1):=by
   unfold IN;rw[f0];exact jk.trans<|mod_mod u
  have f3:md af bo (md af bo (M_ af x i) (i:Int) λ(J:cB)=>Fo J true) (i:Int) (λ(O:cB)=>Py O false)=bw x.n i (ze (iL x.m (aD x i).1).1 (x.q.2.2,(i:Int),[])):=by
   unfold M_;rw[V,I];refine(congrArg (λl=>md af bo l i λ(O:cB)=>Py O false)<|(congrArg (λl=>md af bo l i λ(J:cB)=>Fo J true)<|(congrArg (λl=>md af bo l i λ(e3:cB)=>Dq e3 (x.q.2.2,(i:Int),([]:List Int)))<|jk.trans<|mod_mod (g:=λZ:cB=>NC Z<|af.bT Z.2.2.2.2.1 1) u).trans<|jk.trans<|mod_mod u).trans<|jk.trans<|mod_mod u).trans (jk.trans<|(mod_mod u).trans ?_);unfold bw;congr 1;show Py (Fo (Dq (NC (IA (iL x.m (aD x i).1).1<|aD x i)<|af.bT (aD x i).2.2.2.2.1 1) (x.q.2.2,(i:Int),([]:List Int))) true) false=ze _ _ (aD x i);rw[dw (by have:=h.t;omega)];rfl
  have⟨d1,G,H⟩:=X9 (s:=x.s) (n:=x.m.1) (k:=(aD x i).2.2.1) (i:=(i:Int)) (d:=x.m.2.2.2.2.1) (by omega) h.d h.l;have hw:=h.w;obtain⟨d,Q⟩:∃d,af.k zC (x.s,x.m.1,(aD x i).2.2.1,(i:Int))=d:=⟨_,rfl⟩;have G:-x.m.2.2.2.2.1<=d:=by rw[<-Q];exact G
  have H:d<=x.m.2.2.2.2.1:=by rw[<-Q];exact H
  have f4:Na af x (i:Int)=(cJ x<|bw x.n i<|IA (iL x.m (aD x i).1).1,x.q.2.2+(x.m.2.1+d),2,(i:Int)):=by
   unfold Na;rw[V,I,en,Q,dw (x:=x.m.2.1)<|by omega,dw<|by omega];rfl
  have⟨p1,p2⟩:=CY (x:=cJ x<|bw x.n i<|IA (iL x.m (aD x i).1).1) (t:=x.q.2.2+(x.m.2.1+d)) (k:=2) ht.q ht.i (by decide);rw[fP u] at p2;have⟨s1,v⟩:=MM (f:=(iL x.m (aD x i).1).2.1) (c:=(iL x.m (aD x i).1).1.2.2.1) hs h.k;have f5:Dj af x (i:Int)=(cJ x<|bw x.n i<|ze (iL x.m (aD x i).1).1 (x.q.2.2,(i:Int),[]),(i:Int),(iL x.m (aD x i).1).2.1,(iL x.m (aD x i).1).1.2.2.1):=by
   unfold Dj;rw[f3,I,S];rfl
  have X:=v.ok hs.q.made;have hl:(zD (cJ x<|bw x.n i<|ze (iL x.m (aD x i).1).1 (x.q.2.2,(i:Int),[]),(i:Int),(iL x.m (aD x i).1).2.1,(iL x.m (aD x i).1).1.2.2.1)).1.n.length=(bw x.n i<|ze (iL x.m (aD x i).1).1 (x.q.2.2,(i:Int),[])).length:=v.len;have B:=hl.trans bO;have A:=v.aD i;have E:=v.same;rw[fP u] at A;unfold ach;rw[S,en,f4,V,f3,f5];generalize D:(af.k zD (cJ x<|bw x.n i<|ze (iL x.m (aD x i).1).1 (x.q.2.2,(i:Int),[]),(i:Int),(iL x.m (aD x i).1).2.1,(iL x.m (aD x i).1).1.2.2.1)).1=z at *;have v:rv (cJ x<|bw x.n i<|ze (iL x.m (aD x i).1).1 (x.q.2.2,(i:Int),[])) z 1 1 2:=by rw[<-D];exact v
  have X:wU z:=by rw[<-D];exact X
  have B:z.n.length=x.n.length:=by rw[<-D];exact B
  have A:aD z i=ze (iL x.m (aD x i).1).1 (x.q.2.2,(i:Int),[]) (aD x i):=by rw[<-D];exact A
  have E:z.m=x.m:=by rw[<-D];exact E.1
  have⟨o1,o2⟩:=E_ (x:=z) (i:=i) X (by omega) (by rw[E];exact h.m) (by rw[A];show 0<=x.q.2.2/\x.q.2.2<=_;omega);rw[A,E] at o2;exact aj (cr (l:=x.n)<|by omega)<|dD (λg=>ay<|.inl ⟨g,rfl⟩) λg=>aj d1<|dG (λW=>aj w1<|aj p1<|aj (qg u)<|ay<|.inr ⟨g,.inl ⟨W,d,⟨G,H⟩,p2⟩⟩) λW=>aj w1<|aj s1<|aj (qg u)<|aj o1<|aj (mg (i:=i)<|by omega)<|ay<|.inr ⟨g,.inr ⟨W,z,v,o2⟩⟩
 .rcases hr with ⟨_,e⟩|⟨_,⟨_,_,_,p⟩|⟨_,y,e,p⟩⟩
  .rw[e]
  .rw[(qK.same p).1];exact bO
  .rw[(qK.same p).1,e.len];exact bO
def Sn1(s:A7)(k:Nat)(x y:Net):Prop:=y=x\/((aD x k).1.2.1=1/\(aD x k).2.2.2.1<=s.1.1/\∃l:List Seen,(∀v∈l,v.1=2->s.1.1<=v.2.1/\v.2.1<af.bT s.1.1 1)/\(lb x.m (aD x k).1 l false).2.2.2=0/\
 ((lb x.m (aD x k).1 l false).2.2.1=false/\y=cJ x (bw x.n k<|gG (lb x.m (aD x k).1 l false).1)\/(lb x.m (aD x k).1 l false).2.2.1=true/\Jns x k (lb x.m (aD x k).1 l false).1 (lb x.m (aD x k).1 l false).2.1 y))
def Xo(s:A7):Nat->Nat->Net->Net->Prop
 | 0,_,x,x'=>x'=x
 | f+1,k,x,x'=>∃y,Sn1 s k x y/\Xo s f (k+1) y x'
structure Sno(x:Net)(k K:Nat):Prop where
 q:wU x
 g:x.n.length<=x.s.2.2.2.1.length
 c:x.a.length<=900000/\x.b.length<=900000
 t:∀j,k<=j->j<x.n.length->0<=(aD x j).2.2.2.2.1/\(aD x j).2.2.2.2.1<=900000000000
def Jns.len{n:Node}(h:Jns x i n t y):y.n.length=x.n.length:=by
 rcases h with rfl|⟨_,p⟩
 .rfl
 .rw[(qK.same p).1];exact bO
def Sno.sn1{s:A7}{k:Nat}(h:Sno x k K)(I:k<x.n.length)(p:Sn1 s k x y):Sno y (k+1) K/\y.n.length=x.n.length:=by
 have up:Sno x (k+1) K:=⟨h.q,h.g,h.c,λj u g=>h.t j (by omega) g⟩;have v:∀f j,k+1<=j->j<x.n.length->0<=(aD (cJ x<|bw x.n k f) j).2.2.2.2.1/\(aD (cJ x<|bw x.n k f) j).2.2.2.2.1<=900000000000:=λf j u g=>by
  rw[iv<|by omega];exact h.t j (by omega) g
 rcases p with rfl|⟨_,_,l,_,_,⟨_,rfl⟩|⟨_,rfl|⟨_,p⟩⟩⟩
 .exact⟨up,rfl⟩
 .refine⟨⟨⟨h.q.made,h.q.len,h.q.heap⟩,by show(bw _ _ _).length<=_;rw[bO];exact h.g,h.c,λj u g=>v _ j u (by have g:j<(bw _ _ _).length:=g;rwa [bO] at g)⟩,bO⟩
 .exact⟨up,rfl⟩
 .have⟨B,J,D,O,E,_,A,G,H⟩:=qK.same p;have e:y.n.length=x.n.length:=by rw[B];exact bO
  refine⟨⟨⟨E.trans h.q.made,G,H⟩,by rw[e,D];exact h.g,by rw[show y.a=x.a from congrArg Prod.fst A,show y.b=x.b from congrArg (λz=>z.2.1) A];exact h.c,λj u g=>?_⟩,e⟩;rw[qK.aD p];exact v _ j u (by omega)
def amq{s:A7}{n:Nat}:∀(f k:Nat) (x:Net),n-k<=f->k<=n->x.n.length=n->n<=1000->Sno x k K->Go (MH af) (MH af<|.c0 ⟨(n:Int),x,s.1.1,s.1.2,s.2⟩ k) λr=>Xo s (n-k) k x r.1:=by
 have B:∀(k:Nat) (x:Net),¬k<n->k<=n->Go (MH af) (MH af<|.c0 ⟨(n:Int),x,s.1.1,s.1.2,s.2⟩ k) λr=>Xo s (n-k) k x r.1:=λk x D hn=>by
  refine bH (λg=>absurd g (by show ¬(k:Int)<(n:Int);omega)) λ_=>ay ?_;rw[show n-k=0 from by omega];rfl
 intro f
 induction f with
 | zero=>intro k x V D _ _ _;exact B k x (by omega) D
 | succ f ih=>
   intro k x V D hl S h;by_cases g:k<n
   .have u:k<x.n.length:=by omega
    have hc:=h.c;have G:∀y,Sn1 s k x y->Go (MH af) (.ak<|.c0 ⟨(n:Int),y,s.1.1,s.1.2,s.2⟩<|af.bT k 1) λr=>Xo s (n-k) k x r.1:=λy q=>by
     have⟨s1,s2⟩:=h.sn1 u q;rw[dw<|by omega,show(k:Int)+1=((k+1:Nat):Int) from by omega,show n-k=(n-(k+1))+1 from by omega];exact aP<|(ih (k+1) y (by omega) (by omega) (by omega) S s1).mono λr W=>⟨y,q,W⟩
    have⟨X,Z,j3⟩:=Bw (l:=x.a) (a:=(s.1.1,s.1.2)) (w:=(s.1.1,af.bT s.1.1 1)) (th:=(af.n yI x.s.2.2.2.1 (k:Int):Int)) (by omega);have⟨k1,k2,k3⟩:=Bw (l:=x.b) (a:=(s.1.1,s.1.2)) (w:=(s.1.1,af.bT s.1.1 1)) (th:=(af.n yI x.s.2.2.2.1 (k:Int):Int)) (by omega);have H:(af.n bo x.n (k:Int):cB)=aD x k:=iV;have O:yv x x.a x.b=x:=rfl;have hs:∀v∈IJ af ⟨(n:Int),x,s.1.1,s.1.2,s.2⟩ k,v.1=2->s.1.1<=v.2.1/\v.2.1<af.bT s.1.1 1:=λv A=>by
     rcases oJ.1 (show v∈ [(rW _).2] ++ [(rW _).2] from A) with A|A
     .rw[aG.1 A];exact j3
     .rw[aG.1 A];exact k3
    have J:af.bQ (af.l<|IJ af ⟨(n:Int),x,s.1.1,s.1.2,s.2⟩ k) 2932031007402=true:=tu (by show(2:Int)<=_;omega);generalize I:IJ af ⟨(n:Int),x,s.1.1,s.1.2,s.2⟩ (k:Int)=L at hs J;have E:Df af ⟨(n:Int),x,s.1.1,s.1.2,s.2⟩ (k:Int)=lb x.m (aD x k).1 L false:=by
     unfold Df;rw[I,H];rfl
    have⟨q1,q2⟩:=Zx (n:=(lb x.m (aD x k).1 L false).1) (t:=(lb x.m (aD x k).1 L false).2.1) h.q u<|h.t k (ah _) u;have p:=G x<|.inl rfl;refine bH (λ_=>aj (cr (l:=x.n)<|by omega) ?_) λQ=>absurd Q (by show ¬(n:Int)<=(k:Int);omega);have w0:yv x (af.k rW<|IK af ⟨(n:Int),x,s.1.1,s.1.2,s.2⟩ k).1 (af.k rW (x.b,(s.1.1,s.1.2),(s.1.1,af.bT s.1.1 1),(af.n yI x.s.2.2.2.1 (k:Int):Int))).1=x:=(congrArg (λz=>yv x z _) Z).trans<|(congrArg (λz=>yv x x.a z) k2).trans O;dsimp only;rw[w0,E,H,I];refine dD (λ_=>p) λa=>lM (λ_=>p) λb=>dJ (λ_=>p) λ_=>aj (cr (l:=x.s.2.2.2.1) (by have:=h.g;omega))<|aj X<|aj (tu (by show(1:Int)<=_;omega))<|aj k1<|aj J<|aP ?_;refine dD (λ_=>p) λc=>dG (λd=>?_) λd=>aj q1<|aj (mg u)<|G _<|.inr ⟨a,b,L,hs,c,.inr ⟨d,q2⟩⟩;dsimp only;rw[show sC x (md af bo x.n k λE=>VU E (lb x.m (aD x k).1 L false).1)=cJ x (bw x.n k<|gG (lb x.m (aD x k).1 L false).1) from congrArg (sC x)<|jk (f:=gG (lb x.m (aD x k).1 L false).1)];exact G (cJ x<|bw x.n k<|gG (lb x.m (aD x k).1 L false).1)<|.inr ⟨a,b,L,hs,c,.inl ⟨d,rfl⟩⟩
   .exact B k x g D
theorem Xo.len{s:A7}{K:Nat}:∀{f k:Nat} {x y:Net},Xo s f k x y->Sno x k K->k+f<=x.n.length->y.n.length=x.n.length
 | 0,_,_,_,h,_,_=>by rw[h]
 | f+1,k,x,_,h,hs,hk=>by
   have⟨z,g,p⟩:=h;have⟨u,v⟩:=hs.sn1 (by omega) g;rw[Xo.len p u<|by omega];exact v
def aba{s:A7}(hs:(af.n jJ x.o (j:Int):A7)=s)(h:Sno x 0 K)(p:j<x.o.length)(f:x.n.length<=1000):QR (x,(j:Int))=true/\Xo s x.n.length 0 x (SO (x,(j:Int))).1:=by
 refine jA (s:=MH af) (t:=acd af x j) (P:=λr=>Xo s x.n.length 0 x r.1) ?_ λr g=>g.len h (by omega);unfold acd;rw[hs];exact aj (cr (l:=x.o)<|by omega)<|aP<|amq (s:=s) (n:=x.n.length) _ 0 x (ah _) (aQ _) rfl f h
end
end Go.Ev.M
