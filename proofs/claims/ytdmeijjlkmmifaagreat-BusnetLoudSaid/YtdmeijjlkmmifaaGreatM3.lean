/- PROVED: what functions compute, 3. Conditions: none. -/
import Derived.Test.YtdmeijjlkmmifaaGreatM2
set_option linter.unusedVariables false
set_option linter.defProp false
set_option linter.unusedSimpArgs false
namespace Go.Ev.M
open Go.Proofs Go.Proofs.Tryz
set_option maxRecDepth 100000
open Go.Ev.Pl
noncomputable section
def axn(A:aS)(a:Span)(b:Span):LT Bool Empty:=.br (A.bq (A.k GI a) 0) (.ret<|A.bq (A.k GI b) 0)<|.ret false
def Z7:(Span×Span)->Bool:=λ(a,b)=>(axn af a b).val<|Ty.aR [.bool]
def awv:aK:=.all [kv,kv] [.bool] Z7
def ai0:Sd 295 awv:=fa<|aQ ax dJ sl 24 [] (λA (a,b)=>axn A a b)<|kz (fc func295 fz)<|sc P_ sz
def ao7(A:aS)(a:Span)(b:Span):LT Bool Empty:=.br (A.k Z7 (a,b)) (.br (A.bo a.1 b.2) (.br (A.bo b.1 a.2) (.br (A.bo a.1 a.2) (.ret<|A.bo b.1 b.2)<|.ret false)<|.ret false)<|.ret false)<|.ret false
def Uf:(Span×Span)->Bool:=λ(a,b)=>(ao7 af a b).val<|Ty.aR [.bool]
def awp:aK:=.all [kv,kv] [.bool] Uf
def aiX:Sd 245 awp:=fa<|aQ ax dJ sl 47 [] (λA (a,b)=>ao7 A a b)<|kz (fc func245 fz)<|sc ai0 sz
abbrev ai6(A:aS)(a:Span)(b:Span):LT Bool Empty:=(.br (A.k Z7 (a,b)) (.br (A.ov a.1 b.1) (.ret<|A.bE a.2 b.2)<|.ret false)<|.ret false)
def axl(A:aS)(a:Span)(b:Span):LT Bool Empty:=.br (A.and (A.bq a.1 b.1)<|A.and (A.bq a.2 b.2) true) (.br (A.bq (A.k GI a) 0) (.ret true)<|ai6 A a b)<|ai6 A a b
def Z6:(Span×Span)->Bool:=λ(a,b)=>(axl af a b).val<|Ty.aR [.bool]
def awq:aK:=.all [kv,kv] [.bool] Z6
def aiY:Sd 247 awq:=fa<|aQ ax dJ sl 43 [] (λA (a,b)=>axl A a b)<|kz (fc func247 fz)<|sc P_<|sc ai0 sz
def axk(A:aS)(s:fC)(c:Int):LT Bool Empty:=.br (A.ov s.2.2.1<|A.mx c 1) (.ret<|A.bq (A.k TM s) 0)<|.ret false
def ah5:(fC×Int)->Bool:=λ(s,c)=>(axk af s c).val<|Ty.aR [.bool]
def awo:aK:=.all [iC,yI] [.bool] ah5
def atQ:Sd 244 awo:=fa<|aQ ax dJ sl 25 [] (λA (s,c)=>axk A s c)<|kz (fc func244 fz)<|sc acF sz
def ao5(A:aS)(s:fC)(f:Span)(c:Span):LT Bool Empty:=.br (A.k ahR s) (.br (A.k Z6 (s.2.1,f)) (.br (A.bq (A.k GI c) 0) (.br (A.ov s.2.1.1 c.1) (.ret<|A.bo s.2.1.1 c.2)<|.ret false)<|.ret false)<|.ret false)<|.ret false
def Z5:(fC×Span×Span)->Bool:=λ(s,f,c)=>(ao5 af s f c).val<|Ty.aR [.bool]
def awl:aK:=.all [iC,kv,kv] [.bool] Z5
def atM:Sd 196 awl:=fa<|aQ ax dJ sl 46 [] (λA (s,f,c)=>ao5 A s f c)<|kz (fc func196 fz)<|sc asw<|sc P_<|sc aiY sz
structure Yi where(a0:Int)(a2:List fC)(a3 a4 a5 a6 a7 a8 a9 jd lq a12 E5 N8 N9 a16 a17:Int)
inductive aeW where|c0(p:Yi)(a1 a21 a22:Int)
noncomputable def alo:aeW->gY
 | .c0 p a1 a21 a22=>⟨[gW 243 30 [(0,.yield 1),(2,pZ 2),(3,pZ 3),(7,.own 0),(8,vi p.a0),(9,vi a1)] f243 12,⟨143,56,en [(0,.own 0),(5,pZ 4),(6,pZ 5),(8,pZ 6),(9,pZ 7),(10,pZ 8)],[.oY 1,.inBlock 0,.code<|cw f143 15],[9],none⟩],[aZ iC p.a2,.loop ⟨143,56,en [(0,.own 0),(1,.agg [vi p.a3,vi p.a4]),(2,.agg [vi p.a5,vi p.a6]),(3,vi p.a7),(5,pZ 4),(6,pZ 5),(8,pZ 6),(9,pZ 7),(10,pZ 8),(13,.own 0),(14,.agg [vi p.a8,vi p.a9]),(15,vi p.jd),(16,.fn 243 [] [pZ 10,pZ 2,pZ 3])],[17],cw f143 116,cw f143 117,0,none⟩,vZ p.lq,gZ [vi p.a12,vi p.E5],gZ [vi p.N8,vi p.N9],gZ [vi p.a16,vi p.a17],gZ [vi 0,vi 0,vi 0,.fG true],vZ a21,vZ a22,.Jq,gZ [.own 0],.a_]⟩
def adp(A:aS)(l:List fC)(f:Span)(g:Span)(c:Int):LT (List fC×Seen) aeW:=.ak<|.c0 ⟨A.l l,l,f.1,f.2,g.1,g.2,c,f.1,f.2,c,c,f.1,f.2,f.1,f.2,g.1,g.2⟩ 0 0 0
def J9(A:aS):aeW->LT (List fC×Seen) aeW
 | .c0 p a1 a21 a22=>.br (A.bo a1 p.a0) (.fP A a1 p.a2<|.br (A.k ah5 ((A.n iC p.a2 a1:fC),p.lq)) (.br (A.k Uf ((A.n iC p.a2 a1:fC).2.1,p.a12,p.E5)) (.br (A.bq (A.bJ a21 1) 1) (.ak<|.c0 p (A.bJ a1 1) (A.bJ a21 1) a1)<|.ak<|.c0 p (A.bJ a1 1) (A.bJ a21 1) a22)<|.ak<|.c0 p (A.bJ a1 1) a21 a22)<|.ak<|.c0 p (A.bJ a1 1) a21 a22)<|.br (A.bq a21 0) (.ret (p.a2,0,0,0,([]:List Int)))<|.br (A.bq a21 1) (.fP A a22 p.a2<|.br (A.k Z5 ((A.n iC p.a2 a22:fC),(p.N8,p.N9),p.a16,p.a17)) (.ret (p.a2,2,(A.n iC p.a2 a22:fC).2.1.1,(A.n iC p.a2 a22:fC).2.2.2.1,A.k nY (A.n iC p.a2 a22:fC).2.2.2.2))<|.ret (p.a2,1,0,0,([]:List Int)))<|.ret (p.a2,1,0,0,([]:List Int))
def n_:List fC×(Span×Span×Int)->List fC×Seen:=λ(l,(g,f,c))=>fA (J9 af) (adp af l g f c) ([],Ty.aR [qA])
def Dn:List fC×(Span×Span×Int)->Bool:=λ(l,(g,f,c))=>fO (J9 af) (adp af l g f c)&&decide ((n_ (l,(g,f,c))).1.length=l.length)
def aqp:gg:=⟨iC,[kv,kv,yI],[],[qA],Dn,n_,false⟩
def aia:gg.bI prog 143 aqp:=gv ax dJ sl 50 [⟨243,1,[[0,2,3,7,8,9],[0,5,6,8,9,10]]⟩] [] (λA (l,(g,f,c))=>adp A l g f c) J9 alo (kz (fc func143 (fc func195 (fc func243 fz))) (sc EC (sc atM (sc atQ (sc aiX sz))))) (λA y=>match y with |.c0 p a1 j m=>⟨72,.jf [0,0,0,0,0,0,0,0,0,2],by kernel_rfl⟩) λ((l,(g,f,c)):List fC×(Span×Span×Int)) i n h=>⟨of_decide_eq_true ((fZ _ _).mp i).2,JW i⟩
def ahu(A:aS)(l:List Int)(ak:Int):LT (List Int) Empty:=.ao (A.and (A.bq (A.l l)<|A.bJ (A.l l) ak)<|A.and (A.bE 0<|A.l l)<|A.bE (A.l l) 17592186044416)<|.ret<|A.spl (A.r (A.l l) (0:Int)) 0<|A.s l 0<|A.mn (A.l l)<|A.l<|A.r (A.l l) (0:Int)
def Z4:(List Int×Int)->(List Int):=λ(l,ak)=>fA Empty.elim (ahu af l ak)<|Ty.aR [Cr]
def abI:(List Int×Int)->Bool:=λ(l,ak)=>fO Empty.elim<|ahu af l ak
def awi:aK:=⟨[Cr,yI],[Cr],abI,Z4,false⟩
def atK:Sd 153 awi:=bX ax dJ sl 32 [] (λA (l,ak)=>ahu A l ak) (kz (fc func153 fz) sz) λ((l,ak):List Int×Int) c h=>dN c
def ao4(A:aS)(m:aA)(c:qB):LT (Int×Int) Empty:=.br (A.cm (A.k uw (m,c)) 0) (.ret (0,A.k uw (m,c)))<|.ret (A.bJ c.1 m.2.2.1,0)
def vA:(aA×qB)->(Int×Int):=λ(m,c)=>(ao4 af m c).val<|Ty.aR [yI,yI]
def awj:aK:=.all [bD,xg] [yI,yI] vA
def aiW:Sd 156 awj:=fa<|aQ ax dJ sl 38 [] (λA (m,c)=>ao4 A m c)<|kz (fc func156 fz)<|sc P8 sz
def axi(A:aS)(m:aA)(c:qB):LT (Span×Int) Empty:=.br (A.cm (A.k uw (m,c)) 0) (.ret ((0,0),A.k uw (m,c)))<|.ret ((c.1,A.bJ c.1 m.2.1),0)
def KI:(aA×qB)->(Span×Int):=λ(m,c)=>(axi af m c).val<|Ty.aR [kv,yI]
def awf:aK:=.all [bD,xg] [kv,yI] KI
def atH:Sd 146 awf:=fa<|aQ ax dJ sl 41 [] (λA (m,c)=>axi A m c)<|kz (fc func146 fz)<|sc P8 sz
def NZ(A:aS)(m:aA)(c:qB)(f:Int):List Int:=(A.p (A.spl (A.r (A.l c.2.2) (0:Int)) 0<|A.s c.2.2 0<|A.mn (A.l c.2.2)<|A.l<|A.r (A.l c.2.2) (0:Int)) [(A.fD f<|A.k OA (m,c))])
def adr(A:aS)(m:aA)(c:qB)(f:Int):LT (qB×Int) Empty:=.br (A.cm (A.k zB (m,c)).2 0) (.ret ((0,0,([]:List Int)),(A.k zB (m,c)).2))<|.br (A.bq (A.l c.2.2) 8) (.ret ((0,0,([]:List Int)),2))<|.br (A.bo f (A.k zB (m,c)).1.1) (.ret ((0,0,([]:List Int)),2))<|.br (A.ov f (A.k zB (m,c)).1.2) (.ret ((0,0,([]:List Int)),2))<|.ao (A.and (A.bE (A.l c.2.2)<|A.bJ (A.l c.2.2) 1)<|A.and (A.bE 0<|A.l c.2.2)<|A.bE (A.bJ (A.l c.2.2) 1) 17592186044416)<|.ao (A.bE (A.l<|NZ A m c f) 17592186044416)<|.ret (lp2 c<|NZ A m c f,0)
def wY:(aA×qB×Int)->(qB×Int):=λ(m,c,f)=>fA Empty.elim (adr af m c f)<|Ty.aR [xg,yI]
def Im:(aA×qB×Int)->Bool:=λ(m,c,f)=>fO Empty.elim<|adr af m c f
def awg:aK:=⟨[bD,xg,yI],[xg,yI],Im,wY,false⟩
def atI:Sd 149 awg:=aX ax dJ sl 105 [⟨153,2000000,[]⟩] [] (λA (m,c,f)=>adr A m c f) (λ_=>Empty.elim) Empty.elim (kz (fc func149 (fc func153 fz)) (sc aiu (sc aiw sz))) (λ_ y=>y.elim) λ((m,c,f):aA×qB×Int) g h=>dN g
structure aj6 where(a0:List Int)(a1 a3:Int)
inductive ae1 where|c0(p:aj6)(a2:Int)
noncomputable def alu:ae1->gY
 | .c0 p a2=>⟨[gW 257 19 [(0,.sl yI p.a0),(1,.fn 325 [] [pZ 0]),(7,vi p.a1),(8,vi a2)] f257 52,⟨204,9,.leaf,[.ops (ow f204 6)<|(ow f204 6).toList.drop 2,.code .ret],[],none⟩,⟨302,8,.leaf,[.ops (ow f302 6)<|(ow f302 6).toList.drop 2,.code .ret],[],none⟩],[vZ p.a3,.a_]⟩
def ahz(A:aS)(l:List Int)(bound:Int):LT Bool ae1:=.ak<|.c0 ⟨l,A.l l,bound⟩ 0
def WH(A:aS):ae1->LT Bool ae1
 | .c0 p a2=>.br (A.bo a2 p.a1) (.fP A a2 p.a0<|.br (A.bo (A.n yI p.a0 a2:Int)<|A.u .neg .i64 p.a3) (.ret<|A.ov a2 0)<|.br (A.jD (A.n yI p.a0 a2:Int) p.a3) (.ret<|A.ov a2 0)<|.ak<|.c0 p<|A.bJ a2 1)<|.ret false
def Z8:(List Int×Int)->Bool:=λ(l,bound)=>fA (WH af) (ahz af l bound)<|Ty.aR [.bool]
def R7:(List Int×Int)->Bool:=λ(l,bound)=>fO (WH af)<|ahz af l bound
def aww:aK:=⟨[Cr,yI],[.bool],R7,Z8,false⟩
def atV:Sd 302 aww:=aX ax dJ sl 38 [⟨257,2,[[0,1,7,8],[],[]]⟩] [] (λA (l,bound)=>ahz A l bound) WH alu (kz (fc func302 (fc func204 (fc func257 (fc func325 (fc func326 fz))))) sz) (λA y=>match y with |.c0 p a2=>⟨72,sl,by kernel_rfl⟩) λ((l,bound):List Int×Int) c h=>dN c
structure ajL where(a0 a1:Int)
inductive aeC where|c0(p:ajL)
noncomputable def ak0:aeC->gY
 | .c0 p=>⟨[Zr 281 25 [(0,.int .u64 false p.a0),(2,vi p.a1)] [.code<|cw f281 62,.code .ret],⟨229,8,.leaf,[.ops (ow f229 14)<|(ow f229 14).toList.drop 1,.code .ret],[],none⟩],[.a_]⟩
def aoX(A:aS)(c:Int):LT Int aeC:=.br (A.ov c 4294967296) (.br (A.ov (A.b .shr .u64 c 32) 65536) (.br (A.ov (A.b .shr .u64 (A.b .shr .u64 c 32) 16) 256) (.ak<|.c0 ⟨A.b .shr .u64 (A.b .shr .u64 (A.b .shr .u64 c 32) 16) 8,56⟩)<|.ak<|.c0 ⟨A.b .shr .u64 (A.b .shr .u64 c 32) 16,48⟩)<|.br (A.ov (A.b .shr .u64 c 32) 256) (.ak<|.c0 ⟨A.b .shr .u64 (A.b .shr .u64 c 32) 8,40⟩)<|.ak<|.c0 ⟨A.b .shr .u64 c 32,32⟩)<|.br (A.ov c 65536) (.br (A.ov (A.b .shr .u64 c 16) 256) (.ak<|.c0 ⟨A.b .shr .u64 (A.b .shr .u64 c 16) 8,24⟩)<|.ak<|.c0 ⟨A.b .shr .u64 c 16,16⟩)<|.br (A.ov c 256) (.ak<|.c0 ⟨A.b .shr .u64 c 8,8⟩)<|.ak<|.c0 ⟨c,0⟩
abbrev t8L:List UInt8:=[0,1,2,2,3,3,3,3]++.replicate 8 4++.replicate 16 5++.replicate 32 6++.replicate 64 7++.replicate 128 8
def anI(A:aS):aeC->LT Int aeC
 | .c0 p=>.fP A (A.v .u8 p.a0) t8L<|.ret<|A.bJ p.a1<|A.v .i64<|A.byte t8L<|A.v .u8 p.a0
def ah3:Int->Int:=λc=>fA (anI af) (aoX af c)<|Ty.aR [yI]
def MH:Int->Bool:=λc=>fO (anI af)<|aoX af c
def avZ:aK:=⟨[(.int .u64)],[yI],MH,ah3,false⟩
def atx:Sd 229 avZ:=aX ax dJ sl 74 [] [⟨281,10,[[0,2],[]]⟩] (λA c=>aoX A c) anI ak0 (kz (fc func229 (fc func281 fz)) sz) (λA y=>match y with |.c0 p=>⟨17,sl,by kernel_rfl⟩) λ(c:Int) f h=>dN f
structure aj4 where(a1 a2:Int)(a5:List Int)
structure QG where(b1 b2:Int)(b3:List Int)
structure aj5 where(c1 c2:Int)
inductive ae0 where|c0(p:aj4)|c1(p:QG)|c2(p:aj5)(c3:Int)(c4:List Int)
noncomputable def alt:ae0->gY
 | .c0 p=>⟨[gW 327 134 [(0,.own 0),(1,vi 0),(2,vi p.a1),(3,vi p.a2),(8,vb true),(9,vb true)] f327 28,⟨303,11,.leaf,[.ops (ow f303 3)<|(ow f303 3).toList.drop 5],[],none⟩,E8 256 38 [(5,.own 0)] f256 62 1],[aZ yI p.a5,.a_]⟩
 | .c1 p=>⟨[gW 336 49 [(0,.own 0),(1,vi 0),(2,vi p.b1),(6,vi p.b2)] f336 12,⟨327,134,.leaf,(.ops (ow f327 1812) ((ow f327 1812).toList.drop 3)::sk f327 1812),[],none⟩,⟨303,11,.leaf,[.ops (ow f303 3)<|(ow f303 3).toList.drop 5],[],none⟩,E8 256 38 [(5,.own 0)] f256 62 1],[aZ yI p.b3,.a_]⟩
 | .c2 p c3 c4=>⟨[gW 336 49 [(0,.own 0),(1,vi 0),(2,vi p.c1),(6,vi p.c2),(7,vi c3)] f336 804,⟨327,134,.leaf,(.ops (ow f327 1812) ((ow f327 1812).toList.drop 3)::sk f327 1812),[],none⟩,⟨303,11,.leaf,[.ops (ow f303 3)<|(ow f303 3).toList.drop 5],[],none⟩,E8 256 38 [(5,.own 0)] f256 62 1],[aZ yI c4,.a_]⟩
def Jm(A:aS)(l:List Int):List Int:=(A.spl (A.r (A.l l) (0:Int)) 0<|A.s l 0<|A.mn (A.l l)<|A.l<|A.r (A.l l) (0:Int))
def AS(A:aS)(p:QG):Int:=(A.fD (A.l p.b3) 1)
def DX(A:aS)(p:QG):Int:=(A.fD (AS A p) 1)
def N0(A:aS)(c3:Int)(c4:List Int):Bool:=(A.and (A.bE 0<|A.fD c3 1)<|A.bo (A.fD c3 1)<|A.l<|A.set c4 c3 (A.n yI c4 (A.fD c3 1):Int))
def N1(A:aS)(c3:Int)(c4:List Int):List Int:=(A.set (A.set c4 c3 (A.n yI c4 (A.fD c3 1):Int)) (A.fD c3 1) (A.n yI c4 c3:Int))
def adu(A:aS)(l:List Int):LT (Int×Int×Int) ae0:=.br (A.bq (A.l l) 0) (.ret (0,0,4))<|.ao (A.k R7 (l,1099511627776))<|.br (A.k Z8 (l,1099511627776)) (.ret (0,0,80))<|.ao (A.and (A.bq (A.l l)<|A.l l)<|A.and (A.bE 0<|A.l l)<|A.bE (A.l l) 17592186044416)<|.ao (A.k MH<|A.v .u64<|A.l<|Jm A l)<|.ak<|.c0 ⟨A.l<|Jm A l,A.k ah3<|A.v .u64<|A.l<|Jm A l,Jm A l⟩
def Nj(A:aS):ae0->LT (Int×Int×Int) ae0
 | .c0 p=>.br (A.bE (A.fD p.a1 0) 12) (.ak<|.c1 ⟨p.a1,A.bJ 0 1,p.a5⟩)<|.br (A.bq p.a2 0) (.bY 163 "zsortordered.go:81")<|.br (A.not true) (.bY 163 "zsortordered.go:87")<|.bY 163 "zsortordered.go:91"
 | .c1 p=>.br (A.bo p.b2 p.b1) (.ak<|.c2 ⟨p.b1,p.b2⟩ p.b2 p.b3)<|.br (A.ov (A.l p.b3) 4) (.ao (A.and (A.bE 0 1)<|A.and (A.bE 1<|AS A p)<|A.bE (AS A p)<|A.l p.b3)<|.ao (A.and (A.bE 0 0)<|A.bo 0<|DX A p)<|.ao (A.and (A.bE 0<|A.fD (DX A p) 1)<|A.bo (A.fD (DX A p) 1)<|DX A p)<|.ret ((A.n yI p.b3 (A.bJ 1 0):Int),(A.n yI p.b3 (A.bJ 1<|A.fD (DX A p) 1):Int),0))<|.fP A 0 p.b3<|.fP A (AS A p) p.b3<|.ret ((A.n yI p.b3 0:Int),(A.n yI p.b3 (AS A p):Int),0)
 | .c2 p c3 c4=>.br (A.jD c3 0) (.fP A c3 c4<|.fP A (A.fD c3 1) c4<|.br (A.k El (A.n yI c4 c3:Int)) (.br (A.not<|A.k El (A.n yI c4 (A.fD c3 1):Int)) (.ao (N0 A c3 c4)<|.ak<|.c2 p (A.fD c3 1)<|N1 A c3 c4)<|.br (A.bo (A.n yI c4 c3:Int) (A.n yI c4 (A.fD c3 1):Int)) (.ao (N0 A c3 c4)<|.ak<|.c2 p (A.fD c3 1)<|N1 A c3 c4)<|.ak<|.c1 ⟨p.c1,A.bJ p.c2 1,c4⟩)<|.br (A.bo (A.n yI c4 c3:Int) (A.n yI c4 (A.fD c3 1):Int)) (.ao (N0 A c3 c4)<|.ak<|.c2 p (A.fD c3 1)<|N1 A c3 c4)<|.ak<|.c1 ⟨p.c1,A.bJ p.c2 1,c4⟩)<|.ak<|.c1 ⟨p.c1,A.bJ p.c2 1,c4⟩
def Bt:(List Int)->(Int×Int×Int):=λl=>fA (Nj af) (adu af l)<|Ty.aR [yI,yI,yI]
def R6:(List Int)->Bool:=λl=>fO (Nj af)<|adu af l
def awr:aK:=⟨[Cr],[yI,yI,yI],R6,Bt,false⟩
def atS:Sd 256 awr:=aX ax dJ sl 71 [⟨327,2,[[0,1,2,3,8,9],[],[5]]⟩,⟨336,1,[[0,1,2,6],[],[],[5]]⟩,⟨336,4,[[0,1,2,6,7],[],[],[5]]⟩] [] (λA l=>adu A l) Nj alt (kz (fc func256 (fc func303 (fc func327 (fc func336 (fc func342 fz))))) (sc atx (sc aiZ (sc atV sz)))) (λA y=>match y with |.c0 p=>⟨43,sl,by kernel_rfl⟩|.c1 p=>⟨52,sl,by kernel_rfl⟩|.c2 p c3 c4=>⟨76,.jf [0,0,0,0,0,3,4,4,0,0,4,5,5,0,0,3,4,4],by kernel_rfl⟩) λ(l:List Int) c h=>dN c
def ahw(A:aS)(l:List Int):LT (Int×Int) Empty:=.ao (A.k R6 l)<|.ret (A.b .shr .i64 (A.bJ (A.k Bt l).1 (A.k Bt l).2.1) 1,(A.k Bt l).2.2)
def OV:(List Int)->(Int×Int):=λl=>fA Empty.elim (ahw af l)<|Ty.aR [yI,yI]
def R5:(List Int)->Bool:=λl=>fO Empty.elim<|ahw af l
def awm:aK:=⟨[Cr],[yI,yI],R5,OV,false⟩
def atN:Sd 203 awm:=bX ax dJ sl 33 [] (λA l=>ahw A l) (kz (fc func203 fz) (sc atS sz)) λ(l:List Int) c h=>dN c
def Jj(A:aS)(c:qB):List Int:=(A.p (A.spl (A.r (A.l c.2.2) (0:Int)) 0<|A.s c.2.2 0<|A.mn (A.l c.2.2)<|A.l<|A.r (A.l c.2.2) (0:Int)) ([0]:List Int))
def ads(A:aS)(m:aA)(c:qB):LT (Int×Int) Empty:=.br (A.cm (A.k uw (m,c)) 0) (.ret (0,A.k uw (m,c)))<|.ao (A.and (A.bE (A.l c.2.2)<|A.bJ (A.l c.2.2) 1)<|A.and (A.bE 0<|A.l c.2.2)<|A.bE (A.bJ (A.l c.2.2) 1) 17592186044416)<|.ao (A.bE (A.l<|Jj A c) 17592186044416)<|.ao (A.k R5<|Jj A c)<|.ret<|A.k OV<|Jj A c
def wZ:(aA×qB)->(Int×Int):=λ(m,c)=>fA Empty.elim (ads af m c)<|Ty.aR [yI,yI]
def R3:(aA×qB)->Bool:=λ(m,c)=>fO Empty.elim<|ads af m c
def awh:aK:=⟨[bD,xg],[yI,yI],R3,wZ,false⟩
def atJ:Sd 152 awh:=aX ax dJ sl 68 [⟨153,2000000,[]⟩] [] (λA (m,c)=>ads A m c) (λ_=>Empty.elim) Empty.elim (kz (fc func152 (fc func153 fz)) (sc P8 (sc atN sz))) (λ_ y=>y.elim) λ((m,c):aA×qB) f h=>dN f
def Jd:qB:=(0,0,([]:List Int))
def aho(A:aS)(m:aA)(c:qB)(f:Int):LT (qB×Int) Empty:=.ao (A.k R3 (m,c))<|.br (A.cm (A.k wZ (m,c)).2 0) (.ret (Jd,(A.k wZ (m,c)).2))<|.br (A.bo f<|A.u .neg .i64 m.2.2.2.2.1) (.ret (Jd,2))<|.br (A.jD f m.2.2.2.2.1) (.ret (Jd,2))<|.ao (A.cm m.1 0)<|.br (A.bq (A.b .rem .i64 (A.bJ c.2.1 1) m.1) 0) (.br (A.not<|A.k GH (m,A.bJ (A.bJ c.1<|A.bJ m.2.1 f) (A.k wZ (m,c)).1,A.bJ c.2.1 1,([]:List Int))) (.ret (Jd,130))<|.ret ((A.bJ (A.bJ c.1<|A.bJ m.2.1 f) (A.k wZ (m,c)).1,A.bJ c.2.1 1,([]:List Int)),0))<|.ao (A.k abI (c.2.2,0))<|.br (A.not<|A.k GH (m,A.bJ c.1<|A.bJ m.2.1 f,A.bJ c.2.1 1,A.k Z4 (c.2.2,0))) (.ret (Jd,130))<|.ret ((A.bJ c.1<|A.bJ m.2.1 f,A.bJ c.2.1 1,A.k Z4 (c.2.2,0)),0)
def KF:(aA×qB×Int)->(qB×Int):=λ(m,c,f)=>fA Empty.elim (aho af m c f)<|Ty.aR [xg,yI]
def RY:(aA×qB×Int)->Bool:=λ(m,c,f)=>fO Empty.elim<|aho af m c f
def awb:aK:=⟨[bD,xg,yI],[xg,yI],RY,KF,false⟩
def atF:Sd 100 awb:=bX ax dJ sl 102 [] (λA (m,c,f)=>aho A m c f) (kz (fc func100 fz) (sc acD (sc atJ (sc atK sz)))) λ((m,c,f):aA×qB×Int) g h=>dN g
def vm:List Int:=([]:List Int)
abbrev adq(A:aS)(m:aA)(c:Int):LT (qB×Int) Empty:=(.br (A.not<|A.k GH (m,-1,c,vm)) (.ret ((0,0,vm),130))<|.ret ((-1,c,vm),0))
def aht(A:aS)(m:aA)(f:Int)(c:Int):LT (qB×Int) Empty:=.br (A.cm (A.k jN m) 0) (.ret ((0,0,vm),A.k jN m))<|.br (A.bo c 0) (.ret ((0,0,vm),2))<|.br (A.ov c m.1) (.ret ((0,0,vm),2))<|.br (A.ov f 0) (.br (A.bE f 1099511627776) (.br (A.not<|A.k GH (m,A.fD f<|A.bJ m.2.2.1 m.2.2.2.2.2.1,c,vm)) (.ret ((0,0,vm),130))<|.ret ((A.fD f<|A.bJ m.2.2.1 m.2.2.2.2.2.1,c,vm),0))<|adq A m c)<|adq A m c
def rC:(aA×Int×Int)->(qB×Int):=λ(m,c,f)=>(aht af m c f).val<|Ty.aR [xg,yI]
def awe:aK:=.all [bD,yI,yI] [xg,yI] rC
def atG:Sd 144 awe:=fa<|aQ ax dJ sl 85 [] (λA (m,c,f)=>aht A m c f)<|kz (fc func144 fz)<|sc EB<|sc acD sz
abbrev ai5(A:aS)(s:gH)(c:Int)(f:Int)(node:Int):=(A.b .rem .i64 (A.bJ (A.b .mul .i64 f c) node)<|A.l s.2.2.2.2.2.1)
def ahp(A:aS)(s:gH)(c:Int)(f:Int)(node:Int):LT Int Empty:=.br (A.bq (A.l s.2.2.2.2.2.1) 0) (.ret 0)<|.br (A.bo f 0) (.ret 0)<|.br (A.bo node 0) (.ret 0)<|.br (A.bo c 1) (.ret 0)<|.br (A.jD (A.mx (A.mx f node) c) 1048576) (.ret 0)<|.qI A s.2.2.2.2.2.1<|.fP A (ai5 A s c f node) s.2.2.2.2.2.1<|.ret (A.n yI s.2.2.2.2.2.1 (ai5 A s c f node):Int)
def uA:(gH×Int×Int×Int)->Int:=λ(s,c,f,node)=>fA Empty.elim (ahp af s c f node)<|Ty.aR [yI]
def yb:(gH×Int×Int×Int)->Bool:=λ(s,c,f,node)=>fO Empty.elim<|ahp af s c f node
def awc:aK:=⟨[lD,yI,yI,yI],[yI],yb,uA,false⟩
def aiU:Sd 101 awc:=bX ax dJ sl 57 [] (λA (s,c,f,node)=>ahp A s c f node) (kz (fc func101 fz) sz) λ((s,c,f,node):gH×Int×Int×Int) g h=>dN g
def ao8(A:aS)(m:aA)(c:qB)(off:Int)(id:Int)(f:Int):LT (Span×Int) Empty:=.br (A.cm (A.k uw (m,c)) 0) (.ret ((0,0),A.k uw (m,c)))<|.br (A.bo id 0) (.ret ((0,0),2))<|.br (A.ov id m.1) (.ret ((0,0),2))<|.br (A.bo f 0) (.ret ((0,0),2))<|.br (A.ov f m.1) (.ret ((0,0),2))<|.br (A.bo off<|A.u .neg .i64<|A.b .quo .i64 m.2.2.2.1 2) (.ret ((0,0),2))<|.br (A.jD off<|A.b .quo .i64 m.2.2.2.1 2) (.ret ((0,0),2))<|.br (A.cm id f) (.ret ((0,0),0))<|.ret ((A.mx (A.fD (A.bJ c.1<|A.bJ off m.2.2.1) m.2.2.2.1) 0,A.bJ (A.bJ (A.bJ c.1<|A.bJ off m.2.2.1)<|A.k OC m) m.2.2.2.1),0)
def Ug:(aA×qB×Int×Int×Int)->(Span×Int):=λ(m,c,off,id,f)=>(ao8 af m c off id f).val<|Ty.aR [kv,yI]
def aws:aK:=.all [bD,xg,yI,yI,yI] [kv,yI] Ug
def atT:Sd 264 aws:=fa<|aQ ax dJ sl 130 [] (λA (m,c,off,id,f)=>ao8 A m c off id f)<|kz (fc func264 fz)<|sc P8<|sc acE sz
def N3:(Int×Span×Int×Int×List Int)×Bool:=((0,(0,0),0,0,([]:List Int)),false)
def ahy(A:aS)(c:Span)(s:fC):LT (fC×Bool) Empty:=.br (A.cm (A.k TM s) 0) (.ret<|N3)<|.br (A.cm (A.k GI c) 0) (.ret<|N3)<|.br (A.not<|A.k Uf (s.2.1,c)) (.ret<|N3)<|.br (A.k Z6 (s.2.1,c)) (.ret (lp4 s<|A.k nY s.2.2.2.2,true))<|.ret (lp4 (up3 (zm s (A.mx s.2.1.1 c.1,A.mn s.2.1.2 c.2)) (0:Int)) ([]:List Int),true)
def Bu:(Span×fC)->(fC×Bool):=λ(c,s)=>(ahy af c s).val<|Ty.aR [iC,.bool]
def awt:aK:=.all [kv,iC] [iC,.bool] Bu
def atU:Sd 265 awt:=fa<|aQ ax dJ sl 79 [] (λA (c,s)=>ahy A c s)<|kz (fc func265 fz)<|sc EC<|sc acF<|sc P_<|sc aiX<|sc aiY sz
structure FK where(a0:List bK)(a1:Int)(a3:Bool×aA×gH×Unit)(a4 a5:Int)(a6:fB)(a7 a8 a9 jd:Bool×aA×gH×Unit)(lq:List bK)(a12 E5 N8 N9:Int)(Tn:fB)(Qy:Int)(a20:List bK)(a21:Int)
inductive aeR where|c0(p:FK)(a2:Int)
noncomputable def ali:aeR->gY
 | .c0 p a2=>⟨[gW 219 36 [(0,.yield 0),(2,pZ 1),(3,pZ 2),(7,.sl bQ p.a0),(8,vi p.a1),(9,vi a2)] f219 12,⟨106,34,en [(8,pZ 3),(9,pZ 4)],[.oY 0,.inBlock 0,.code<|cw f106 7],[5],none⟩],[.loop ⟨106,34,en [(0,.pO (.struct [.bool,bD,lD,.any 8]) p.a3 0),(1,vi p.a4),(2,vi p.a5),(3,.agg<|dc iB p.a6),(5,pZ 7),(6,pZ 9),(7,pZ 6),(8,pZ 3),(9,pZ 4),(11,.pO (.struct [.bool,bD,lD,.any 8]) p.a7 0),(12,.pO (.struct [.bool,bD,lD,.any 8]) p.a8 0),(13,.pO (.struct [.bool,bD,lD,.any 8]) p.a9 9),(14,.pO (.struct [.bool,bD,lD,.any 8]) p.jd 16),(15,.sl bQ p.lq),(16,pZ 6),(17,vi p.a12),(18,.ptr 6 1),(19,vi p.E5),(20,.fn 219 [] [pZ 8,pZ 1,pZ 2])],[21],cw f106 52,cw f106 53,0,none⟩,vZ p.N8,vZ p.N9,gZ [vi 0,vi 0,vi 0,vi 0,vi 0,vi 0,vi 0],gZ [vb false],.Jq,dZ iB p.Tn,vZ p.Qy,gZ [.sl bQ p.a20],vZ p.a21,.a_]⟩
def mE(A:aS)(p:FK)(a2:Int):bK:=(A.n bQ p.a0 a2:bK)
def W1(A:aS)(h:Bool)(i:aA)(f:gH)(g:Int)(node:Int)(c:fB):LT (bK×Bool) aeR:=.ao (A.k RO f.2.2.2.2.2.2.2)<|.ak<|.c0 ⟨A.k GQ f.2.2.2.2.2.2.2,A.l<|A.k GQ f.2.2.2.2.2.2.2,(h,i,f,()),g,node,c,(h,i,f,()),(h,i,f,()),(h,i,f,()),(h,i,f,()),f.2.2.2.2.2.2.2,c.1,c.2.1,c.1,c.2.1,c,g,A.k GQ f.2.2.2.2.2.2.2,node⟩ 0
def zk(A:aS):aeR->LT (bK×Bool) aeR
 | .c0 p a2=>.br (A.bo a2 p.a1) (.fP A a2 p.a0<|.br (A.bq (mE A p a2).2.2.2.1 p.N8) (.br (A.bq (mE A p a2).2.2.2.2.1 p.N9) (.br (A.bq (mE A p a2).1 p.Qy) (.br (A.bq (mE A p a2).2.1 p.a21) (.ret (mE A p a2,true))<|.ak<|.c0 p<|A.bJ a2 1)<|.ak<|.c0 p<|A.bJ a2 1)<|.br (A.not<|A.k zD (mE A p a2).1) (.br (A.bq (mE A p a2).1 p.Qy) (.br (A.bq (mE A p a2).2.1 p.a21) (.ret (mE A p a2,true))<|.ak<|.c0 p<|A.bJ a2 1)<|.ak<|.c0 p<|A.bJ a2 1)<|.ak<|.c0 p<|A.bJ a2 1)<|.ak<|.c0 p<|A.bJ a2 1)<|.ret ((0,0,0,0,0,0,0),false)
def dV:(Bool×aA×gH×Unit)×(Int×Int×fB)->(bK×Bool):=λ((g,h,i,()),(f,node,c))=>fA (zk af) (W1 af g h i f node c)<|Ty.aR [bQ,.bool]
def jy:(Bool×aA×gH×Unit)×(Int×Int×fB)->Bool:=λ((g,h,i,()),(f,node,c))=>fO (zk af)<|W1 af g h i f node c
def arV:qG:=⟨.struct [.bool,bD,lD,.any 8],[yI,yI,iB],[bQ,.bool],jy,dV⟩
def Pz:qG.bI prog 106 arV:=B9 ax dJ sl 57 [⟨219,1,[[0,2,3,7,8,9],[8,9]]⟩] [] (λA ((g,i,j,()),(f,node,c))=>W1 A g i j f node c) zk ali (kz (fc func106 (fc func164 (fc func219 fz))) (sc aiP (sc aiQ sz))) (λA y=>match y with |.c0 p a2=>⟨77,sl,by kernel_rfl⟩) λ((g,i,j,()),(f,node,c)) l m h=>dN l
structure QF where(a0:List bK)(a1:Int)(a3:Bool×aA×gH×Unit)(a4:Int)(a5:fB)(a6 a7 a8 a9:Bool×aA×gH×Unit)(jd:List bK)(lq a12 E5 N8:Int)(a16:fB)(a17:List bK)(Tn:Int)
inductive aeX where|c0(p:QF)(a2:Int)
noncomputable def alp:aeX->gY
 | .c0 p a2=>⟨[gW 219 36 [(0,.yield 0),(2,pZ 1),(3,pZ 2),(7,.sl bQ p.a0),(8,vi p.a1),(9,vi a2)] f219 12,⟨160,28,en [(6,pZ 3)],[.oY 0,.inBlock 0,.code<|cw f160 7],[4],none⟩],[.loop ⟨160,28,en [(0,.pO (.struct [.bool,bD,lD,.any 8]) p.a3 0),(1,vi p.a4),(2,.agg<|dc iB p.a5),(4,pZ 7),(5,pZ 5),(6,pZ 3),(8,.pO (.struct [.bool,bD,lD,.any 8]) p.a6 0),(9,.pO (.struct [.bool,bD,lD,.any 8]) p.a7 0),(10,.pO (.struct [.bool,bD,lD,.any 8]) p.a8 9),(11,.pO (.struct [.bool,bD,lD,.any 8]) p.a9 16),(12,.sl bQ p.jd),(13,pZ 5),(14,vi p.lq),(15,.ptr 5 1),(16,vi p.a12),(17,.fn 219 [] [pZ 6,pZ 1,pZ 2])],[18],cw f160 52,cw f160 53,0,none⟩,vZ p.E5,vZ p.N8,gZ [vb false],.Jq,dZ iB p.a16,gZ [.sl bQ p.a17],vZ p.Tn,.a_]⟩
def adt(A:aS)(h:Bool)(i:aA)(g:gH)(f:Int)(c:fB):LT Bool aeX:=.ao (A.k RO g.2.2.2.2.2.2.2)<|.ak<|.c0 ⟨A.k GQ g.2.2.2.2.2.2.2,A.l<|A.k GQ g.2.2.2.2.2.2.2,(h,i,g,()),f,c,(h,i,g,()),(h,i,g,()),(h,i,g,()),(h,i,g,()),g.2.2.2.2.2.2.2,c.1,c.2.1,c.1,c.2.1,c,A.k GQ g.2.2.2.2.2.2.2,f⟩ 0
def IC(A:aS):aeX->LT Bool aeX
 | .c0 p a2=>.br (A.bo a2 p.a1) (.fP A a2 p.a0<|.br (A.bq (A.n bQ p.a0 a2:bK).2.2.2.1 p.E5) (.br (A.bq (A.n bQ p.a0 a2:bK).2.2.2.2.1 p.N8) (.br (A.bq (A.n bQ p.a0 a2:bK).1 5) (.br (A.bq (A.n bQ p.a0 a2:bK).2.2.1 p.Tn) (.ret true)<|.ak<|.c0 p<|A.bJ a2 1)<|.ak<|.c0 p<|A.bJ a2 1)<|.br (A.not<|A.k zD (A.n bQ p.a0 a2:bK).1) (.br (A.bq (A.n bQ p.a0 a2:bK).1 5) (.br (A.bq (A.n bQ p.a0 a2:bK).2.2.1 p.Tn) (.ret true)<|.ak<|.c0 p<|A.bJ a2 1)<|.ak<|.c0 p<|A.bJ a2 1)<|.ak<|.c0 p<|A.bJ a2 1)<|.ak<|.c0 p<|A.bJ a2 1)<|.ret false
def Ud:(Bool×aA×gH×Unit)×(Int×fB)->Bool:=λ((g,h,i,()),(f,c))=>fA (IC af) (adt af g h i f c)<|Ty.aR [.bool]
def Io:(Bool×aA×gH×Unit)×(Int×fB)->Bool:=λ((g,h,i,()),(f,c))=>fO (IC af)<|adt af g h i f c
def arW:qG:=⟨.struct [.bool,bD,lD,.any 8],[yI,iB],[.bool],Io,Ud⟩
def arT:qG.bI prog 160 arW:=B9 ax dJ sl 55 [⟨219,1,[[0,2,3,7,8,9],[6]]⟩] [] (λA ((g,i,j,()),(f,c))=>adt A g i j f c) IC alp (kz (fc func160 (fc func164 (fc func219 fz))) (sc aiP (sc aiQ sz))) (λA y=>match y with |.c0 p a2=>⟨76,sl,by kernel_rfl⟩) λ((g,i,j,()),(f,c)) l m h=>dN l
def wN(A:aS)(g:Net)(f:Int)(c:Int)(node:Int)(n:Int):rq×Int×Int×Int×Int:=((A.k gL (g.2.2.2.2.2.1,())).1,A.mx f (A.k gL (g.2.2.2.2.2.1,())).2,c,node,n)
def SC(A:aS)(g:Net)(f:Int)(c:Int)(node:Int)(n:Int):LT (Net×Unit) Empty:=.ao (A.k rR (g.2.2.2.2.2.1,()))<|.br (A.bE (A.mx f (A.k gL (g.2.2.2.2.2.1,())).2) g.2.2.2.2.1) (.ao (A.k R1<|wN A g f c node n)<|.br (A.cm (A.k wX<|wN A g f c node n).2 0) (.ao (A.k rR ((A.k wX<|wN A g f c node n).1,()))<|.ret (vn (QA g<|A.mn g.2.2.2.2.1 (A.k gL ((A.k wX<|wN A g f c node n).1,())).2) (A.k gL ((A.k wX<|wN A g f c node n).1,())).1,()))<|.ret (vn g (A.k wX<|wN A g f c node n).1,()))<|.ret (vn g (A.k gL (g.2.2.2.2.2.1,())).1,())
def tF:Net×(Int×Int×Int×Int)->Net×Unit:=λ(g,(f,c,node,n))=>fA Empty.elim (SC af g f c node n) (Ty.aR [jS],Ty.aR [])
def qf:Net×(Int×Int×Int×Int)->Bool:=λ(g,(f,c,node,n))=>fO Empty.elim (SC af g f c node n)&&decide (VF.lens [fJ] (tF (g,(f,c,node,n))).1=VF.lens [fJ] ((g,(f,c,node,n)):Net×(Int×Int×Int×Int)).1)
def ari:cH:=⟨[fJ],[yI,yI,yI,yI],[],qf,tF,false,false⟩
def aa1:cH.bI prog 81 ari:=bV ax dJ sl 56 [] [] (λA (g,(f,c,node,n))=>SC A g f c node n) (λ_=>Empty.elim) Empty.elim ⟨fc func81 fz,sz,oz,iz,(mc Pj (mc aq0 mz)),pz⟩ (λ_ y=>y.elim) (λ((g,(f,c,node,n)):Net×(Int×Int×Int×Int)) i j h=>JW i) (z:=λ_ _ h=>Jv h)
def Sw(A:aS)(g:Net)(f:Int)(c:Int)(node:Int):LT (Net×Unit) Empty:=.br (A.cm c 3) (.br (A.bo node<|A.l g.2.2.2.2.2.2.1) (.fP A node g.2.2.2.2.2.2.1<|.ao (A.k qf (g,f,c,node,(A.n bS g.2.2.2.2.2.2.1 node:cN).2.2.2.2.1))<|.qI A g.2.2.2.2.2.2.1<|.ret ((A.k tF (g,f,c,node,(A.n bS g.2.2.2.2.2.2.1 node:cN).2.2.2.2.1)).1,()))<|.ao (A.k qf (g,f,c,node,0))<|.qI A g.2.2.2.2.2.2.1<|.ret ((A.k tF (g,f,c,node,0)).1,()))<|.ao (A.k qf (g,f,c,node,0))<|.qI A g.2.2.2.2.2.2.1<|.ret ((A.k tF (g,f,c,node,0)).1,())
def zH:Net×(Int×Int×Int)->Net×Unit:=λ(g,(f,c,node))=>fA Empty.elim (Sw af g f c node) (Ty.aR [jS],Ty.aR [])
def wo:Net×(Int×Int×Int)->Bool:=λ(g,(f,c,node))=>fO Empty.elim (Sw af g f c node)&&decide (VF.lens [fJ] (zH (g,(f,c,node))).1=VF.lens [fJ] ((g,(f,c,node)):Net×(Int×Int×Int)).1)
def aq9:cH:=⟨[fJ],[yI,yI,yI],[],wo,zH,false,false⟩
def Ph:cH.bI prog 42 aq9:=bV ax dJ sl 45 [] [] (λA (g,(f,c,node))=>Sw A g f c node) (λ_=>Empty.elim) Empty.elim ⟨fc func42 fz,sz,oz,iz,(mc aa1 mz),pz⟩ (λ_ y=>y.elim) (λ((g,(f,c,node)):Net×(Int×Int×Int)) i j h=>JW i) (z:=λ_ _ h=>Jv h)
def Jk(A:aS)(f:Net)(i:Int):List cN:=(md A bS f.2.2.2.2.2.2.1 i λ(c:cN)=>QA c<|A.bJ c.2.2.2.2.1 1)
def Jl(A:aS)(c:Net)(i:Int):Net×Int×Int×Int:=(qK (vn c (A.k gL ((A.k gL (c.2.2.2.2.2.1,())).1,())).1)<|md A bS (Jk A c i) i λ(f:cN)=>up3 f (A.k gL (c.2.2.2.2.2.1,())).2,A.bJ (A.k gL ((A.k gL (c.2.2.2.2.2.1,())).1,())).2 c.2.1.2.1,2,i)
def SI(A:aS)(c:Net)(i:Int):LT (Net×Unit) Empty:=.fP A i c.2.2.2.2.2.2.1<|.ao (A.k rR (c.2.2.2.2.2.1,()))<|.ao (A.k rR ((A.k gL (c.2.2.2.2.2.1,())).1,()))<|.ao (A.k wo<|Jl A c i)<|.qI A (md A bS (Jk A c i) i λ(f:cN)=>up3 f (A.k gL (c.2.2.2.2.2.1,())).2)<|.ret ((A.k zH<|Jl A c i).1,())
def GU:Net×Int->Net×Unit:=λ(c,i)=>fA Empty.elim (SI af c i) (Ty.aR [jS],Ty.aR [])
def Ip:Net×Int->Bool:=λ(c,i)=>fO Empty.elim (SI af c i)&&decide (VF.lens [fJ] (GU (c,i)).1=VF.lens [fJ] ((c,i):Net×Int).1)
def arv:cH:=⟨[fJ],[yI],[],Ip,GU,false,false⟩
def aij:cH.bI prog 163 arv:=bV ax dJ sl 55 [] [] (λA (c,i)=>SI A c i) (λ_=>Empty.elim) Empty.elim ⟨fc func163 fz,sz,oz,iz,(mc Ph (mc Pj mz)),pz⟩ (λ_ y=>y.elim) (λ((c,i):Net×Int) f g h=>JW f) (z:=λ_ _ h=>Jv h)
def Jg(A:aS)(c:Net)(i:Int):Net×Int×Int×Int:=(c,A.bJ (A.bJ (A.n bS c.2.2.2.2.2.2.1 i:cN).2.1.1<|A.bJ (A.bJ (A.bJ c.2.1.2.2.1<|A.k OC c.2.1) c.2.1.2.2.2.2.2.1)<|A.b .mul .i64 2 c.2.1.2.2.2.1) 2,1,i)
def SF(A:aS)(c:Net)(i:Int):LT (Net×Unit) Empty:=.fP A i c.2.2.2.2.2.2.1<|.ao (A.k wo<|Jg A c i)<|.qI A c.2.2.2.2.2.2.1<|.ret ((A.k zH<|Jg A c i).1,())
def Ek:Net×Int->Net×Unit:=λ(c,i)=>fA Empty.elim (SF af c i) (Ty.aR [jS],Ty.aR [])
def Av:Net×Int->Bool:=λ(c,i)=>fO Empty.elim (SF af c i)&&decide (VF.lens [fJ] (Ek (c,i)).1=VF.lens [fJ] ((c,i):Net×Int).1)
def aro:cH:=⟨[fJ],[yI],[],Av,Ek,false,false⟩
def aa2:cH.bI prog 104 aro:=bV ax dJ sl 46 [] [] (λA (c,i)=>SF A c i) (λ_=>Empty.elim) Empty.elim ⟨fc func104 fz,(sc acE sz),oz,iz,(mc Ph mz),pz⟩ (λ_ y=>y.elim) (λ((c,i):Net×Int) f g h=>JW f) (z:=λ_ _ h=>Jv h)
def SV(A:aS)(c:Net)(i:Int)(on:Bool):List cN:=(A.set c.2.2.2.2.2.2.1 i ((A.k TP (c.2.1,(A.n bS c.2.2.2.2.2.2.1 i:cN).1,on)).1,(A.n bS c.2.2.2.2.2.2.1 i:cN).2))
def SX(A:aS)(f:Net)(i:Int)(on:Bool):List cN:=(md A bS (SV A f i on) i λ(c:cN)=>QA c<|A.bJ c.2.2.2.2.1 1)
def SY(A:aS)(f:Net)(i:Int)(on:Bool):List cN:=(md A bS (SX A f i on) i λ(c:cN)=>vn c false)
def SZ(A:aS)(f:Net)(i:Int)(on:Bool):List cN:=(md A bS (SY A f i on) i λ(c:cN)=>qK c false)
def AR(A:aS)(f:Net)(i:Int)(on:Bool):List cN:=(md A bS (SZ A f i on) i λ(c:cN)=>lp7 c false)
def SG(A:aS)(c:Net)(i:Int)(on:Bool):LT (Net×Unit) Empty:=.fP A i c.2.2.2.2.2.2.1<|.br (A.cm (A.k TP (c.2.1,(A.n bS c.2.2.2.2.2.2.1 i:cN).1,on)).2 0) (.ret (c,()))<|.br on (.ao (A.k Ip (qK c<|AR A c i on,i))<|.qI A (AR A c i on)<|.ret ((A.k GU (qK c<|AR A c i on,i)).1,()))<|.ret (qK c<|AR A c i on,())
def wV:Net×(Int×Bool)->Net×Unit:=λ(c,(i,on))=>fA Empty.elim (SG af c i on) (Ty.aR [jS],Ty.aR [])
def tQ:Net×(Int×Bool)->Bool:=λ(c,(i,on))=>fO Empty.elim (SG af c i on)&&decide (VF.lens [fJ] (wV (c,(i,on))).1=VF.lens [fJ] ((c,(i,on)):Net×(Int×Bool)).1)
def arp:cH:=⟨[fJ],[yI,.bool],[],tQ,wV,false,false⟩
def aa3:cH.bI prog 105 arp:=bV ax dJ sl 87 [] [] (λA (c,(i,on))=>SG A c i on) (λ_=>Empty.elim) Empty.elim ⟨fc func105 fz,(sc asD sz),oz,iz,(mc aij mz),pz⟩ (λ_ y=>y.elim) (λ((c,(i,on)):Net×(Int×Bool)) f g h=>JW f) (z:=λ_ _ h=>Jv h)
def adM(A:aS)(f:Net)(i:Int)(n:Node)(c:Int):List cN:=(md A bS (md A bS f.2.2.2.2.2.2.1 i λ(g:cN)=>up0 g n) i λ(h:cN)=>zm h (A.k rC (f.2.1,c,n.2.2.1.2.1)).1)
def adN(A:aS)(g:Net)(i:Int)(n:Node)(c:Int):List cN:=(md A bS (adM A g i n c) i λ(f:cN)=>QA f<|A.bJ f.2.2.2.2.1 1)
def Jb(A:aS)(g:Net)(i:Int)(n:Node)(c:Int):List cN:=(md A bS (adN A g i n c) i λ(f:cN)=>vn f true)
def SD(A:aS)(f:Net)(i:Int)(n:Node)(c:Int):LT (Net×Unit) Empty:=.fP A i f.2.2.2.2.2.2.1<|.br (A.cm (A.k rC (f.2.1,c,n.2.2.1.2.1)).2 0) (.ret (f,()))<|.br (A.not<|A.k T5 (n.2.2.1,n.2.2.1.2.1)) (.ret (f,()))<|.ao (A.k Av (qK f<|md A bS (Jb A f i n c) i λ(g:cN)=>qK g false,i))<|.qI A (md A bS (Jb A f i n c) i λ(g:cN)=>qK g false)<|.ret ((A.k Ek (qK f<|md A bS (Jb A f i n c) i λ(g:cN)=>qK g false,i)).1,())
def OU:Net×(Int×Node×Int)->Net×Unit:=λ(f,(i,n,c))=>fA Empty.elim (SD af f i n c) (Ty.aR [jS],Ty.aR [])
def MR:Net×(Int×Node×Int)->Bool:=λ(f,(i,n,c))=>fO Empty.elim (SD af f i n c)&&decide (VF.lens [fJ] (OU (f,(i,n,c))).1=VF.lens [fJ] ((f,(i,n,c)):Net×(Int×Node×Int)).1)
def ark:cH:=⟨[fJ],[yI,gm,yI],[],MR,OU,false,false⟩
def aqU:cH.bI prog 95 ark:=bV ax dJ sl 95 [] [] (λA (f,(i,n,c))=>SD A f i n c) (λ_=>Empty.elim) Empty.elim ⟨fc func95 fz,(sc aiG (sc atG sz)),oz,iz,(mc aa2 mz),pz⟩ (λ_ y=>y.elim) (λ((f,(i,n,c)):Net×(Int×Node×Int)) g j h=>JW g) (z:=λ_ _ h=>Jv h)
structure CL where(a0:List bK)(a1:Int)(a3:Net)(a5 a6:Int)(a7:fB)(a8:fC)
inductive YA where|c0(p:CL)(a2:Int)
noncomputable def alr:YA->gY
 | .c0 p a2=>⟨[gW 332 19 [(0,.sl bQ p.a0),(1,.fn 310 [] [pZ 2,pZ 3,pZ 4]),(7,vi p.a1),(8,vi a2)] f332 52,⟨309,9,.leaf,[.ops (ow f309 6)<|(ow f309 6).toList.drop 2,.code .ret],[],none⟩,⟨262,16,.leaf,[.ops (ow f262 6)<|(ow f262 6).toList.drop 6,.code .ret],[],none⟩,E8 212 53 [(0,pZ 0),(5,pZ 5),(6,pZ 6),(7,pZ 7),(8,pZ 8)] f212 12 4],[CG p.a3 9 1 10 11 12 13,Cy p.a3,vZ 11,vZ p.a5,gZ [.fn 263 [] [pZ 5]],vZ p.a6,dZ iB p.a7,dZ iC p.a8,gZ [vi 0,vi 0,vi 0,vi 0,vi 0,.fG true],CB p.a3 14,Cw p.a3,bxB p.a3,CF p.a3,Cz p.a3,Cx p.a3,.a_]⟩
def tZ(A:aS)(p:CL):tg:=(A.k Ug (p.a3.2.1,(A.n bS p.a3.2.2.2.2.2.2.1 p.a6:cN).2.1,(A.n yI p.a3.2.2.1.2.2.2.2.1 p.a6:Int),p.a6,p.a7.2.1))
def W3(A:aS)(f:Net)(i:Int)(c:fB)(s:fC):LT (Net×(fC×Bool)) YA:=.ak<|.c0 ⟨f.2.2.1.2.2.2.2.2.2.2,A.l f.2.2.1.2.2.2.2.2.2.2,f,c.1,i,c,s⟩ 0
def wC(A:aS):YA->LT (Net×(fC×Bool)) YA
 | .c0 p a2=>.br (A.bo a2 p.a1) (.fP A a2 p.a0<|.br (A.bq (A.n bQ p.a0 a2:bK).1 11) (.br (A.bE (A.n bQ p.a0 a2:bK).2.2.2.1 p.a5) (.br (A.bq (A.n bQ p.a0 a2:bK).2.1 p.a6) (.br (A.ov a2 0) (.ret (p.a3,p.a8,true))<|.fP A p.a6 p.a3.2.2.2.2.2.2.1<|.fP A p.a6 p.a3.2.2.1.2.2.2.2.1<|.br (A.cm (tZ A p).2 0) (.ret (p.a3,(0,(0,0),0,0,([]:List Int)),false))<|.ret (p.a3,A.k Bu ((tZ A p).1,p.a8)))<|.ak<|.c0 p<|A.bJ a2 1)<|.ak<|.c0 p<|A.bJ a2 1)<|.ak<|.c0 p<|A.bJ a2 1)<|.fP A p.a6 p.a3.2.2.2.2.2.2.1<|.fP A p.a6 p.a3.2.2.1.2.2.2.2.1<|.br (A.cm (tZ A p).2 0) (.ret (p.a3,(0,(0,0),0,0,([]:List Int)),false))<|.ret (p.a3,A.k Bu ((tZ A p).1,p.a8))
def gq:Net×(Int×fB×fC)->Net×(fC×Bool):=λ(f,(i,c,s))=>fA (wC af) (W3 af f i c s) (Ty.aR [jS],Ty.aR [iC,.bool])
def nG:Net×(Int×fB×fC)->Bool:=λ(f,(i,c,s))=>fO (wC af) (W3 af f i c s)&&decide (VF.lens [fJ] (gq (f,(i,c,s))).1=VF.lens [fJ] ((f,(i,c,s)):Net×(Int×fB×fC)).1)
def arw:cH:=⟨[fJ],[yI,iB,iC],[iC,.bool],nG,gq,false,false⟩
def aik:cH.bI prog 212 arw:=bV ax dJ sl 60 [⟨332,2,[[0,1,7,8],[],[],[0,5,6,7,8]]⟩] [] (λA (f,(i,c,s))=>W3 A f i c s) wC alr (kz (fc func212 (fc func262 (fc func263 (fc func309 (fc func310 (fc func332 fz)))))) (sc atT (sc atU sz))) (λA y=>match y with |.c0 p a2=>⟨136,.jf [0,0,0,0,0,0,0,0,1,2,0,0,0,1,2],by kernel_rfl⟩) (λ((f,(i,c,s)):Net×(Int×fB×fC)) g j h=>JW g) (z:=λ_ _ h=>Jv h)
structure ajT where(a2 a3:bK)(a4:Int)(a5:Bool)(a6 a7:Int)(a8:List Int)(a9 jd:Int)
structure Yd where(b0:Int)(b2 b3:bK)(b4:Int)(b5:Bool)(b6 b7:Int)(b8:List Int)(b9 b10:Int)
inductive aeL where|c0(p:ajT)|c1(p:Yd)(b1:Int)(CQ:List iE)
noncomputable def ala:aeL->gY
 | .c0 p=>⟨[gW 46 39 [(1,pZ 0),(2,pZ 1),(19,vi 0),(20,vi 0)] f46 244],[gZ<|dc bQ p.a2++dc bQ p.a3 ++ [vi p.a4,vb p.a5,vi p.a6,vi p.a7,.sl yU p.a8,.fG false,vi p.a9,vi p.jd],gZ [vi 0,vi 0,vi 0,vi 0,vi 0,vi 0,vi 0,vi 0,vi 0,vi 0,vi 0,vi 0,vi 0,vi 0,vi 0,vb false,vi 0,vi 0,.fG true,.fG true,vi 0,vi 0],.a_]⟩
 | .c1 p b1 c=>⟨[gW 46 39 [(1,pZ 0),(2,pZ 1),(19,vi p.b0),(20,vi b1)] f46 244],[gZ<|dc bQ p.b2++dc bQ p.b3 ++ [vi p.b4,vb p.b5,vi p.b6,vi p.b7,.sl yU p.b8,.own 2,vi p.b9,vi p.b10],gZ [vi 0,vi 0,vi 0,vi 0,vi 0,vi 0,vi 0,vi 0,vi 0,vi 0,vi 0,vi 0,vi 0,vi 0,vi 0,vb false,vi 0,vi 0,.fG true,.fG true,vi 0,vi 0],aZ kj c,.a_]⟩
def ao1(A:aS)(n:Node):LT Node aeL:=.qI A n.2.2.2.2.2.2.2.2.2.1<|.br (A.bq (A.l n.2.2.2.2.2.2.2.2.2.1) 0) (.ak<|.c0 ⟨(n.1,n.2.1,n.2.2.1),n.2.2.2.1,n.2.2.2.2.1,n.2.2.2.2.2.1,n.2.2.2.2.2.2.1,n.2.2.2.2.2.2.2.1,A.k nY n.2.2.2.2.2.2.2.2.1,n.2.2.2.2.2.2.2.2.2.2.1,n.2.2.2.2.2.2.2.2.2.2.2⟩)<|.ao (A.bE (A.l n.2.2.2.2.2.2.2.2.2.1) 4398046511104)<|.ak<|.c1 ⟨A.l n.2.2.2.2.2.2.2.2.2.1,(n.1,n.2.1,n.2.2.1),n.2.2.2.1,n.2.2.2.2.1,n.2.2.2.2.2.1,n.2.2.2.2.2.2.1,n.2.2.2.2.2.2.2.1,A.k nY n.2.2.2.2.2.2.2.2.1,n.2.2.2.2.2.2.2.2.2.2.1,n.2.2.2.2.2.2.2.2.2.2.2⟩ 0 n.2.2.2.2.2.2.2.2.2.1
def acb(A:aS):aeL->LT Node aeL
 | .c0 p=>.br (A.bo 0 0) (.bY 37 "busnet.go:149")<|.ret (p.a2.1,p.a2.2.1,p.a2.2.2,p.a3,p.a4,p.a5,p.a6,p.a7,p.a8,([]:List iE),p.a9,p.jd)
 | .c1 p b1 c=>.br (A.bo b1 p.b0) (.fP A b1 c<|.fP A b1 c<|.ak<|.c1 p (A.bJ b1 1)<|A.set c b1 (A.k nY (A.n kj c b1:iE).1,(A.n kj c b1:iE).2))<|.ret (p.b2.1,p.b2.2.1,p.b2.2.2,p.b3,p.b4,p.b5,p.b6,p.b7,p.b8,c,p.b9,p.b10)
def afb(n:Node):Bool:=decide<|1<=n.2.2.2.2.2.2.2.2.2.1.length/\n.2.2.2.2.2.2.2.2.2.1.length<=4398046511103
def YV{p:Yd}{l:List iE}(f:p.b0=(l.length:Int))(n:l.length<=140737488355328):∀(j i:Nat),l.length-i=j->i<=l.length->aV (acb af) (.ak<|.c1 p i l) (p.b2.1,p.b2.2.1,p.b2.2.2,p.b3,p.b4,p.b5,p.b6,p.b7,p.b8,l,p.b9,p.b10):=by
 intro j
 induction j with
 | zero=>
   intro i m h;have:i=l.length:=by omega
   subst this;rw[aG,acb,f];exact(ap (by rw[bi];simp)).2 (.ret _)
 | succ j ih=>
   intro i m h;have c:i<l.length:=by omega
   rw[aG,acb,f];refine(ar (by rw[bi];exact cr<|by omega)).2 (au.2 ⟨cJ c,au.2 ⟨cJ c,?_⟩⟩);have e:(af.n kj l (i:Int):iE)=l[i]:=eO c _;have g:af.set l i (af.k nY (af.n kj l (i:Int):iE).1,(af.n kj l (i:Int):iE).2)=l:=by
    rw[e];show l.set (i:Int).toNat l[i]=l;rw[AT];exact List.set_getElem_self _
   rw[g,Hd (i:=i)<|by omega];exact ih (i+1) (by omega) (by omega)
def ax8{n:Node}(h:afb n=true):aV (acb af) (ao1 af n) n:=by
 have⟨c,f⟩:=of_decide_eq_true h;unfold ao1;refine au.2 ⟨by rw[bZ,dW];exact bne_iff_ne.2<|by omega,(ap (by rw[bg,dW];exact beq_eq_false_iff_ne.2<|by omega)).2<|au.2 ⟨by rw[aB,dW];exact cr<|by omega,?_⟩⟩;exact YV rfl (by omega) _ 0 rfl (by omega)
def KE:Node->Node:=λn=>n
def Ij:Node->Bool:=afb
def av9:aK:=⟨[gm],[gm],Ij,KE,false⟩
def aiS:Sd 46 av9:=aX ax dJ sl 62 [⟨46,4,[[1,2,19,20]]⟩] [] (λA n=>ao1 A n) acb ala (kz (fc func46 (fc func82 fz)) (sc EC sz)) (λA y=>match y with |.c0 p=>⟨29,sl,by kernel_rfl⟩|.c1 p b1 f=>⟨42,sl,by kernel_rfl⟩) λ(n:Node) c h=>ax8 c
structure Tg where(a0:Int)
inductive Tl where|c0(p:Tg)(a1:Int)(a2:Net)|c1(b0 b1:Int)(b2:Net)
noncomputable def ae9:Tl->gY
 | .c0 p a1 a2=>⟨[gW 311 19 [(0,.own 2),(1,.fn 267 [] [pZ 3]),(7,vi p.a0),(8,vi a1)] f311 52,E8 266 42 [(0,.own 2),(1,.fn 267 [] [pZ 3])] f266 6 2,Zr 214 22 [(1,iZ 0),(2,pZ 3),(14,pZ 0),(15,iZ 0),(19,pZ 0),(20,.ptr 0 21)] [.sD (ow f214 30) [0,0,0,0,12,1,33,127,255] 4 [7,8] [6,5,1,0]]],[CG a2 4 1 2 5 6 7,Cy a2,Cw a2,gZ [pZ 0],CB a2 8,bxB a2,CF a2,Cz a2,Cx a2,.a_]⟩
 | .c1 b0 b1 b2=>⟨[gW 266 42 [(0,.own 2),(1,.fn 267 [] [pZ 3]),(5,vi b0),(6,vi b1)] f266 244,Zr 214 22 [(1,iZ 0),(2,pZ 3),(14,pZ 0),(15,iZ 0),(19,pZ 0),(20,.ptr 0 21)] [.sD (ow f214 30) [0,0,0,0,12,1,33,127,255] 4 [7,8] [6,5,1,0]]],[CG b2 4 1 2 5 6 7,Cy b2,Cw b2,gZ [pZ 0],CB b2 8,bxB b2,CF b2,Cz b2,Cx b2,.a_]⟩
def nt(c:Net):List fC:=c.2.2.2.2.2.2.2.1
def IV(A:aS)(c:Net)(k:Int):LT (Net×Unit) Tl:=.br (A.jD (A.l c.2.2.2.2.2.2.2.1) 64) (.ak<|.c0 ⟨A.l c.2.2.2.2.2.2.2.1⟩ 0 c)<|.ret (c,())
def vJ(A:aS):Tl->LT (Net×Unit) Tl
 | .c0 p a1 a2=>.br (A.bo a1 p.a0) (.fP A a1 a2.2.2.2.2.2.2.2.1<|.ao (A.k rR (a2.2.2.2.2.2.1,()))<|.br (A.bo (A.n iC a2.2.2.2.2.2.2.2.1 a1:fC).2.1.2<|A.fD (A.k gL (a2.2.2.2.2.2.1,())).2<|A.b .mul .i64 3 a2.2.1.2.1) (.br (A.bq a1<|-1) (.ret (vn a2 (A.k gL (a2.2.2.2.2.2.1,())).1,()))<|.ak<|.c1 a1 (A.bJ a1 1)<|vn a2 (A.k gL (a2.2.2.2.2.2.1,())).1)<|.ak<|.c0 p (A.bJ a1 1)<|vn a2 (A.k gL (a2.2.2.2.2.2.1,())).1)<|.ret (a2,())
 | .c1 b0 b1 b2=>.br (A.bo b1<|A.l<|nt b2) (.fP A b1 (nt b2)<|.ao (A.k rR (b2.2.2.2.2.2.1,()))<|.br (A.not<|A.bo (A.n iC (nt b2) b1:fC).2.1.2<|A.fD (A.k gL (b2.2.2.2.2.2.1,())).2<|A.b .mul .i64 3 b2.2.1.2.1) (.fP A b0 (nt b2)<|.ak<|.c1 (A.bJ b0 1) (A.bJ b1 1)<|CH (vn b2 (A.k gL (b2.2.2.2.2.2.1,())).1)<|A.set (nt b2) b0 (A.n iC (nt b2) b1:fC))<|.ak<|.c1 b0 (A.bJ b1 1)<|vn b2 (A.k gL (b2.2.2.2.2.2.1,())).1)<|.ao (A.and (A.bE 0 b0)<|A.and (A.bE b0<|A.l<|nt b2)<|A.bE (A.l<|nt b2)<|A.l<|nt b2)<|.ao (A.and (A.bE 0 0)<|A.and (A.bE 0 b0)<|A.bE b0<|A.l<|A.spl (nt b2) b0<|A.r (A.fD (A.l<|nt b2) b0) (Ty.gy iC:fC))<|.ret (CH b2<|A.s (A.spl (nt b2) b0<|A.r (A.fD (A.l<|nt b2) b0) (Ty.gy iC:fC)) 0<|A.fD b0 0,())
def C_:Net×Int->Net×Unit:=λ(c,k)=>fA (vJ af) (IV af c k) (Ty.aR [jS],Ty.aR [])
def MW:Net×Int->Bool:=λ(c,k)=>(decide (k=0)&&fO (vJ af) (IV af c k))&&decide (VF.lens [fJ] (C_ (c,k)).1=VF.lens [fJ] ((c,k):Net×Int).1)
def amO:cH:=⟨[fJ],[yI],[],MW,C_,false,false⟩
def amM:cH.bI prog 214 amO:=wF ax dJ sl 57 [⟨266,5,[[0,1,5,6],[2,14,19,20,65537,65551]]⟩,⟨311,2,[[0,1,7,8],[0,1],[2,14,19,20,65537,65551]]⟩,⟨214,2000000,[]⟩] [] [some 0] (λA (c,k)=>IV A c k) vJ ae9 ⟨fc func214 (fc func266 (fc func267 (fc func311 fz))),sz,oz,iz,(mc Pj mz),pz⟩ (λA y=>match y with |.c0 p a1 a2=>⟨81,sl,by kernel_rfl⟩|.c1 b0 b1 b2=>⟨80,sl,by kernel_rfl⟩) (λ((c,k):Net×Int) f g h=>dN ((fZ _ _).mp ((fZ _ _).mp f).1).2) (v:=λ_ (y:Int) h=>⟨@of_decide_eq_true (y=0) _ ((fZ _ _).mp ((fZ _ _).mp h).1).1,trivial⟩) (z:=λ_ _ h=>Jv h)
structure Ti where(a0:Int)
inductive Tm where|c0(p:Ti)(a1:Int)(a2:Net)|c1(b0 b1:Int)(b2:Net)
noncomputable def ae_:Tm->gY
 | .c0 p a1 a2=>⟨[gW 311 19 [(0,.own 2),(1,.fn 267 [] [pZ 3]),(7,vi p.a0),(8,vi a1)] f311 52,E8 266 42 [(0,.own 2),(1,.fn 267 [] [pZ 3])] f266 6 2,Zr 214 22 [(1,iZ 1),(2,pZ 3),(14,pZ 0),(15,iZ 1),(19,pZ 0),(20,.ptr 0 21)] [.sD (ow f214 30) [0,0,0,0,12,1,33,127,255] 4 [7,8] [6,5,1,0]]],[CG a2 4 1 5 2 6 7,Cy a2,bxB a2,gZ [pZ 0],CB a2 8,Cw a2,CF a2,Cz a2,Cx a2,.a_]⟩
 | .c1 b0 b1 b2=>⟨[gW 266 42 [(0,.own 2),(1,.fn 267 [] [pZ 3]),(5,vi b0),(6,vi b1)] f266 244,Zr 214 22 [(1,iZ 1),(2,pZ 3),(14,pZ 0),(15,iZ 1),(19,pZ 0),(20,.ptr 0 21)] [.sD (ow f214 30) [0,0,0,0,12,1,33,127,255] 4 [7,8] [6,5,1,0]]],[CG b2 4 1 5 2 6 7,Cy b2,bxB b2,gZ [pZ 0],CB b2 8,Cw b2,CF b2,Cz b2,Cx b2,.a_]⟩
def nu(c:Net):List fC:=c.2.2.2.2.2.2.2.2.1
def IW(A:aS)(c:Net)(k:Int):LT (Net×Unit) Tm:=.br (A.jD (A.l c.2.2.2.2.2.2.2.2.1) 64) (.ak<|.c0 ⟨A.l c.2.2.2.2.2.2.2.2.1⟩ 0 c)<|.ret (c,())
def vK(A:aS):Tm->LT (Net×Unit) Tm
 | .c0 p a1 a2=>.br (A.bo a1 p.a0) (.fP A a1 a2.2.2.2.2.2.2.2.2.1<|.ao (A.k rR (a2.2.2.2.2.2.1,()))<|.br (A.bo (A.n iC a2.2.2.2.2.2.2.2.2.1 a1:fC).2.1.2<|A.fD (A.k gL (a2.2.2.2.2.2.1,())).2<|A.b .mul .i64 3 a2.2.1.2.1) (.br (A.bq a1<|-1) (.ret (vn a2 (A.k gL (a2.2.2.2.2.2.1,())).1,()))<|.ak<|.c1 a1 (A.bJ a1 1)<|vn a2 (A.k gL (a2.2.2.2.2.2.1,())).1)<|.ak<|.c0 p (A.bJ a1 1)<|vn a2 (A.k gL (a2.2.2.2.2.2.1,())).1)<|.ret (a2,())
 | .c1 b0 b1 b2=>.br (A.bo b1<|A.l<|nu b2) (.fP A b1 (nu b2)<|.ao (A.k rR (b2.2.2.2.2.2.1,()))<|.br (A.not<|A.bo (A.n iC (nu b2) b1:fC).2.1.2<|A.fD (A.k gL (b2.2.2.2.2.2.1,())).2<|A.b .mul .i64 3 b2.2.1.2.1) (.fP A b0 (nu b2)<|.ak<|.c1 (A.bJ b0 1) (A.bJ b1 1)<|yZ (vn b2 (A.k gL (b2.2.2.2.2.2.1,())).1)<|A.set (nu b2) b0 (A.n iC (nu b2) b1:fC))<|.ak<|.c1 b0 (A.bJ b1 1)<|vn b2 (A.k gL (b2.2.2.2.2.2.1,())).1)<|.ao (A.and (A.bE 0 b0)<|A.and (A.bE b0<|A.l<|nu b2)<|A.bE (A.l<|nu b2)<|A.l<|nu b2)<|.ao (A.and (A.bE 0 0)<|A.and (A.bE 0 b0)<|A.bE b0<|A.l<|A.spl (nu b2) b0<|A.r (A.fD (A.l<|nu b2) b0) (Ty.gy iC:fC))<|.ret (yZ b2<|A.s (A.spl (nu b2) b0<|A.r (A.fD (A.l<|nu b2) b0) (Ty.gy iC:fC)) 0<|A.fD b0 0,())
def Da:Net×Int->Net×Unit:=λ(c,k)=>fA (vK af) (IW af c k) (Ty.aR [jS],Ty.aR [])
def MX:Net×Int->Bool:=λ(c,k)=>(decide (k=1)&&fO (vK af) (IW af c k))&&decide (VF.lens [fJ] (Da (c,k)).1=VF.lens [fJ] ((c,k):Net×Int).1)
def amP:cH:=⟨[fJ],[yI],[],MX,Da,false,false⟩
def amN:cH.bI prog 214 amP:=wF ax dJ sl 57 [⟨266,5,[[0,1,5,6],[2,14,19,20,65537,65551]]⟩,⟨311,2,[[0,1,7,8],[0,1],[2,14,19,20,65537,65551]]⟩,⟨214,2000000,[]⟩] [] [some 1] (λA (c,k)=>IW A c k) vK ae_ ⟨fc func214 (fc func266 (fc func267 (fc func311 fz))),sz,oz,iz,(mc Pj mz),pz⟩ (λA y=>match y with |.c0 p a1 a2=>⟨81,sl,by kernel_rfl⟩|.c1 b0 b1 b2=>⟨80,sl,by kernel_rfl⟩) (λ((c,k):Net×Int) f g h=>dN ((fZ _ _).mp ((fZ _ _).mp f).1).2) (v:=λ_ (y:Int) h=>⟨@of_decide_eq_true (y=1) _ ((fZ _ _).mp ((fZ _ _).mp h).1).1,trivial⟩) (z:=λ_ _ h=>Jv h)
def rD:Net×Int->Net×Unit:=λx=>bif decide (x.2=0) then C_ x else Da x
def qV:Net×Int->Bool:=λx=>bif decide (x.2=0) then MW x else MX x
def arx:cH:=⟨[fJ],[yI],[],qV,rD,false,false⟩
def ail:cH.bI prog 214 arx:=(amM.either amN)
structure CK where(a0:Int)(a2:Net)(a3 a4 a5:Int)(a6:List Int)(a7:Int)(a8:Bool)(a9 jd:fB)(E5:Int)
structure FI where(b0:Int)(b2:Bool)(b3:Net)(b4 b5 b6:Int)(b7:List Int)(b8:Int)(b9:Bool)(b10 b11:fB)(LG:Int)(E6:fC)
structure FJ where(c0:Int)(c1:Bool)(c2:Net)(c3 c4 c5:Int)(c6:List Int)(c7:Int)(c8:Bool)(c9 c10:fB)(c11 c12 c13:Int)
structure xj where(d0:Int)(d1 d2:Bool)(d3:Net)(d4 d5 d6:Int)(d7:List Int)(d8:Int)(d9:Bool)(Y1 d11:fB)(d12 QO d14:Int)(A_:fC)
inductive aeQ where|c0(p:CK)|c1(p:FI)|c2(p:FJ)|c3(p:xj)
noncomputable def alh:aeQ->gY
 | .c0 p=>⟨[Ac 157 80 [(0,pZ 0),(1,vi p.a0),(3,.fn 158 [] [pZ 2,pZ 3,pZ 4,pZ 5,pZ 6,pZ 7,pZ 8]),(6,pZ 9),(8,pZ 10),(9,vb false),(15,iZ 0)] f157 7832,⟨103,91,.leaf,[.ops (ow f103 1023)<|(ow f103 1023).toList.drop 4],[],none⟩],[CG p.a2 11 1 12 13 14 15,Cy p.a2,vZ p.a3,vZ p.a4,gZ [vi p.a5,.sl yU p.a6],vZ p.a7,gZ [vb p.a8],gZ [pZ 0],dZ iB p.a9,dZ iB p.jd,gZ [vi 0,vi 0,vi p.E5],CB p.a2 16,Cw p.a2,bxB p.a2,CF p.a2,Cz p.a2,Cx p.a2,.a_]⟩
 | .c1 p=>⟨[Ac 157 80 [(0,pZ 0),(1,vi p.b0),(3,.fn 158 [] [pZ 2,pZ 3,pZ 4,pZ 5,pZ 6,pZ 7,pZ 8]),(6,pZ 9),(8,pZ 10),(9,vb false),(10,iZ 0),(11,pZ 11),(12,vb p.b2),(15,iZ 0)] f157 62668,⟨103,91,.leaf,[.ops (ow f103 1023)<|(ow f103 1023).toList.drop 4],[],none⟩],[CG p.b3 12 1 13 14 15 16,Cy p.b3,vZ p.b4,vZ p.b5,gZ [vi p.b6,.sl yU p.b7],vZ p.b8,gZ [vb p.b9],gZ [pZ 0],dZ iB p.b10,dZ iB p.b11,gZ [vi 0,vi 0,vi p.LG],dZ iC p.E6,CB p.b3 17,Cw p.b3,bxB p.b3,CF p.b3,Cz p.b3,Cx p.b3,.a_]⟩
 | .c2 p=>⟨[Ac 157 80 [(0,pZ 0),(1,vi p.c0),(3,.fn 158 [] [pZ 2,pZ 3,pZ 4,pZ 5,pZ 6,pZ 7,pZ 8]),(6,pZ 9),(8,pZ 10),(9,vb p.c1),(15,iZ 1)] f157 7832,⟨103,91,.leaf,[.ops (ow f103 1023)<|(ow f103 1023).toList.drop 4],[],none⟩],[CG p.c2 11 1 12 13 14 15,Cy p.c2,vZ p.c3,vZ p.c4,gZ [vi p.c5,.sl yU p.c6],vZ p.c7,gZ [vb p.c8],gZ [pZ 0],dZ iB p.c9,dZ iB p.c10,gZ [vi p.c11,vi p.c12,vi p.c13],CB p.c2 16,Cw p.c2,bxB p.c2,CF p.c2,Cz p.c2,Cx p.c2,.a_]⟩
 | .c3 p=>⟨[Ac 157 80 [(0,pZ 0),(1,vi p.d0),(3,.fn 158 [] [pZ 2,pZ 3,pZ 4,pZ 5,pZ 6,pZ 7,pZ 8]),(6,pZ 9),(8,pZ 10),(9,vb p.d1),(10,iZ 1),(11,pZ 11),(12,vb p.d2),(15,iZ 1)] f157 62668,⟨103,91,.leaf,[.ops (ow f103 1023)<|(ow f103 1023).toList.drop 4],[],none⟩],[CG p.d3 12 1 13 14 15 16,Cy p.d3,vZ p.d4,vZ p.d5,gZ [vi p.d6,.sl yU p.d7],vZ p.d8,gZ [vb p.d9],gZ [pZ 0],dZ iB p.Y1,dZ iB p.d11,gZ [vi p.d12,vi p.QO,vi p.d14],dZ iC p.A_,CB p.d3 17,Cw p.d3,bxB p.d3,CF p.d3,Cz p.d3,Cx p.d3,.a_]⟩
def q_(A:aS)(c:Net)(i:Int):Span:=(A.k vA (c.2.1,(A.n bS c.2.2.2.2.2.2.1 i:cN).2.1))
def NO(A:aS)(p:CK):Net×Int×fB×Int×Span×Int×Int×List Int:=(p.a2,p.a0,p.jd,p.a3,(p.a4,A.bJ p.a4<|A.k mF p.a5),p.a7,0,([]:List Int))
def Je(A:aS)(p:CK):Net×Int×fB×Int×Span×Int×Int×List Int:=(p.a2,p.a0,p.jd,p.a3,(p.a4,A.bJ p.a4<|A.k mF p.a5),p.a7,p.a5,p.a6)
def AO(A:aS)(p:CK):Net×(fC×Bool):=(A.k gq<|NO A p)
def SU(A:aS)(p:FI):Span:=(A.bJ p.E6.2.1.1 p.b3.2.1.2.2.2.2.2.1,A.bJ p.E6.2.1.2 p.b3.2.1.2.2.2.2.2.1)
def NP(A:aS)(p:FI):List fC:=(A.p p.b3.2.2.2.2.2.2.2.1 ([(zm p.E6<|SU A p)]:List fC))
def NQ(A:aS)(p:FJ):Net×Int×fB×Int×Span×Int×Int×List Int:=(p.c2,p.c0,p.c10,p.c3,(p.c4,A.bJ p.c4<|A.k mF p.c5),p.c7,0,([]:List Int))
def Jf(A:aS)(p:FJ):Net×Int×fB×Int×Span×Int×Int×List Int:=(p.c2,p.c0,p.c10,p.c3,(p.c4,A.bJ p.c4<|A.k mF p.c5),p.c7,p.c5,p.c6)
def AP(A:aS)(p:FJ):Net×(fC×Bool):=(A.k gq<|NQ A p)
def AQ(A:aS)(p:xj):Span:=(A.bJ p.A_.2.1.1 p.d3.2.1.2.2.2.2.2.1,A.bJ p.A_.2.1.2 p.d3.2.1.2.2.2.2.2.1)
def Cj(A:aS)(p:xj):Net:=(A.k rD (yZ p.d3<|A.p p.d3.2.2.2.2.2.2.2.2.1 ([(zm p.A_<|AQ A p)]:List fC),1)).1
def Ck(A:aS)(p:xj):List tg:=(A.p (Cj A p).2.2.2.2.2.2.2.2.2.1 ([(AQ A p,p.d14)]:List tg))
def yW(A:aS)(p:xj):List tg:=(A.p p.d3.2.2.2.2.2.2.2.2.2.1 ([((p.d12,p.QO),p.d14)]:List tg))
def Ft(A:aS)(p:xj):Net×Int×Int×Int×Int:=(Qq (Cj A p)<|Ck A p,A.bJ p.A_.2.1.2 p.d3.2.1.2.2.2.2.2.1,3,0,A.fD (A.l<|Ck A p) 1)
def W0(A:aS)(g:Net)(i:Int)(f:sS)(c:fB):LT (Net×Unit) aeQ:=.ao (A.k jy (jF g (),3,i,c))<|.br (A.k dV (jF g (),3,i,c)).2 (.ret (g,()))<|.fP A i g.2.2.2.2.2.2.1<|.br (A.cm (A.k Ae f).2 0) (.ret (g,()))<|.br (A.cm (q_ A g i).2 0) (.ret (g,()))<|.ao (A.k jy (jF g (),7,i,c))<|.br (A.k dV (jF g (),7,i,c)).2 (.ao (A.k jy (jF g (),8,i,c))<|.br (A.k dV (jF g (),8,i,c)).2 (.ao (A.k jy (jF g (),4,i,c))<|.ak<|.c0 ⟨i,g,i,A.mx (A.bJ (q_ A g i).1 (A.k dV (jF g (),8,i,c)).1.2.2.2.2.2.1) 0,(A.k Ae f).1.1,(A.k Ae f).1.2,(A.k dV (jF g (),7,i,c)).1.2.2.2.2.2.1,(A.k dV (jF g (),4,i,c)).2,c,c,i⟩)<|.ao (A.k jy (jF g (),4,i,c))<|.ak<|.c0 ⟨i,g,i,(q_ A g i).1,(A.k Ae f).1.1,(A.k Ae f).1.2,(A.k dV (jF g (),7,i,c)).1.2.2.2.2.2.1,(A.k dV (jF g (),4,i,c)).2,c,c,i⟩)<|.ao (A.k jy (jF g (),8,i,c))<|.br (A.k dV (jF g (),8,i,c)).2 (.ao (A.k jy (jF g (),4,i,c))<|.ak<|.c0 ⟨i,g,i,A.mx (A.bJ (q_ A g i).1 (A.k dV (jF g (),8,i,c)).1.2.2.2.2.2.1) 0,(A.k Ae f).1.1,(A.k Ae f).1.2,100,(A.k dV (jF g (),4,i,c)).2,c,c,i⟩)<|.ao (A.k jy (jF g (),4,i,c))<|.ak<|.c0 ⟨i,g,i,(q_ A g i).1,(A.k Ae f).1.1,(A.k Ae f).1.2,100,(A.k dV (jF g (),4,i,c)).2,c,c,i⟩
def u_(A:aS):aeQ->LT (Net×Unit) aeQ
 | .c0 p=>.br p.a8 (.ao (A.k nG<|NO A p)<|.qI A p.a2.2.2.2.2.2.2.1<|.ak<|.c1 ⟨p.a0,(AO A p).2.2,(AO A p).1,p.a3,p.a4,p.a5,p.a6,p.a7,p.a8,p.a9,p.jd,p.E5,(AO A p).2.1⟩)<|.ao (A.k Io (jF p.a2 (),0,p.a9))<|.br (A.k Ud (jF p.a2 (),0,p.a9)) (.ao (A.k nG<|NO A p)<|.qI A p.a2.2.2.2.2.2.2.1<|.ak<|.c1 ⟨p.a0,(AO A p).2.2,(AO A p).1,p.a3,p.a4,p.a5,p.a6,p.a7,p.a8,p.a9,p.jd,p.E5,(AO A p).2.1⟩)<|.ao (A.k nG<|Je A p)<|.qI A p.a2.2.2.2.2.2.2.1<|.ak<|.c1 ⟨p.a0,(A.k gq<|Je A p).2.2,(A.k gq<|Je A p).1,p.a3,p.a4,p.a5,p.a6,p.a7,p.a8,p.a9,p.jd,p.E5,(A.k gq<|Je A p).2.1⟩
 | .c1 p=>.br (A.not p.b2) (.ak<|.c2 ⟨p.b0,false,p.b3,p.b4,p.b5,p.b6,p.b7,p.b8,p.b9,p.b10,p.b11,0,0,p.LG⟩)<|.ao (A.bE (A.l<|NP A p) 2199023255552)<|.ao (A.k qV (CH p.b3<|NP A p,0))<|.qI A p.b3.2.2.2.2.2.2.1<|.ak<|.c2 ⟨p.b0,true,(A.k rD (CH p.b3<|NP A p,0)).1,p.b4,p.b5,p.b6,p.b7,p.b8,p.b9,p.b10,p.b11,A.bJ p.E6.2.1.1 p.b3.2.1.2.2.2.2.2.1,A.bJ p.E6.2.1.2 p.b3.2.1.2.2.2.2.2.1,p.LG⟩
 | .c2 p=>.br p.c8 (.ao (A.k nG<|NQ A p)<|.qI A p.c2.2.2.2.2.2.2.1<|.ak<|.c3 ⟨p.c0,p.c1,(AP A p).2.2,(AP A p).1,p.c3,p.c4,p.c5,p.c6,p.c7,p.c8,p.c9,p.c10,p.c11,p.c12,p.c13,(AP A p).2.1⟩)<|.ao (A.k Io (jF p.c2 (),1,p.c9))<|.br (A.k Ud (jF p.c2 (),1,p.c9)) (.ao (A.k nG<|NQ A p)<|.qI A p.c2.2.2.2.2.2.2.1<|.ak<|.c3 ⟨p.c0,p.c1,(AP A p).2.2,(AP A p).1,p.c3,p.c4,p.c5,p.c6,p.c7,p.c8,p.c9,p.c10,p.c11,p.c12,p.c13,(AP A p).2.1⟩)<|.ao (A.k nG<|Jf A p)<|.qI A p.c2.2.2.2.2.2.2.1<|.ak<|.c3 ⟨p.c0,p.c1,(A.k gq<|Jf A p).2.2,(A.k gq<|Jf A p).1,p.c3,p.c4,p.c5,p.c6,p.c7,p.c8,p.c9,p.c10,p.c11,p.c12,p.c13,(A.k gq<|Jf A p).2.1⟩
 | .c3 p=>.br (A.not p.d2) (.br p.d1 (.ao (A.bE (A.l<|yW A p) 5864062014805)<|.ao (A.k qf (Qq p.d3<|yW A p,p.QO,3,0,A.fD (A.l<|yW A p) 1))<|.qI A p.d3.2.2.2.2.2.2.1<|.ret ((A.k tF (Qq p.d3<|yW A p,p.QO,3,0,A.fD (A.l<|yW A p) 1)).1,()))<|.ret (p.d3,()))<|.ao (A.bE (A.l<|A.p p.d3.2.2.2.2.2.2.2.2.1 ([(zm p.A_<|AQ A p)]:List fC)) 2199023255552)<|.ao (A.k qV (yZ p.d3<|A.p p.d3.2.2.2.2.2.2.2.2.1 ([(zm p.A_<|AQ A p)]:List fC),1))<|.qI A p.d3.2.2.2.2.2.2.1<|.ao (A.bE (A.l<|Ck A p) 5864062014805)<|.ao (A.k qf<|Ft A p)<|.qI A (Cj A p).2.2.2.2.2.2.1<|.ret ((A.k tF<|Ft A p).1,())
def xK:Net×(Int×sS×fB)->Net×Unit:=λ(g,(i,f,c))=>fA (u_ af) (W0 af g i f c) (Ty.aR [jS],Ty.aR [])
def Dm:Net×(Int×sS×fB)->Bool:=λ(g,(i,f,c))=>fO (u_ af) (W0 af g i f c)&&decide (VF.lens [fJ] (xK (g,(i,f,c))).1=VF.lens [fJ] ((g,(i,f,c)):Net×(Int×sS×fB)).1)
def arn:cH:=⟨[fJ],[yI,Jn,iB],[],Dm,xK,false,false⟩
def aii:cH.bI prog 103 arn:=bV ax dJ (.jf [0,0,0,1]) 187 [] [⟨157,5,[[0,1,3,6,8,9,65551],[]]⟩,⟨157,7,[[0,1,3,6,8,9,11,12,65546,65551],[]]⟩] (λA (g,(i,f,c))=>W0 A g i f c) u_ alh ⟨fc func103 (fc func157 (fc func158 (fc func213 fz))),(sc as2 (sc U5 (sc aiW sz))),oz,iz,(mc aa1 (mc aik (mc ail mz))),(pc Pz (pc arT pz))⟩ (λA y=>match y with |.c0 p=>⟨85,sl,by kernel_rfl⟩|.c1 p=>⟨102,sl,by kernel_rfl⟩|.c2 p=>⟨85,sl,by kernel_rfl⟩|.c3 p=>⟨133,sl,by kernel_rfl⟩) (λ((g,(i,f,c)):Net×(Int×sS×fB)) j l h=>JW j) (z:=λ_ _ h=>Jv h)
structure Ls where(a0 a2:Int)(a3:Net)(a4 a5:Int)(a6:bK)(a7:fB)(jd:Int)(lq:fB)
structure FL where(b0 b2:Int)(b3:Net)(b4 b5 b6:Int)(b7:List Int)(b8:fB)(b11:Int)(b12:fB)
structure Lt where(c0:Int)(c2:Bool)(c3:Int)(c4:Net)(c5 c6:Int)(c7:bK)(c8:fB)(c11:Int)(c12:fC)(c13:fB)
structure Lu where(d0:Int)(d2:Bool)(d3:Int)(d4:Net)(d5 d6 d7:Int)(d8:List Int)(d9:fB)(d12:Int)(QO:fC)(d14:fB)
structure Lv where(e0:Int)(e1:Bool)(e2:Int)(e3:Net)(e4 e5:Int)(e6:bK)(e7:fB)(e8 e9 e10:Int)(e11:fB)
structure Lx where(f0:Int)(f1:Bool)(f2:Int)(f3:Net)(f4 f5 f6:Int)(f7:List Int)(f8:fB)(f9 f10 f11:Int)(f12:fB)
structure pR where(g0:Int)(g1 g2:Bool)(g3:Int)(g4:Net)(g5 g6:Int)(g7:bK)(g8:fB)(g9 g10 g11:Int)(g12:fC)(g13:fB)
structure xk where(h0:Int)(h1 h2:Bool)(h3:Int)(h4:Net)(h5 h6 h7:Int)(h8:List Int)(h9:fB)(h10 h11 h12:Int)(h13:fC)(h14:fB)
inductive aeS where|c0(p:Ls)|c1(p:FL)|c2(p:Lt)|c3(p:Lu)|c4(p:Lv)|c5(p:Lx)|c6(p:pR)|c7(p:xk)
noncomputable def alj:aeS->gY
 | .c0 p=>⟨[Ac 157 80 [(0,pZ 0),(1,vi p.a0),(3,.fn 169 [] [pZ 2,pZ 3,pZ 4]),(6,pZ 5),(8,pZ 6),(9,vb false),(15,iZ 0)] f157 7832,E8 109 84 [(0,pZ 0),(4,pZ 2),(5,pZ 7),(6,.lu 1 p.a2 0)] f109 237 4],[CG p.a3 8 1 9 10 11 12,Cy p.a3,vZ p.a4,vZ p.a5,dZ bQ p.a6,dZ iB p.a7,gZ [vi 0,vi 0,vi p.jd],dZ iB p.lq,CB p.a3 13,Cw p.a3,bxB p.a3,CF p.a3,Cz p.a3,Cx p.a3,.a_]⟩
 | .c1 p=>⟨[Ac 157 80 [(0,pZ 0),(1,vi p.b0),(3,.fn 170 [] [pZ 2,pZ 3,pZ 4]),(6,pZ 5),(8,pZ 6),(9,vb false),(15,iZ 0)] f157 7832,fDZ 109 84 [(0,pZ 0),(4,pZ 2),(5,pZ 7),(6,.lu 1 p.b2 0)] f109 255 4],[CG p.b3 8 1 9 10 11 12,Cy p.b3,vZ p.b4,vZ p.b5,gZ [vi p.b6,.sl yU p.b7],dZ iB p.b8,gZ [vi 0,vi 0,vi p.b11],dZ iB p.b12,CB p.b3 13,Cw p.b3,bxB p.b3,CF p.b3,Cz p.b3,Cx p.b3,.a_]⟩
 | .c2 p=>⟨[Ac 157 80 [(0,pZ 0),(1,vi p.c0),(3,.fn 169 [] [pZ 2,pZ 3,pZ 4]),(6,pZ 5),(8,pZ 6),(9,vb false),(10,iZ 0),(11,pZ 7),(12,vb p.c2),(15,iZ 0)] f157 62668,E8 109 84 [(0,pZ 0),(4,pZ 2),(5,pZ 8),(6,.lu 1 p.c3 0)] f109 237 4],[CG p.c4 9 1 10 11 12 13,Cy p.c4,vZ p.c5,vZ p.c6,dZ bQ p.c7,dZ iB p.c8,gZ [vi 0,vi 0,vi p.c11],dZ iC p.c12,dZ iB p.c13,CB p.c4 14,Cw p.c4,bxB p.c4,CF p.c4,Cz p.c4,Cx p.c4,.a_]⟩
 | .c3 p=>⟨[Ac 157 80 [(0,pZ 0),(1,vi p.d0),(3,.fn 170 [] [pZ 2,pZ 3,pZ 4]),(6,pZ 5),(8,pZ 6),(9,vb false),(10,iZ 0),(11,pZ 7),(12,vb p.d2),(15,iZ 0)] f157 62668,fDZ 109 84 [(0,pZ 0),(4,pZ 2),(5,pZ 8),(6,.lu 1 p.d3 0)] f109 255 4],[CG p.d4 9 1 10 11 12 13,Cy p.d4,vZ p.d5,vZ p.d6,gZ [vi p.d7,.sl yU p.d8],dZ iB p.d9,gZ [vi 0,vi 0,vi p.d12],dZ iC p.QO,dZ iB p.d14,CB p.d4 14,Cw p.d4,bxB p.d4,CF p.d4,Cz p.d4,Cx p.d4,.a_]⟩
 | .c4 p=>⟨[Ac 157 80 [(0,pZ 0),(1,vi p.e0),(3,.fn 169 [] [pZ 2,pZ 3,pZ 4]),(6,pZ 5),(8,pZ 6),(9,vb p.e1),(15,iZ 1)] f157 7832,E8 109 84 [(0,pZ 0),(4,pZ 2),(5,pZ 7),(6,.lu 1 p.e2 0)] f109 237 4],[CG p.e3 8 1 9 10 11 12,Cy p.e3,vZ p.e4,vZ p.e5,dZ bQ p.e6,dZ iB p.e7,gZ [vi p.e8,vi p.e9,vi p.e10],dZ iB p.e11,CB p.e3 13,Cw p.e3,bxB p.e3,CF p.e3,Cz p.e3,Cx p.e3,.a_]⟩
 | .c5 p=>⟨[Ac 157 80 [(0,pZ 0),(1,vi p.f0),(3,.fn 170 [] [pZ 2,pZ 3,pZ 4]),(6,pZ 5),(8,pZ 6),(9,vb p.f1),(15,iZ 1)] f157 7832,fDZ 109 84 [(0,pZ 0),(4,pZ 2),(5,pZ 7),(6,.lu 1 p.f2 0)] f109 255 4],[CG p.f3 8 1 9 10 11 12,Cy p.f3,vZ p.f4,vZ p.f5,gZ [vi p.f6,.sl yU p.f7],dZ iB p.f8,gZ [vi p.f9,vi p.f10,vi p.f11],dZ iB p.f12,CB p.f3 13,Cw p.f3,bxB p.f3,CF p.f3,Cz p.f3,Cx p.f3,.a_]⟩
 | .c6 p=>⟨[Ac 157 80 [(0,pZ 0),(1,vi p.g0),(3,.fn 169 [] [pZ 2,pZ 3,pZ 4]),(6,pZ 5),(8,pZ 6),(9,vb p.g1),(10,iZ 1),(11,pZ 7),(12,vb p.g2),(15,iZ 1)] f157 62668,E8 109 84 [(0,pZ 0),(4,pZ 2),(5,pZ 8),(6,.lu 1 p.g3 0)] f109 237 4],[CG p.g4 9 1 10 11 12 13,Cy p.g4,vZ p.g5,vZ p.g6,dZ bQ p.g7,dZ iB p.g8,gZ [vi p.g9,vi p.g10,vi p.g11],dZ iC p.g12,dZ iB p.g13,CB p.g4 14,Cw p.g4,bxB p.g4,CF p.g4,Cz p.g4,Cx p.g4,.a_]⟩
 | .c7 p=>⟨[Ac 157 80 [(0,pZ 0),(1,vi p.h0),(3,.fn 170 [] [pZ 2,pZ 3,pZ 4]),(6,pZ 5),(8,pZ 6),(9,vb p.h1),(10,iZ 1),(11,pZ 7),(12,vb p.h2),(15,iZ 1)] f157 62668,fDZ 109 84 [(0,pZ 0),(4,pZ 2),(5,pZ 8),(6,.lu 1 p.h3 0)] f109 255 4],[CG p.h4 9 1 10 11 12 13,Cy p.h4,vZ p.h5,vZ p.h6,gZ [vi p.h7,.sl yU p.h8],dZ iB p.h9,gZ [vi p.h10,vi p.h11,vi p.h12],dZ iC p.h13,dZ iB p.h14,CB p.h4 14,Cw p.h4,bxB p.h4,CF p.h4,Cz p.h4,Cx p.h4,.a_]⟩
def NR(A:aS)(f:Net)(i:Int)(c:fB):Bits×Int:=(A.k Ae (1,0,(0,0,0,0,0),(A.k dV (jF f (),10,i,c)).1.2.2.2.2.2.1,([]:List Int)))
def Jh(A:aS)(p:Ls):Net×Int×fB×Int×Span×Int×Int×List Int:=(p.a3,p.a0,p.a7,p.a4,(p.a5,A.bJ p.a5 p.a6.2.2.2.2.2.2),100,0,([]:List Int))
def Ji(A:aS)(p:FL):Net×Int×fB×Int×Span×Int×Int×List Int:=(p.b3,p.b0,p.b8,p.b4,(p.b5,A.bJ p.b5<|A.k mF p.b6),100,p.b6,p.b7)
def adO(A:aS)(p:Lt):Span:=(A.bJ p.c12.2.1.1 p.c4.2.1.2.2.2.2.2.1,A.bJ p.c12.2.1.2 p.c4.2.1.2.2.2.2.2.1)
def S7(A:aS)(p:Lt):List fC:=(A.p p.c4.2.2.2.2.2.2.2.1 ([(zm p.c12<|adO A p)]:List fC))
def adP(A:aS)(p:Lu):Span:=(A.bJ p.QO.2.1.1 p.d4.2.1.2.2.2.2.2.1,A.bJ p.QO.2.1.2 p.d4.2.1.2.2.2.2.2.1)
def S8(A:aS)(p:Lu):List fC:=(A.p p.d4.2.2.2.2.2.2.2.1 ([(zm p.QO<|adP A p)]:List fC))
def NW(A:aS)(p:Lv):Net×Int×fB×Int×Span×Int×Int×List Int:=(p.e3,p.e0,p.e7,p.e4,(p.e5,A.bJ p.e5 p.e6.2.2.2.2.2.2),100,0,([]:List Int))
def NY(A:aS)(p:Lx):Net×Int×fB×Int×Span×Int×Int×List Int:=(p.f3,p.f0,p.f8,p.f4,(p.f5,A.bJ p.f5<|A.k mF p.f6),100,p.f6,p.f7)
def yX(A:aS)(p:pR):Span:=(A.bJ p.g12.2.1.1 p.g4.2.1.2.2.2.2.2.1,A.bJ p.g12.2.1.2 p.g4.2.1.2.2.2.2.2.1)
def uM(A:aS)(p:pR):List fC:=(A.p p.g4.2.2.2.2.2.2.2.2.1 ([(zm p.g12<|yX A p)]:List fC))
def S9(A:aS)(p:pR):Net×Int×Int×Int×Int:=(Qq (A.k rD (yZ p.g4<|uM A p,1)).1<|A.p (A.k rD (yZ p.g4<|uM A p,1)).1.2.2.2.2.2.2.2.2.2.1 ([(yX A p,p.g11)]:List tg),A.bJ p.g12.2.1.2 p.g4.2.1.2.2.2.2.2.1,3,0,A.fD (A.l<|A.p (A.k rD (yZ p.g4<|uM A p,1)).1.2.2.2.2.2.2.2.2.2.1 ([(yX A p,p.g11)]:List tg)) 1)
def Cm(A:aS)(p:pR):List tg:=(A.p p.g4.2.2.2.2.2.2.2.2.2.1 ([((p.g9,p.g10),p.g11)]:List tg))
def sP(A:aS)(p:pR):Net:=(A.k tF (Qq p.g4<|Cm A p,p.g10,3,0,A.fD (A.l<|Cm A p) 1)).1
def rh(A:aS)(p:pR):Net:=(A.k tF<|S9 A p).1
def Fu(A:aS)(p:pR):Bits×Int:=(A.k Ae (1,0,(0,0,0,0,0),(A.k dV (jF (rh A p) (),10,p.g5,p.g13)).1.2.2.2.2.2.1,([]:List Int)))
def NS(A:aS)(p:pR):Bits×Int:=(A.k Ae (1,0,(0,0,0,0,0),(A.k dV (jF (sP A p) (),10,p.g5,p.g13)).1.2.2.2.2.2.1,([]:List Int)))
def NT(A:aS)(p:pR):Bits×Int:=(A.k Ae (1,0,(0,0,0,0,0),(A.k dV (jF p.g4 (),10,p.g5,p.g13)).1.2.2.2.2.2.1,([]:List Int)))
def Vl(A:aS)(p:pR):Span:=(A.k vA ((sP A p).2.1,(A.n bS (sP A p).2.2.2.2.2.2.1 p.g3:cN).2.1))
def NU(A:aS)(p:pR):Span:=(A.k vA ((rh A p).2.1,(A.n bS (rh A p).2.2.2.2.2.2.1 p.g3:cN).2.1))
def yY(A:aS)(p:xk):Span:=(A.bJ p.h13.2.1.1 p.h4.2.1.2.2.2.2.2.1,A.bJ p.h13.2.1.2 p.h4.2.1.2.2.2.2.2.1)
def Fv(A:aS)(p:xk):Net:=(A.k rD (yZ p.h4<|A.p p.h4.2.2.2.2.2.2.2.2.1 ([(zm p.h13<|yY A p)]:List fC),1)).1
def Fw(A:aS)(p:xk):List tg:=(A.p (Fv A p).2.2.2.2.2.2.2.2.2.1 ([(yY A p,p.h12)]:List tg))
def Cn(A:aS)(p:xk):List tg:=(A.p p.h4.2.2.2.2.2.2.2.2.2.1 ([((p.h10,p.h11),p.h12)]:List tg))
def NV(A:aS)(p:xk):Net×Int×Int×Int×Int:=(Qq (Fv A p)<|Fw A p,A.bJ p.h13.2.1.2 p.h4.2.1.2.2.2.2.2.1,3,0,A.fD (A.l<|Fw A p) 1)
def NB(A:aS)(f:Net)(i:Int)(c:fB):LT (Net×Unit) aeS:=.fP A i f.2.2.2.2.2.2.1<|.ao (A.k jy (jF f (),9,i,c))<|.br (A.k dV (jF f (),9,i,c)).2 (.ak<|.c0 ⟨i,i,f,i,A.bJ (A.n bS f.2.2.2.2.2.2.1 i:cN).2.1.1 (A.k dV (jF f (),9,i,c)).1.2.2.2.2.2.1,(A.k dV (jF f (),9,i,c)).1,c,i,c⟩)<|.ao (A.k jy (jF f (),10,i,c))<|.br (A.not (A.k dV (jF f (),10,i,c)).2) (.ret (f,()))<|.br (A.cm (A.k vA (f.2.1,(A.n bS f.2.2.2.2.2.2.1 i:cN).2.1)).2 0) (.ret (f,()))<|.br (A.cm (NR A f i c).2 0) (.ret (f,()))<|.ak<|.c1 ⟨i,i,f,i,(A.k vA (f.2.1,(A.n bS f.2.2.2.2.2.2.1 i:cN).2.1)).1,(NR A f i c).1.1,(NR A f i c).1.2,c,i,c⟩
def lX(A:aS):aeS->LT (Net×Unit) aeS
 | .c0 p=>.ao (A.k nG<|Jh A p)<|.qI A p.a3.2.2.2.2.2.2.1<|.ak<|.c2 ⟨p.a0,(A.k gq<|Jh A p).2.2,p.a2,(A.k gq<|Jh A p).1,p.a4,p.a5,p.a6,p.a7,p.jd,(A.k gq<|Jh A p).2.1,p.lq⟩
 | .c1 p=>.ao (A.k nG<|Ji A p)<|.qI A p.b3.2.2.2.2.2.2.1<|.ak<|.c3 ⟨p.b0,(A.k gq<|Ji A p).2.2,p.b2,(A.k gq<|Ji A p).1,p.b4,p.b5,p.b6,p.b7,p.b8,p.b11,(A.k gq<|Ji A p).2.1,p.b12⟩
 | .c2 p=>.br (A.not p.c2) (.ak<|.c4 ⟨p.c0,false,p.c3,p.c4,p.c5,p.c6,p.c7,p.c8,0,0,p.c11,p.c13⟩)<|.ao (A.bE (A.l<|S7 A p) 2199023255552)<|.ao (A.k qV (CH p.c4<|S7 A p,0))<|.qI A p.c4.2.2.2.2.2.2.1<|.ak<|.c4 ⟨p.c0,true,p.c3,(A.k rD (CH p.c4<|S7 A p,0)).1,p.c5,p.c6,p.c7,p.c8,A.bJ p.c12.2.1.1 p.c4.2.1.2.2.2.2.2.1,A.bJ p.c12.2.1.2 p.c4.2.1.2.2.2.2.2.1,p.c11,p.c13⟩
 | .c3 p=>.br (A.not p.d2) (.ak<|.c5 ⟨p.d0,false,p.d3,p.d4,p.d5,p.d6,p.d7,p.d8,p.d9,0,0,p.d12,p.d14⟩)<|.ao (A.bE (A.l<|S8 A p) 2199023255552)<|.ao (A.k qV (CH p.d4<|S8 A p,0))<|.qI A p.d4.2.2.2.2.2.2.1<|.ak<|.c5 ⟨p.d0,true,p.d3,(A.k rD (CH p.d4<|S8 A p,0)).1,p.d5,p.d6,p.d7,p.d8,p.d9,A.bJ p.QO.2.1.1 p.d4.2.1.2.2.2.2.2.1,A.bJ p.QO.2.1.2 p.d4.2.1.2.2.2.2.2.1,p.d12,p.d14⟩
 | .c4 p=>.ao (A.k nG<|NW A p)<|.qI A p.e3.2.2.2.2.2.2.1<|.ak<|.c6 ⟨p.e0,p.e1,(A.k gq<|NW A p).2.2,p.e2,(A.k gq<|NW A p).1,p.e4,p.e5,p.e6,p.e7,p.e8,p.e9,p.e10,(A.k gq<|NW A p).2.1,p.e11⟩
 | .c5 p=>.ao (A.k nG<|NY A p)<|.qI A p.f3.2.2.2.2.2.2.1<|.ak<|.c7 ⟨p.f0,p.f1,(A.k gq<|NY A p).2.2,p.f2,(A.k gq<|NY A p).1,p.f4,p.f5,p.f6,p.f7,p.f8,p.f9,p.f10,p.f11,(A.k gq<|NY A p).2.1,p.f12⟩
 | .c6 p=>.br (A.not p.g2) (.br p.g1 (.ao (A.bE (A.l<|Cm A p) 5864062014805)<|.ao (A.k qf (Qq p.g4<|Cm A p,p.g10,3,0,A.fD (A.l<|Cm A p) 1))<|.qI A p.g4.2.2.2.2.2.2.1<|.ao (A.k jy (jF (sP A p) (),10,p.g5,p.g13))<|.br (A.not (A.k dV (jF (sP A p) (),10,p.g5,p.g13)).2) (.ret (sP A p,()))<|.br (A.cm (Vl A p).2 0) (.ret (sP A p,()))<|.br (A.cm (NS A p).2 0) (.ret (sP A p,()))<|.ak<|.c1 ⟨p.g5,p.g3,sP A p,p.g5,(Vl A p).1,(NS A p).1.1,(NS A p).1.2,p.g13,p.g5,p.g13⟩)<|.ao (A.k jy (jF p.g4 (),10,p.g5,p.g13))<|.br (A.not (A.k dV (jF p.g4 (),10,p.g5,p.g13)).2) (.ret (p.g4,()))<|.br (A.cm (A.k vA (p.g4.2.1,(A.n bS p.g4.2.2.2.2.2.2.1 p.g3:cN).2.1)).2 0) (.ret (p.g4,()))<|.br (A.cm (NT A p).2 0) (.ret (p.g4,()))<|.ak<|.c1 ⟨p.g5,p.g3,p.g4,p.g5,(A.k vA (p.g4.2.1,(A.n bS p.g4.2.2.2.2.2.2.1 p.g3:cN).2.1)).1,(NT A p).1.1,(NT A p).1.2,p.g13,p.g5,p.g13⟩)<|.ao (A.bE (A.l<|uM A p) 2199023255552)<|.ao (A.k qV (yZ p.g4<|uM A p,1))<|.qI A p.g4.2.2.2.2.2.2.1<|.ao (A.bE (A.l<|A.p (A.k rD (yZ p.g4<|uM A p,1)).1.2.2.2.2.2.2.2.2.2.1 ([(yX A p,p.g11)]:List tg)) 5864062014805)<|.ao (A.k qf<|S9 A p)<|.qI A (A.k rD (yZ p.g4<|uM A p,1)).1.2.2.2.2.2.2.1<|.ao (A.k jy (jF (rh A p) (),10,p.g5,p.g13))<|.br (A.not (A.k dV (jF (rh A p) (),10,p.g5,p.g13)).2) (.ret (rh A p,()))<|.br (A.cm (NU A p).2 0) (.ret (rh A p,()))<|.br (A.cm (Fu A p).2 0) (.ret (rh A p,()))<|.ak<|.c1 ⟨p.g5,p.g3,rh A p,p.g5,(NU A p).1,(Fu A p).1.1,(Fu A p).1.2,p.g13,p.g5,p.g13⟩
 | .c7 p=>.br (A.not p.h2) (.br p.h1 (.ao (A.bE (A.l<|Cn A p) 5864062014805)<|.ao (A.k qf (Qq p.h4<|Cn A p,p.h11,3,0,A.fD (A.l<|Cn A p) 1))<|.qI A p.h4.2.2.2.2.2.2.1<|.ret ((A.k tF (Qq p.h4<|Cn A p,p.h11,3,0,A.fD (A.l<|Cn A p) 1)).1,()))<|.ret (p.h4,()))<|.ao (A.bE (A.l<|A.p p.h4.2.2.2.2.2.2.2.2.1 ([(zm p.h13<|yY A p)]:List fC)) 2199023255552)<|.ao (A.k qV (yZ p.h4<|A.p p.h4.2.2.2.2.2.2.2.2.1 ([(zm p.h13<|yY A p)]:List fC),1))<|.qI A p.h4.2.2.2.2.2.2.1<|.ao (A.bE (A.l<|Fw A p) 5864062014805)<|.ao (A.k qf<|NV A p)<|.qI A (Fv A p).2.2.2.2.2.2.1<|.ret ((A.k tF<|NV A p).1,())
def tG:Net×(Int×fB)->Net×Unit:=λ(f,(i,c))=>fA (lX af) (NB af f i c) (Ty.aR [jS],Ty.aR [])
def Il:Net×(Int×fB)->Bool:=λ(f,(i,c))=>fO (lX af) (NB af f i c)&&decide (VF.lens [fJ] (tG (f,(i,c))).1=VF.lens [fJ] ((f,(i,c)):Net×(Int×fB)).1)
def arq:cH:=⟨[fJ],[yI,iB],[],Il,tG,false,false⟩
def aqX:cH.bI prog 109 arq:=bV ax dJ sl 140 [] [⟨157,5,[[0,1,3,6,8,9,65551],[0,4,5,6]]⟩,⟨157,7,[[0,1,3,6,8,9,11,12,65546,65551],[0,4,5,6]]⟩] (λA (f,(i,c))=>NB A f i c) lX alj ⟨fc func109 (fc func157 (fc func169 (fc func170 (fc func213 fz)))),(sc as2 (sc U5 (sc aiW sz))),oz,iz,(mc aa1 (mc aik (mc ail mz))),(pc Pz pz)⟩ (λA y=>match y with |.c0 p=>⟨46,sl,by kernel_rfl⟩|.c1 p=>⟨48,sl,by kernel_rfl⟩|.c2 p=>⟨102,sl,by kernel_rfl⟩|.c3 p=>⟨102,sl,by kernel_rfl⟩|.c4 p=>⟨46,sl,by kernel_rfl⟩|.c5 p=>⟨48,sl,by kernel_rfl⟩|.c6 p=>⟨232,sl,by kernel_rfl⟩|.c7 p=>⟨133,sl,by kernel_rfl⟩) (λ((f,(i,c)):Net×(Int×fB)) g j h=>JW g) (z:=λ_ _ h=>Jv h)
def qy(A:aS)(c:Net)(i:Int):Node×sS×Bool×Int:=(A.k ahU (c.2.1,(A.n bS c.2.2.2.2.2.2.1 i:cN).1))
def vk(A:aS)(c:Net)(i:Int):List cN:=(A.set c.2.2.2.2.2.2.1 i ((qy A c i).1,(A.n bS c.2.2.2.2.2.2.1 i:cN).2))
def wO(A:aS)(c:Net)(i:Int):Net:=(A.k GU (qK c<|vk A c i,i)).1
def SH(A:aS)(f:Net)(i:Int)(c:fB):LT (Net×Bool) Empty:=.fP A i f.2.2.2.2.2.2.1<|.br (A.cm (qy A f i).2.2.2 0) (.ret (f,true))<|.br (A.bq (qy A f i).1.2.1 1) (.ao (A.k Ip (qK f<|vk A f i,i))<|.qI A (vk A f i)<|.br (A.not (qy A f i).2.2.1) (.ret (wO A f i,A.k mG (qy A f i).1))<|.ao (A.k Dm (wO A f i,i,(qy A f i).2.1,c))<|.qI A (wO A f i).2.2.2.2.2.2.1<|.ret ((A.k xK (wO A f i,i,(qy A f i).2.1,c)).1,true))<|.br (A.not (qy A f i).2.2.1) (.ret (qK f<|vk A f i,A.k mG (qy A f i).1))<|.ao (A.k Dm (qK f<|vk A f i,i,(qy A f i).2.1,c))<|.qI A (vk A f i)<|.ret ((A.k xK (qK f<|vk A f i,i,(qy A f i).2.1,c)).1,true)
def wW:Net×(Int×fB)->Net×Bool:=λ(f,(i,c))=>fA Empty.elim (SH af f i c) (Ty.aR [jS],Ty.aR [.bool])
def MU:Net×(Int×fB)->Bool:=λ(f,(i,c))=>fO Empty.elim (SH af f i c)&&decide (VF.lens [fJ] (wW (f,(i,c))).1=VF.lens [fJ] ((f,(i,c)):Net×(Int×fB)).1)
def ars:cH:=⟨[fJ],[yI,iB],[.bool],MU,wW,false,false⟩
def aqY:cH.bI prog 110 ars:=bV ax dJ sl 94 [] [] (λA (f,(i,c))=>SH A f i c) (λ_=>Empty.elim) Empty.elim ⟨fc func110 fz,(sc B8 (sc asH sz)),oz,iz,(mc aii (mc aij mz)),pz⟩ (λ_ y=>y.elim) (λ((f,(i,c)):Net×(Int×fB)) g j h=>JW g) (z:=λ_ _ h=>Jv h)
def AJ(A:aS)(c:Net)(i:Int):List cN:=(A.set c.2.2.2.2.2.2.1 i ((A.k GJ (c.2.1,(A.n bS c.2.2.2.2.2.2.1 i:cN).1)).1,(A.n bS c.2.2.2.2.2.2.1 i:cN).2))
def DR(A:aS)(f:Net)(i:Int):List cN:=(md A bS (AJ A f i) i λ(c:cN)=>up2 c<|A.bJ c.2.2.1 1)
def I_(A:aS)(f:Net)(i:Int):List cN:=(md A bS (md A bS (DR A f i) i λ(c:cN)=>QA c<|A.bJ c.2.2.2.2.1 1) i λ(g:cN)=>zm g ((A.k gL (f.2.2.2.2.2.1,())).2,i,([]:List Int)))
def AL(A:aS)(c:Net)(i:Int):Net×Int×sS×Int×Int×Int×Int×Int:=(qK (vn c (A.k gL (c.2.2.2.2.2.1,())).1)<|md A bS (md A bS (I_ A c i) i λ(f:cN)=>vn f true) i λ(g:cN)=>qK g false,i,(A.k GJ (c.2.1,(A.n bS c.2.2.2.2.2.2.1 i:cN).1)).2.1,(A.k GJ (c.2.1,(A.n bS c.2.2.2.2.2.2.1 i:cN).1)).1.2.2.1)
def Ja(A:aS)(c:Net)(i:Int):Net×Int×Int×Int:=(qK (vn c (A.k gL (c.2.2.2.2.2.1,())).1)<|DR A c i,A.bJ (A.k gL (c.2.2.2.2.2.1,())).2<|A.bJ c.2.1.2.1<|A.k uA (c.2.2.1,c.2.1.1,(A.n bS (AJ A c i) i:cN).2.2.1,i),2,i)
def Sz(A:aS)(c:Net)(i:Int):LT (Net×Unit) Empty:=.fP A i c.2.2.2.2.2.2.1<|.br (A.cm (A.k GJ (c.2.1,(A.n bS c.2.2.2.2.2.2.1 i:cN).1)).2.2.2 0) (.ret (c,()))<|.ao (A.k yb (c.2.2.1,c.2.1.1,(A.n bS (AJ A c i) i:cN).2.2.1,i))<|.br (A.not (A.k GJ (c.2.1,(A.n bS c.2.2.2.2.2.2.1 i:cN).1)).2.2.1) (.ao (A.k rR (c.2.2.2.2.2.1,()))<|.ao (A.k wo<|Ja A c i)<|.qI A (DR A c i)<|.ret ((A.k zH<|Ja A c i).1,()))<|.ao (A.k rR (c.2.2.2.2.2.1,()))<|.ao (A.k Dm<|AL A c i)<|.qI A (md A bS (md A bS (I_ A c i) i λ(f:cN)=>vn f true) i λ(g:cN)=>qK g false)<|.ao (A.k Av ((A.k xK<|AL A c i).1,i))<|.qI A (A.k xK<|AL A c i).1.2.2.2.2.2.2.1<|.ret ((A.k Ek ((A.k xK<|AL A c i).1,i)).1,())
def OR:Net×Int->Net×Unit:=λ(c,i)=>fA Empty.elim (Sz af c i) (Ty.aR [jS],Ty.aR [])
def MO:Net×Int->Bool:=λ(c,i)=>fO Empty.elim (Sz af c i)&&decide (VF.lens [fJ] (OR (c,i)).1=VF.lens [fJ] ((c,i):Net×Int).1)
def are:cH:=⟨[fJ],[yI],[],MO,OR,false,false⟩
def aqQ:cH.bI prog 67 are:=bV ax dJ sl 144 [] [] (λA (c,i)=>Sz A c i) (λ_=>Empty.elim) Empty.elim ⟨fc func67 fz,(sc asJ (sc aiU sz)),oz,iz,(mc Ph (mc Pj (mc aii (mc aa2 mz)))),pz⟩ (λ_ y=>y.elim) (λ((c,i):Net×Int) f g h=>JW f) (z:=λ_ _ h=>Jv h)
def SA(A:aS)(c:Net)(i:Int):LT (Net×Unit) Empty:=.ao (A.k tQ (c,i,true))<|.qI A c.2.2.2.2.2.2.1<|.ret ((A.k wV (c,i,true)).1,())
def OS:Net×Int->Net×Unit:=λ(c,i)=>fA Empty.elim (SA af c i) (Ty.aR [jS],Ty.aR [])
def MP:Net×Int->Bool:=λ(c,i)=>fO Empty.elim (SA af c i)&&decide (VF.lens [fJ] (OS (c,i)).1=VF.lens [fJ] ((c,i):Net×Int).1)
def arf:cH:=⟨[fJ],[yI],[],MP,OS,false,false⟩
def aqR:cH.bI prog 68 arf:=bV ax dJ sl 11 [] [] (λA (c,i)=>SA A c i) (λ_=>Empty.elim) Empty.elim ⟨fc func68 fz,sz,oz,iz,(mc aa3 mz),pz⟩ (λ_ y=>y.elim) (λ((c,i):Net×Int) f g h=>JW f) (z:=λ_ _ h=>Jv h)
def SQ(A:aS)(c:Net)(i:Int):List fC×Span×Span×Int:=(c.2.2.2.2.2.2.2.1,(A.k KI (c.2.1,(A.n bS c.2.2.2.2.2.2.1 i:cN).2.1)).1,(A.k zB (c.2.1,(A.n bS c.2.2.2.2.2.2.1 i:cN).2.1)).1,(A.n yI c.2.2.1.2.2.2.1 i:Int))
def pg(A:aS)(c:Net)(i:Int):List fC×Seen:=(A.k n_<|SQ A c i)
def SS(A:aS)(c:Net)(i:Int):List fC×Span×Span×Int:=(c.2.2.2.2.2.2.2.2.1,(A.k KI (c.2.1,(A.n bS c.2.2.2.2.2.2.1 i:cN).2.1)).1,(A.k zB (c.2.1,(A.n bS c.2.2.2.2.2.2.1 i:cN).2.1)).1,(A.n yI c.2.2.1.2.2.2.1 i:Int))
def qx(A:aS)(c:Net)(i:Int):List fC×Seen:=(A.k n_<|SS A c i)
def DT(A:aS)(c:Net)(i:Int):Node×qC×Int:=(A.k TR (c.2.1,(A.n bS c.2.2.2.2.2.2.1 i:cN).1,A.p ([(pg A c i).2]:List Seen) ([(qx A c i).2]:List Seen)))
def DU(A:aS)(c:Net)(i:Int):List cN:=(A.set c.2.2.2.2.2.2.1 i ((A.k TR (c.2.1,(A.n bS c.2.2.2.2.2.2.1 i:cN).1,A.r 2 (Ty.gy qA:Seen))).1,(A.n bS c.2.2.2.2.2.2.1 i:cN).2))
def DV(A:aS)(c:Net)(i:Int):List cN:=(A.set c.2.2.2.2.2.2.1 i ((DT A c i).1,(A.n bS c.2.2.2.2.2.2.1 i:cN).2))
def Jc(A:aS)(c:Net)(i:Int):qC×Int:=(A.k TR (c.2.1,(A.n bS c.2.2.2.2.2.2.1 i:cN).1,A.r 2 (Ty.gy qA:Seen))).2
def NM(A:aS)(c:Net)(i:Int):aA×qB×Int:=(c.2.1,(A.n bS (DV A c i) i:cN).2.1,(DT A c i).2.1.2.2.2.2)
def NN(A:aS)(c:Net)(i:Int):aA×qB×Int:=(c.2.1,(A.n bS (DU A c i) i:cN).2.1,(Jc A c i).1.2.2.2.2)
def WZ(A:aS)(c:Net)(i:Int):LT (Net×Unit) Empty:=.fP A i c.2.2.2.2.2.2.1<|.br (A.cm (A.k KI (c.2.1,(A.n bS c.2.2.2.2.2.2.1 i:cN).2.1)).2 0) (.ret (c,()))<|.br (A.cm (A.k zB (c.2.1,(A.n bS c.2.2.2.2.2.2.1 i:cN).2.1)).2 0) (.ret (c,()))<|.fP A i c.2.2.1.2.2.2.1<|.ao (A.k Dn<|SQ A c i)<|.ao (A.bE (A.l (([(pg A c i).2]:List Seen):List Seen)) 2932031007402)<|.ao (A.k Dn<|SS A c i)<|.ao (A.bE (A.l<|A.p ([(pg A c i).2]:List Seen) ([(qx A c i).2]:List Seen)) 2932031007402)<|.ao (A.k jy (jF c (),6,i,(A.n bS c.2.2.2.2.2.2.1 i:cN).1.2.2.1))<|.br (A.k dV (jF c (),6,i,(A.n bS c.2.2.2.2.2.2.1 i:cN).1.2.2.1)).2 (.ao (A.and (A.bq 2 2)<|A.and (A.bE 0 2)<|A.bE 2 2932031007402)<|.br (A.cm (Jc A c i).2 0) (.ret (yZ (CH c (pg A c i).1) (qx A c i).1,()))<|.br (A.cm (Jc A c i).1.1 3) (.ret (yZ (CH (qK c<|DU A c i) (pg A c i).1) (qx A c i).1,()))<|.ao (A.k Im<|NN A c i)<|.br (A.bq (A.k wY<|NN A c i).2 0) (.ret (yZ (CH (qK c<|md A bS (DU A c i) i λ(f:cN)=>zm f (A.k wY<|NN A c i).1) (pg A c i).1) (qx A c i).1,()))<|.ret (yZ (CH (qK c<|DU A c i) (pg A c i).1) (qx A c i).1,()))<|.br (A.cm (DT A c i).2.2 0) (.ret (yZ (CH c (pg A c i).1) (qx A c i).1,()))<|.br (A.cm (DT A c i).2.1.1 3) (.ret (yZ (CH (qK c<|DV A c i) (pg A c i).1) (qx A c i).1,()))<|.ao (A.k Im<|NM A c i)<|.br (A.bq (A.k wY<|NM A c i).2 0) (.ret (yZ (CH (qK c<|md A bS (DV A c i) i λ(f:cN)=>zm f (A.k wY<|NM A c i).1) (pg A c i).1) (qx A c i).1,()))<|.ret (yZ (CH (qK c<|DV A c i) (pg A c i).1) (qx A c i).1,())
def uz:Net×Int->Net×Unit:=λ(c,i)=>fA Empty.elim (WZ af c i) (Ty.aR [jS],Ty.aR [])
def MS:Net×Int->Bool:=λ(c,i)=>fO Empty.elim (WZ af c i)&&decide (VF.lens [fJ] (uz (c,i)).1=VF.lens [fJ] ((c,i):Net×Int).1)
def arl:cH:=⟨[fJ],[yI],[],MS,uz,false,false⟩
def aqV:cH.bI prog 97 arl:=bV ax dJ (.jf [0,0,0,0,0,0,3,0,0,0,0,0,0,0,0,1,0,0,0,0,1]) 299 [] [] (λA (c,i)=>WZ A c i) (λ_=>Empty.elim) Empty.elim ⟨fc func97 (fc func94 fz),(sc aiu (sc asG (sc atH (sc atI sz)))),oz,(ic aia iz),mz,(pc Pz pz)⟩ (λ_ y=>y.elim) (λ((c,i):Net×Int) f g h=>JW f) (z:=λ_ _ h=>Jv h)
structure ajY where(a0:Int)(a2:Net)(a3:fB)
structure ajZ where(b0:Int)(b3:fB)
inductive aeP where|c0(p:ajY)(a1:Int)|c1(p:ajZ)(b1:Int)(b2:Net)
noncomputable def alg:aeP->gY
 | .c0 p a1=>⟨[gW 98 102 [(0,pZ 0),(5,pZ 2),(34,vi p.a0),(35,vi a1)] f98 116],[CG p.a2 3 1 4 5 6 7,Cy p.a2,dZ iB p.a3,CB p.a2 8,Cw p.a2,bxB p.a2,CF p.a2,Cz p.a2,Cx p.a2,.a_]⟩
 | .c1 p b1 b2=>⟨[gW 98 102 [(0,pZ 0),(5,pZ 2),(52,.own 1),(53,vi p.b0),(54,vi b1)] f98 124],[CG b2 3 1 4 5 6 7,Cy b2,dZ iB p.b3,CB b2 8,Cw b2,bxB b2,CF b2,Cz b2,Cx b2,.a_]⟩
def DW(A:aS)(c:Int)(f:Net):Node:=(A.n bS f.2.2.2.2.2.2.1 c:cN).1
def ot(A:aS)(c:Int):Int:=(A.bJ c 1)
def SE(A:aS)(f:Net)(i:Int)(c:fB):LT (Net×Unit) aeP:=.fP A i f.2.2.2.2.2.2.1<|.br (A.not (A.n bS f.2.2.2.2.2.2.1 i:cN).2.2.2.2.2.2.1) (.ret (f,()))<|.br (A.cm (A.n bS f.2.2.2.2.2.2.1 i:cN).1.2.1 4) (.ret (f,()))<|.ak<|.c0 ⟨i,f,c⟩ 0
def yg(A:aS):aeP->LT (Net×Unit) aeP
 | .c0 p a1=>.br (A.bo a1 p.a0) (.fP A a1 p.a2.2.2.2.2.2.2.1<|.br (A.bq (A.n bS p.a2.2.2.2.2.2.2.1 a1:cN).1.2.1 4) (.ret (p.a2,()))<|.ak<|.c0 p<|A.bJ a1 1)<|.ak<|.c1 ⟨A.l p.a2.2.2.2.2.2.2.1,p.a3⟩ 0 p.a2
 | .c1 p b1 b2=>.br (A.bo b1 p.b0) (.fP A b1 b2.2.2.2.2.2.2.1<|.ao (A.k jy (jF b2 (),2,b1,p.b3))<|.ao (A.k jy (jF b2 (),1,b1,p.b3))<|.br (A.k dV (jF b2 (),2,b1,p.b3)).2 (.br (A.bq (DW A b1 b2).2.1 0) (.ao (A.k tQ (b2,b1,true))<|.qI A b2.2.2.2.2.2.2.1<|.ak<|.c1 p (ot A b1) (A.k wV (b2,b1,true)).1)<|.br (A.k dV (jF b2 (),1,b1,p.b3)).2 (.br (A.cm (DW A b1 b2).2.1 0) (.br (A.not<|A.k mG<|DW A b1 b2) (.ao (A.k tQ (b2,b1,false))<|.qI A b2.2.2.2.2.2.2.1<|.ak<|.c1 p (ot A b1) (A.k wV (b2,b1,false)).1)<|.ak<|.c1 p (ot A b1) b2)<|.ak<|.c1 p (ot A b1) b2)<|.ak<|.c1 p (ot A b1) b2)<|.br (A.k dV (jF b2 (),1,b1,p.b3)).2 (.br (A.cm (DW A b1 b2).2.1 0) (.br (A.not<|A.k mG<|DW A b1 b2) (.ao (A.k tQ (b2,b1,false))<|.qI A b2.2.2.2.2.2.2.1<|.ak<|.c1 p (ot A b1) (A.k wV (b2,b1,false)).1)<|.ak<|.c1 p (ot A b1) b2)<|.ak<|.c1 p (ot A b1) b2)<|.ak<|.c1 p (ot A b1) b2)<|.ret (b2,())
def Ej:Net×(Int×fB)->Net×Unit:=λ(f,(i,c))=>fA (yg af) (SE af f i c) (Ty.aR [jS],Ty.aR [])
def Au:Net×(Int×fB)->Bool:=λ(f,(i,c))=>fO (yg af) (SE af f i c)&&decide (VF.lens [fJ] (Ej (f,(i,c))).1=VF.lens [fJ] ((f,(i,c)):Net×(Int×fB)).1)
def arm:cH:=⟨[fJ],[yI,iB],[],Au,Ej,false,false⟩
def aqW:cH.bI prog 98 arm:=bV ax dJ (.jf [0,0,2]) 45 [⟨98,3,[[0,5,34,35]]⟩,⟨98,8,[[0,5,52,53,54]]⟩] [] (λA (f,(i,c))=>SE A f i c) yg alg ⟨fc func98 fz,(sc B8 sz),oz,iz,(mc aa3 mz),(pc Pz pz)⟩ (λA y=>match y with |.c0 p a1=>⟨40,sl,by kernel_rfl⟩|.c1 p b1 b2=>⟨92,sl,by kernel_rfl⟩) (λ((f,(i,c)):Net×(Int×fB)) g j h=>JW g) (z:=λ_ _ h=>Jv h)
structure zX where(a0 a1:Int)(a2:Net)
inductive Yy where|c0(p:zX)
noncomputable def alc:Yy->gY
 | .c0 p=>⟨[Ac 66 138 [(0,pZ 0),(1,vi p.a0),(4,.lu 1 p.a1 0)] f66 508],[CG p.a2 2 1 3 4 5 6,Cy p.a2,CB p.a2 7,Cw p.a2,bxB p.a2,CF p.a2,Cz p.a2,Cx p.a2,.a_]⟩
def AI(A:aS)(c:Net)(i:Int):cN:=(A.n bS c.2.2.2.2.2.2.1 i:cN)
def NK(A:aS)(c:Net)(i:Int):Net×Int×Int×Int×Int×Int×Int:=(qK c<|md A bS c.2.2.2.2.2.2.1 i λ(f:cN)=>vn f false,i,(AI A c i).1.2.2.1)
def NL(A:aS)(c:Net)(i:Int):Net×Int×Int×Int×Int×Int×Int:=(qK (A.k uz (c,i)).1<|md A bS (A.k uz (c,i)).1.2.2.2.2.2.2.1 i λ(f:cN)=>vn f false,i,(AI A c i).1.2.2.1)
def yp(A:aS)(p:zX):Node×Int:=(A.k ahV (p.a2.2.1,(A.n bS p.a2.2.2.2.2.2.2.1 p.a1:cN).1))
def wK(A:aS)(p:zX):List cN:=(A.set p.a2.2.2.2.2.2.2.1 p.a1 ((yp A p).1,(A.n bS p.a2.2.2.2.2.2.2.1 p.a1:cN).2))
def wL(A:aS)(p:zX):qB×Int:=(A.k KF (p.a2.2.1,(A.n bS (wK A p) p.a1:cN).2.1,A.k uA (p.a2.2.2.1,p.a2.2.1.1,(A.n bS (wK A p) p.a1:cN).2.2.1,p.a0)))
def SP(A:aS)(p:zX):List cN:=(md A bS (wK A p) p.a1 λ(c:cN)=>zm c (wL A p).1)
def wM(A:aS)(p:zX):List cN:=(md A bS (SP A p) p.a1 λ(c:cN)=>up2 c<|A.bJ c.2.2.1 1)
def I9(A:aS)(p:zX):List eX:=(A.p p.a2.2.2.2.2.2.2.2.2.2.2 ([((yp A p).1.2.2.1.1,A.k KE (yp A p).1)]:List eX))
abbrev Vi(A:aS)(c:Net)(i:Int):LT (Net×Unit) Yy:=(.ao (A.k Au<|NK A c i)<|.qI A (md A bS c.2.2.2.2.2.2.1 i λ(f:cN)=>vn f false)<|.ak<|.c0 ⟨i,i,(A.k Ej<|NK A c i).1⟩)
def Sy(A:aS)(c:Net)(i:Int):LT (Net×Unit) Yy:=.fP A i c.2.2.2.2.2.2.1<|.br (A.not<|A.k mG (AI A c i).1) (.ret (c,()))<|.br (A.not (AI A c i).2.2.2.2.2.1) (.br (A.cm (AI A c i).1.2.2.1.2.1 i) (.ao (A.k MS (c,i))<|.qI A c.2.2.2.2.2.2.1<|.ao (A.k Au<|NL A c i)<|.qI A (md A bS (A.k uz (c,i)).1.2.2.2.2.2.2.1 i λ(f:cN)=>vn f false)<|.ak<|.c0 ⟨i,i,(A.k Ej<|NL A c i).1⟩)<|Vi A c i)<|Vi A c i
def Ni(A:aS):Yy->LT (Net×Unit) Yy
 | .c0 p=>.br (A.not<|A.k mG (A.n bS p.a2.2.2.2.2.2.2.1 p.a1:cN).1) (.ret (p.a2,()))<|.br (A.cm (yp A p).2 0) (.ret (p.a2,()))<|.ao (A.k yb (p.a2.2.2.1,p.a2.2.1.1,(A.n bS (wK A p) p.a1:cN).2.2.1,p.a0))<|.ao (A.k RY (p.a2.2.1,(A.n bS (wK A p) p.a1:cN).2.1,A.k uA (p.a2.2.2.1,p.a2.2.1.1,(A.n bS (wK A p) p.a1:cN).2.2.1,p.a0)))<|.br (A.cm (wL A p).2 0) (.ret (qK p.a2<|md A bS (wK A p) p.a1 λ(c:cN)=>lp7 c true,()))<|.br (A.bq (yp A p).1.2.2.1.2.1 0) (.ao (A.k Ij (yp A p).1)<|.ao (A.bE (A.l<|I9 A p) 651562446089)<|.ao (A.k wo (aaR (qK p.a2<|wM A p)<|I9 A p,(wL A p).1.1,4,p.a0))<|.qI A (wM A p)<|.ret ((A.k zH (aaR (qK p.a2<|wM A p)<|I9 A p,(wL A p).1.1,4,p.a0)).1,()))<|.ao (A.k wo (qK p.a2<|wM A p,(wL A p).1.1,4,p.a0))<|.qI A (wM A p)<|.ret ((A.k zH (qK p.a2<|wM A p,(wL A p).1.1,4,p.a0)).1,())
def OQ:Net×Int->Net×Unit:=λ(c,i)=>fA (Ni af) (Sy af c i) (Ty.aR [jS],Ty.aR [])
def MN:Net×Int->Bool:=λ(c,i)=>fO (Ni af) (Sy af c i)&&decide (VF.lens [fJ] (OQ (c,i)).1=VF.lens [fJ] ((c,i):Net×Int).1)
def ard:cH:=⟨[fJ],[yI],[],MN,OQ,false,false⟩
def aqP:cH.bI prog 66 ard:=bV ax dJ sl 75 [] [⟨66,7,[[0,1,4]]⟩] (λA (c,i)=>Sy A c i) Ni alc ⟨fc func66 fz,(sc B8 (sc asI (sc aiS (sc atF (sc aiU sz))))),oz,iz,(mc Ph (mc aqV (mc aqW mz))),pz⟩ (λA y=>match y with |.c0 p=>⟨143,.jf [0,0,0,0,1,2],by kernel_rfl⟩) (λ((c,i):Net×Int) f g h=>JW f) (z:=λ_ _ h=>Jv h)
structure ajU where(a0:Int)(a1:Net)
structure CJ where(b0:List cq)(b1 b3:Int)(b6:gH)(b13 CQ:Int)
inductive Yz where|c0(p:ajU)|c1(p:CJ)(b2:Int)(b4:Net)
noncomputable def ald:Yz->gY
 | .c0 p=>⟨[Ac 69 131 [(1,vi p.a0),(2,pZ 2),(4,pZ 3)] f69 508],[CG p.a1 4 1 5 6 7 8,Cy p.a1,gZ [pZ 0],gZ [.lu 1 p.a0 0],CB p.a1 9,Cw p.a1,bxB p.a1,CF p.a1,Cz p.a1,Cx p.a1,.a_]⟩
 | .c1 p b2 b4=>⟨[gW 166 37 [(0,.yield 2),(2,pZ 3),(3,pZ 4),(4,pZ 5),(8,.sl dE p.b0),(9,vi p.b1),(10,vi b2)] f166 12,⟨69,131,en [(1,vi p.b3),(2,pZ 6),(4,pZ 7)],[.oY 2,.inBlock 0,.code<|cw f69 255],[8],none⟩],[CG b4 9 1 10 11 12 13,Cy b4,.loop ⟨69,131,en [(1,vi p.b3),(2,pZ 6),(4,pZ 7),(70,pZ 0),(71,pZ 0),(72,.ptr 0 9),(73,.agg<|dc lD p.b6),(74,vi p.b3),(75,.lu 1 p.b3 0),(76,.lu 1 p.b3 0),(77,.lu 1 p.b3 0),(78,.lu 1 p.b3 2),(79,.lu 1 p.b3 2),(80,vi p.b13),(81,.lu 1 p.b3 0),(82,.lu 1 p.b3 0),(83,.lu 1 p.b3 0),(84,.lu 1 p.b3 2),(85,.lu 1 p.b3 3),(86,vi p.CQ),(87,.fn 166 [] [pZ 14,pZ 3,pZ 4,pZ 5])],[88],cw f69 2036,cw f69 2037,0,none⟩,vZ p.b3,vZ p.b13,vZ p.CQ,gZ [pZ 0],gZ [.lu 1 p.b3 0],.Jq,CB b4 15,Cw b4,bxB b4,CF b4,Cz b4,gZ [.sl dE p.b0],Cx b4,.a_]⟩
def AN(A:aS)(c:Net)(i:Int):cN:=(A.n bS c.2.2.2.2.2.2.1 i:cN)
def rW(A:aS)(p:CJ)(c:Net):cN:=(A.n bS c.2.2.2.2.2.2.1 p.b3:cN)
def vh(A:aS)(p:CJ)(c:Net):Net:=(A.k tG (c,p.b3,(rW A p c).1.2.2.1)).1
def vg(A:aS)(p:CJ)(c:Net):Net×Int×Int×Int×Int×Int×Int:=(vh A p c,p.b3,(rW A p c).1.2.2.1)
abbrev Vj(A:aS)(c:Net)(i:Int):LT (Net×Unit) Yz:=(.ao (A.k jy (jF c (),1,i,(AN A c i).1.2.2.1))<|.br (A.k dV (jF c (),1,i,(AN A c i).1.2.2.1)).2 (.ao (A.k tQ (c,i,false))<|.qI A c.2.2.2.2.2.2.1<|.ret ((A.k wV (c,i,false)).1,()))<|.ak<|.c0 ⟨i,qK c<|md A bS c.2.2.2.2.2.2.1 i λ(f:cN)=>qK f<|A.bq f.1.2.1 4⟩)
def SB(A:aS)(c:Net)(i:Int):LT (Net×Unit) Yz:=.fP A i c.2.2.2.2.2.2.1<|.br (A.not<|A.k mG (AN A c i).1) (.ret (c,()))<|.br (A.bq (AN A c i).1.2.2.1.1 c.2.2.2.1) (.br (A.bq (AN A c i).1.2.2.1.2.1 0) (.ret (qK c<|md A bS c.2.2.2.2.2.2.1 i λ(f:cN)=>lp7 f true,()))<|Vj A c i)<|Vj A c i
def ye(A:aS):Yz->LT (Net×Unit) Yz
 | .c0 p=>.ao (A.k RN p.a1.2.2.1.2.2.2.2.2.2.1)<|.ak<|.c1 ⟨A.k ZW p.a1.2.2.1.2.2.2.2.2.2.1,A.l<|A.k ZW p.a1.2.2.1.2.2.2.2.2.2.1,p.a0,p.a1.2.2.1,(A.n bS p.a1.2.2.2.2.2.2.1 p.a0:cN).1.2.2.1.1,(A.n bS p.a1.2.2.2.2.2.2.1 p.a0:cN).1.2.2.1.2.1⟩ 0 p.a1
 | .c1 p b2 b4=>.br (A.bo b2 p.b1) (.fP A b2 p.b0<|.br (A.bq (A.n dE p.b0 b2:cq).1 p.b3) (.br (A.bq (A.n dE p.b0 b2:cq).2.1 p.b13) (.br (A.bq (A.n dE p.b0 b2:cq).2.2.1 p.CQ) (.br (A.bq (A.k TQ (b4.2.1,(rW A p b4).1,(A.n dE p.b0 b2:cq))).2 0) (.ak<|.c1 p (A.bJ b2 1)<|qK b4<|A.set b4.2.2.2.2.2.2.1 p.b3 ((A.k TQ (b4.2.1,(rW A p b4).1,(A.n dE p.b0 b2:cq))).1,(rW A p b4).2))<|.ak<|.c1 p (A.bJ b2 1) b4)<|.ak<|.c1 p (A.bJ b2 1) b4)<|.ak<|.c1 p (A.bJ b2 1) b4)<|.ak<|.c1 p (A.bJ b2 1) b4)<|.ao (A.k Il (b4,p.b3,(rW A p b4).1.2.2.1))<|.qI A b4.2.2.2.2.2.2.1<|.br (A.bq (rW A p b4).1.2.2.1.2.1 p.b3) (.ao (A.k MU<|vg A p b4)<|.qI A (vh A p b4).2.2.2.2.2.2.1<|.br (A.not (A.k wW<|vg A p b4).2) (.ret ((A.k wW<|vg A p b4).1,()))<|.ao (A.k Av ((A.k wW<|vg A p b4).1,p.b3))<|.qI A (A.k wW<|vg A p b4).1.2.2.2.2.2.2.1<|.ret ((A.k Ek ((A.k wW<|vg A p b4).1,p.b3)).1,()))<|.ao (A.k Av (vh A p b4,p.b3))<|.qI A (vh A p b4).2.2.2.2.2.2.1<|.ret ((A.k Ek (vh A p b4,p.b3)).1,())
def OT:Net×Int->Net×Unit:=λ(c,i)=>fA (ye af) (SB af c i) (Ty.aR [jS],Ty.aR [])
def MQ:Net×Int->Bool:=λ(c,i)=>fO (ye af) (SB af c i)&&decide (VF.lens [fJ] (OT (c,i)).1=VF.lens [fJ] ((c,i):Net×Int).1)
def arh:cH:=⟨[fJ],[yI],[],MQ,OT,false,false⟩
def aqS:cH.bI prog 69 arh:=bV ax dJ sl 99 [⟨166,1,[[0,2,3,4,8,9,10],[1,2,4]]⟩] [⟨69,9,[[1,2,4]]⟩] (λA (c,i)=>SB A c i) ye ald ⟨fc func69 (fc func107 (fc func166 fz)),(sc B8 (sc asE (sc att sz))),oz,iz,(mc aa2 (mc aa3 (mc aqX (mc aqY mz)))),(pc Pz pz)⟩ (λA y=>match y with |.c0 p=>⟨57,sl,by kernel_rfl⟩|.c1 p b2 b4=>⟨94,sl,by kernel_rfl⟩) (λ((c,i):Net×Int) f g h=>JW f) (z:=λ_ _ h=>Jv h)
structure FH where(a0 a3 a4 a5:Int)
inductive aeM where|c0(p:FH)(a1:Int)(a2:Net)
noncomputable def alb:aeM->gY
 | .c0 p a1 a2=>⟨[gW 65 95 [(0,pZ 0),(4,pZ 2),(22,vi p.a0),(23,vi a1)] f65 28],[CG a2 3 1 4 5 6 7,Cy a2,gZ [vi p.a3,vi p.a4,vi p.a5],CB a2 8,Cw a2,bxB a2,CF a2,Cz a2,Cx a2,.a_]⟩
def vf(A:aS)(p:FH)(a1:Int)(a2:Net):List fC×Span×Span×Int:=(a2.2.2.2.2.2.2.2.1,(p.a3,p.a4),(p.a3,A.bJ p.a3 1),(A.n yI a2.2.2.1.2.2.2.1 a1:Int))
def wJ(A:aS)(p:FH)(a1:Int)(a2:Net):List fC×Span×Span×Int:=(a2.2.2.2.2.2.2.2.2.1,(p.a3,p.a4),(p.a3,A.bJ p.a3 1),(A.n yI a2.2.2.1.2.2.2.1 a1:Int))
def ve(A:aS)(p:FH)(a1:Int)(a2:Net):Node×Int×Bool×Int:=(A.k ZH (a2.2.1,(A.n bS a2.2.2.2.2.2.2.1 a1:cN).1,A.p ([(A.k n_<|vf A p a1 a2).2]:List Seen) ([(A.k n_<|wJ A p a1 a2).2]:List Seen)))
def DO(A:aS)(p:FH)(a1:Int)(a2:Net):Net:=(yZ (CH a2 (A.k n_<|vf A p a1 a2).1) (A.k n_<|wJ A p a1 a2).1)
def Sx(A:aS)(f:Net)(c:Int):LT (Net×Unit) aeM:=.fP A c f.2.2.2.2.2.2.2.2.2.1<|.ak<|.c0 ⟨A.l f.2.2.2.2.2.2.1,(A.n Ki f.2.2.2.2.2.2.2.2.2.1 c:tg).1.1,(A.n Ki f.2.2.2.2.2.2.2.2.2.1 c:tg).1.2,(A.n Ki f.2.2.2.2.2.2.2.2.2.1 c:tg).2⟩ 0 f
def J7(A:aS):aeM->LT (Net×Unit) aeM
 | .c0 p a1 a2=>.br (A.bo a1 p.a0) (.fP A a1 a2.2.2.2.2.2.2.1<|.br (A.cm (A.n bS a2.2.2.2.2.2.2.1 a1:cN).1.2.1 1) (.ak<|.c0 p (A.bJ a1 1) a2)<|.br (A.jD (A.n bS a2.2.2.2.2.2.2.1 a1:cN).2.2.2.1 p.a3) (.ak<|.c0 p (A.bJ a1 1) a2)<|.br (A.bq p.a5 a1) (.ak<|.c0 p (A.bJ a1 1) a2)<|.fP A a1 a2.2.2.1.2.2.2.1<|.ao (A.k Dn<|vf A p a1 a2)<|.ao (A.bE (A.l (([(A.k n_<|vf A p a1 a2).2]:List Seen):List Seen)) 2932031007402)<|.ao (A.k Dn<|wJ A p a1 a2)<|.ao (A.bE (A.l<|A.p ([(A.k n_<|vf A p a1 a2).2]:List Seen) ([(A.k n_<|wJ A p a1 a2).2]:List Seen)) 2932031007402)<|.br (A.cm (ve A p a1 a2).2.2.2 0) (.ak<|.c0 p (A.bJ a1 1)<|DO A p a1 a2)<|.br (A.not (ve A p a1 a2).2.2.1) (.ak<|.c0 p (A.bJ a1 1)<|yZ (CH (qK a2<|A.set a2.2.2.2.2.2.2.1 a1 ((ve A p a1 a2).1,(A.n bS a2.2.2.2.2.2.2.1 a1:cN).2)) (A.k n_<|vf A p a1 a2).1) (A.k n_<|wJ A p a1 a2).1)<|.ao (A.k MR (DO A p a1 a2,a1,(ve A p a1 a2).1,(ve A p a1 a2).2.1))<|.qI A a2.2.2.2.2.2.2.1<|.ak<|.c0 p (A.bJ a1 1) (A.k OU (DO A p a1 a2,a1,(ve A p a1 a2).1,(ve A p a1 a2).2.1)).1)<|.ret (a2,())
def OP:Net×Int->Net×Unit:=λ(f,c)=>fA (J7 af) (Sx af f c) (Ty.aR [jS],Ty.aR [])
def MM:Net×Int->Bool:=λ(f,c)=>fO (J7 af) (Sx af f c)&&decide (VF.lens [fJ] (OP (f,c)).1=VF.lens [fJ] ((f,c):Net×Int).1)
def arc:cH:=⟨[fJ],[yI],[],MM,OP,false,false⟩
def aqO:cH.bI prog 65 arc:=bV ax dJ sl 29 [⟨65,2,[[0,4,22,23]]⟩] [] (λA (f,c)=>Sx A f c) J7 alb ⟨fc func65 (fc func94 fz),(sc asz sz),oz,(ic aia iz),(mc aqU mz),pz⟩ (λA y=>match y with |.c0 p a1 a2=>⟨240,.jf [0,0,0,0,0,0,0,0,3],by kernel_rfl⟩) (λ((f,c):Net×Int) g i h=>JW g) (z:=λ_ _ h=>Jv h)
def ng(A:aS)(c:Net):rq×(jr×Int):=(A.k zI (c.2.2.2.2.2.1,()))
def AB(A:aS)(c:Net):Int×Bool×Bool×Bool:=(A.n bS c.2.2.2.2.2.2.1 (ng A c).2.1.2.2.1:cN).2.2.2.2
def DL(A:aS)(c:Net):Bool:=(A.and (A.bE 0 (ng A c).2.1.2.2.1)<|A.bo (ng A c).2.1.2.2.1<|A.l c.2.2.2.2.2.2.1)
def rV(A:aS)(c:Net):Net×Int:=(vn c (ng A c).1,(ng A c).2.1.2.2.1)
def o_(A:aS)(c:Net):Net×Unit:=(vn c (ng A c).1,())
def DN(A:aS)(c:Net):Bool:=(A.bq (AB A c).1 (ng A c).2.1.2.2.2)
def AF(A:aS)(c:Net):Bool:=(A.cm (A.l c.2.2.2.2.2.2.1) 0)
def Qm(A:aS)(c:Net):LT (Net×Unit) Empty:=.ao (A.k RV (c.2.2.2.2.2.1,()))<|.br (A.cm (ng A c).2.2 0) (.ret<|o_ A c)<|.br (A.bq (ng A c).2.1.2.1 3) (.ao (A.k MM (vn c (ng A c).1,(ng A c).2.1.2.2.2))<|.ao (AF A c)<|.ret ((A.k OP (vn c (ng A c).1,(ng A c).2.1.2.2.2)).1,()))<|.br (A.bq (ng A c).2.1.2.1 1) (.ao (DL A c)<|.br (DN A c) (.br (A.not (AB A c).2.2.2) (.ao (A.k MN<|rV A c)<|.ao (AF A c)<|.ret ((A.k OQ<|rV A c).1,()))<|.ret<|o_ A c)<|.ret<|o_ A c)<|.br (A.bq (ng A c).2.1.2.1 2) (.ao (DL A c)<|.br (DN A c) (.br (A.not (AB A c).2.2.2) (.ao (A.k MO<|rV A c)<|.ao (AF A c)<|.ret ((A.k OR<|rV A c).1,()))<|.ret<|o_ A c)<|.ret<|o_ A c)<|.br (A.bq (ng A c).2.1.2.1 5) (.ao (DL A c)<|.br (DN A c) (.br (A.not (AB A c).2.2.2) (.ao (A.k MP<|rV A c)<|.ao (AF A c)<|.ret ((A.k OS<|rV A c).1,()))<|.ret<|o_ A c)<|.ret<|o_ A c)<|.ao (DL A c)<|.br (DN A c) (.br (A.not (AB A c).2.2.2) (.ao (A.k MQ<|rV A c)<|.ao (AF A c)<|.ret ((A.k OT<|rV A c).1,()))<|.ret<|o_ A c)<|.ret<|o_ A c
def wU:Net×Unit->Net×Unit:=λ(c,())=>fA Empty.elim (Qm af c) (Ty.aR [jS],Ty.aR [])
def Dl:Net×Unit->Bool:=λ(c,())=>fO Empty.elim (Qm af c)&&decide (VF.lens [fJ] (wU (c,())).1=VF.lens [fJ] ((c,()):Net×Unit).1)
def aq8:cH:=⟨[fJ],[],[],Dl,wU,false,false⟩
def aqL:cH.bI prog 30 aq8:=bV ax dJ (.jf [0,0,0,0,0,0,0,1,0,0,0,0,0,0,1,0,0,0,0,0,0,1,0,0,0,0,0,1]) 102 [] [] (λA (c,())=>Qm A c) (λ_=>Empty.elim) Empty.elim ⟨fc func30 fz,sz,oz,iz,(mc aqN (mc aqO (mc aqP (mc aqQ (mc aqR (mc aqS mz)))))),pz⟩ (λ_ y=>y.elim) (λ((c,()):Net×Unit) f g h=>JW f) (z:=λ_ _ h=>Jv h)
def axg(A:aS)(a:eX)(b:eX):LT Int Empty:=.ret<|A.k OJ [(A.k rB (a.1,b.1)),A.k rB (a.2.1,b.2.1)]
def OO:(eX×eX)->Int:=λ(a,b)=>(axg af a b).val<|Ty.aR [yI]
def av_:aK:=.all [gD,gD] [yI] OO
def aiT:Sd 58 av_:=fa<|aQ ax dJ sl 30 [] (λA (a,b)=>axg A a b)<|kz (fc func58 fz)<|sc acL<|sc acM sz
def fo{Y:Type}(s:Y->LT (List eX×Unit) Y)(N:Nat)(t:LT (List eX×Unit) Y):Prop:=∃r:List eX,r.length=N/\aV s t (r,())
section
variable {Y:Type} {s:Y->LT (List eX×Unit) Y} {N:Nat} {t e:LT (List eX×Unit) Y} {a b:Int}
def fo.ret{r:List eX}(h:r.length=N):fo s N<|.ret (r,()):=⟨r,h,.ret _⟩
def fo.ak{y:Y}(h:fo s N<|s y):fo s N<|.ak y:=h.elim λr k=>⟨r,k.1,.ak k.2⟩
def fo.ao{b:Bool}(c:b=true)(h:fo s N t):fo s N<|.ao b t:=h.elim λr k=>⟨r,k.1,.ao c k.2⟩
def fo.br{b:Bool}(c:b=true->fo s N t)(f:b=false->fo s N e):fo s N<|.br b t e:=by
 cases b
 .exact(f rfl).elim λr k=>⟨r,k.1,.br k.2⟩
 .exact(c rfl).elim λr k=>⟨r,k.1,.br k.2⟩
def fo.lss(c:a<b->fo s N t)(f:b<=a->fo s N e):fo s N<|.br (af.bo a b) t e:=
 fo.br (λh=>c<|of_decide_eq_true (p:=a<b) h) λh=>f<|iX.1<|of_decide_eq_false (p:=a<b) h
def fo.gtr(c:b<a->fo s N t)(f:a<=b->fo s N e):fo s N<|.br (af.jD a b) t e:=
 fo.br (λh=>c<|of_decide_eq_true (p:=b<a) h) λh=>f<|iX.1<|of_decide_eq_false (p:=b<a) h
def fo.leq(c:a<=b->fo s N t)(f:b<a->fo s N e):fo s N<|.br (af.bE a b) t e:=
 fo.br (λh=>c<|of_decide_eq_true (p:=a<=b) h) λh=>f<|Int.not_le.1<|of_decide_eq_false (p:=a<=b) h
def fo.eql(c:a=b->fo s N t)(f:¬a=b->fo s N e):fo s N<|.br (af.bq a b) t e:=by
 rw[dx];exact fo.br (λh=>c<|of_decide_eq_true h) λh=>f<|of_decide_eq_false h
def fo.neq(c:¬a=b->fo s N t)(f:a=b->fo s N e):fo s N<|.br (af.cm a b) t e:=by
 rw[dC];exact fo.br (λh=>c<|of_decide_eq_true h) λh=>f<|dF.1<|of_decide_eq_false h
end
def rQ{Y:Type}(s:Y->LT (List eX×Unit) Y)(t:LT (List eX×Unit) Y)(d:List eX):List eX:=bif Nat.beq (fA s t (d,())).1.length d.length then(fA s t (d,())).1 else d
variable{Y:Type}{d:List eX}
def oZ{s:Y->LT (List eX×Unit) Y}{t:LT (List eX×Unit) Y}:(rQ s t d).length=d.length:=by
 unfold rQ;cases h:Nat.beq (fA s t (d,())).1.length d.length
 .rfl
 .exact vH h
def sV{s:Y->LT (List eX×Unit) Y}{t:LT (List eX×Unit) Y}(h:fo s d.length t):(rQ s t d).length=d.length/\aV s t (rQ s t d,()):=by
 refine⟨oZ,?_⟩;have⟨r,f,c⟩:=h;rw[rQ,nT c,tM.2 f];exact c
def Fa{l:List eX}{i j:Int}{v:eX}(h:0<=i/\i<(l.length:Int)):af.and (af.bE 0 i) (af.bo i<|af.l<|af.set l j v)=true:=bM (by rw[gK];exact h)
structure Yk where(a0 a1 a2:Int)
inductive aeZ where|c0(p:Yk)(a3:Int)(a4:List eX)
noncomputable def als:aeZ->gY
 | .c0 p a3 a4=>⟨[gW 235 38 [(0,.own 0),(1,vi p.a0),(2,vi p.a1),(3,vi p.a2),(10,vi a3)] f235 12],[aZ gD a4,.a_]⟩
def ao6(A:aS)(c:List eX)(a:Int)(b:Int)(n:Int):LT (List eX×Unit) aeZ:=.ak<|.c0 ⟨a,b,n⟩ 0 c
def agz(A:aS):aeZ->LT (List eX×Unit) aeZ
 | .c0 p a3 a4=>.br (A.bo a3 p.a2) (.fP A (A.bJ p.a1 a3) a4<|.fP A (A.bJ p.a0 a3) a4<|.fP A (A.bJ p.a0 a3) a4<|.fP A (A.bJ p.a1 a3) (A.set a4 (A.bJ p.a0 a3) (A.n gD a4 (A.bJ p.a1 a3):eX))<|.ak<|.c0 p (A.bJ a3 1)<|A.set (A.set a4 (A.bJ p.a0 a3) (A.n gD a4 (A.bJ p.a1 a3):eX)) (A.bJ p.a1 a3) (A.n gD a4 (A.bJ p.a0 a3):eX))<|.ret (a4,())
variable{N:Nat}
def agZ{p:Yk}(i:0<=p.a0)(l:0<=p.a1)(m:p.a0+p.a2<=N)(n:p.a1+p.a2<=N)(o:N<=1000000):∀(j:Nat) (k:Int) (d:List eX),(p.a2-k).toNat<=j->0<=k->d.length=N->fo (agz af) N (.ak<|.c0 p k d):=by
 intro j
 induction j with
 | zero=>intro k d f g c;exact fo.ak (fo.lss (λh=>by omega) λ_=>fo.ret c)
 | succ j ih=>
   intro k d f g c;refine fo.ak (fo.lss (λh=>?_) λ_=>fo.ret c);rw[dq (x:=p.a1) (y:=k)<|by omega,dq (x:=p.a0) (y:=k)<|by omega,dq (x:=k) (y:=1)<|by omega];exact fo.ao (bM<|by omega)<|fo.ao (bM<|by omega)<|fo.ao (bM<|by omega)<|fo.ao (Fa<|by omega)<|ih (k+1) _ (by omega) (by omega)<|gK.trans<|gK.trans c
variable{a b:Int}
def an2{n:Int}(h:0<=a/\0<=n/\a+n<=b/\b+n<=(d.length:Int)/\d.length<=1000000):fo (agz af) d.length<|ao6 af d a b n:=
 agZ (p:=⟨a,b,n⟩) (by simp only;omega) (by simp only;omega) (by simp only;omega) (by simp only;omega) (by omega) _ 0 d (ai _) (aj 0) rfl
def OW:List eX×(Int×Int×Int)->List eX×Unit:=λ(d,a,b,n)=>(rQ (agz af) (ao6 af d a b n) d,())
def Iq:List eX×(Int×Int×Int)->Bool:=λ(d,a,b,n)=>decide<|0<=a/\0<=n/\a+n<=b/\b+n<=(d.length:Int)/\d.length<=1000000
def aqs:gg:=⟨gD,[yI,yI,yI],[58],[],Iq,OW,false⟩
def aqf:gg.bI prog 235 aqs:=gv ax dJ sl 12 [⟨235,1,[[0,1,2,3,10]]⟩] [] (λA (c,(a,b,n))=>ao6 A c a b n) agz als (kz (fc func235 fz) sz) (λA y=>match y with |.c0 p g i=>⟨49,sl,by kernel_rfl⟩) λ((c,(a,b,n)):List eX×(Int×Int×Int)) f j h=>sV<|an2<|of_decide_eq_true f
structure Yj where(a0:Int)
inductive aeY where|c0(p:Yj)(a1 a2:Int)(a3:List eX)
noncomputable def alq:aeY->gY
 | .c0 p a1 a2 a3=>⟨[gW 187 58 [(0,.own 0),(2,vi p.a0),(4,.fn 58 [] []),(10,vi a1),(11,vi a2)] f187 56],[aZ gD a3,.a_]⟩
def ahv(A:aS)(c:List eX)(a:Int)(m:Int)(b:Int):LT (List eX×Unit) aeY:=.ak<|.c0 ⟨m⟩ (A.fD m a) (A.fD b m) c
def agy(A:aS):aeY->LT (List eX×Unit) aeY
 | .c0 p a1 a2 a3=>.br (A.cm a1 a2) (.br (A.jD a1 a2) (.ao (A.k Iq (a3,A.fD p.a0 a1,p.a0,a2))<|.ak<|.c0 p (A.fD a1 a2) a2 (A.k OW (a3,A.fD p.a0 a1,p.a0,a2)).1)<|.ao (A.k Iq (a3,A.fD p.a0 a1,A.fD (A.bJ p.a0 a2) a1,a1))<|.ak<|.c0 p a1 (A.fD a2 a1) (A.k OW (a3,A.fD p.a0 a1,A.fD (A.bJ p.a0 a2) a1,a1)).1)<|.ao (A.k Iq (a3,A.fD p.a0 a1,p.a0,a1))<|.ret ((A.k OW (a3,A.fD p.a0 a1,p.a0,a1)).1,())
def MZ{n:Int}(h:0<=a/\0<=n/\a+n<=b/\b+n<=(d.length:Int)/\d.length<=1000000):af.k Iq (d,a,b,n)=true:=cr h
def Rm{n:Int}:(af.k OW (d,a,b,n)).1.length=d.length:=oZ
def agp{p:Yj}(r:N<=1000000):∀(f:Nat) (i j:Int) (d:List eX),(i+j).toNat<=f->1<=i->1<=j->i<=p.a0->p.a0+j<=N->d.length=N->fo (agy af) N (.ak<|.c0 p i j d):=by
 intro f
 induction f with
 | zero=>intro i j d n l m;omega
 | succ f ih=>
   intro i j d n l m o q c;refine fo.ak (fo.neq (λh=>fo.gtr (λg=>?_) λg=>?_) λh=>?_)
   .rw[kX (x:=p.a0) (y:=i)<|by omega,kX (x:=i) (y:=j)<|by omega];exact fo.ao (MZ<|by omega)<|ih (i-j) j _ (by omega) (by omega) m (by omega) q<|Rm.trans c
   .rw[dq (x:=p.a0) (y:=j)<|by omega,kX (x:=p.a0) (y:=i)<|by omega,kX (x:=p.a0+j) (y:=i)<|by omega,kX (x:=j) (y:=i)<|by omega];exact fo.ao (MZ<|by omega)<|ih i (j-i) _ (by omega) l (by omega) o (by omega)<|Rm.trans c
   .rw[kX (x:=p.a0) (y:=i)<|by omega];exact fo.ao (MZ<|by omega)<|fo.ret<|Rm.trans c
def anx{m:Int}(h:0<=a/\a<m/\m<b/\b<=(d.length:Int)/\d.length<=1000000):fo (agy af) d.length<|ahv af d a m b:=by
 unfold ahv;rw[kX (x:=m) (y:=a)<|by omega,kX (x:=b) (y:=m)<|by omega];exact agp (p:=⟨m⟩) (by omega) _ (m-a) (b-m) d (ai _) (by omega) (by omega) (by simp only;omega) (by simp only;omega) rfl
def tH:List eX×(Int×Int×Int)->List eX×Unit:=λ(d,a,m,b)=>(rQ (agy af) (ahv af d a m b) d,())
def R4:List eX×(Int×Int×Int)->Bool:=λ(d,a,m,b)=>decide<|0<=a/\a<m/\m<b/\b<=(d.length:Int)/\d.length<=1000000
def aqr:gg:=⟨gD,[yI,yI,yI],[58],[],R4,tH,false⟩
def aqe:gg.bI prog 187 aqr:=gv ax dJ sl 23 [⟨187,2,[[0,2,4,10,11]]⟩] [] (λA (c,(a,m,b))=>ahv A c a m b) agy alq ⟨fc func187 fz,sz,oz,(ic aqf iz),mz,pz⟩ (λA y=>match y with |.c0 p a1 a2 g=>⟨45,sl,by kernel_rfl⟩) λ((c,(a,m,b)):List eX×(Int×Int×Int)) f i h=>sV<|anx<|of_decide_eq_true f
structure aj0 where(a0 a1 a2:Int)(a3:List eX)
structure aj1 where(b0 b1 b2:Int)
inductive aeU where|c0(p:aj0)|c1(p:aj1)(b3:Int)(b4:List eX)
noncomputable def alm:aeU->gY
 | .c0 p=>⟨[gW 136 53 [(0,.own 0),(1,vi p.a0),(2,vi p.a1),(3,.fn 58 [] []),(8,vi p.a2)] f136 12],[aZ gD p.a3,.a_]⟩
 | .c1 p b3 b4=>⟨[gW 136 53 [(0,.own 0),(1,vi p.b0),(2,vi p.b1),(3,.fn 58 [] []),(8,vi p.b2),(9,vi b3)] f136 804],[aZ gD b4,.a_]⟩
def ahs(A:aS)(c:List eX)(a:Int)(b:Int):LT (List eX×Unit) aeU:=.ak<|.c0 ⟨a,b,A.bJ a 1,c⟩
def WG(A:aS):aeU->LT (List eX×Unit) aeU
 | .c0 p=>.br (A.bo p.a2 p.a1) (.ak<|.c1 ⟨p.a0,p.a1,p.a2⟩ p.a2 p.a3)<|.ret (p.a3,())
 | .c1 p b3 b4=>.br (A.jD b3 p.b0) (.fP A b3 b4<|.fP A (A.fD b3 1) b4<|.br (A.bo (A.k OO ((A.n gD b4 b3:eX),(A.n gD b4 (A.fD b3 1):eX))) 0) (.fP A (A.fD b3 1) b4<|.fP A b3 b4<|.fP A b3 b4<|.fP A (A.fD b3 1) (A.set b4 b3 (A.n gD b4 (A.fD b3 1):eX))<|.ak<|.c1 p (A.fD b3 1)<|A.set (A.set b4 b3 (A.n gD b4 (A.fD b3 1):eX)) (A.fD b3 1) (A.n gD b4 b3:eX))<|.ak<|.c0 ⟨p.b0,p.b1,A.bJ p.b2 1,b4⟩)<|.ak<|.c0 ⟨p.b0,p.b1,A.bJ p.b2 1,b4⟩
def afF(A:N<=1000000)(z:0<=a)(B:b<=N):∀(f:Nat) (i:Int) (d:List eX),(b-i).toNat<=f->a<i->d.length=N->fo (WG af) N (.ak<|.c0 ⟨a,b,i,d⟩):=by
 intro f
 induction f with
 | zero=>intro i d q u l;exact fo.ak (fo.lss (λh=>by have:i<b:=h;omega) λ_=>fo.ret l)
 | succ f ih=>
   intro i d q u l;refine fo.ak (fo.lss (λh=>?_) λ_=>fo.ret l);have h:i<b:=h;have p:∀e:List eX,e.length=N->fo (WG af) N (.ak<|.c0 ⟨a,b,af.bJ i 1,e⟩):=λe c=>by
    rw[dq (x:=i) (y:=1)<|by omega];exact ih (i+1) e (by omega) (by omega) c
   have o:∀(g:Nat) (j:Int) (e:List eX),(j-a).toNat<=g->a<=j->j<=i->e.length=N->fo (WG af) N (.ak<|.c1 ⟨a,b,i⟩ j e):=by
    intro g
    induction g with
    | zero=>intro j e r v m c;exact fo.ak (fo.gtr (λh=>by have:a<j:=h;omega) λ_=>p e c)
    | succ g n=>
      intro j e r v m c;refine fo.ak (fo.gtr (λh=>?_) λ_=>p e c);have h:a<j:=h;rw[kX (x:=j) (y:=1)<|by omega];exact fo.ao (bM<|by omega)<|fo.ao (bM<|by omega)<|fo.br (λ_=>fo.ao (bM<|by omega)<|fo.ao (bM<|by omega)<|fo.ao (bM<|by omega)<|fo.ao (Fa<|by omega)<|n (j-1) _ (by omega) (by omega) (by omega)<|gK.trans<|gK.trans c) λ_=>p e c
   exact o _ i d (ai _) (by omega) (aj i) l
def amk(h:0<=a/\a<=b/\b<=(d.length:Int)/\d.length<=1000000):fo (WG af) d.length<|ahs af d a b:=by
 unfold ahs;rw[dq (x:=a) (y:=1)<|by omega];exact afF (by omega) h.1 h.c _ (a+1) d (ai _) (by omega) rfl
def Uc:List eX×(Int×Int)->List eX×Unit:=λ(d,a,b)=>(rQ (WG af) (ahs af d a b) d,())
def MV:List eX×(Int×Int)->Bool:=λ(d,a,b)=>decide<|0<=a/\a<=b/\b<=(d.length:Int)/\d.length<=1000000
def aqo:gg:=⟨gD,[yI,yI],[58],[],MV,Uc,false⟩
def aqd:gg.bI prog 136 aqo:=gv ax dJ sl 14 [⟨136,1,[[0,1,2,3,8]]⟩,⟨136,4,[[0,1,2,3,8,9]]⟩] [] (λA (c,(a,b))=>ahs A c a b) WG alm (kz (fc func136 fz) (sc aiT sz)) (λA y=>match y with |.c0 p=>⟨24,sl,by kernel_rfl⟩|.c1 p b3 b4=>⟨57,sl,by kernel_rfl⟩) λ((c,(a,b)):List eX×(Int×Int)) f g h=>sV<|amk<|of_decide_eq_true f
abbrev Xj:Type:=List eX×Int×Int×Int->List eX×Unit
def jK(k:Nat):List eX×Int×Int×Int->Bool:=λ(d,a,m,b)=>decide<|0<=a/\a<m/\m<b/\b<=(d.length:Int)/\d.length<=1000000/\b-a<=(k:Int)
def aaC(k:Nat)(F:Xj):gg:=⟨gD,[yI,yI,yI],[58],[],jK k,F,false⟩
structure Yf where(a0:Int)(a3:List eX)
structure Yg where(b0:Int)(b3:List eX)
structure Yh where(c0 c1 c2 c3 c4 c7:Int)(c8:List eX)
structure aj2 where(d0:Int)
structure aj3 where(e0:Int)
inductive aeV where|c0(p:Yf)(a1 a2:Int)|c1(p:Yg)(b1 b2:Int)|c2(p:Yh)(c5 c6:Int)|c3(p:aj2)(d1:Int)(d2:List eX)|c4(p:aj3)(e1:Int)(e2:List eX)
noncomputable def aln:aeV->gY
 | .c0 p a1 a2=>⟨[gW 137 220 [(0,.own 0),(1,vi p.a0),(4,.fn 58 [] []),(10,vi a1),(11,vi a2)] f137 344],[aZ gD p.a3,.a_]⟩
 | .c1 p b1 b2=>⟨[gW 137 220 [(0,.own 0),(2,vi p.b0),(4,.fn 58 [] []),(14,vi b1),(15,vi b2)] f137 856],[aZ gD p.b3,.a_]⟩
 | .c2 p c5 c6=>⟨[gW 137 220 [(0,.own 0),(1,vi p.c0),(2,vi p.c1),(3,vi p.c2),(4,.fn 58 [] []),(18,vi p.c3),(19,vi p.c4),(20,vi c5),(21,vi c6),(22,vi p.c7)] f137 2040],[aZ gD p.c8,.a_]⟩
 | .c3 p d1 d2=>⟨[gW 137 220 [(0,.own 0),(10,vi p.d0),(13,vi d1)] f137 1396],[aZ gD d2,.a_]⟩
 | .c4 p e1 e2=>⟨[gW 137 220 [(0,.own 0),(14,vi p.e0),(17,vi e1)] f137 3444],[aZ gD e2,.a_]⟩
abbrev zT(A:aS)(a:Int)(b:Int):=(A.v .i64<|A.b .shr .u64 (A.v .u64<|A.bJ a b) 1)
def ado(A:aS)(c:List eX)(a:Int)(m:Int)(b:Int):LT (List eX×Unit) aeV:=.br (A.bq (A.fD m a) 1) (.ak<|.c0 ⟨a,c⟩ m b)<|.br (A.bq (A.fD b m) 1) (.ak<|.c1 ⟨m,c⟩ a m)<|.br (A.jD m<|zT A a b) (.ak<|.c2 ⟨a,m,b,zT A a b,A.bJ (zT A a b) m,A.fD (A.bJ (zT A a b) m) 1,c⟩ (A.fD (A.bJ (zT A a b) m) b)<|zT A a b)<|.ak<|.c2 ⟨a,m,b,zT A a b,A.bJ (zT A a b) m,A.fD (A.bJ (zT A a b) m) 1,c⟩ a m
def xf(F:Xj)(k:Nat)(A:aS):aeV->LT (List eX×Unit) aeV
 | .c0 p a1 a2=>.br (A.bo a1 a2) (.fP A (A.v .i64<|A.b .shr .u64 (A.v .u64<|A.bJ a1 a2) 1) p.a3<|.fP A p.a0 p.a3<|.br (A.bo (A.k OO ((A.n gD p.a3 (A.v .i64<|A.b .shr .u64 (A.v .u64<|A.bJ a1 a2) 1):eX),(A.n gD p.a3 p.a0:eX))) 0) (.ak<|.c0 p (A.bJ (A.v .i64<|A.b .shr .u64 (A.v .u64<|A.bJ a1 a2) 1) 1) a2)<|.ak<|.c0 p a1<|A.v .i64<|A.b .shr .u64 (A.v .u64<|A.bJ a1 a2) 1)<|.ak<|.c3 ⟨a1⟩ p.a0 p.a3
 | .c1 p b1 b2=>.br (A.bo b1 b2) (.fP A p.b0 p.b3<|.fP A (A.v .i64<|A.b .shr .u64 (A.v .u64<|A.bJ b1 b2) 1) p.b3<|.br (A.not<|A.bo (A.k OO ((A.n gD p.b3 p.b0:eX),(A.n gD p.b3 (A.v .i64<|A.b .shr .u64 (A.v .u64<|A.bJ b1 b2) 1):eX))) 0) (.ak<|.c1 p (A.bJ (A.v .i64<|A.b .shr .u64 (A.v .u64<|A.bJ b1 b2) 1) 1) b2)<|.ak<|.c1 p b1<|A.v .i64<|A.b .shr .u64 (A.v .u64<|A.bJ b1 b2) 1)<|.ak<|.c4 ⟨b1⟩ p.b0 p.b3
 | .c2 p c5 c6=>.br (A.bo c5 c6) (.fP A (A.fD p.c7<|A.v .i64<|A.b .shr .u64 (A.v .u64<|A.bJ c5 c6) 1) p.c8<|.fP A (A.v .i64<|A.b .shr .u64 (A.v .u64<|A.bJ c5 c6) 1) p.c8<|.br (A.not<|A.bo (A.k OO ((A.n gD p.c8 (A.fD p.c7<|A.v .i64<|A.b .shr .u64 (A.v .u64<|A.bJ c5 c6) 1):eX),(A.n gD p.c8 (A.v .i64<|A.b .shr .u64 (A.v .u64<|A.bJ c5 c6) 1):eX))) 0) (.ak<|.c2 p (A.bJ (A.v .i64<|A.b .shr .u64 (A.v .u64<|A.bJ c5 c6) 1) 1) c6)<|.ak<|.c2 p c5<|A.v .i64<|A.b .shr .u64 (A.v .u64<|A.bJ c5 c6) 1)<|.br (A.bo c5 p.c1) (.br (A.bo p.c1<|A.fD p.c4 c5) (.ao (A.k R4 (p.c8,c5,p.c1,A.fD p.c4 c5))<|.br (A.bo p.c0 c5) (.br (A.bo c5 p.c3) (.ao (A.k (jK k) ((A.k tH (p.c8,c5,p.c1,A.fD p.c4 c5)).1,p.c0,c5,p.c3))<|.br (A.bo p.c3<|A.fD p.c4 c5) (.br (A.bo (A.fD p.c4 c5) p.c2) (.ao (A.k (jK k) ((A.k F ((A.k tH (p.c8,c5,p.c1,A.fD p.c4 c5)).1,p.c0,c5,p.c3)).1,p.c3,A.fD p.c4 c5,p.c2))<|.ret ((A.k F ((A.k F ((A.k tH (p.c8,c5,p.c1,A.fD p.c4 c5)).1,p.c0,c5,p.c3)).1,p.c3,A.fD p.c4 c5,p.c2)).1,()))<|.ret ((A.k F ((A.k tH (p.c8,c5,p.c1,A.fD p.c4 c5)).1,p.c0,c5,p.c3)).1,()))<|.ret ((A.k F ((A.k tH (p.c8,c5,p.c1,A.fD p.c4 c5)).1,p.c0,c5,p.c3)).1,()))<|.br (A.bo p.c3<|A.fD p.c4 c5) (.br (A.bo (A.fD p.c4 c5) p.c2) (.ao (A.k (jK k) ((A.k tH (p.c8,c5,p.c1,A.fD p.c4 c5)).1,p.c3,A.fD p.c4 c5,p.c2))<|.ret ((A.k F ((A.k tH (p.c8,c5,p.c1,A.fD p.c4 c5)).1,p.c3,A.fD p.c4 c5,p.c2)).1,()))<|.ret ((A.k tH (p.c8,c5,p.c1,A.fD p.c4 c5)).1,()))<|.ret ((A.k tH (p.c8,c5,p.c1,A.fD p.c4 c5)).1,()))<|.br (A.bo p.c3<|A.fD p.c4 c5) (.br (A.bo (A.fD p.c4 c5) p.c2) (.ao (A.k (jK k) ((A.k tH (p.c8,c5,p.c1,A.fD p.c4 c5)).1,p.c3,A.fD p.c4 c5,p.c2))<|.ret ((A.k F ((A.k tH (p.c8,c5,p.c1,A.fD p.c4 c5)).1,p.c3,A.fD p.c4 c5,p.c2)).1,()))<|.ret ((A.k tH (p.c8,c5,p.c1,A.fD p.c4 c5)).1,()))<|.ret ((A.k tH (p.c8,c5,p.c1,A.fD p.c4 c5)).1,()))<|.br (A.bo p.c0 c5) (.br (A.bo c5 p.c3) (.ao (A.k (jK k) (p.c8,p.c0,c5,p.c3))<|.br (A.bo p.c3<|A.fD p.c4 c5) (.br (A.bo (A.fD p.c4 c5) p.c2) (.ao (A.k (jK k) ((A.k F (p.c8,p.c0,c5,p.c3)).1,p.c3,A.fD p.c4 c5,p.c2))<|.ret ((A.k F ((A.k F (p.c8,p.c0,c5,p.c3)).1,p.c3,A.fD p.c4 c5,p.c2)).1,()))<|.ret ((A.k F (p.c8,p.c0,c5,p.c3)).1,()))<|.ret ((A.k F (p.c8,p.c0,c5,p.c3)).1,()))<|.br (A.bo p.c3<|A.fD p.c4 c5) (.br (A.bo (A.fD p.c4 c5) p.c2) (.ao (A.k (jK k) (p.c8,p.c3,A.fD p.c4 c5,p.c2))<|.ret ((A.k F (p.c8,p.c3,A.fD p.c4 c5,p.c2)).1,()))<|.ret (p.c8,()))<|.ret (p.c8,()))<|.br (A.bo p.c3<|A.fD p.c4 c5) (.br (A.bo (A.fD p.c4 c5) p.c2) (.ao (A.k (jK k) (p.c8,p.c3,A.fD p.c4 c5,p.c2))<|.ret ((A.k F (p.c8,p.c3,A.fD p.c4 c5,p.c2)).1,()))<|.ret (p.c8,()))<|.ret (p.c8,()))<|.br (A.bo p.c0 c5) (.br (A.bo c5 p.c3) (.ao (A.k (jK k) (p.c8,p.c0,c5,p.c3))<|.br (A.bo p.c3<|A.fD p.c4 c5) (.br (A.bo (A.fD p.c4 c5) p.c2) (.ao (A.k (jK k) ((A.k F (p.c8,p.c0,c5,p.c3)).1,p.c3,A.fD p.c4 c5,p.c2))<|.ret ((A.k F ((A.k F (p.c8,p.c0,c5,p.c3)).1,p.c3,A.fD p.c4 c5,p.c2)).1,()))<|.ret ((A.k F (p.c8,p.c0,c5,p.c3)).1,()))<|.ret ((A.k F (p.c8,p.c0,c5,p.c3)).1,()))<|.br (A.bo p.c3<|A.fD p.c4 c5) (.br (A.bo (A.fD p.c4 c5) p.c2) (.ao (A.k (jK k) (p.c8,p.c3,A.fD p.c4 c5,p.c2))<|.ret ((A.k F (p.c8,p.c3,A.fD p.c4 c5,p.c2)).1,()))<|.ret (p.c8,()))<|.ret (p.c8,()))<|.br (A.bo p.c3<|A.fD p.c4 c5) (.br (A.bo (A.fD p.c4 c5) p.c2) (.ao (A.k (jK k) (p.c8,p.c3,A.fD p.c4 c5,p.c2))<|.ret ((A.k F (p.c8,p.c3,A.fD p.c4 c5,p.c2)).1,()))<|.ret (p.c8,()))<|.ret (p.c8,())
 | .c3 p d1 d2=>.br (A.bo d1<|A.fD p.d0 1) (.fP A (A.bJ d1 1) d2<|.fP A d1 d2<|.fP A d1 d2<|.fP A (A.bJ d1 1) (A.set d2 d1 (A.n gD d2 (A.bJ d1 1):eX))<|.ak<|.c3 p (A.bJ d1 1)<|A.set (A.set d2 d1 (A.n gD d2 (A.bJ d1 1):eX)) (A.bJ d1 1) (A.n gD d2 d1:eX))<|.ret (d2,())
 | .c4 p e1 e2=>.br (A.jD e1 p.e0) (.fP A (A.fD e1 1) e2<|.fP A e1 e2<|.fP A e1 e2<|.fP A (A.fD e1 1) (A.set e2 e1 (A.n gD e2 (A.fD e1 1):eX))<|.ak<|.c4 p (A.fD e1 1)<|A.set (A.set e2 e1 (A.n gD e2 (A.fD e1 1):eX)) (A.fD e1 1) (A.n gD e2 e1:eX))<|.ret (e2,())
section
variable {k:Nat} {F:Xj}
def agf{m:Int}(h:0<=a/\a<m/\m<b/\b<=(d.length:Int)/\d.length<=1000000):af.k R4 (d,a,m,b)=true:=cr h
def amE{m:Int}:(af.k tH (d,a,m,b)).1.length=d.length:=oZ
def UN{m:Int}(h:0<=a/\a<m/\m<b/\b<=(d.length:Int)/\d.length<=1000000/\b-a<=(k:Int)):af.k (jK k) (d,a,m,b)=true:=cr h
def ape(n:N<=1000000){i:Int}(m:0<=i)(o:i<=N):∀(f:Nat) (j:Int) (d:List eX),(i-j).toNat<=f->0<=j->d.length=N->fo (xf F k af) N (.ak<|.c3 ⟨i⟩ j d):=by
 intro f
 induction f with
 | zero=>
   intro j d g l c;refine fo.ak ?_;rw[xf,kX (x:=i) (y:=1) (by omega)];exact fo.lss (λh=>by omega) λ_=>fo.ret c
 | succ f ih=>
   intro j d g l c;refine fo.ak ?_;rw[xf,kX (x:=i) (y:=1) (by omega)];refine fo.lss (λh=>?_) λ_=>fo.ret c;rw[dq (x:=j) (y:=1)<|by omega];exact fo.ao (bM<|by omega)<|fo.ao (bM<|by omega)<|fo.ao (bM<|by omega)<|fo.ao (Fa<|by omega)<|ih (j+1) _ (by omega) (by omega)<|gK.trans<|gK.trans c
def alJ(m:N<=1000000){i:Int}(n:0<=i):∀(f:Nat) (j:Int) (d:List eX),(j-i).toNat<=f->j<N->d.length=N->fo (xf F k af) N (.ak<|.c4 ⟨i⟩ j d):=by
 intro f
 induction f with
 | zero=>intro j d g l c;exact fo.ak (fo.gtr (λh=>by have:i<j:=h;omega) λ_=>fo.ret c)
 | succ f ih=>
   intro j d g l c;refine fo.ak (fo.gtr (λh=>?_) λ_=>fo.ret c);have h:i<j:=h;rw[kX (x:=j) (y:=1)<|by omega];exact fo.ao (bM<|by omega)<|fo.ao (bM<|by omega)<|fo.ao (bM<|by omega)<|fo.ao (Fa<|by omega)<|ih (j-1) _ (by omega) (by omega)<|gK.trans<|gK.trans c
def anG{p:Yf}(q:N<=1000000)(r:p.a3.length=N)(o:0<=p.a0/\p.a0<N):∀(f:Nat) (i j:Int),(j-i).toNat<=f->0<=i->i<=j->j<=N->fo (xf F k af) N (.ak<|.c0 p i j):=by
 intro f;have l:∀i:Int,0<=i->i<=N->fo (xf F k af) N (.ak (.c3 ⟨i⟩ p.a0 p.a3)):=λi h g=>ape q h g _ p.a0 p.a3 (ai _) o.1 r
 induction f with
 | zero=>intro i j u g m n;exact fo.ak (fo.lss (λh=>by omega) λ_=>l i g<|by omega)
 | succ f ih=>
   intro i j u g m n;refine fo.ak (fo.lss (λh=>?_) λ_=>l i g<|by omega);have⟨c,e,c1,c2⟩:=Pf g (show 0<=j by omega) (by omega);rw[e,dq (x:=c) (y:=1)<|by omega];exact fo.ao (bM<|by omega)<|fo.ao (bM<|by omega)<|fo.br (λ_=>ih (c+1) j (by omega) (by omega) (by omega) n) λ_=>ih i c (by omega) g (by omega) (by omega)
def anH{p:Yg}(q:N<=1000000)(r:p.b3.length=N)(o:0<=p.b0/\p.b0<N):∀(f:Nat) (i j:Int),(j-i).toNat<=f->0<=i->i<=j->j<=N->fo (xf F k af) N (.ak<|.c1 p i j):=by
 intro f;have l:∀i:Int,0<=i->fo (xf F k af) N (.ak (.c4 ⟨i⟩ p.b0 p.b3)):=λi g=>alJ q g _ p.b0 p.b3 (ai _) o.2 r
 induction f with
 | zero=>intro i j u g m n;exact fo.ak (fo.lss (λh=>by omega) λ_=>l i g)
 | succ f ih=>
   intro i j u g m n;refine fo.ak (fo.lss (λh=>?_) λ_=>l i g);have⟨c,e,c1,c2⟩:=Pf g (show 0<=j by omega) (by omega);rw[e,dq (x:=c) (y:=1)<|by omega];exact fo.ao (bM<|by omega)<|fo.ao (bM<|by omega)<|fo.br (λ_=>ih (c+1) j (by omega) (by omega) (by omega) n) λ_=>ih i c (by omega) g (by omega) (by omega)
def ab3(D:∀x,(F x).1.length=x.1.length){p:Yh}(V:N<=1000000)(g:p.c8.length=N){lo:Int}(H:0<=p.c0/\p.c0<p.c1/\p.c1<p.c2/\p.c2<=N/\p.c2-p.c0<=(k:Int)+1)
  (I:2*p.c3<=p.c0+p.c2/\p.c0+p.c2<=2*p.c3+1) (J:p.c4=p.c3+p.c1) (K:p.c7=p.c4-1) (O:p.c0<=lo/\p.c4-lo<=p.c2) :
  ∀(f:Nat) (i j:Int),(j-i).toNat<=f->lo<=i->i<=j->j<=p.c1->j<=p.c3\/p.c1<=p.c3->fo (xf F k af) N (.ak<|.c2 p i j):=by
 have B:∀{d:List eX} {a m b:Int},(af.k F (d,a,m,b)).1.length=d.length:=D _;have l:∀i:Int,lo<=i->i<=p.c1->i<=p.c3\/p.c1<=p.c3->fo (xf F k af) N (.ak<|.c2 p i i):=λi P Q S=>by
  refine fo.ak ?_;rw[xf,kX (x:=p.c4) (y:=i)<|by omega];refine fo.lss (λh=>by omega) λ_=>?_;have C:∀{d:List eX},d.length=N->p.c3<p.c4-i->p.c4-i<p.c2->fo (xf F k af) N (.ao (af.k (jK k) (d,p.c3,p.c4-i,p.c2))<|.ret ((af.k F (d,p.c3,p.c4-i,p.c2)).1,())):=λg n o=>fo.ao (UN<|by omega)<|fo.ret<|B.trans g
  have q:∀{d:List eX},d.length=N->fo (xf F k af) N (.br (af.bo p.c3<|p.c4-i) (.br (af.bo (p.c4-i) p.c2) (.ao (af.k (jK k) (d,p.c3,p.c4-i,p.c2))<|.ret ((af.k F (d,p.c3,p.c4-i,p.c2)).1,()))<|.ret (d,()))<|.ret (d,())):=λg=>
   fo.lss (λn=>fo.lss (λo=>C g n o) λ_=>fo.ret g) λ_=>fo.ret g
  have r:∀{d:List eX},d.length=N->fo (xf F k af) N (.br (af.bo p.c0 i) (.br (af.bo i p.c3) (.ao (af.k (jK k) (d,p.c0,i,p.c3))<|.br (af.bo p.c3<|p.c4-i) (.br (af.bo (p.c4-i) p.c2) (.ao (af.k (jK k) ((af.k F (d,p.c0,i,p.c3)).1,p.c3,p.c4-i,p.c2))<|.ret ((af.k F ((af.k F (d,p.c0,i,p.c3)).1,p.c3,p.c4-i,p.c2)).1,()))<|.ret ((af.k F (d,p.c0,i,p.c3)).1,()))<|.ret ((af.k F (d,p.c0,i,p.c3)).1,()))
    (.br (af.bo p.c3<|p.c4-i) (.br (af.bo (p.c4-i) p.c2) (.ao (af.k (jK k) (d,p.c3,p.c4-i,p.c2))<|.ret ((af.k F (d,p.c3,p.c4-i,p.c2)).1,()))<|.ret (d,()))<|.ret (d,())))
    (.br (af.bo p.c3<|p.c4-i) (.br (af.bo (p.c4-i) p.c2) (.ao (af.k (jK k) (d,p.c3,p.c4-i,p.c2))<|.ret ((af.k F (d,p.c3,p.c4-i,p.c2)).1,()))<|.ret (d,()))<|.ret (d,()))):=λg=>
   fo.lss (λn=>fo.lss (λo=>fo.ao (UN<|by omega)<|q<|B.trans g) λ_=>q g) λ_=>q g
  refine fo.lss (λn=>fo.lss (λo=>fo.ao (agf<|by omega)<|r<|amE.trans g) λ_=>r g) λ_=>r g
 intro f
 induction f with
 | zero=>intro i j G v z A u;rw[show j=i by omega];exact l i v (by omega) (by omega)
 | succ f ih=>
   intro i j G v z A u;by_cases E:i=j
   .rw[E];exact l j (by omega) A u
   refine fo.ak (fo.lss (λh=>?_) λh=>by omega);have⟨c,e,c1,c2⟩:=Pf (i:=i) (j:=j) (by omega) (by omega) (by omega);rw[e,dq (x:=c) (y:=1)<|by omega,kX (x:=p.c7) (y:=c)<|by omega];exact fo.ao (bM<|by omega)<|fo.ao (bM<|by omega)<|fo.br (λ_=>ih (c+1) j (by omega) (by omega) (by omega) A u) λ_=>ih i c (by omega) v (by omega) (by omega) (by omega)
def ag0(n:∀x,(F x).1.length=x.1.length){m:Int}(h:0<=a/\a<m/\m<b/\b<=(d.length:Int)/\d.length<=1000000/\b-a<=((k+1:Nat):Int)):fo (xf F k af) d.length<|ado af d a m b:=by
 have⟨o,r,u,q,f,l⟩:=h;have l:b-a<=(k:Int)+1:=l;unfold ado zT;have⟨c,e,c1,c2⟩:=Pf (i:=a) (j:=b) (by omega) (by omega) (by omega);rw[e,kX (x:=m) (y:=a)<|by omega,kX (x:=b) (y:=m)<|by omega,dq (x:=c) (y:=m)<|by omega,kX (x:=c+m) (y:=1)<|by omega,kX (x:=c+m) (y:=b)<|by omega];refine fo.eql (λ_=>anG (p:=⟨a,d⟩) f rfl (by simp only;omega) _ m b (ai _) (by omega) (by omega) q) λ_=>fo.eql (λ_=>anH (p:=⟨m,d⟩) f rfl (by simp only;omega) _ a m (ai _) o (by omega)<|by omega) λ_=>fo.gtr (λg=>?_) λg=>?_
 .exact ab3 n (p:=⟨a,m,b,c,c+m,c+m-1,d⟩) (lo:=c+m-b) f rfl (by simp only;omega) (by simp only;omega) rfl rfl (by simp only;omega) _ (c+m-b) c (ai _) (aj _) (by omega) (by simp only;omega) (by simp only;omega)
 .exact ab3 n (p:=⟨a,m,b,c,c+m,c+m-1,d⟩) (lo:=a) f rfl (by simp only;omega) (by simp only;omega) rfl rfl (by simp only;omega) _ a m (ai _) (aj _) (by omega) (by simp only;omega) (by simp only;omega)
end
def amn{k:Nat}{F:Xj}(f:∀x,(F x).1.length=x.1.length)(i:gg.bI prog 137<|aaC k F):gg.bI prog 137 (aaC (k+1) λ(d,a,m,b)=>(rQ (xf F k af) (ado af d a m b) d,())):=gv ax dJ sl 76 [⟨137,3,[[0,1,4,10,11]]⟩,⟨137,9,[[0,10,13]]⟩,⟨137,15,[[0,2,4,14,15]]⟩,⟨137,21,[[0,14,17]]⟩,⟨137,33,[[0,1,2,3,4,18,19,20,21,22]]⟩] [] (λA (c,(a,m,b))=>ado A c a m b) (xf F k) aln ⟨fc func137 fz,(sc aiT sz),oz,(ic i (ic aqe iz)),mz,pz⟩ (λA y=>match y with |.c0 p a1 a2=>⟨47,sl,by kernel_rfl⟩|.c1 p b1 b2=>⟨48,sl,by kernel_rfl⟩|.c2 p c5 c6=>⟨84,sl,by kernel_rfl⟩|.c3 p d1 d2=>⟨44,sl,by kernel_rfl⟩|.c4 p e1 e2=>⟨43,sl,by kernel_rfl⟩) λ((c,(a,m,b)):List eX×(Int×Int×Int)) g j h=>sV<|ag0 f<|of_decide_eq_true g
def KG:Nat->Xj
 | 0=>λx=>(x.1,())
 | k+1=>λ(d,a,m,b)=>(rQ (xf (KG k) k af) (ado af d a m b) d,())
theorem aaP:∀(k:Nat) (x:List eX×Int×Int×Int),(KG k x).1.length=x.1.length
 | 0,_=>rfl
 | _+1,_=>oZ
def abH{x:List eX×Int×Int×Int}:jK 0 x=false:=by
 have⟨d,a,m,b⟩:=x;exact gw (by omega)
theorem ah_:∀k,gg.bI prog 137<|aaC k<|KG k
 | 0=>⟨λw I x y v f B _ _ _ _ c=>Bool.noConfusion<|(abH (x:=(x,y))).symm.trans c,f137,func137,by kernel_rfl,by kernel_rfl⟩
 | k+1=>amn (aaP k)<|ah_ k
structure ajV where(a0:Int)
structure ajW where(b0 b1:Int)(b2:List eX)
structure ajX where(c0 c1:Int)
inductive aeN where|c0(p:ajV)(a2 a3:Int)(a4:List eX)|c1(p:ajW)|c2(p:ajX)(c2 c3:Int)(c4:List eX)
noncomputable def ale:aeN->gY
 | .c0 p a2 a3 a4=>⟨[gW 90 63 [(0,.own 0),(1,vi p.a0),(2,.fn 58 [] []),(6,vi 20),(7,vi a2),(8,vi a3)] f90 56],[aZ gD a4,.a_]⟩
 | .c1 p=>⟨[gW 90 63 [(0,.own 0),(1,vi p.b0),(2,.fn 58 [] []),(6,vi p.b1)] f90 124],[aZ gD p.b2,.a_]⟩
 | .c2 p c2 c3 c4=>⟨[gW 90 63 [(0,.own 0),(1,vi p.c0),(2,.fn 58 [] []),(6,vi p.c1),(7,vi c2),(8,vi c3)] f90 7976],[aZ gD c4,.a_]⟩
def ao3(A:aS)(c:List eX)(n:Int):LT (List eX×Unit) aeN:=.ak<|.c0 ⟨n⟩ 0 20 c
def Sf(A:aS):aeN->LT (List eX×Unit) aeN
 | .c0 p a2 a3 a4=>.br (A.bE a3 p.a0) (.ao (A.k MV (a4,a2,a3))<|.ak<|.c0 p a3 (A.bJ a3 20) (A.k Uc (a4,a2,a3)).1)<|.ao (A.k MV (a4,a2,p.a0))<|.ak<|.c1 ⟨p.a0,20,(A.k Uc (a4,a2,p.a0)).1⟩
 | .c1 p=>.br (A.bo p.b1 p.b0) (.ak<|.c2 ⟨p.b0,p.b1⟩ 0 (A.b .mul .i64 2 p.b1) p.b2)<|.ret (p.b2,())
 | .c2 p c2 c3 c4=>.br (A.bE c3 p.c0) (.ao (A.k (jK 1000000) (c4,c2,A.bJ c2 p.c1,c3))<|.ak<|.c2 p c3 (A.bJ c3<|A.b .mul .i64 2 p.c1) (A.k (KG 1000000) (c4,c2,A.bJ c2 p.c1,c3)).1)<|.br (A.bo (A.bJ c2 p.c1) p.c0) (.ao (A.k (jK 1000000) (c4,c2,A.bJ c2 p.c1,p.c0))<|.ak<|.c1 ⟨p.c0,A.b .mul .i64 p.c1 2,(A.k (KG 1000000) (c4,c2,A.bJ c2 p.c1,p.c0)).1⟩)<|.ak<|.c1 ⟨p.c0,A.b .mul .i64 p.c1 2,c4⟩
def agX(q:N<=1000000){bs:Int}(p:1<=bs/\bs<=1000000)(g:∀d:List eX,d.length=N->fo (Sf af) N (.ak<|.c1 ⟨(N:Int),af.b .mul .i64 bs 2,d⟩)):∀(f:Nat) (a:Int) (d:List eX),(N-a).toNat<=f->0<=a->a<=N->d.length=N->fo (Sf af) N (.ak<|.c2 ⟨(N:Int),bs⟩ a (a+2*bs) d):=by
 have e:af.b .mul .i64 2 bs=2*bs:=by rw[jq,lZ (by omega)<|by omega]
 have i:∀{d:List eX} {a m b:Int},(af.k (KG 1000000) (d,a,m,b)).1.length=d.length:=aaP _ _;have j:∀{d:List eX} {a m b:Int},(0<=a/\a<m/\m<b/\b<=(d.length:Int)/\d.length<=1000000/\b-a<=((1000000:Nat):Int))->af.k (jK 1000000) (d,a,m,b)=true:=λh=>cr h;intro f
 induction f with
 | zero=>
   intro a d n l o c;refine fo.ak (fo.leq (λh=>by have:a+2*bs<=N:=h;omega) λ_=>?_);rw[show af.bJ a bs=a+bs from dq<|by omega];exact fo.lss (λh=>by have:a+bs<N:=h;omega) λ_=>g d c
 | succ f ih=>
   intro a d n l o c;refine fo.ak (fo.leq (λh=>?_) λ_=>?_)
   .have h:a+2*bs<=N:=h;rw[show af.bJ a bs=a+bs from dq<|by omega,show af.b .mul .i64 2 bs=2*bs from e,dq (x:=a+2*bs) (y:=2*bs)<|by omega];exact fo.ao (j<|by omega)<|ih (a+2*bs) _ (by omega) (by omega) h<|i.trans c
   .rw[show af.bJ a bs=a+bs from dq<|by omega];exact fo.lss (λh=>by have h:a+bs<N:=h;exact fo.ao (j (by simp only;omega))<|g _<|i.trans c) λ_=>g d c
def U_(i:N<=1000000):∀(f:Nat) (bs:Int) (d:List eX),(N-bs).toNat<=f->1<=bs->d.length=N->fo (Sf af) N (.ak<|.c1 ⟨(N:Int),bs,d⟩):=by
 intro f
 induction f with
 | zero=>intro bs d l g c;exact fo.ak (fo.lss (λh=>by have:bs<N:=h;omega) λ_=>fo.ret c)
 | succ f ih=>
   intro bs d l g c;refine fo.ak (fo.lss (λh=>?_) λ_=>fo.ret c);have h:bs<N:=h;rw[show af.b .mul .i64 2 bs=0+2*bs by rw[jq,lZ (by omega)<|by omega];omega];refine agX i ⟨g,by omega⟩ (λe j=>?_) _ 0 d (ai _) (aj 0) (by omega) c;rw[show af.b .mul .i64 bs 2=bs*2 by rw[jq,lZ (by omega)<|by omega]];exact ih (bs*2) e (by omega) (by omega) j
def agW(j:N<=1000000):∀(f:Nat) (a:Int) (d:List eX),(N-a).toNat<=f->0<=a->a<=N->d.length=N->fo (Sf af) N (.ak<|.c0 ⟨(N:Int)⟩ a (a+20) d):=by
 have g:∀{d:List eX} {a b:Int},(af.k Uc (d,a,b)).1.length=d.length:=oZ;have i:∀{d:List eX} {a b:Int},(0<=a/\a<=b/\b<=(d.length:Int)/\d.length<=1000000)->af.k MV (d,a,b)=true:=λh=>cr h;intro f
 induction f with
 | zero=>intro a d m l n c;exact fo.ak (fo.leq (λh=>by have:a+20<=N:=h;omega) λ_=>fo.ao (i (by simp only;omega))<|U_ j _ 20 _ (ai _) (by omega)<|g.trans c)
 | succ f ih=>
   intro a d m l n c;refine fo.ak (fo.leq (λh=>?_) λ_=>fo.ao (i (by simp only;omega))<|U_ j _ 20 _ (ai _) (by omega)<|g.trans c);have h:a+20<=N:=h;rw[dq (x:=a+20) (y:=20)<|by omega];exact fo.ao (i<|by omega)<|ih (a+20) _ (by omega) (by omega) h<|g.trans c
def anX{n:Int}(h:n=(d.length:Int)/\d.length<=1000000):fo (Sf af) d.length<|ao3 af d n:=by
 obtain⟨rfl,h⟩:=h;exact agW h _ 0 d (ai _) (aj 0) (by omega) rfl
def Z2:List eX×Int->List eX×Unit:=λ(d,n)=>(rQ (Sf af) (ao3 af d n) d,())
def abG:List eX×Int->Bool:=λ(d,n)=>decide<|n=(d.length:Int)/\d.length<=1000000
def aqn:gg:=⟨gD,[yI],[58],[],abG,Z2,false⟩
def aqc:gg.bI prog 90 aqn:=gv ax dJ sl 19 [⟨90,2,[[0,1,2,6,7,8]]⟩,⟨90,7,[[0,1,2,6]]⟩,⟨90,9,[[0,1,2,6,7,8]]⟩] [] (λA (c,n)=>ao3 A c n) Sf ale ⟨fc func90 fz,sz,oz,(ic aqd (ic (ah_ 1000000) iz)),mz,pz⟩ (λA y=>match y with |.c0 p a2 g i=>⟨36,sl,by kernel_rfl⟩|.c1 p=>⟨26,sl,by kernel_rfl⟩|.c2 p c2 c3 c4=>⟨44,sl,by kernel_rfl⟩) λ((c,n):List eX×Int) f j h=>sV<|anX<|of_decide_eq_true f
def ao2(A:aS)(c:List eX):LT (List eX×Unit) Empty:=.ao (A.k abG (c,A.l c))<|.ret ((A.k Z2 (c,A.l c)).1,())
def anW(h:d.length<=1000000):fo Empty.elim d.length<|ao2 af d:=
 fo.ao (cr ⟨rfl,h⟩) (fo.ret<|show(af.k Z2 (d,af.l d)).1.length=d.length from oZ)
def Z1:List eX×Unit->List eX×Unit:=λ(d,_)=>(rQ Empty.elim (ao2 af d) d,())
def Ik:List eX×Unit->Bool:=λ(d,_)=>decide<|d.length<=1000000
def aqm:gg:=⟨gD,[],[58],[],Ik,Z1,false⟩
def aqb:gg.bI prog 57 aqm:=gv ax dJ sl 13 [] [] (λA (c,())=>ao2 A c) (λ_=>Empty.elim) Empty.elim ⟨fc func57 fz,sz,oz,(ic aqc iz),mz,pz⟩ (λ_ y=>y.elim) λ((c,()):List eX×Unit) f g h=>sV<|anW<|of_decide_eq_true f
structure ajQ where(a4:aA)(a5:gH)
structure ajR where(b4:aA)(b5:gH)
structure Yc where(c0:Int)(c2 c4:aA)(c5:gH)(c6 c7:Int)
structure ajS where(d0:Int)(d2 d4:aA)(d5:gH)(d6 d7:Int)
inductive aeK where|c0(p:ajQ)|c1(p:ajR)|c2(p:Yc)|c3(p:ajS)(d1:Int)(Y1:List cN)
noncomputable def ak_:aeK->gY
 | .c0 p=>⟨[gW 76 55 [(0,.fG true),(4,pZ 0),(14,.fG true),(15,vi 0),(16,vi 0)] f76 244,E8 40 83 [(2,pZ 1),(6,pZ 2)] f40 30 0],[gZ [vb true,.fG true,vi 0],dZ bD p.a4,dZ lD p.a5,.a_]⟩
 | .c1 p=>⟨[gW 76 55 [(4,pZ 0),(29,.fG true),(30,vi 0),(31,vi 0)] f76 500,E8 40 83 [(2,pZ 1),(6,pZ 2)] f40 30 0],[gZ [vb true,.fG true,vi 0],dZ bD p.b4,dZ lD p.b5,.a_]⟩
 | .c2 p=>⟨[gW 40 83 [(2,pZ 0),(9,pZ 1),(57,vi p.c0),(58,vi 0)] f40 4084],[dZ bD p.c2,gZ<|[vb true]++dc bD p.c4++dc lD p.c5 ++ [vi p.c6,vi p.c7,pZ 2,.fG true,.fG true,.fG true,.fG true,.fG true],gZ [vb true,.fG true,vi 0],.a_]⟩
 | .c3 p d1 c=>⟨[gW 40 83 [(2,pZ 0),(9,pZ 1),(57,vi p.d0),(58,vi d1)] f40 4084],[dZ bD p.d2,gZ<|[vb true]++dc bD p.d4++dc lD p.d5 ++ [vi p.d6,vi p.d7,pZ 2,.own 3,.fG true,.fG true,.fG true,.fG true],gZ [vb true,.fG true,vi 0],aZ bS c,.a_]⟩
def adL(A:aS)(p:Yc):List cN:=([((A.k wR (p.c2,0)).1,(0,0,([]:List Int)),0,0,0,false,false,false)]:List cN)
def adm(A:aS)(m:aA)(s:gH):LT (Bool×Net×Int) aeK:=.ao (A.k tO (m,s))<|.br (A.cm (A.k OG (m,s)).2 0) (.ret (false,(Ty.gy jS:Net),(A.k OG (m,s)).2))<|.ak<|.c0 ⟨m,(A.k OG (m,s)).1⟩
def WE(A:aS):aeK->LT (Bool×Net×Int) aeK
 | .c0 p=>.br (A.bo 0 0) (.bY 37 "queue.go:33")<|.ak<|.c1 ⟨p.a4,p.a5⟩
 | .c1 p=>.br (A.bo 0 0) (.bY 37 "queue.go:38")<|.ak<|.c2 ⟨p.b4.1,p.b4,p.b4,p.b5,p.b5.1,A.bJ (A.b .mul .i64 p.b4.2.1<|A.bJ (A.b .mul .i64 (A.bJ p.b5.1 2) p.b4.1) 1)<|A.b .mul .i64 4<|A.b .mul .i64 p.b5.1 p.b4.2.2.2.1⟩
 | .c2 p=>.br (A.bo 0 p.c0) (.br (A.cm (A.k wR (p.c2,0)).2 0) (.ret (false,(Ty.gy jS:Net),(A.k wR (p.c2,0)).2))<|.ao (A.bE (A.l ((adL A p):List cN)) 502633886983)<|.ak<|.c3 ⟨p.c0,p.c2,p.c4,p.c5,p.c6,p.c7⟩ (A.bJ 0 1)<|adL A p)<|.ret (true,(true,p.c4,p.c5,p.c6,p.c7,(true,([]:List jr),0),([]:List cN),([]:List fC),([]:List fC),([]:List tg),([]:List eX)),0)
 | .c3 p d1 c=>.br (A.bo d1 p.d0) (.br (A.cm (A.k wR (p.d2,d1)).2 0) (.ret (false,(Ty.gy jS:Net),(A.k wR (p.d2,d1)).2))<|.ao (A.bE (A.l<|A.p c ([((A.k wR (p.d2,d1)).1,(0,0,([]:List Int)),0,0,0,false,false,false)]:List cN)) 502633886983)<|.ak<|.c3 p (A.bJ d1 1)<|A.p c ([((A.k wR (p.d2,d1)).1,(0,0,([]:List Int)),0,0,0,false,false,false)]:List cN))<|.ret (true,(true,p.d4,p.d5,p.d6,p.d7,(true,([]:List jr),0),c,([]:List fC),([]:List fC),([]:List tg),([]:List eX)),0)
def pE:(aA×gH)->Bool×Net×Int:=λ(m,s)=>fA (WE af) (adm af m s) (false,Ty.gy jS,Ty.aR [yI])
def RS:(aA×gH)->Bool:=λ(m,s)=>fO (WE af)<|adm af m s
def arI:pn:=⟨[bD,lD],axR,true,[yI],RS,pE⟩
def arF:pn.bI prog 40 arI:=wG ax dJ sl 65 [⟨40,10,[[2,9,57,58]]⟩,⟨76,5,[[0,4,14,15,16],[2,6]]⟩,⟨76,11,[[4,29,30,31],[2,6]]⟩] [] (λA (m,s)=>adm A m s) WE ak_ (kz (fc func40 (fc func76 fz)) (sc aiB (sc atb sz))) (λA y=>match y with |.c0 p=>⟨22,sl,by kernel_rfl⟩|.c1 p=>⟨78,sl,by kernel_rfl⟩|.c2 p=>⟨59,sl,by kernel_rfl⟩|.c3 p d1 f=>⟨59,sl,by kernel_rfl⟩) λ((m,s):(aA×gH)) c h=>dN c
structure X9 where(a1:List Bool)(a2:Int)(a4:aA)(a5:Net)
structure Lq where(b0:Int)(b1:List Bool)(b2:Int)(b4:aA)
inductive Yx where|c0(p:X9)(a0 a3:Int)|c1(p:Lq)(b3:Int)(b5:Net)
noncomputable def ak7:Yx->gY
 | .c0 p a0 a3=>⟨[gW 17 100 [(2,pZ 0),(6,pZ 1),(8,vi a0),(27,.sl .bool p.a1),(28,vi p.a2),(29,vi a3)] f17 500],[dZ bD p.a4,CG p.a5 2 3 4 5 6 7,CB p.a5 8,Cy p.a5,Cw p.a5,bxB p.a5,CF p.a5,Cz p.a5,Cx p.a5,.a_]⟩
 | .c1 p b3 c=>⟨[gW 17 100 [(2,pZ 0),(6,pZ 1),(8,vi p.b0),(44,.sl .bool p.b1),(45,vi p.b2),(46,vi b3)] f17 1012],[dZ bD p.b4,CG c 2 3 4 5 6 7,CB c 8,Cy c,Cw c,bxB c,CF c,Cz c,Cx c,.a_]⟩
def NI(A:aS)(p:Lq)(c:Int)(f:Net):List cN:=(A.set f.2.2.2.2.2.2.1 c ((A.k TO (p.b4,(A.n bS f.2.2.2.2.2.2.1 c:cN).1,p.b0)).1,(A.n bS f.2.2.2.2.2.2.1 c:cN).2))
def ym(A:aS)(p:Lq)(c:Int)(f:Net):List cN:=(md A bS (NI A p c f) c λ(g:cN)=>zm g (A.bJ p.b4.2.1 (A.n yI f.2.2.1.2.2.1 c:Int),(0:Int),([]:List Int)))
def NA(A:aS)(m:aA)(s:gH):LT (Bool×Net×Int) Yx:=.ao (A.k RS (m,s))<|.br (A.k pE (m,s)).1 (.br (A.cm (A.k pE (m,s)).2.2 0) (.ret (false,(Ty.gy jS:Net),(A.k pE (m,s)).2.2))<|.ak<|.c0 ⟨(A.k pE (m,s)).2.1.2.2.1.2.1,A.l (A.k pE (m,s)).2.1.2.2.1.2.1,m,(A.k pE (m,s)).2.1⟩ 0 0)<|.br (A.cm (A.k pE (m,s)).2.2 0) (.ret (false,(Ty.gy jS:Net),(A.k pE (m,s)).2.2))<|.bY 73 "busnet.go:95"
def B5(A:aS):Yx->LT (Bool×Net×Int) Yx
 | .c0 p a0 a3=>.br (A.bo a3 p.a2) (.fP A a3 p.a1<|.br (A.n .bool p.a1 a3:Bool) (.ao (A.bE 0 a3)<|.ak<|.c0 p (A.b .or .i64 a0<|A.b .shl .i64 1 a3)<|A.bJ a3 1)<|.ak<|.c0 p a0<|A.bJ a3 1)<|.ak<|.c1 ⟨a0,p.a5.2.2.1.2.1,A.l p.a5.2.2.1.2.1,p.a4⟩ 0 p.a5
 | .c1 p b3 c=>.br (A.bo b3 p.b2) (.fP A b3 p.b1<|.br (A.not (A.n .bool p.b1 b3:Bool)) (.ak<|.c1 p (A.bJ b3 1) c)<|.fP A b3 c.2.2.2.2.2.2.1<|.br (A.cm (A.k TO (p.b4,(A.n bS c.2.2.2.2.2.2.1 b3:cN).1,p.b0)).2 0) (.ret (false,(Ty.gy jS:Net),(A.k TO (p.b4,(A.n bS c.2.2.2.2.2.2.1 b3:cN).1,p.b0)).2))<|.fP A b3 c.2.2.1.2.2.1<|.ao (A.k wo (qK c<|ym A p b3 c,(A.n bS (ym A p b3 c) b3:cN).2.1.1,4,b3))<|.qI A (ym A p b3 c)<|.ak<|.c1 p (A.bJ b3 1) (A.k zH (qK c<|ym A p b3 c,(A.n bS (ym A p b3 c) b3:cN).2.1.1,4,b3)).1)<|.ret (true,c,0)
def nD:(aA×gH)->Bool×Net×Int:=λ(m,s)=>fA (B5 af) (NA af m s) (false,Ty.gy jS,Ty.aR [yI])
def Ih:(aA×gH)->Bool:=λ(m,s)=>fO (B5 af)<|NA af m s
def arH:pn:=⟨[bD,lD],axR,true,[yI],Ih,nD⟩
def arE:pn.bI prog 17 arH:=wG ax dJ sl 49 [⟨17,6,[[2,6,8,27,28,29]]⟩,⟨17,12,[[2,6,8,44,45,46]]⟩] [] (λA (m,s)=>NA A m s) B5 ak7 ⟨fc func17 fz,(sc asC sz),(oc arF oz),iz,(mc Ph mz),pz⟩ (λA y=>match y with |.c0 p f g=>⟨40,sl,by kernel_rfl⟩|.c1 p b3 i=>⟨101,sl,by kernel_rfl⟩) λ((m,s):(aA×gH)) c h=>dN c
def Sv(A:aS)(c:Net):LT (Net×Bool) Empty:=.br (A.not c.1) (.ret (c,true))<|.ao (A.k RU (c.2.2.2.2.2.1,()))<|.ret (vn c (A.k ON (c.2.2.2.2.2.1,())).1,A.bq (A.k ON (c.2.2.2.2.2.1,())).2 0)
def wT:Net×Unit->Net×Bool:=λ(c,())=>fA Empty.elim (Sv af c) (Ty.aR [jS],Ty.aR [.bool])
def ML:Net×Unit->Bool:=λ(c,())=>fO Empty.elim (Sv af c)&&decide (VF.lens [fJ] (wT (c,())).1=VF.lens [fJ] ((c,()):Net×Unit).1)
def aq6:cH:=⟨[fJ],[],[.bool],ML,wT,false,false⟩
def aqJ:cH.bI prog 21 aq6:=bV ax dJ sl 42 [] [] (λA (c,())=>Sv A c) (λ_=>Empty.elim) Empty.elim ⟨fc func21 (fc func45 fz),sz,oz,iz,(mc aqM mz),pz⟩ (λ_ y=>y.elim) (λ((c,()):Net×Unit) f g h=>JW f) (z:=λ_ _ h=>Jv h)
structure X_ where(a0:Int)(a2:Net)
structure Ya where(b0:Int)(b2:Net)
inductive aeI where|c0(p:X_)|c1(p:Ya)(b1:Int)(b3:List eX)
noncomputable def ak8:aeI->gY
 | .c0 p=>⟨[gW 28 30 [(3,.fG true),(11,.own 2),(12,vi p.a0),(13,vi 0)] f28 468],[CG p.a2 3 1 4 5 6 2,Cy p.a2,Cz p.a2,CB p.a2 7,Cw p.a2,bxB p.a2,CF p.a2,Cx p.a2,.a_]⟩
 | .c1 p b1 b3=>⟨[gW 28 30 [(3,.own 2),(11,.own 3),(12,vi p.b0),(13,vi b1)] f28 468],[CG p.b2 4 1 5 6 7 3,Cy p.b2,aZ gD b3,Cz p.b2,CB p.b2 8,Cw p.b2,bxB p.b2,CF p.b2,Cx p.b2,.a_]⟩
def DJ(A:aS)(p:X_):eX:=(A.n gD p.a2.2.2.2.2.2.2.2.2.2.2 0:eX)
def DK(A:aS)(p:Ya)(c:Int):eX:=(A.n gD p.b2.2.2.2.2.2.2.2.2.2.2 c:eX)
def WY(A:aS)(c:Net):LT (Net×(List eX)) aeI:=.br c.1 (.ak<|.c0 ⟨A.l c.2.2.2.2.2.2.2.2.2.2,c⟩)<|.ao (A.k Ik (([]:List eX),()))<|.ret (c,([]:List eX))
def PZ(A:aS):aeI->LT (Net×(List eX)) aeI
 | .c0 p=>.br (A.bo 0 p.a0) (.fP A 0 p.a2.2.2.2.2.2.2.2.2.2.2<|.ao (A.k Ij (DJ A p).2)<|.ao (A.bE (A.l (([(lp1 (DJ A p)<|A.k KE (DJ A p).2)]:List eX):List eX)) 651562446089)<|.ak<|.c1 ⟨p.a0,p.a2⟩ (A.bJ 0 1) ([(lp1 (DJ A p)<|A.k KE (DJ A p).2)]:List eX))<|.ao (A.k Ik (([]:List eX),()))<|.ret (p.a2,([]:List eX))
 | .c1 p b1 b3=>.br (A.bo b1 p.b0) (.fP A b1 p.b2.2.2.2.2.2.2.2.2.2.2<|.ao (A.k Ij (DK A p b1).2)<|.ao (A.bE (A.l<|A.p b3 ([(lp1 (DK A p b1)<|A.k KE (DK A p b1).2)]:List eX)) 651562446089)<|.ak<|.c1 p (A.bJ b1 1)<|A.p b3 ([(lp1 (DK A p b1)<|A.k KE (DK A p b1).2)]:List eX))<|.ao (A.k Ik (b3,()))<|.ret (p.b2,(A.k Z1 (b3,())).1)
def GR:Net×Unit->Net×(List eX):=λ(c,())=>fA (PZ af) (WY af c) (Ty.aR [jS],Ty.aR [(.slice gD)])
def Ii:Net×Unit->Bool:=λ(c,())=>fO (PZ af) (WY af c)&&decide (VF.lens [fJ] (GR (c,())).1=VF.lens [fJ] ((c,()):Net×Unit).1)
def aq7:cH:=⟨[fJ],[],[(.slice gD)],Ii,GR,false,false⟩
def aqK:cH.bI prog 28 aq7:=bV ax dJ sl 49 [⟨28,4,[[3,11,12,13]]⟩] [] (λA (c,())=>WY A c) PZ ak8 ⟨fc func28 (fc func45 fz),(sc aiS sz),oz,(ic aqb iz),mz,pz⟩ (λA y=>match y with |.c0 p=>⟨39,sl,by kernel_rfl⟩|.c1 p b1 b3=>⟨39,sl,by kernel_rfl⟩) (λ((c,()):Net×Unit) f g h=>JW f) (z:=λ_ _ h=>Jv h)
inductive Yw where|c0(a0:Net)|c1
noncomputable def ak5:Yw->gY
 | .c0 a0=>⟨[gW 10 24 [(6,pZ 0)] f10 120],[CG a0 1 2 3 4 5 6,CB a0 7,Cy a0,Cw a0,bxB a0,CF a0,Cz a0,Cx a0,.a_]⟩
 | .c1=>⟨[gW 10 24 [(6,.jX)] f10 120],[.a_]⟩
def adl(A:aS)(m:aA)(s:gH):LT (List eX×Int) Yw:=.ao (A.k Ih (m,s))<|.br (A.k nD (m,s)).1 (.br (A.cm (A.k nD (m,s)).2.2 0) (.ret (([]:List eX),(A.k nD (m,s)).2.2))<|.ak<|.c0 (A.k nD (m,s)).2.1)<|.br (A.cm (A.k nD (m,s)).2.2 0) (.ret (([]:List eX),(A.k nD (m,s)).2.2))<|.ak<|.c1
def zj(A:aS):Yw->LT (List eX×Int) Yw
 | .c0 a0=>.ao (A.k ML (a0,()))<|.qI A a0.2.2.2.2.2.2.1<|.br (A.not (A.k wT (a0,())).2) (.ao (A.k Dl ((A.k wT (a0,())).1,()))<|.qI A (A.k wT (a0,())).1.2.2.2.2.2.2.1<|.ak<|.c0 (A.k wU ((A.k wT (a0,())).1,())).1)<|.ao (A.k Ii ((A.k wT (a0,())).1,()))<|.qI A (A.k wT (a0,())).1.2.2.2.2.2.2.1<|.ret ((A.k GR ((A.k wT (a0,())).1,())).2,0)
 | .c1=>.bY 194 "busnet.go:237"
def pY:(aA×gH)->(List eX×Int):=λ(m,s)=>fA (zj af) (adl af m s)<|Ty.aR [(.slice gD),yI]
def Dk:(aA×gH)->Bool:=λ(m,s)=>fO (zj af)<|adl af m s
def av4:aK:=⟨[bD,lD],[(.slice gD),yI],Dk,pY,false⟩
def aiR:Sd 10 av4:=aX ax dJ sl 37 [⟨10,4,[[6]]⟩] [] (λA (m,s)=>adl A m s) zj ak5 ⟨fc func10 fz,sz,(oc arE oz),iz,(mc aqJ (mc aqK (mc aqL mz))),pz⟩ (λA y=>match y with |.c0 f=>⟨22,sl,by kernel_rfl⟩|.c1=>⟨10,sl,by kernel_rfl⟩) λ((m,s):aA×gH) c h=>dN c
def ao0(A:aS)(s:gH):LT Bool Empty:=.br (A.bE (A.l s.2.2.2.2.2.2.1) 300) (.br (A.bE (A.l s.2.2.2.2.2.2.2) 300) (.ret<|A.bE (A.l s.2.2.2.2.2.1) 1100)<|.ret false)<|.ret false
def ZY:gH->Bool:=λs=>(ao0 af s).val<|Ty.aR [.bool]
def av5:aK:=.all [lD] [.bool] ZY
def atB:Sd 12 av5:=fa<|aQ ax dJ sl 31 [] (λA s=>ao0 A s)<|kz (fc func12 fz) sz
def nc:List Int:=([2]:List Int)
def I8(A:aS):aA×Int×List Bool×List Int×List Int×List Int×List Int×List cq×List bK:=((4,A.bJ 76<|A.k OB (4,0,38,16,0,1,A.p (A.p (A.p [true] [true]) [true]) [true],([(A.p (A.p (A.p (nc)<|nc)<|nc)<|nc,A.p (A.p (A.p [true] [true]) [true]) [true],[true])]:List Mode)),38,16,0,1,A.p (A.p (A.p [true] [true]) [true]) [true],([(A.p (A.p (A.p (nc)<|nc)<|nc)<|nc,A.p (A.p (A.p [true] [true]) [true]) [true],[true])]:List Mode)),0,([]:List Bool),([]:List Int),([]:List Int),([]:List Int),([]:List Int),([]:List cq),([]:List bK))
def DI(A:aS):eX:=(A.n gD (A.k pY<|I8 A).1 3:eX)
def aoZ(A:aS):LT Bool Empty:=.ao (A.bE (A.l ([true]:List Bool)) 140737488355328)<|.ao (A.bE (A.l<|nc) 17592186044416)<|.ao (A.bE (A.l<|A.p [true] [true]) 140737488355328)<|.ao (A.bE (A.l<|A.p (nc)<|nc) 17592186044416)<|.ao (A.bE (A.l<|A.p (A.p [true] [true]) [true]) 140737488355328)<|.ao (A.bE (A.l<|A.p (A.p (nc)<|nc)<|nc) 17592186044416)<|.ao (A.bE (A.l<|A.p (A.p (A.p [true] [true]) [true]) [true]) 140737488355328)<|.ao (A.bE (A.l<|A.p (A.p (A.p (nc)<|nc)<|nc)<|nc) 17592186044416)<|.ao (A.k Dk<|I8 A)<|.br (A.bq (A.k pY<|I8 A).2 0) (.br (A.bq (A.l (A.k pY<|I8 A).1) 4) (.fP A 3 (A.k pY<|I8 A).1<|.br (A.bq (DI A).1 1) (.ret<|A.and (A.bq (DI A).2.2.2.1.1 1)<|A.and (A.bq (DI A).2.2.2.1.2.1 0)<|A.and (A.bq (DI A).2.2.2.1.2.2.1 0)<|A.and (A.bq (DI A).2.2.2.1.2.2.2.1 0)<|A.and (A.bq (DI A).2.2.2.1.2.2.2.2 15) true)<|.ret false)<|.ret false)<|.ret false
def zG:Unit->Bool:=λ_=>fA Empty.elim (aoZ af)<|Ty.aR [.bool]
def MK:Unit->Bool:=λ_=>fO Empty.elim<|aoZ af
def av3:aK:=⟨[],[.bool],MK,zG,false⟩
def atA:Sd 9 av3:=bX ax dJ (.jf [0,0,2,0,0,2,0,0,2,0,0,2,0,0,0,0,0,2]) 343 [] (λA _=>aoZ A) (kz (fc func9 (fc func8 fz)) (sc aix (sc aiR sz))) λ_ c h=>dN c
def aw3(A:aS)(c:Int):LT (Bool×Bool×Bool×Bool×Bool) Empty:=.br (A.bq c 1) (.ret (true,false,true,false,false))<|.br (A.bq c 2) (.ret (true,false,true,false,false))<|.br (A.bq c 6) (.ret (true,false,true,false,false))<|.br (A.bq c 3) (.ret (true,false,false,false,false))<|.br (A.bq c 4) (.ret (true,false,false,false,false))<|.br (A.bq c 11) (.ret (true,false,false,false,false))<|.br (A.bq c 5) (.ret (false,true,true,false,false))<|.br (A.bq c 7) (.ret (true,false,false,true,false))<|.br (A.bq c 8) (.ret (true,false,false,true,false))<|.br (A.bq c 9) (.ret (true,false,true,true,true))<|.br (A.bq c 10) (.ret (true,false,true,true,false))<|.ret (false,true,false,false,false)
def r7:Int->(Bool×Bool×Bool×Bool×Bool):=λc=>(aw3 af c).val<|Ty.aR [.bool,.bool,.bool,.bool,.bool]
def avF:aK:=.all [yI] [.bool,.bool,.bool,.bool,.bool] r7
def atd:Sd 112 avF:=fa<|aQ ax dJ (.jf [0,1,0,1,0,0,1,0,1,0,0,0,1]) 93 [] (λA c=>aw3 A c)<|kz (fc func112 fz) sz
def aw5(A:aS)(v:Int)(has:Bool)(c:Int)(f:Int):LT Bool Empty:=.br (A.not has) (.ret<|A.bq v 0)<|.br (A.ov v c) (.ret<|A.bE v f)<|.ret false
def pX:(Int×Bool×Int×Int)->Bool:=λ(v,has,c,f)=>(aw5 af v has c f).val (Ty.aR [.bool])
def avH:aK:=.all [yI,.bool,yI,yI] [.bool] pX
def atf:Sd 114 avH:=fa<|aQ ax dJ sl 30 [] (λA (v,has,c,f)=>aw5 A v has c f)<|kz (fc func114 fz) sz
def aw4(A:aS)(m:aA)(c:Int):LT (Int×Int) Empty:=.br (A.bq c 7) (.ret (0,200))<|.br (A.bq c 8) (.ret (A.u .neg .i64 m.2.2.1,m.2.2.1))<|.br (A.bq c 9) (.ret (0,A.fD m.2.1 1))<|.ret (0,A.fD m.1 1)
def T6:(aA×Int)->(Int×Int):=λ(m,c)=>(aw4 af m c).val<|Ty.aR [yI,yI]
def avG:aK:=.all [bD,yI] [yI,yI] T6
def ate:Sd 113 avG:=fa<|aQ ax dJ sl 46 [] (λA (m,c)=>aw4 A m c)<|kz (fc func113 fz) sz
structure XU where(a5 a6:bK)
inductive aet where|c0(p:XU)(a4:Int)
noncomputable def akR:aet->gY
 | .c0 p a4=>⟨[gW 115 68 [(5,.t6 0 1 false 0 7),(6,.t6 1 1 false 0 7),(7,vi a4)] f115 244],[dZ bQ p.a5,dZ bQ p.a6,.a_]⟩
def aw6(A:aS)(a:bK)(b:bK):LT Bool aet:=.ak<|.c0 ⟨(a.2.2.2.1,a.2.2.2.2.1,a.1,a.2.1,a.2.2.1,a.2.2.2.2.2),(b.2.2.2.1,b.2.2.2.2.1,b.1,b.2.1,b.2.2.1,b.2.2.2.2.2)⟩ 0
def agu(A:aS):aet->LT Bool aet
 | .c0 p a4=>.br (A.bo a4 7) (.br (A.bo a4 7) (.ao (A.and (A.bE 0 a4)<|A.bo a4 7)<|.ao (A.and (A.bE 0 a4)<|A.bo a4 7)<|.br (A.cm (A.n yI [p.a5.1,p.a5.2.1,p.a5.2.2.1,p.a5.2.2.2.1,p.a5.2.2.2.2.1,p.a5.2.2.2.2.2.1,p.a5.2.2.2.2.2.2] (A.bJ 0 a4):Int) (A.n yI [p.a6.1,p.a6.2.1,p.a6.2.2.1,p.a6.2.2.2.1,p.a6.2.2.2.2.1,p.a6.2.2.2.2.2.1,p.a6.2.2.2.2.2.2] (A.bJ 0 a4):Int)) (.ao (A.and (A.bE 0 a4)<|A.bo a4 7)<|.ao (A.and (A.bE 0 a4)<|A.bo a4 7)<|.ret<|A.bo (A.n yI [p.a5.1,p.a5.2.1,p.a5.2.2.1,p.a5.2.2.2.1,p.a5.2.2.2.2.1,p.a5.2.2.2.2.2.1,p.a5.2.2.2.2.2.2] (A.bJ 0 a4):Int) (A.n yI [p.a6.1,p.a6.2.1,p.a6.2.2.1,p.a6.2.2.2.1,p.a6.2.2.2.2.1,p.a6.2.2.2.2.2.1,p.a6.2.2.2.2.2.2] (A.bJ 0 a4):Int))<|.ak<|.c0 p<|A.bJ a4 1)<|.ret false)<|.ret false
theorem V3{p:XU}:∀(j i:Nat),7-i=j->i<=7->aV (agu af) (.ak<|.c0 p i) (lexB ([p.a5.1,p.a5.2.1,p.a5.2.2.1,p.a5.2.2.2.1,p.a5.2.2.2.2.1,p.a5.2.2.2.2.2.1,p.a5.2.2.2.2.2.2].drop i)<|[p.a6.1,p.a6.2.1,p.a6.2.2.1,p.a6.2.2.2.1,p.a6.2.2.2.2.1,p.a6.2.2.2.2.2.1,p.a6.2.2.2.2.2.2].drop i):=by
 intro j;generalize l:[p.a5.1,p.a5.2.1,p.a5.c,p.a5.d,p.a5.e,p.a5.f,p.a5.F]=L;generalize m:[p.a6.1,p.a6.2.1,p.a6.c,p.a6.d,p.a6.e,p.a6.f,p.a6.F]=M;have r:L.length=7:=by rw[<-l];rfl
 have u:M.length=7:=by rw[<-m];rfl
 induction j with
 | zero=>
   intro i o n;have:i=7:=by omega
   subst this;rw[eU<|by omega];exact aG.2<|(ap rfl).2<|.ret _
 | succ j ih=>
   intro i o n;have v:=ih (i+1) (by omega) (by omega);have f:af.bo i 7=true:=by rw[bi];grind
   have c:af.and (af.bE 0 i) (af.bo i 7)=true:=by rw[bu,f,aB,cr<|show(0:Int)<=(i:Int) by omega];rfl
   have g:af.bJ 0 (i:Int)=(i:Int):=by rw[Lg,lZ (by omega)<|by omega];omega
   have n1:(af.n yI [p.a5.1,p.a5.2.1,p.a5.c,p.a5.d,p.a5.e,p.a5.f,p.a5.F] (af.bJ 0 i):Int)=L[i]'(by omega):=by
    rw[g];show([p.a5.1,p.a5.2.1,p.a5.c,p.a5.d,p.a5.e,p.a5.f,p.a5.F]:List Int).getD (i:Int).toNat _=_;rw[l];exact eO _ _
   have q:(af.n yI [p.a6.1,p.a6.2.1,p.a6.c,p.a6.d,p.a6.e,p.a6.f,p.a6.F] (af.bJ 0 i):Int)=M[i]'(by omega):=by
    rw[g];show([p.a6.1,p.a6.2.1,p.a6.c,p.a6.d,p.a6.e,p.a6.f,p.a6.F]:List Int).getD (i:Int).toNat _=_;rw[m];exact eO _ _
   rw[aG,agu];refine(ar f).2 ((ar f).2<|au.2 ⟨c,au.2 ⟨c,?_⟩⟩);rw[n1,q,xx<|show i<L.length by omega,xx<|show i<M.length by omega,lexB,Hd (i:=i)<|by omega];refine bl (p:=¬L[i]=M[i]) dC (λh=>au.2 ⟨c,au.2 ⟨c,?_⟩⟩) λh=>?_
   .rw[gw h,jj,Bool.or_false];exact .ret _
   simp_all
def afS{a b:bK}:aV (agu af) (aw6 af a b)<|iw a b:=
 V3 (p:=⟨(a.d,a.e,a.1,a.2.1,a.c,a.E),(b.d,b.e,b.1,b.2.1,b.c,b.E)⟩) 7 0 rfl (by omega)
def T7:(bK×bK)->Bool:=λ(a,b)=>iw a b
def avI:aK:=.all [bQ,bQ] [.bool] T7
def atg:Sd 115 avI:=fa<|aX ax dJ sl 57 [⟨115,4,[[5,6,7]]⟩] [] (λA (a,b)=>aw6 A a b) agu akR (kz (fc func115 fz) sz) (λA y=>match y with |.c0 p c=>⟨50,sl,by kernel_rfl⟩) λ(a,b) f h=>afS
def aw2(A:aS)(m:aA)(f:bK):LT Int Empty:=.br (A.cm (A.k nZ m) 0) (.ret<|A.k nZ m)<|.br (A.bo f.1 1) (.ret 150)<|.br (A.jD f.1 12) (.ret 150)<|.br (A.bo f.2.2.2.1 0) (.ret 150)<|.br (A.ov f.2.2.2.1 16) (.ret 150)<|.br (A.not<|A.k pX (f.2.1,(A.k r7 f.1).1,0,A.fD m.1 1)) (.ret 150)<|.br (A.not<|A.k pX (f.2.2.1,(A.k r7 f.1).2.1,0,1)) (.ret 150)<|.br (A.not<|A.k pX (f.2.2.2.2.1,(A.k r7 f.1).2.2.1,0,A.fD m.1 1)) (.ret 150)<|.br (A.not<|A.k pX (f.2.2.2.2.2.1,(A.k r7 f.1).2.2.2.1,A.k T6 (m,f.1))) (.ret 150)<|.br (A.not<|A.k pX (f.2.2.2.2.2.2,(A.k r7 f.1).2.2.2.2,1,m.2.1)) (.ret 150)<|.br (A.bq f.1 10) (.br (A.bq f.2.2.2.2.1 f.2.1) (.ret 150)<|.ret 0)<|.ret 0
def xJ:(aA×bK)->Int:=λ(m,f)=>(aw2 af m f).val<|Ty.aR [yI]
def avz:aK:=.all [bD,bQ] [yI] xJ
def as8:Sd 72 avz:=fa<|aQ ax dJ sl 148 [] (λA (m,f)=>aw2 A m f)<|kz (fc func72 fz)<|sc Qa<|sc atd<|sc ate<|sc atf sz
structure ajF where(a0:List bK)(a3:bK)
structure XQ where(b0:List bK)(b3:bK)
inductive aep where|c0(p:ajF)|c1(p:XQ)(b1:Bool)(b2:Int)(b4:List bK)
noncomputable def akM:aep->gY
 | .c0 p=>⟨[gW 73 48 [(0,.sl bQ p.a0),(3,pZ 0),(5,.fG true),(6,vb false),(7,vi 0)] f73 244],[dZ bQ p.a3,.a_]⟩
 | .c1 p b1 b2 b4=>⟨[gW 73 48 [(0,.sl bQ p.b0),(3,pZ 0),(5,.own 1),(6,vb b1),(7,vi b2)] f73 244],[dZ bQ p.b3,aZ bQ b4,.a_]⟩
def aoO(A:aS)(l:List bK)(f:bK):LT (List bK) aep:=.ak<|.c0 ⟨l,f⟩
def Nf(A:aS):aep->LT (List bK) aep
 | .c0 p=>.br (A.bo 0<|A.l p.a0) (.fP A 0 p.a0<|.br (A.and (A.bq (A.n bQ p.a0 0:bK).1 p.a3.1)<|A.and (A.bq (A.n bQ p.a0 0:bK).2.1 p.a3.2.1)<|A.and (A.bq (A.n bQ p.a0 0:bK).2.2.1 p.a3.2.2.1)<|A.and (A.bq (A.n bQ p.a0 0:bK).2.2.2.1 p.a3.2.2.2.1)<|A.and (A.bq (A.n bQ p.a0 0:bK).2.2.2.2.1 p.a3.2.2.2.2.1)<|A.and (A.bq (A.n bQ p.a0 0:bK).2.2.2.2.2.1 p.a3.2.2.2.2.2.1)<|A.and (A.bq (A.n bQ p.a0 0:bK).2.2.2.2.2.2 p.a3.2.2.2.2.2.2) true) (.fP A 0 p.a0<|.ao (A.bE (A.l (([(A.n bQ p.a0 0:bK)]:List bK):List bK)) 2513169434916)<|.ak<|.c1 ⟨p.a0,p.a3⟩ true (A.bJ 0 1) ([(A.n bQ p.a0 0:bK)]:List bK))<|.br (A.not false) (.fP A 0 p.a0<|.br (A.k T7 (p.a3,(A.n bQ p.a0 0:bK))) (.ao (A.bE (A.l (([p.a3]:List bK):List bK)) 2513169434916)<|.fP A 0 p.a0<|.ao (A.bE (A.l<|A.p ([p.a3]:List bK) ([(A.n bQ p.a0 0:bK)]:List bK)) 2513169434916)<|.ak<|.c1 ⟨p.a0,p.a3⟩ true (A.bJ 0 1)<|A.p ([p.a3]:List bK) ([(A.n bQ p.a0 0:bK)]:List bK))<|.fP A 0 p.a0<|.ao (A.bE (A.l (([(A.n bQ p.a0 0:bK)]:List bK):List bK)) 2513169434916)<|.ak<|.c1 ⟨p.a0,p.a3⟩ false (A.bJ 0 1) ([(A.n bQ p.a0 0:bK)]:List bK))<|.fP A 0 p.a0<|.ao (A.bE (A.l (([(A.n bQ p.a0 0:bK)]:List bK):List bK)) 2513169434916)<|.ak<|.c1 ⟨p.a0,p.a3⟩ false (A.bJ 0 1) ([(A.n bQ p.a0 0:bK)]:List bK))<|.br (A.not false) (.ao (A.bE (A.l (([p.a3]:List bK):List bK)) 2513169434916)<|.ret ([p.a3]:List bK))<|.ret ([]:List bK)
 | .c1 p b1 b2 b4=>.br (A.bo b2<|A.l p.b0) (.fP A b2 p.b0<|.br (A.and (A.bq (A.n bQ p.b0 b2:bK).1 p.b3.1)<|A.and (A.bq (A.n bQ p.b0 b2:bK).2.1 p.b3.2.1)<|A.and (A.bq (A.n bQ p.b0 b2:bK).2.2.1 p.b3.2.2.1)<|A.and (A.bq (A.n bQ p.b0 b2:bK).2.2.2.1 p.b3.2.2.2.1)<|A.and (A.bq (A.n bQ p.b0 b2:bK).2.2.2.2.1 p.b3.2.2.2.2.1)<|A.and (A.bq (A.n bQ p.b0 b2:bK).2.2.2.2.2.1 p.b3.2.2.2.2.2.1)<|A.and (A.bq (A.n bQ p.b0 b2:bK).2.2.2.2.2.2 p.b3.2.2.2.2.2.2) true) (.fP A b2 p.b0<|.ao (A.bE (A.l<|A.p b4 ([(A.n bQ p.b0 b2:bK)]:List bK)) 2513169434916)<|.ak<|.c1 p true (A.bJ b2 1)<|A.p b4 ([(A.n bQ p.b0 b2:bK)]:List bK))<|.br (A.not b1) (.fP A b2 p.b0<|.br (A.k T7 (p.b3,(A.n bQ p.b0 b2:bK))) (.ao (A.bE (A.l<|A.p b4 ([p.b3]:List bK)) 2513169434916)<|.fP A b2 p.b0<|.ao (A.bE (A.l<|A.p (A.p b4 ([p.b3]:List bK)) ([(A.n bQ p.b0 b2:bK)]:List bK)) 2513169434916)<|.ak<|.c1 p true (A.bJ b2 1)<|A.p (A.p b4 ([p.b3]:List bK)) ([(A.n bQ p.b0 b2:bK)]:List bK))<|.fP A b2 p.b0<|.ao (A.bE (A.l<|A.p b4 ([(A.n bQ p.b0 b2:bK)]:List bK)) 2513169434916)<|.ak<|.c1 p b1 (A.bJ b2 1)<|A.p b4 ([(A.n bQ p.b0 b2:bK)]:List bK))<|.fP A b2 p.b0<|.ao (A.bE (A.l<|A.p b4 ([(A.n bQ p.b0 b2:bK)]:List bK)) 2513169434916)<|.ak<|.c1 p b1 (A.bJ b2 1)<|A.p b4 ([(A.n bQ p.b0 b2:bK)]:List bK))<|.br (A.not b1) (.ao (A.bE (A.l<|A.p b4 ([p.b3]:List bK)) 2513169434916)<|.ret<|A.p b4 ([p.b3]:List bK))<|.ret b4
def qh(f:bK):Bool->List bK->List bK
 | c,[]=>bif c then[] else[f]
 | c,b::l=>bif decide (b=f) then b::qh f true l else bif c then b::qh f true l else bif iw f b then f::b::qh f true l else b::qh f false l
variable{l:List bK}
theorem sH(h:l.length<=2513169434916):af.bE (af.l l) 2513169434916=true:=by rw[aB,dW];grind
variable{α:Type}
def su{a:List α}{x:α}:(af.p a [x]).length=a.length+1:=by rw[mC,t_];rfl
theorem abM{p:XQ}{f:bK}(r:p.b0=l)(u:p.b3=f)(A:l.length<=2513169434915):∀(j i:Nat) (m:Bool) (c:List bK),l.length-i=j->i<=l.length->c.length<=i+1->(m=false->c.length<=i)->
  aV (Nf af) (.ak (.c1 p m (i:Int) c)) (c++qh f m (l.drop i)):=by
 intro j
 induction j with
 | zero=>
   intro i m c z y v n;rw[eU (by omega),qh,aG,Nf,r,u];refine(ap (by rw[dW,bH];grind)).2 ?_;cases m
   .have n:=n rfl;exact(ar rfl).2 (au.2 ⟨sH (show(af.p c [f]).length<=_ by rw[su];omega),.ret _⟩)
   .rw[show c++(bif true then([]:List bK) else[f])=c from aL _];exact(ap rfl).2 (.ret _)
 | succ j ih=>
   intro i m c z y v n;have g:i<l.length:=by omega
   rw[aG,Nf,r,u];refine(ar (by rw[dW,bH];simp_all)).2 (au.2 ⟨cJ g,?_⟩);rw[show(af.n bQ l (i:Int):bK)=l[i] from eO g _,xx g,qh,Hd (i:=i) (by omega)];have o:=cJ g;have l1:af.bE (af.l (af.p c ([l[i]]:List bK))) 2513169434916=true:=sH (by rw[su];omega);have q:∀d:Bool,(d=false->m=false)->aV (Nf af) (.ak (.c1 p d ((i+1:Nat):Int) (af.p c ([l[i]]:List bK)))) (c++l[i]::qh f d (l.drop (i+1))):=λd x=>by
    have:=ih (i+1) d (af.p c [l[i]]) (by omega) (by omega) (by rw[su];omega) λh=>by rw[su];simp_all
    rw[mC,fe] at this;exact this
   refine bl (p:=l[i]=f) Mb (λh=>?_) λh=>?_
   .rw[cr h];exact au.2 ⟨o,au.2 ⟨l1,q true λh=>by cases h⟩⟩
   .rw[gw h];cases m
    .refine(ar rfl).2 (au.2 ⟨o,?_⟩);rw[show af.k T7 (f,l[i])=iw f l[i] from rfl];have n:=n rfl;cases iw f l[i]
     .exact(ap rfl).2 (au.2 ⟨o,au.2 ⟨l1,q false λ_=>rfl⟩⟩)
     .have:=ih (i+1) true (af.p (af.p c [f]) [l[i]]) (by omega) (by omega) (by rw[su,su];omega) λh=>by cases h
      have this:aV (Nf af) (.ak (.c1 p true ((i+1:Nat):Int) (af.p (af.p c [f]) [l[i]]))) (c++f::l[i]::qh f true (l.drop (i+1))):=aT (by rw[mC,mC];simp) this;exact(ar rfl).2 (au.2 ⟨sH (show(af.p c [f]).length<=_ by rw[su];omega),au.2 ⟨o,au.2 ⟨sH (show(af.p (af.p c [f]) [l[i]]).length<=_ by rw[su,su];omega),this⟩⟩⟩)
    .exact(ap rfl).2 (au.2 ⟨o,au.2 ⟨l1,q true λh=>by cases h⟩⟩)
theorem anh{f:bK}(o:l.length<=2513169434915):aV (Nf af) (aoO af l f)<|qh f false l:=by
 unfold aoO;rw[aG,Nf];cases l with
 | nil=>exact(ap rfl).2 ((ar rfl).2<|au.2 ⟨sH<|Nat.le_add_left 1 _,.ret _⟩)
 | cons b l=>
   have g:af.and (af.bE 0 0) (af.bo 0<|af.l<|b::l)=true:=cJ (i:=0)<|Nat.zero_lt_succ _
   have j:∀(d:Bool) (c:List bK),c.length<=2->(d=false->c.length<=1)->aV (Nf af) (.ak<|.c1 ⟨b::l,f⟩ d (af.bJ 0 1) c) (c++qh f d l):=λd c m n=>
    abM (p:=⟨b::l,f⟩) (l:=b::l) rfl rfl o l.length 1 d c (by rfl) (by simp_all) m n
   refine(ar (by rw[dW,bp,bi];simp_all)).2 (au.2 ⟨g,?_⟩);rw[qh];refine bl (p:=b=f) (Mb (a:=b) (b:=f)) (λh=>?_) λh=>?_
   .rw[cr h];exact au.2 ⟨g,au.2 ⟨sH<|Nat.le_add_left 1 _,j true [b] (show 1<=2 by decide) λh=>by cases h⟩⟩
   .rw[gw h];refine(ar rfl).2 (au.2 ⟨g,?_⟩);show aV _ (.br (iw f b) _ _) _;cases iw f b
    .exact(ap rfl).2 (au.2 ⟨g,au.2 ⟨sH<|Nat.le_add_left 1 _,j false [b] (show 1<=2 by decide) λ_=>ai 1⟩⟩)
    .exact(ar rfl).2 (au.2 ⟨sH<|Nat.le_add_left 1 _,au.2 ⟨g,au.2 ⟨sH<|Nat.le_add_left 2 _,j true [f,b] (ai 2) λh=>by cases h⟩⟩⟩)
def ZR:(List bK×bK)->(List bK):=λ(l,f)=>qh f false l
def MF:(List bK×bK)->Bool:=λ(l,_)=>decide<|l.length<=2513169434915
def avA:aK:=⟨[(.slice bQ),bQ],[(.slice bQ)],MF,ZR,false⟩
def as9:Sd 73 avA:=aX ax dJ sl 26 [⟨73,4,[[0,3,5,6,7]]⟩] [] (λA (l,f)=>aoO A l f) Nf akM (kz (fc func73 fz) (sc atg sz)) (λA y=>match y with |.c0 p=>⟨72,sl,by kernel_rfl⟩|.c1 p b1 b2 b4=>⟨72,sl,by kernel_rfl⟩) λ((l,f):List bK×bK) c h=>anh<|of_decide_eq_true c
structure XO where(a0:List bK)(a2:aA)
structure XP where(b0:List bK)(b3:aA)
inductive aen where|c0(p:XO)(a1:Int)|c1(p:XP)(b1:List bK)(b2:Int)
noncomputable def akK:aen->gY
 | .c0 p a1=>⟨[gW 35 27 [(1,.sl bQ p.a0),(2,pZ 0),(5,.fG true),(6,vi a1)] f35 116],[dZ bD p.a2,.a_]⟩
 | .c1 p b1 b2=>⟨[gW 35 27 [(1,.sl bQ p.b0),(2,pZ 0),(5,.sl bQ b1),(6,vi b2)] f35 116],[dZ bD p.b3,.a_]⟩
def aw1(A:aS)(m:aA)(l:List bK):LT (List bK) aen:=.ak<|.c0 ⟨l,m⟩ 0
def PW(A:aS):aen->LT (List bK) aen
 | .c0 p a1=>.br (A.bo a1<|A.l p.a0) (.fP A a1 p.a0<|.br (A.bq (A.k xJ (p.a2,(A.n bQ p.a0 a1:bK))) 0) (.fP A a1 p.a0<|.ao (A.k MF (([]:List bK),(A.n bQ p.a0 a1:bK)))<|.ak<|.c1 ⟨p.a0,p.a2⟩ (A.k ZR (([]:List bK),(A.n bQ p.a0 a1:bK)))<|A.bJ a1 1)<|.ak<|.c0 p<|A.bJ a1 1)<|.ret ([]:List bK)
 | .c1 p b1 b2=>.br (A.bo b2<|A.l p.b0) (.fP A b2 p.b0<|.br (A.bq (A.k xJ (p.b3,(A.n bQ p.b0 b2:bK))) 0) (.fP A b2 p.b0<|.ao (A.k MF (b1,(A.n bQ p.b0 b2:bK)))<|.ak<|.c1 p (A.k ZR (b1,(A.n bQ p.b0 b2:bK)))<|A.bJ b2 1)<|.ak<|.c1 p b1<|A.bJ b2 1)<|.ret b1
def nO(m:aA):List bK->List bK->List bK
 | [],acc=>acc
 | f::l,acc=>nO m l<|bif decide (xJ (m,f)=0) then qh f false acc else acc
theorem BV:∀(l:List bK) (f:bK) (d:Bool),(qh f d l).length<=l.length+1
 | [],f,d=>by cases d<;>simp[qh]
 | b::l,f,d=>by
   have g:=BV l f false;have c:∀l:List bK,qh f true l=l:=λl=>by
    induction l with
    | nil=>rfl
    | cons b l ih=>rw[qh,ih];simp_all
   rw[qh,c]
   grind
def UL{f:bK}(h:l.length<=2513169434915):af.k MF (l,f)=true:=cr h
variable{m:aA}
theorem alB{p:XP}(g:p.b0=l)(o:p.b3=m)(v:l.length<=2513169434916):∀(j i:Nat) (c:List bK),l.length-i=j->i<=l.length->c.length<=i->aV (PW af) (.ak<|.c1 p c i) (nO m (l.drop i) c):=by
 intro j
 induction j with
 | zero=>
   intro i c u r q;rw[eU<|by omega,aG,PW,g];exact(ap (by rw[dW,bH];grind)).2 (.ret _)
 | succ j ih=>
   intro i c u r q;have f:i<l.length:=by omega
   have n:=cJ f;rw[aG,PW,g,o];refine(ar (by rw[dW,bH];simp_all)).2 (au.2 ⟨n,?_⟩);rw[show(af.n bQ l (i:Int):bK)=l[i] from eO f _,xx f,nO,Hd (i:=i)<|by omega];refine bl (p:=xJ (m,l[i])=0) dx (λh=>au.2 ⟨n,au.2 ⟨UL<|by omega,?_⟩⟩) λh=>?_
   .rw[cr h];exact ih (i+1) (qh l[i] false c) (by omega) (by omega) (by have:=BV c l[i] false;omega)
   grind
theorem afe{p:XO}(f:p.a0=l)(n:p.a2=m)(r:l.length<=2513169434916):∀(j i:Nat),l.length-i=j->i<=l.length->aV (PW af) (.ak<|.c0 p i) (nO m (l.drop i) []):=by
 intro j
 induction j with
 | zero=>
   intro i q o;rw[eU<|by omega,aG,PW,f];exact(ap (by rw[dW,bH];grind)).2 (.ret _)
 | succ j ih=>
   intro i q o;have c:i<l.length:=by omega
   have g:=cJ c;rw[aG,PW,f,n];refine(ar (by rw[dW,bH];simp_all)).2 (au.2 ⟨g,?_⟩);rw[show(af.n bQ l (i:Int):bK)=l[i] from eO c _,xx c,nO,Hd (i:=i)<|by omega];refine bl (p:=xJ (m,l[i])=0) dx (λh=>au.2 ⟨g,au.2 ⟨UL<|aM _,?_⟩⟩) λh=>?_
   .rw[cr h];exact alB (p:=⟨l,m⟩) rfl rfl r _ (i+1) (qh l[i] false []) rfl (show i+1<=l.length by omega) (by have:=BV [] l[i] false;grind)
   grind
def alz(c:l.length<=2513169434916):aV (PW af) (aw1 af m l)<|nO m l []:=
 afe (p:=⟨l,m⟩) rfl rfl c _ 0 rfl (aM _)
def Bs:(aA×List bK)->(List bK):=λ(m,l)=>nO m l []
def Dj:(aA×List bK)->Bool:=λ(_,l)=>decide<|l.length<=2513169434916
def avx:aK:=⟨[bD,.slice bQ],[(.slice bQ)],Dj,Bs,false⟩
def acK:Sd 35 avx:=aX ax dJ sl 22 [⟨35,3,[[1,2,5,6]]⟩] [] (λA (m,l)=>aw1 A m l) PW akK (kz (fc func35 fz) (sc as8 (sc as9 sz))) (λA y=>match y with |.c0 p a1=>⟨44,sl,by kernel_rfl⟩|.c1 p b1 b2=>⟨44,sl,by kernel_rfl⟩) λ((m,l):aA×List bK) c h=>alz<|of_decide_eq_true c
def Srt(l:List bK):Prop:=l.Pairwise λa b=>iw a b=true
def O_{a b:bK}(h:iw b a=false)(c:¬b=a):iw a b=true:=by
 cases g:iw a b
 .exact absurd (KW b a h g) c
 .rfl
def O9{a b:bK}(h:iw a b=true):¬b=a:=λe=>by
 rw[e,show iw a a=false from Fc _] at h;cases h
theorem Hu{a b:bK}(h:iw a b=true):iw b a=false:=by
 cases g:iw b a
 .rfl
 .have:=lex_trans _ _ _ h g;rw[Fc] at this;simp_all
theorem Gl:∀(l:List bK) (a:bK),(a::l).Pairwise (λa b=>iw b a=false)->Srt (a::rM a l)
 | [],a,_=>List.pairwise_singleton ..
 | b::l,a,h=>by
   have c:=dM.1 h;show Srt (a::if b=a then rM a l else b::rM b l);by_cases e:b=a
   .rw[if_pos e];rw[e] at c;exact Gl l a c.2
   .rw[if_neg e];have i:=Gl l b c.2;have f:iw a b=true:=O_ (c.1 b<|aJ ..) e;refine dM.2 ⟨λx g=>?_,i⟩;rcases aF.1 g with rfl|g
    .omega
    .exact lex_trans _ _ _ f<|(dM.1 i).1 x g
def VD(h:l.Pairwise λa b=>iw b a=false):Srt<|qM l:=by
 cases l with
 | nil=>exact .nil
 | cons a l=>exact Gl l a h
theorem Gk:∀(l:List bK) (a x:bK),x∈a::rM a l↔x∈a::l
 | [],_,_=>fH
 | b::l,a,x=>by
   show x∈a::(if b=a then rM a l else b::rM b l)↔_;by_cases e:b=a
   .rw[if_pos e,Gk l a x,e];simp
   .rw[if_neg e];have c:=Gk l b x
    simp_all
def VC{x:bK}:x∈qM l↔x∈l:=by
 cases l with
 | nil=>rfl
 | cons a l=>exact Gk l a x
theorem aaZ(l:List bK):(l.mergeSort λa b=>!(iw b a)).Pairwise λa b=>iw b a=false:=by
 have h:=List.pairwise_mergeSort (le:=λa b=>!(iw b a)) (λa b c f g=>?_) (λa b=>?_) l
 .simp_all
 .simp at f g ⊢;exact KV.ntrans c b a g f
 .cases h:iw b a
  .rfl
  .rw[Hu h];rfl
def ZA:Srt<|nC m l:=by
 unfold nC;cases decide (jN m=0)
 .exact .nil
 .exact VD<|aaZ _
def Zy(h:jN m=0){x:bK}:x∈nC m l↔x∈l/\ko (m,x)=true:=by
 unfold nC;rw[cr h,cond_true,VC,List.mem_mergeSort,gl]
theorem Qe:∀{l k:List bK},Srt l->Srt k->(∀x,x∈l↔x∈k)->l=k
 | [],[],_,_,_=>rfl
 | [],b::k,_,_,h=>absurd ((h b).2<|aJ ..) aC
 | a::l,[],_,_,h=>absurd ((h a).1<|aJ ..) aC
 | a::l,b::k,h1,h2,h=>by
   have p1:=dM.1 h1;have p2:=dM.1 h2;have e:a=b:=by
    rcases aF.1 ((h a).1 (aJ ..)) with e|f
    .exact e
    rcases aF.1 ((h b).2 (aJ ..)) with e|i
    .simp_all
    have j:=p2.1 a f;have m:=p1.1 b i;rw[Hu m] at j;grind
   subst e;refine congrArg (a :: ·)<|Qe p1.2 p2.2 λx=>⟨λc=>?_,λc=>?_⟩
   .rcases aF.1 ((h x).1 (aD _ c)) with e|g
    .exact absurd e<|O9<|p1.1 x c
    omega
   .rcases aF.1 ((h x).2 (aD _ c)) with e|g
    .exact absurd e<|O9<|p2.1 x c
    omega
theorem apV{v:Int}:lS ((a,b),v)=decide (a<=v/\v<=b):=by
 show(bif af.ov v a then af.bE v b else false)=_;rw[kW,aB]
 simp_all
theorem ayd{v:Int}{h:Bool}:pX (v,h,a,b)=bif h then decide (a<=v/\v<=b) else decide (v=0):=by
 cases h
 .rfl
 .exact apV
theorem dz{v:Int}:decide (0<=v/\v<=0)=decide (v=0):=by grind
def fT{v:Int}:lS ((a,b),v)=pX (v,true,a,b):=by rfl
theorem fF{v:Int}:lS ((0,0),v)=pX (v,false,a,b):=by rw[apV,ayd,dz];rfl
def amF{k:Int}(h:1<=k/\k<=12):(kQ (m,k)).2=true/\
  (∀v,af.k lS ((af.n (.struct [yI,yI]) (kQ (m,k)).1 0:Int×Int),v)=pX (v,(r7 k).1,0,af.fD m.1 1))/\
  (∀v,af.k lS ((af.n (.struct [yI,yI]) (kQ (m,k)).1 1:Int×Int),v)=pX (v,(r7 k).2.1,0,1))/\
  (∀v,af.k lS ((af.n (.struct [yI,yI]) (kQ (m,k)).1 2:Int×Int),v)=pX (v,(r7 k).2.2.1,0,af.fD m.1 1))/\
  (∀v,af.k lS ((af.n (.struct [yI,yI]) (kQ (m,k)).1 3:Int×Int),v)=pX (v,(r7 k).2.2.2.1,T6 (m,k)))/\
  (∀v,af.k lS ((af.n (.struct [yI,yI]) (kQ (m,k)).1 4:Int×Int),v)=pX (v,(r7 k).2.2.2.2,1,m.2.1)):=by
 have:k=1\/k=2\/k=3\/k=4\/k=5\/k=6\/k=7\/k=8\/k=9\/k=10\/k=11\/k=12:=by omega
 rcases this with rfl|rfl|rfl|rfl|rfl|rfl|rfl|rfl|rfl|rfl|rfl|rfl <;>
  exact⟨rfl,λv=>by first|exact fT|exact fF,λv=>by first|exact fT|exact fF,λv=>by first|exact fT|exact fF,λv=>by first|exact fT|exact fF,λv=>by first|exact fT|exact fF⟩
theorem afT{k:Int}(h:¬(1<=k/\k<=12)):(kQ (m,k)).2=false:=by
 have e:∀j:Int,(1<=j/\j<=12)->af.bq k j=false:=λj c=>by rw[dx];grind
 show(LT.val _<|ahe af m k).2=false;simp[ahe,Vh,Vg,LT.val,e 1<|by decide,e 2<|by decide,e 3<|by decide,e 4<|by decide,e 5<|by decide,e 6<|by decide,e 7<|by decide,e 8<|by decide,e 9<|by decide,e 10<|by decide,e 11<|by decide,e 12<|by decide,cond_false]
def afa:∀f g h i j l m c e:Bool,((bif l then(150:Int) else bif m then 150 else bif !f then 150 else bif !g then 150 else bif !h then 150 else bif !i then 150 else bif !j then 150 else bif c then(bif e then 150 else 0) else 0)=0)↔
  (bif l then false else bif m then false else bif c then(bif e then false else bif !f then false else bif !g then false else bif !h then false else bif !i then false else bif !j then false else true) else bif !f then false else bif !g then false else bif !h then false else bif !i then false else bif !j then false else true)=true:=by decide
theorem YQ{f:bK}(i:nZ m=0):xJ (m,f)=0↔ko (m,f)=true:=by
 have g:xJ (m,f)=bif af.cm (nZ m) 0 then nZ m else bif af.bo f.1 1 then 150 else bif af.jD f.1 12 then 150 else bif af.bo f.d 0 then 150 else bif af.ov f.d 16 then 150 else
   bif !pX (f.2.1,(r7 f.1).1,0,af.fD m.1 1) then 150 else bif !pX (f.c,(r7 f.1).2.1,0,1) then 150 else bif !pX (f.e,(r7 f.1).c,0,af.fD m.1 1) then 150 else
   bif !pX (f.f,(r7 f.1).d,T6 (m,f.1)) then 150 else bif !pX (f.F,(r7 f.1).D,1,m.2.1) then 150 else bif af.bq f.1 10 then(bif af.bq f.e f.2.1 then 150 else 0) else 0:=rfl
 by_cases h:1<=f.1/\f.1<=12
 .have⟨e,l,n,o,p,q⟩:=amF (m:=m) h
  have j:ko (m,f)=bif !(kQ (m,f.1)).2 then false else bif af.bo f.d 0 then false else bif af.ov f.d 16 then false else
    bif af.bq f.1 10 then(bif af.bq f.e f.2.1 then false else bif !af.k lS ((af.n (.struct [yI,yI]) (kQ (m,f.1)).1 0:Int×Int),f.2.1) then false else bif !af.k lS ((af.n (.struct [yI,yI]) (kQ (m,f.1)).1 1:Int×Int),f.c) then false else bif !af.k lS ((af.n (.struct [yI,yI]) (kQ (m,f.1)).1 2:Int×Int),f.e) then false else bif !af.k lS ((af.n (.struct [yI,yI]) (kQ (m,f.1)).1 3:Int×Int),f.f) then false else bif !af.k lS ((af.n (.struct [yI,yI]) (kQ (m,f.1)).1 4:Int×Int),f.F) then false else true)
    else bif !af.k lS ((af.n (.struct [yI,yI]) (kQ (m,f.1)).1 0:Int×Int),f.2.1) then false else bif !af.k lS ((af.n (.struct [yI,yI]) (kQ (m,f.1)).1 1:Int×Int),f.c) then false else bif !af.k lS ((af.n (.struct [yI,yI]) (kQ (m,f.1)).1 2:Int×Int),f.e) then false else bif !af.k lS ((af.n (.struct [yI,yI]) (kQ (m,f.1)).1 3:Int×Int),f.f) then false else bif !af.k lS ((af.n (.struct [yI,yI]) (kQ (m,f.1)).1 4:Int×Int),f.F) then false else true:=rfl
  rw[g,j,e,l,n,o,p,q,i,show af.bo f.1 1=false from gw<|by omega,show af.jD f.1 12=false from gw<|by omega];exact afa ..
 .have j:ko (m,f)=false:=by
   show(LT.val _<|adh af m f)=false;have e:af.not (af.k kQ (m,f.1)).2=true:=by rw[show(af.k kQ (m,f.1)).2=false from afT h];rfl
   simp[adh,adi,LT.val,e,cond_true]
  have r:¬xJ (m,f)=0:=by
   rw[g,i,show af.cm (0:Int) 0=false from rfl,cond_false];by_cases c:f.1<1
   .rw[show af.bo f.1 1=true from cr c];simp_all
   .rw[show af.bo f.1 1=false from gw c,show af.jD f.1 12=true from cr<|by omega];simp_all
  simp_all
theorem K1:∀(l:List bK) (f:bK),qh f true l=l
 | [],_=>rfl
 | b::l,f=>by rw[qh,K1 l];simp_all
theorem PK:∀(l:List bK) (f:bK),Srt l->Srt (qh f false l)/\∀x,x∈qh f false l↔x=f\/x∈l
 | [],f,_=>⟨List.pairwise_singleton ..,λx=>by simp[qh]⟩
 | b::l,f,h=>by
   have i:=dM.1 h;rw[qh,K1];by_cases e:b=f
   .simp_all
   .rw[gw e,cond_false,cond_false];cases g:iw f b
    .have⟨j,m⟩:=PK l f i.2;refine⟨dM.2 ⟨λx c=>?_,j⟩,λx=>?_⟩
     .rcases (m x).1 c with rfl|c
      .exact O_ g λk=>e k.symm
      simp_all
     grind
    .rw[cond_true];refine⟨dM.2 ⟨λx c=>?_,h⟩,λx=>aF⟩;rcases aF.1 c with rfl|c
     .exact g
     .exact lex_trans _ _ _ g<|i.1 x c
theorem vq{m:aA}(g:nZ m=0):∀(l c:List bK),Srt c->Srt (nO m l c)/\∀x,x∈nO m l c↔x∈c\/(x∈l/\ko (m,x)=true)
 | [],c,h=>⟨h,λx=>⟨.inl,λk=>k.elim id λk=>absurd k.1 aC⟩⟩
 | f::l,c,h=>by
   rw[nO];by_cases e:xJ (m,f)=0
   .have o:=(YQ g).1 e;have⟨n,p⟩:=PK c f h;have⟨i,j⟩:=vq g l (qh f false c) n
    grind
   .have⟨i,j⟩:=vq g l c h;rw[gw e];refine⟨i,λx=>(j x).trans ?_⟩;rw[aF];exact⟨λk=>k.elim .inl λk=>.inr ⟨.inr k.1,k.2⟩,λk=>k.elim .inl λk=>k.1.elim (λq=>absurd ((YQ g).2<|q▸k.2) e) λq=>.inr ⟨q,k.2⟩⟩
def afc(h:jN m=0):nO m l []=nC m l:=by
 have g:nZ m=0:=h;have⟨c,f⟩:=vq g l [] .nil;exact Qe c ZA λx=>(f x).trans ((Zy h).trans ⟨.inr,λk=>k.elim (λk=>absurd k aC) id⟩).symm
def aw7(A:aS)(m:aA):LT (Int×Int) Empty:=.br (A.cm (A.k nZ m) 0) (.ret (0,A.k nZ m))<|.ret (A.bJ (A.b .mul .i64 (A.b .mul .i64 14 m.1) m.2.2.2.2.1) 8,0)
def T8:aA->(Int×Int):=λm=>(aw7 af m).val<|Ty.aR [yI,yI]
def avJ:aK:=.all [bD] [yI,yI] T8
def ath:Sd 31 avJ:=fa<|aQ ax dJ sl 38 [] (λA m=>aw7 A m)<|kz (fc func31 fz)<|sc Qa sz
def aw8(A:aS)(n:Int)(c:Int)(f:Int):LT Int Empty:=.ret<|A.mn (A.mx n c) f
def Ef:(Int×Int×Int)->Int:=λ(n,c,f)=>(aw8 af n c f).val<|Ty.aR [yI]
def avK:aK:=.all [yI,yI,yI] [yI] Ef
def aiN:Sd 32 avK:=fa<|aQ ax dJ sl 19 [] (λA (n,c,f)=>aw8 A n c f)<|kz (fc func32 fz) sz
structure ajH where(a0:List Int)(a1 a2 a3 a4:Int)
structure XV where(b0:List Int)(b1 b2 b3 b4:Int)
inductive aeu where|c0(p:ajH)|c1(p:XV)(b5:Int)(b6:List Int)
noncomputable def akS:aeu->gY
 | .c0 p=>⟨[gW 33 36 [(0,.sl yI p.a0),(1,vi p.a1),(2,vi p.a2),(3,vi p.a3),(4,vi p.a4),(11,.fG true),(12,vi 0)] f33 116],[.a_]⟩
 | .c1 p c f=>⟨[gW 33 36 [(0,.sl yI p.b0),(1,vi p.b1),(2,vi p.b2),(3,vi p.b3),(4,vi p.b4),(11,.own 0),(12,vi c)] f33 116],[aZ yI f,.a_]⟩
def ahb(A:aS)(l:List Int)(n:Int)(f:Int)(g:Int)(c:Int):LT (List Int) aeu:=.ak<|.c0 ⟨l,n,f,g,c⟩
def PY(A:aS):aeu->LT (List Int) aeu
 | .c0 p=>.br (A.bo 0 p.a1) (.br (A.bo 0<|A.l p.a0) (.fP A 0 p.a0<|.ao (A.bE (A.l [(A.k Ef ((A.n yI p.a0 0:Int),p.a2,p.a3))]) 17592186044416)<|.ak<|.c1 ⟨p.a0,p.a1,p.a2,p.a3,p.a4⟩ (A.bJ 0 1) [(A.k Ef ((A.n yI p.a0 0:Int),p.a2,p.a3))])<|.ao (A.bE (A.l [p.a4]) 17592186044416)<|.ak<|.c1 ⟨p.a0,p.a1,p.a2,p.a3,p.a4⟩ (A.bJ 0 1) [p.a4])<|.ret ([]:List Int)
 | .c1 p c f=>.br (A.bo c p.b1) (.br (A.bo c<|A.l p.b0) (.fP A c p.b0<|.ao (A.bE (A.l<|A.p f [(A.k Ef ((A.n yI p.b0 c:Int),p.b2,p.b3))]) 17592186044416)<|.ak<|.c1 p (A.bJ c 1)<|A.p f [(A.k Ef ((A.n yI p.b0 c:Int),p.b2,p.b3))])<|.ao (A.bE (A.l<|A.p f [p.b4]) 17592186044416)<|.ak<|.c1 p (A.bJ c 1)<|A.p f [p.b4])<|.ret f
def mH:(List Int×Int×Int×Int×Int)->(List Int):=λ(l,n,f,g,c)=>fA (PY af) (ahb af l n f g c)<|Ty.aR [Cr]
def qe:(List Int×Int×Int×Int×Int)->Bool:=λ(l,n,f,g,c)=>fO (PY af)<|ahb af l n f g c
def avL:aK:=⟨[Cr,yI,yI,yI,yI],[Cr],qe,mH,false⟩
def ati:Sd 33 avL:=aX ax dJ sl 21 [⟨33,3,[[0,1,2,3,4,11,12]]⟩] [] (λA (l,n,f,g,c)=>ahb A l n f g c) PY akS (kz (fc func33 fz) (sc aiN sz)) (λA y=>match y with |.c0 p=>⟨54,sl,by kernel_rfl⟩|.c1 p j m=>⟨54,sl,by kernel_rfl⟩) λ((l,n,f,g,c):List Int×Int×Int×Int×Int) i h=>dN i
def aoU(A:aS)(m:aA)(o:cq):LT Bool Empty:=.br (A.bo o.1 0) (.ret false)<|.br (A.ov o.1 m.1) (.ret false)<|.br (A.bo o.2.2.1 0) (.ret false)<|.br (A.ov o.2.2.1 m.1) (.ret false)<|.br (A.bo o.2.1 0) (.ret false)<|.br (A.ov o.2.1 16) (.ret false)<|.br (A.bq o.2.2.2.1 1) (.br (A.bq o.2.2.2.2.1 0) (.ret<|A.bE (A.l o.2.2.2.2.2) 8)<|.ret false)<|.br (A.bq o.2.2.2.1 2) (.br (A.bq o.2.2.2.2.1 0) (.ret<|A.bq (A.l o.2.2.2.2.2) 0)<|.ret false)<|.br (A.bq o.2.2.2.1 3) (.br (A.ov o.2.2.2.2.1<|-1) (.br (A.bo o.2.2.2.2.1<|A.l m.2.2.2.2.2.2.2) (.ret<|A.bq (A.l o.2.2.2.2.2) 0)<|.ret false)<|.ret false)<|.ret false
def T9:(aA×cq)->Bool:=λ(m,o)=>(aoU af m o).val<|Ty.aR [.bool]
def avS:aK:=.all [bD,dE] [.bool] T9
def atp:Sd 70 avS:=fa<|aQ ax dJ sl 96 [] (λA (m,o)=>aoU A m o)<|kz (fc func70 fz) sz
def axe(A:aS)(a:cq)(b:cq):LT Bool Empty:=.br (A.cm a.2.1 b.2.1) (.ret<|A.bo a.2.1 b.2.1)<|.br (A.cm a.2.2.1 b.2.2.1) (.ret<|A.bo a.2.2.1 b.2.2.1)<|.ret<|A.bo a.1 b.1
def ZX:(cq×cq)->Bool:=λ(a,b)=>(axe af a b).val<|Ty.aR [.bool]
def avW:aK:=.all [dE,dE] [.bool] ZX
def atu:Sd 111 avW:=fa<|aQ ax dJ sl 43 [] (λA (a,b)=>axe A a b)<|kz (fc func111 fz) sz
structure QE where(a0:List cq)(a3:fC)
structure Lp where(b0:List cq)(b3:fC)
inductive aeA where|c0(p:QE)|c1(p:Lp)(b1:Bool)(b2:Int)(b4:List cq)
noncomputable def akY:aeA->gY
 | .c0 p=>⟨[gW 71 42 [(0,.sl dE p.a0),(3,pZ 0),(5,.fG true),(6,vb false),(7,vi 0)] f71 244],[dZ iC p.a3,.a_]⟩
 | .c1 p b1 b2 b4=>⟨[gW 71 42 [(0,.sl dE p.b0),(3,pZ 0),(5,.own 1),(6,vb b1),(7,vi b2)] f71 244],[dZ iC p.b3,aZ dE b4,.a_]⟩
def I5(p:QE):List cq:=([(p.a3.1,p.a3.2.1.1,p.a3.2.1.2,p.a3.2.2)]:List cq)
def DF(A:aS)(p:QE):List cq:=([(A.n dE p.a0 0:cq)]:List cq)
def I6(A:aS)(p:Lp)(c:List cq):List cq:=(A.p c ([(p.b3.1,p.b3.2.1.1,p.b3.2.1.2,p.b3.2.2)]:List cq))
def DG(A:aS)(p:Lp)(c:Int):List cq:=([(A.n dE p.b0 c:cq)]:List cq)
def ahd(A:aS)(l:List cq)(o:cq):LT (List cq) aeA:=.ak<|.c0 ⟨l,(o.1,(o.2.1,o.2.2.1),o.2.2.2)⟩
def J6(A:aS):aeA->LT (List cq) aeA
 | .c0 p=>.br (A.bo 0<|A.l p.a0) (.br (A.not false) (.fP A 0 p.a0<|.br (A.k ZX ((p.a3.1,p.a3.2.1.1,p.a3.2.1.2,p.a3.2.2),(A.n dE p.a0 0:cq))) (.ao (A.bE (A.l ((I5 p):List cq)) 2199023255552)<|.ao (A.bE (A.l<|A.p (I5 p)<|DF A p) 2199023255552)<|.ak<|.c1 ⟨p.a0,p.a3⟩ true (A.bJ 0 1)<|A.p (I5 p)<|DF A p)<|.ao (A.bE (A.l ((DF A p):List cq)) 2199023255552)<|.ak<|.c1 ⟨p.a0,p.a3⟩ false (A.bJ 0 1)<|DF A p)<|.fP A 0 p.a0<|.ao (A.bE (A.l ((DF A p):List cq)) 2199023255552)<|.ak<|.c1 ⟨p.a0,p.a3⟩ false (A.bJ 0 1)<|DF A p)<|.br (A.not false) (.ao (A.bE (A.l ((I5 p):List cq)) 2199023255552)<|.ret<|I5 p)<|.ret ([]:List cq)
 | .c1 p b1 b2 b4=>.br (A.bo b2<|A.l p.b0) (.br (A.not b1) (.fP A b2 p.b0<|.br (A.k ZX ((p.b3.1,p.b3.2.1.1,p.b3.2.1.2,p.b3.2.2),(A.n dE p.b0 b2:cq))) (.ao (A.bE (A.l<|I6 A p b4) 2199023255552)<|.ao (A.bE (A.l<|A.p (I6 A p b4)<|DG A p b2) 2199023255552)<|.ak<|.c1 p true (A.bJ b2 1)<|A.p (I6 A p b4)<|DG A p b2)<|.ao (A.bE (A.l<|A.p b4<|DG A p b2) 2199023255552)<|.ak<|.c1 p b1 (A.bJ b2 1)<|A.p b4<|DG A p b2)<|.fP A b2 p.b0<|.ao (A.bE (A.l<|A.p b4<|DG A p b2) 2199023255552)<|.ak<|.c1 p b1 (A.bJ b2 1)<|A.p b4<|DG A p b2)<|.br (A.not b1) (.ao (A.bE (A.l<|I6 A p b4) 2199023255552)<|.ret<|I6 A p b4)<|.ret b4
def Eh:(List cq×cq)->(List cq):=λ(l,o)=>fA (J6 af) (ahd af l o)<|Ty.aR [(.slice dE)]
def ya:(List cq×cq)->Bool:=λ(l,o)=>fO (J6 af)<|ahd af l o
def avT:aK:=⟨[(.slice dE),dE],[(.slice dE)],ya,Eh,false⟩
def atq:Sd 71 avT:=aX ax dJ sl 26 [⟨71,4,[[0,3,5,6,7]]⟩] [] (λA (l,o)=>ahd A l o) J6 akY (kz (fc func71 fz) (sc atu sz)) (λA y=>match y with |.c0 p=>⟨60,.jf [0,0,0,0,0,3,0,2],by kernel_rfl⟩|.c1 p b1 b2 b4=>⟨60,.jf [0,0,0,0,0,3,0,2],by kernel_rfl⟩) λ((l,o):List cq×cq) c h=>dN c
structure QD where(a0:List cq)(a3:aA)
structure Ln where(b0:List cq)(b4:aA)
inductive aev where|c0(p:QD)(a2:Int)|c1(p:Ln)(b1:List cq)(b2 b3:Int)
noncomputable def akT:aev->gY
 | .c0 p a2=>⟨[gW 34 39 [(1,.sl dE p.a0),(2,pZ 0),(5,.fG true),(6,vi 0),(7,vi a2)] f34 244],[dZ bD p.a3,.a_]⟩
 | .c1 p b1 b2 b3=>⟨[gW 34 39 [(1,.sl dE p.b0),(2,pZ 0),(5,.sl dE b1),(6,vi b2),(7,vi b3)] f34 244],[dZ bD p.b4,.a_]⟩
def adI(A:aS)(p:QD)(a2:Int):List cq×Int×Int×Int×Int×Int×List Int:=(([]:List cq),(A.n dE p.a0 a2:cq).1,(A.n dE p.a0 a2:cq).2.1,(A.n dE p.a0 a2:cq).2.2.1,(A.n dE p.a0 a2:cq).2.2.2.1,(A.n dE p.a0 a2:cq).2.2.2.2.1,([]:List Int))
def vc(A:aS)(p:Ln)(c:Int):cq:=(A.n dE p.b0 c:cq)
def adJ(A:aS)(p:Ln)(f:List cq)(c:Int):List cq×Int×Int×Int×Int×Int×List Int:=(f,(vc A p c).1,(vc A p c).2.1,(vc A p c).2.2.1,(vc A p c).2.2.2.1,(vc A p c).2.2.2.2.1,([]:List Int))
def ahc(A:aS)(m:aA)(l:List cq):LT (List cq) aev:=.ak<|.c0 ⟨l,m⟩ 0
def EX(A:aS):aev->LT (List cq) aev
 | .c0 p a2=>.br (A.bo a2<|A.l p.a0) (.fP A a2 p.a0<|.br (A.k T9 (p.a3,(A.n dE p.a0 a2:cq))) (.br (A.bo 0 256) (.br (A.bq (A.l (A.n dE p.a0 a2:cq).2.2.2.2.2) 0) (.ao (A.k ya<|adI A p a2)<|.ak<|.c1 ⟨p.a0,p.a3⟩ (A.k Eh<|adI A p a2) (A.bJ 0 1)<|A.bJ a2 1)<|.ao (A.bE (A.l (A.n dE p.a0 a2:cq).2.2.2.2.2) 140737488355328)<|.ao (A.k ya (([]:List cq),(A.n dE p.a0 a2:cq)))<|.ak<|.c1 ⟨p.a0,p.a3⟩ (A.k Eh (([]:List cq),(A.n dE p.a0 a2:cq))) (A.bJ 0 1)<|A.bJ a2 1)<|.ak<|.c0 p<|A.bJ a2 1)<|.ak<|.c0 p<|A.bJ a2 1)<|.ret ([]:List cq)
 | .c1 p b1 b2 b3=>.br (A.bo b3<|A.l p.b0) (.fP A b3 p.b0<|.br (A.k T9 (p.b4,vc A p b3)) (.br (A.bo b2 256) (.br (A.bq (A.l (vc A p b3).2.2.2.2.2) 0) (.ao (A.k ya<|adJ A p b1 b3)<|.ak<|.c1 p (A.k Eh<|adJ A p b1 b3) (A.bJ b2 1)<|A.bJ b3 1)<|.ao (A.bE (A.l (vc A p b3).2.2.2.2.2) 140737488355328)<|.ao (A.k ya (b1,vc A p b3))<|.ak<|.c1 p (A.k Eh (b1,vc A p b3)) (A.bJ b2 1)<|A.bJ b3 1)<|.ak<|.c1 p b1 b2<|A.bJ b3 1)<|.ak<|.c1 p b1 b2<|A.bJ b3 1)<|.ret b1
def Eg:(aA×List cq)->(List cq):=λ(m,l)=>fA (EX af) (ahc af m l)<|Ty.aR [(.slice dE)]
def Ib:(aA×List cq)->Bool:=λ(m,l)=>fO (EX af)<|ahc af m l
def avM:aK:=⟨[bD,.slice dE],[(.slice dE)],Ib,Eg,false⟩
def atj:Sd 34 avM:=aX ax dJ sl 26 [⟨34,4,[[1,2,5,6,7]]⟩] [] (λA (m,l)=>ahc A m l) EX akT (kz (fc func34 fz) (sc atp (sc atq sz))) (λA y=>match y with |.c0 p a2=>⟨67,.jf [0,0,0,0,3],by kernel_rfl⟩|.c1 p b1 b2 b3=>⟨67,.jf [0,0,0,0,3],by kernel_rfl⟩) λ((m,l):aA×List cq) c h=>dN c
structure Lm where(a0:Int)(a2:aA)(a3:gH)(a5:Int)
structure FF where(b0:Int)(b2:aA)(b3:gH)(b5:Int)
inductive aeq where|c0(p:Lm)|c1(p:FF)(b1:Int)(b6:List Bool)
noncomputable def akN:aeq->gY
 | .c0 p=>⟨[gW 11 107 [(2,pZ 0),(3,pZ 1),(4,pZ 2),(7,vi p.a0),(9,pZ 3),(10,vi 0)] f11 500],[dZ bD p.a2,dZ lD p.a3,gZ [vi 0,.fG true,.fG true,.fG true,.fG true,.fG true,.fG true,.fG true],gZ [vi p.a5,.fG true,.fG true,.fG true,.fG true,.fG true,.fG true,.fG true],.a_]⟩
 | .c1 p b1 c=>⟨[gW 11 107 [(2,pZ 0),(3,pZ 1),(4,pZ 2),(7,vi p.b0),(9,pZ 3),(10,vi b1)] f11 500],[dZ bD p.b2,dZ lD p.b3,gZ [vi 0,.fG true,.fG true,.fG true,.fG true,.fG true,.fG true,.fG true],gZ [vi p.b5,.own 4,.fG true,.fG true,.fG true,.fG true,.fG true,.fG true],aZ .bool c,.a_]⟩
def SN(A:aS)(p:Lm):List Int×Int×Int×Int×Int:=(p.a3.2.2.2.2.1,p.a2.1,A.u .neg .i64<|A.b .quo .i64 p.a2.2.2.2.1 2,A.b .quo .i64 p.a2.2.2.2.1 2,0)
def SO(A:aS)(p:Lm):List Int×Int×Int×Int×Int:=(p.a3.2.2.2.2.2.1,A.mn (A.l p.a3.2.2.2.2.2.1) 1024,A.u .neg .i64 p.a2.2.2.2.2.1,p.a2.2.2.2.2.1,0)
def NE(A:aS)(p:Lm):List bK:=(A.k Bs (p.a2,p.a3.2.2.2.2.2.2.2))
def NF(A:aS)(p:FF):List Int×Int×Int×Int×Int:=(p.b3.2.2.2.2.1,p.b2.1,A.u .neg .i64<|A.b .quo .i64 p.b2.2.2.2.1 2,A.b .quo .i64 p.b2.2.2.2.1 2,0)
def NG(A:aS)(p:FF):List Int×Int×Int×Int×Int:=(p.b3.2.2.2.2.2.1,A.mn (A.l p.b3.2.2.2.2.2.1) 1024,A.u .neg .i64 p.b2.2.2.2.2.1,p.b2.2.2.2.2.1,0)
def NH(A:aS)(p:FF):List bK:=(A.k Bs (p.b2,p.b3.2.2.2.2.2.2.2))
def ag8(A:aS)(m:aA)(s:gH):LT (gH×Int) aeq:=.br (A.cm (A.k nZ m) 0) (.ret ((0,([]:List Bool),([]:List Int),([]:List Int),([]:List Int),([]:List Int),([]:List cq),([]:List bK)),A.k nZ m))<|.ak<|.c0 ⟨(A.k T8 m).1,m,s,A.k Ef (s.1,1,16)⟩
def J5(A:aS):aeq->LT (gH×Int) aeq
 | .c0 p=>.br (A.bo 0 p.a2.1) (.br (A.ov 0<|A.l p.a3.2.1) (.ao (A.bE (A.l ([true]:List Bool)) 140737488355328)<|.ak<|.c1 ⟨p.a0,p.a2,p.a3,p.a5⟩ (A.bJ 0 1) [true])<|.fP A 0 p.a3.2.1<|.ao (A.bE (A.l ([(A.n .bool p.a3.2.1 0:Bool)]:List Bool)) 140737488355328)<|.ak<|.c1 ⟨p.a0,p.a2,p.a3,p.a5⟩ (A.bJ 0 1) [(A.n .bool p.a3.2.1 0:Bool)])<|.ao (A.k qe (p.a3.2.2.1,p.a2.1,0,p.a0,0))<|.ao (A.k qe (p.a3.2.2.2.1,p.a2.1,40,60,50))<|.ao (A.k qe<|SN A p)<|.ao (A.k qe<|SO A p)<|.ao (A.k Ib (p.a2,p.a3.2.2.2.2.2.2.1))<|.ao (A.k Dj (p.a2,p.a3.2.2.2.2.2.2.2))<|.br (A.jD (A.l<|NE A p) 256) (.ao (A.and (A.bE 0 0)<|A.and (A.bE 0 256)<|A.bE 256<|A.l<|NE A p)<|.ret ((p.a5,([]:List Bool),A.k mH (p.a3.2.2.1,p.a2.1,0,p.a0,0),A.k mH (p.a3.2.2.2.1,p.a2.1,40,60,50),A.k mH<|SN A p,A.k mH<|SO A p,A.k Eg (p.a2,p.a3.2.2.2.2.2.2.1),A.s (NE A p) 0 256),0))<|.ret ((p.a5,([]:List Bool),A.k mH (p.a3.2.2.1,p.a2.1,0,p.a0,0),A.k mH (p.a3.2.2.2.1,p.a2.1,40,60,50),A.k mH<|SN A p,A.k mH<|SO A p,A.k Eg (p.a2,p.a3.2.2.2.2.2.2.1),NE A p),0)
 | .c1 p b1 c=>.br (A.bo b1 p.b2.1) (.br (A.ov b1<|A.l p.b3.2.1) (.ao (A.bE (A.l<|A.p c [true]) 140737488355328)<|.ak<|.c1 p (A.bJ b1 1)<|A.p c [true])<|.fP A b1 p.b3.2.1<|.ao (A.bE (A.l<|A.p c [(A.n .bool p.b3.2.1 b1:Bool)]) 140737488355328)<|.ak<|.c1 p (A.bJ b1 1)<|A.p c [(A.n .bool p.b3.2.1 b1:Bool)])<|.ao (A.k qe (p.b3.2.2.1,p.b2.1,0,p.b0,0))<|.ao (A.k qe (p.b3.2.2.2.1,p.b2.1,40,60,50))<|.ao (A.k qe<|NF A p)<|.ao (A.k qe<|NG A p)<|.ao (A.k Ib (p.b2,p.b3.2.2.2.2.2.2.1))<|.ao (A.k Dj (p.b2,p.b3.2.2.2.2.2.2.2))<|.br (A.jD (A.l<|NH A p) 256) (.ao (A.and (A.bE 0 0)<|A.and (A.bE 0 256)<|A.bE 256<|A.l<|NH A p)<|.ret ((p.b5,c,A.k mH (p.b3.2.2.1,p.b2.1,0,p.b0,0),A.k mH (p.b3.2.2.2.1,p.b2.1,40,60,50),A.k mH<|NF A p,A.k mH<|NG A p,A.k Eg (p.b2,p.b3.2.2.2.2.2.2.1),A.s (NH A p) 0 256),0))<|.ret ((p.b5,c,A.k mH (p.b3.2.2.1,p.b2.1,0,p.b0,0),A.k mH (p.b3.2.2.2.1,p.b2.1,40,60,50),A.k mH<|NF A p,A.k mH<|NG A p,A.k Eg (p.b2,p.b3.2.2.2.2.2.2.1),NH A p),0)
def rZ:(aA×gH)->(gH×Int):=λ(m,s)=>fA (J5 af) (ag8 af m s)<|Ty.aR [lD,yI]
def Ia:(aA×gH)->Bool:=λ(m,s)=>fO (J5 af)<|ag8 af m s
def avB:aK:=⟨[bD,lD],[lD,yI],Ia,rZ,false⟩
def aiM:Sd 11 avB:=aX ax dJ sl 53 [⟨11,7,[[2,3,4,7,9,10]]⟩] [] (λA (m,s)=>ag8 A m s) J5 akN (kz (fc func11 fz) (sc Qa (sc acK (sc ath (sc aiN (sc ati (sc atj sz))))))) (λA y=>match y with |.c0 p=>⟨111,sl,by kernel_rfl⟩|.c1 p b1 f=>⟨111,sl,by kernel_rfl⟩) λ((m,s):aA×gH) c h=>dN c
structure ajG where(a3:gH)
structure XR where(b0:Bool)(b3:gH)
inductive aes where|c0(p:ajG)(a0:Bool)(a2:Int)|c1(p:XR)(b1:Bool)(b2:Int)
noncomputable def akP:aes->gY
 | .c0 p a0 a2=>⟨[gW 38 54 [(1,pZ 0),(3,vb a0),(4,vb false),(5,vi a2)] f38 244],[dZ lD p.a3,.a_]⟩
 | .c1 p b1 b2=>⟨[gW 38 54 [(1,pZ 0),(3,vb p.b0),(4,vb b1),(6,vi b2)] f38 500],[dZ lD p.b3,.a_]⟩
def ag_(A:aS)(s:gH):LT Bool aes:=.ak<|.c0 ⟨s⟩ false 0
def EW(A:aS):aes->LT Bool aes
 | .c0 p a0 a2=>.br (A.bo a2<|A.l p.a3.2.2.2.2.2.2.1) (.br a0 (.ak<|.c0 p true<|A.bJ a2 1)<|.fP A a2 p.a3.2.2.2.2.2.2.1<|.ak<|.c0 p (A.bq (A.n dE p.a3.2.2.2.2.2.2.1 a2:cq).2.2.2.1 3)<|A.bJ a2 1)<|.ak<|.c1 ⟨a0,p.a3⟩ false 0
 | .c1 p b1 b2=>.br (A.bo b2<|A.l p.b3.2.2.2.2.2.2.2) (.br b1 (.ak<|.c1 p true<|A.bJ b2 1)<|.fP A b2 p.b3.2.2.2.2.2.2.2<|.br (A.bq (A.n bQ p.b3.2.2.2.2.2.2.2 b2:bK).1 3) (.ak<|.c1 p true<|A.bJ b2 1)<|.ak<|.c1 p (A.bq (A.n bQ p.b3.2.2.2.2.2.2.2 b2:bK).1 4)<|A.bJ b2 1)<|.br p.b0 (.ret b1)<|.ret false
def ah2:gH->Bool:=λs=>fA (EW af) (ag_ af s)<|Ty.aR [.bool]
def RL:gH->Bool:=λs=>fO (EW af)<|ag_ af s
def avD:aK:=⟨[lD],[.bool],RL,ah2,false⟩
def ata:Sd 38 avD:=aX ax dJ sl 26 [⟨38,4,[[1,3,4,5]]⟩,⟨38,8,[[1,3,4,6]]⟩] [] (λA s=>ag_ A s) EW akP (kz (fc func38 fz) sz) (λA y=>match y with |.c0 p f a2=>⟨38,sl,by kernel_rfl⟩|.c1 p b1 b2=>⟨47,.jf [0,0,0,0,2],by kernel_rfl⟩) λ(s:gH) c h=>dN c
structure QC where(a0:List bK)
inductive aer where|c0(p:QC)(a1 a2 a3 a4 a5:Int)
noncomputable def akO:aer->gY
 | .c0 p a1 a2 a3 a4 a5=>⟨[gW 37 103 [(1,.sl bQ p.a0),(5,vi a1),(6,vi a2),(7,vi a3),(8,vi a4),(9,vi a5)] f37 4084],[.a_]⟩
def m_(A:aS)(p:QC)(c:Int):bK:=(A.n bQ p.a0 c:bK)
def ag9(A:aS)(m:aA)(l:List bK):LT Bool aer:=.br (A.cm (A.k nZ m) 0) (.ret false)<|.ao (A.k Dj (m,l))<|.ak<|.c0 ⟨A.k Bs (m,l)⟩ 0 (-1) (-1) 0 0
def PX(A:aS):aer->LT Bool aer
 | .c0 p a1 a2 a3 a4 a5=>.br (A.bo a5<|A.l p.a0) (.fP A a5 p.a0<|.br (A.jD (m_ A p a5).1 6) (.ret false)<|.br (A.ov a2 0) (.br (A.cm (m_ A p a5).1 2) (.ret false)<|.br (A.cm (m_ A p a5).2.1 a2) (.ret false)<|.br (A.bE (m_ A p a5).2.2.2.1 a4) (.ret false)<|.ak<|.c0 p (A.bJ (m_ A p a5).2.2.2.1 4) (-1) a3 a4<|A.bJ a5 1)<|.br (A.ov a3 0) (.br (A.cm (m_ A p a5).1 1) (.ret false)<|.br (A.cm (m_ A p a5).2.1 a3) (.ret false)<|.br (A.bo (m_ A p a5).2.2.2.1<|A.bJ a4 2) (.ret false)<|.ak<|.c0 p a1 a3 (-1) (m_ A p a5).2.2.2.1<|A.bJ a5 1)<|.br (A.bq (m_ A p a5).1 2) (.ret false)<|.br (A.bo (m_ A p a5).2.2.2.1 a1) (.ret false)<|.br (A.bq (m_ A p a5).1 1) (.ak<|.c0 p a1 (m_ A p a5).2.1 a3 (m_ A p a5).2.2.2.1<|A.bJ a5 1)<|.br (A.bq (m_ A p a5).1 6) (.ak<|.c0 p a1 a2 (m_ A p a5).2.1 (m_ A p a5).2.2.2.1<|A.bJ a5 1)<|.ak<|.c0 p (A.bJ (m_ A p a5).2.2.2.1 3) a2 a3 a4<|A.bJ a5 1)<|.ret true
def ah1:(aA×List bK)->Bool:=λ(m,l)=>fA (PX af) (ag9 af m l)<|Ty.aR [.bool]
def RJ:(aA×List bK)->Bool:=λ(m,l)=>fO (PX af)<|ag9 af m l
def avC:aK:=⟨[bD,.slice bQ],[.bool],RJ,ah1,false⟩
def as_:Sd 37 avC:=aX ax dJ sl 50 [⟨37,9,[[1,5,6,7,8,9]]⟩] [] (λA (m,l)=>ag9 A m l) PX akO (kz (fc func37 fz) (sc Qa (sc acK sz))) (λA y=>match y with |.c0 p a1 a2 f g i=>⟨98,sl,by kernel_rfl⟩) λ((m,l):aA×List bK) c h=>dN c
structure ajC where(a1:aA)(a2:gH)
structure ajD where(b0:Int)(b1:aA)
structure ajE where(c0:Int)(c2:aA)
inductive aeo where|c0(p:ajC)(a0:Int)|c1(p:ajD)|c2(p:ajE)(c1:Int)
noncomputable def akL:aeo->gY
 | .c0 p a0=>⟨[gW 15 70 [(2,pZ 0),(5,pZ 1),(7,vi a0)] f15 244],[dZ bD p.a1,dZ lD p.a2,.a_]⟩
 | .c1 p=>⟨[gW 15 70 [(2,pZ 0),(8,vi p.b0)] f15 500],[dZ bD p.b1,.a_]⟩
 | .c2 p c1=>⟨[gW 15 70 [(2,pZ 0),(8,vi p.c0),(9,vi c1)] f15 32036],[dZ bD p.c2,.a_]⟩
def adb(A:aS)(m:aA)(s:gH):LT Bool aeo:=.ao (A.k Ia (m,s))<|.br (A.cm (A.k rZ (m,s)).2 0) (.ret false)<|.ao (A.k RJ (m,(A.k rZ (m,s)).1.2.2.2.2.2.2.2))<|.br (A.not<|A.k ah1 (m,(A.k rZ (m,s)).1.2.2.2.2.2.2.2)) (.ret false)<|.ao (A.k RL (A.k rZ (m,s)).1)<|.br (A.k ah2 (A.k rZ (m,s)).1) (.ret false)<|.ak<|.c0 ⟨m,(A.k rZ (m,s)).1⟩ 0
def EV(A:aS):aeo->LT Bool aeo
 | .c0 p a0=>.br (A.bo a0<|A.l p.a2.2.1) (.fP A a0 p.a2.2.1<|.br (A.not (A.n .bool p.a2.2.1 a0:Bool)) (.ret false)<|.ak<|.c0 p<|A.bJ a0 1)<|.ak<|.c1 ⟨0,p.a1⟩
 | .c1 p=>.br (A.bo p.b0<|A.l p.b1.2.2.2.2.2.2.2) (.ak<|.c2 ⟨p.b0,p.b1⟩ 0)<|.ret true
 | .c2 p c1=>.fP A p.c0 p.c2.2.2.2.2.2.2.2<|.br (A.bo c1<|A.l (A.n eT p.c2.2.2.2.2.2.2.2 p.c0:Mode).2.1) (.fP A c1 (A.n eT p.c2.2.2.2.2.2.2.2 p.c0:Mode).2.1<|.br (A.not (A.n .bool (A.n eT p.c2.2.2.2.2.2.2.2 p.c0:Mode).2.1 c1:Bool)) (.ret false)<|.ak<|.c2 p<|A.bJ c1 1)<|.ak<|.c1 ⟨A.bJ p.c0 1,p.c2⟩
def ah0:(aA×gH)->Bool:=λ(m,s)=>fA (EV af) (adb af m s)<|Ty.aR [.bool]
def RI:(aA×gH)->Bool:=λ(m,s)=>fO (EV af)<|adb af m s
def avy:aK:=⟨[bD,lD],[.bool],RI,ah0,false⟩
def as7:Sd 15 avy:=aX ax dJ sl 50 [⟨15,5,[[2,5,7]]⟩,⟨15,10,[[2,8]]⟩,⟨15,13,[[2,8,9]]⟩] [] (λA (m,s)=>adb A m s) EV akL (kz (fc func15 fz) (sc aiM (sc as_ (sc ata sz)))) (λA y=>match y with |.c0 p f=>⟨36,sl,by kernel_rfl⟩|.c1 p=>⟨25,sl,by kernel_rfl⟩|.c2 p c1=>⟨44,.jf [0,0,2],by kernel_rfl⟩) λ((m,s):aA×gH) c h=>dN c
structure Yb where(a0:List bK)(a1 a2:Int)
inductive aeJ where|c0(p:Yb)(a3:Int)
noncomputable def ak9:aeJ->gY
 | .c0 p a3=>⟨[gW 36 50 [(1,.sl bQ p.a0),(2,vi p.a1),(3,vi p.a2),(9,vi a3)] f36 244],[.a_]⟩
def ahk(A:aS)(m:aA)(l:List bK)(a:Int)(b:Int):LT Bool aeJ:=.br (A.cm (A.k nZ m) 0) (.ret false)<|.ao (A.k Dj (m,l))<|.ak<|.c0 ⟨A.k Bs (m,l),a,b⟩ 0
def Nh(A:aS):aeJ->LT Bool aeJ
 | .c0 p a3=>.br (A.bo a3<|A.l p.a0) (.fP A a3 p.a0<|.br (A.cm (A.n bQ p.a0 a3:bK).1 p.a1) (.br (A.cm (A.n bQ p.a0 a3:bK).1 p.a2) (.ret false)<|.fP A 0 p.a0<|.br (A.cm (A.n bQ p.a0 a3:bK).2.1 (A.n bQ p.a0 0:bK).2.1) (.ret false)<|.ak<|.c0 p<|A.bJ a3 1)<|.fP A 0 p.a0<|.br (A.cm (A.n bQ p.a0 a3:bK).2.1 (A.n bQ p.a0 0:bK).2.1) (.ret false)<|.ak<|.c0 p<|A.bJ a3 1)<|.ret true
def ah4:(aA×List bK×Int×Int)->Bool:=λ(m,l,a,b)=>fA (Nh af) (ahk af m l a b)<|Ty.aR [.bool]
def abF:(aA×List bK×Int×Int)->Bool:=λ(m,l,a,b)=>fO (Nh af)<|ahk af m l a b
def av8:aK:=⟨[bD,.slice bQ,yI,yI],[.bool],abF,ah4,false⟩
def atE:Sd 36 av8:=aX ax dJ sl 34 [⟨36,5,[[1,2,3,9]]⟩] [] (λA (m,l,a,b)=>ahk A m l a b) Nh ak9 (kz (fc func36 fz) (sc Qa (sc acK sz))) (λA y=>match y with |.c0 p f=>⟨57,.jf [0,0,0,2,0,3,0,0,2],by kernel_rfl⟩) λ((m,l,a,b):aA×List bK×Int×Int) c h=>dN c
def ahi(A:aS)(m:aA)(l:List bK):LT Bool Empty:=.ao (A.k abF (m,l,9,10))<|.ret<|A.k ah4 (m,l,9,10)
def ZZ:(aA×List bK)->Bool:=λ(m,l)=>fA Empty.elim (ahi af m l)<|Ty.aR [.bool]
def RQ:(aA×List bK)->Bool:=λ(m,l)=>fO Empty.elim<|ahi af m l
def av6:aK:=⟨[bD,.slice bQ],[.bool],RQ,ZZ,false⟩
def atC:Sd 13 av6:=bX ax dJ sl 18 [] (λA (m,l)=>ahi A m l) (kz (fc func13 fz) (sc atE sz)) λ((m,l):aA×List bK) c h=>dN c
structure X8 where(a0:List bK)(a1:Int)
inductive aeH where|c0(p:X8)(a2:Int)
noncomputable def ak6:aeH->gY
 | .c0 p a2=>⟨[gW 14 22 [(5,.sl bQ p.a0),(6,vi p.a1),(7,vi a2)] f14 52],[.a_]⟩
def ahj(A:aS)(l:List bK):LT Bool aeH:=.ak<|.c0 ⟨l,A.l l⟩ 0
def Ng(A:aS):aeH->LT Bool aeH
 | .c0 p a2=>.br (A.bo a2 p.a1) (.fP A a2 p.a0<|.br (A.bq (A.n bQ p.a0 a2:bK).1 9) (.br (A.bq (A.n bQ p.a0 a2:bK).2.2.2.2.1 (A.n bQ p.a0 a2:bK).2.1) (.ret false)<|.ak<|.c0 p<|A.bJ a2 1)<|.ak<|.c0 p<|A.bJ a2 1)<|.ret true
def Z0:(List bK)->Bool:=λl=>fA (Ng af) (ahj af l)<|Ty.aR [.bool]
def RR:(List bK)->Bool:=λl=>fO (Ng af)<|ahj af l
def av7:aK:=⟨[(.slice bQ)],[.bool],RR,Z0,false⟩
def atD:Sd 14 av7:=aX ax dJ sl 19 [⟨14,2,[[5,6,7]]⟩] [] (λA l=>ahj A l) Ng ak6 (kz (fc func14 fz) sz) (λA y=>match y with |.c0 p a2=>⟨42,sl,by kernel_rfl⟩) λ(l:List bK) c h=>dN c
structure XN where(a0 a1:List eX)
inductive aem where|c0(p:XN)(a2:Int)
noncomputable def akJ:aem->gY
 | .c0 p a2=>⟨[gW 16 42 [(0,.sl gD p.a0),(1,.sl gD p.a1),(5,vi a2)] f16 116],[.a_]⟩
def ag7(A:aS)(a:List eX)(b:List eX):LT Bool aem:=.br (A.cm (A.l a)<|A.l b) (.ret false)<|.ak<|.c0 ⟨a,b⟩ 0
def Sb(A:aS):aem->LT Bool aem
 | .c0 p a2=>.br (A.bo a2<|A.l p.a0) (.fP A a2 p.a0<|.fP A a2 p.a1<|.br (A.cm (A.n gD p.a0 a2:eX).1 (A.n gD p.a1 a2:eX).1) (.ret false)<|.ao (A.k RE ((A.n gD p.a0 a2:eX).2,(A.n gD p.a1 a2:eX).2))<|.br (A.not<|A.k ahS ((A.n gD p.a0 a2:eX).2,(A.n gD p.a1 a2:eX).2)) (.ret false)<|.ak<|.c0 p<|A.bJ a2 1)<|.ret true
def ZQ:(List eX×List eX)->Bool:=λ(a,b)=>fA (Sb af) (ag7 af a b)<|Ty.aR [.bool]
def RH:(List eX×List eX)->Bool:=λ(a,b)=>fO (Sb af)<|ag7 af a b
def avw:aK:=⟨[(.slice gD),.slice gD],[.bool],RH,ZQ,false⟩
def as6:Sd 16 avw:=aX ax dJ sl 28 [⟨16,4,[[0,1,5]]⟩] [] (λA (a,b)=>ag7 A a b) Sb akJ (kz (fc func16 fz) (sc asA sz)) (λA y=>match y with |.c0 p a2=>⟨54,.jf [0,0,0,0,3,2],by kernel_rfl⟩) λ((a,b):List eX×List eX) c h=>dN c
def I7(m:aA)(s:gH):aA×Int×List Bool×List Int×List Int×List Int×List Int×List cq×List bK:=(m,s.1,s.2.1,s.2.2.1,s.2.2.2.1,s.2.2.2.2.1,s.2.2.2.2.2.1,s.2.2.2.2.2.2.1,([]:List bK))
def adK(m:aA)(s:gH):aA×Int×List Bool×List Int×List Int×List Int×List Int×List cq×List bK:=(m,s.1,s.2.1,([]:List Int),([]:List Int),([]:List Int),([]:List Int),([]:List cq),([]:List bK))
def Ss(A:aS)(m:aA)(s:gH):LT Bool Empty:=.ao (A.k Ia (m,s))<|.ao (A.k MK ())<|.br (A.not<|A.k zG ()) (.ret<|A.k zG ())<|.br (A.not<|A.k ZY s) (.ret<|A.k zG ())<|.br (A.cm (A.k rZ (m,s)).2 0) (.ret<|A.k zG ())<|.ao (A.k RQ (m,(A.k rZ (m,s)).1.2.2.2.2.2.2.2))<|.br (A.not<|A.k ZZ (m,(A.k rZ (m,s)).1.2.2.2.2.2.2.2)) (.ret<|A.k zG ())<|.ao (A.k RR (A.k rZ (m,s)).1.2.2.2.2.2.2.2)<|.br (A.not<|A.k Z0 (A.k rZ (m,s)).1.2.2.2.2.2.2.2) (.ret<|A.k zG ())<|.ao (A.k RI<|adK m s)<|.br (A.not<|A.k ah0<|adK m s) (.ret<|A.k zG ())<|.ao (A.k Dk (m,s))<|.ao (A.k Dk<|I7 m s)<|.br (A.bq (A.k pY (m,s)).2 (A.k pY<|I7 m s).2) (.ao (A.k RH ((A.k pY (m,s)).1,(A.k pY<|I7 m s).1))<|.ret<|A.k ZQ ((A.k pY (m,s)).1,(A.k pY<|I7 m s).1))<|.ret false
def Ua:(aA×gH)->Bool:=λ(m,s)=>fA Empty.elim (Ss af m s)<|Ty.aR [.bool]
def MJ:(aA×gH)->Bool:=λ(m,s)=>fO Empty.elim<|Ss af m s
def ar7(x:aA×gH)(c:MJ x=true):aV Empty.elim (Ss af x.1 x.2)<|Ua x:=@dN _ _ Empty.elim (Ss af x.1 x.2) (Ty.aR [.bool]) c
def av2:aK:=⟨[bD,lD],[.bool],MJ,Ua,false⟩
def atz:Sd 4 av2:=bX ax dJ (.jf [0,0,0,2,0,3,0,4,0,0,6,0,0,8,0,0,10]) 103 [] (λA (m,s)=>Ss A m s) (kz (fc func4 fz) (sc as6 (sc as7 (sc aiM (sc atA (sc aiR (sc atB (sc atC (sc atD sz))))))))) (λx c _=>ar7 x c)
def Yl(k:Nat->Int)(n i:Nat):Prop:=i<n/\(∀j,0<j->j<n->j≠i->k ((j-1)/2)<=k j)/\∀j,0<j->j<n->(j-1)/2=i->0<i->k ((i-1)/2)<=k j
def Ym(k:Nat->Int)(n i:Nat):Prop:=(∀j,0<j->j<n->(j-1)/2≠i->k ((j-1)/2)<=k j)/\∀j,0<j->j<n->(j-1)/2=i->0<i->k ((i-1)/2)<=k j
def Hp(k:Nat->Int)(n:Nat):Prop:=∀j,0<j->j<n->k ((j-1)/2)<=k j
variable{i n:Nat}
theorem abU{k f:Nat->Int}{u:Nat}(h:Yl k n i)(y:0<i)(C:u=(i-1)/2)(z:k i<=k u)(r:f i=k u)(v:f u=k i)(g:∀j,j≠i->j≠u->f j=k j):Yl f n u:=by
 have⟨a,b,c⟩:=h;refine⟨by omega,λj o p m=>?_,λj o p m q=>?_⟩
 .by_cases l:j=i
  .simp_all
  .rw[g j l m];by_cases A:(j-1)/2=i
   .simp_all
   .by_cases B:(j-1)/2=u
    all_goals grind
 .have x:=b u q (by omega) (by omega);rw[g ((u-1)/2) (by omega)<|by omega];by_cases l:j=i
  .simp_all
  .rw[g j l<|by omega]
   grind
theorem M3{k:Nat->Int}(h:Yl k n i)(l:0<i->k ((i-1)/2)<=k i):Hp k n:=λj c f=>by
 by_cases g:j=i
 .simp_all
 .exact h.2.1 j c f g
theorem acA{k c:Nat->Int}{f:Nat}(h:Ym k n i)(u:f<n)(l:0<f/\(f-1)/2=i)(y:k f<=k i)(z:∀j,0<j->j<n->(j-1)/2=i->k f<=k j)(m:c i=k f)(x:c f=k i)(g:∀j,j≠i->j≠f->c j=k j):Ym c n f:=by
 have⟨a,b⟩:=h;refine⟨λj o r p=>?_,λj o r p _=>?_⟩
 .by_cases v:j=f
  .simp_all
  .by_cases q:j=i
   .subst q;rw[m,g _ (by omega) p];exact b f l.1 u l.2 o
   .rw[g j q v];by_cases A:(j-1)/2=i
    all_goals simp_all
 .rw[l.2,m,g j (by omega)<|by omega]
  grind
theorem U2{k:Nat->Int}(h:Ym k n i)(l:∀j,0<j->j<n->(j-1)/2=i->k i<=k j):Hp k n:=λj c f=>by
 by_cases g:(j-1)/2=i
 .simp_all
 .exact h.1 j c f g
theorem amg{k:Nat->Int}(h:Hp k n):∀j,j<n->k 0<=k j:=λj=>by
 induction j using Nat.strongRecOn with
 | _ j ih=>
   intro c;by_cases f:j=0
   .simp_all
   .exact bP (ih _ (by omega)<|by omega)<|h j (by omega) c
def C6(l:List jr)(j:Nat):Int:=(l.getD j (0,0,0,0)).1
def Lk(l:List jr):Prop:=Hp (C6 l) l.length
def YW(a b:Int):KJ (a,b)=vt a b:=by
 show(ahx af a b).val _=_;simp[ahx,b_,show ∀x,El x=false from λx=>by show(x != x)=false;simp];rfl
theorem Fb{a b:jr}:(KH (a,b)=true->a.1<=b.1)/\(KH (a,b)=false->b.1<=a.1):=by
 have e:KH (a,b)=decide (orF [vt a.1 b.1,vt a.2.1 b.2.1,vt a.c b.c,vt a.C b.C]<0):=by
  show decide (Ue (a,b)<0)=_;rw[show Ue (a,b)=orF [KJ (a.1,b.1),rB (a.2.1,b.2.1),rB (a.c,b.c),KJ (a.C,b.C)] from rfl,YW,YW];rfl
 rw[e];rcases Int.lt_trichotomy a.1 b.1 with h|h|h
 .have:vt a.1 b.1 = -1:=by rw[vt,cr h];rfl
  rw[this,show orF [-1,vt a.2.1 b.2.1,vt a.c b.c,vt a.C b.C] = -1 from rfl]
  grind
 .omega
 .have:vt a.1 b.1=1:=by rw[vt,gw<|by omega,cr h];rfl
  rw[this,show orF [1,vt a.2.1 b.2.1,vt a.c b.c,vt a.C b.C]=1 from rfl]
  grind
variable{j:Nat}
def yM{l:List jr}:(af.n pQ l (j:Int):jr)=l.getD j (0,0,0,0):=by rfl
def Kg(l:List jr)(i j:Nat):List jr:=(l.set i<|l.getD j (0,0,0,0)).set j<|l.getD i (0,0,0,0)
theorem Lh{l:List jr}(c:i<l.length)(f:j<l.length):(Kg l i j).Perm l:=by
 have e:∀{k},(h:k<l.length)->l.getD k (0,0,0,0)=l[k]:=λh=>by simp_all
 rw[Kg,e c,e f]
 grind
def IQ{l:List jr}:(Kg l i j).length=l.length:=by simp[Kg]
theorem Qi{l:List jr}(c:i<l.length)(f:j<l.length):C6 (Kg l i j) i=C6 l j/\C6 (Kg l i j) j=C6 l i/\∀k,k≠i->k≠j->C6 (Kg l i j) k=C6 l k:=by
 simp[C6,Kg]
 grind
def Vd{l:List jr}:af.set (af.set l i (af.n pQ l (j:Int):jr)) (j:Int) (af.n pQ l (i:Int):jr)=Kg l i j:=by rfl
def half{a:Nat}(h:0<a)(c:a<=1000000):af.b .quo .i64 (af.fD a 1) 2=(((a-1)/2:Nat):Int):=by
 rw[yT,lZ (by omega)<|by omega,Fs,show((a:Int)-1)=((a-1:Nat):Int) from by omega];rw[show((a-1:Nat):Int).tdiv 2=(((a-1)/2:Nat):Int) from rfl,lZ (by omega)<|by omega]
def Uq{l:List jr}{i j:Int}{v:jr}(h:0<=i/\i<(l.length:Int)):af.and (af.bE 0 i) (af.bo i<|af.l<|af.set l j v)=true:=bM (by rw[gK];exact h)
def agm{p:Ye}{q:List jr}(A:q.length<=1000000):∀(f i:Nat) (l:List jr),i<=f->l.Perm q->Yl (C6 l) l.length i->Go (acd af) (.ak<|.c0 p i l) λr=>∃o,r=((p.a1,o,p.a2),())/\o.Perm q/\Lk o:=by
 intro f
 induction f with
 | zero=>
   intro i l z g m;have:i=0:=by omega
   exact aP<|kY (λh=>by omega) λ_=>ay ⟨l,rfl,g,M3 m<|by omega⟩
 | succ f ih=>
   intro i l z g m;refine aP (kY (λh=>?_) λh=>ay ⟨l,rfl,g,M3 m<|by omega⟩);have u:0<i:=by omega
   have B:=g.length_eq;have n:i<l.length:=m.1;rw[show yq af (i:Int)=(((i-1)/2:Nat):Int) from half u<|by omega];refine ah (bM<|by omega)<|ah (bM<|by omega)<|du (λh=>ah (Uq<|by omega) ?_) λh=>?_
   .rw[Vd];have⟨v,x,y⟩:=Qi (l:=l) (i:=i) (j:=(i-1)/2) n (by omega);have c:=Fb.1 h;exact ih _ _ (by omega) ((Lh n<|by omega).trans g) (by rw[IQ];exact abU m u rfl c v x y)
   .have c:=Fb.2 h;exact ay ⟨l,rfl,g,M3 m λ_=>c⟩
variable{q:rq}
def agn(f:q.2.1.length<=1000000)(g:Yl (C6 q.2.1) q.2.1.length i):RZ (q,(i:Int))=true/\∃c,Z3 (q,(i:Int))=((q.1,c,q.2.2),())/\c.Perm q.2.1/\Lk c:=
 fQ (s:=acd af) (t:=ahq af q i) (agm (p:=⟨q.1,q.2.2⟩) f i i q.2.1 (ai _) (.refl _) g)
def dbl{a:Nat}{c:Int}(h:a<=1000000)(f:0<=c/\c<=2):af.bJ (af.b .mul .i64 2 a) c=2*(a:Int)+c:=by
 rw[Lg,jq,lZ (a:=2*(a:Int)) (by omega)<|by omega,lZ (by omega)<|by omega]
variable{P:rq×Unit->Prop}{p:Lr}
def ID{f c:Nat}{a2 g k:Int}{l:List jr}(j:0<=k/\k<2)(o:(af.n yI [a2,g] k:Int)=(c:Int))(q:c<l.length->f<l.length)(n:c<l.length->C6 l c<=C6 l f->Go (J8 af) (.ak<|.c0 p (i:Int) (c:Int) a2 g (k+1) l) P)(m:(c<l.length->C6 l f<=C6 l c)->Go (J8 af) (.ak<|.c0 p (i:Int) (f:Int) a2 g (k+1) l) P):
  Go (J8 af) (.ak<|.c0 p (i:Int) (f:Int) a2 g k l) P:=by
 refine aP<|aW (λ_=>?_) λh=>absurd j.2 (by omega);rw[o,dq (x:=k) (y:=1)<|by omega];refine ah (by rw[bu,aB,bi,cr j.1,cr j.2];rfl)<|aW (λh=>?_) λh=>m λk=>?_
 .have h:c<l.length:=by rw[dW] at h;omega
  refine ah (bM<|by omega)<|ah (bM<|by omega)<|du (λe=>n h ?_) λe=>m λ_=>?_
  .have:=Fb.1 e;rwa [yM,yM] at this
  .have:=Fb.2 e;rwa [yM,yM] at this
 .rw[dW] at h;omega
theorem K_{l:List jr}(K:∀f:Nat,(f=i\/f<l.length/\(f=2*i+1\/f=2*i+2))->C6 l f<=C6 l i->(∀j,j<l.length->(j=2*i+1\/j=2*i+2)->C6 l f<=C6 l j)->Go (J8 af) (.ak (.c0 p (i:Int) (f:Int) ((2*i+1:Nat):Int) ((2*i+2:Nat):Int) 2 l)) P):
  Go (J8 af) (.ak (.c0 p (i:Int) (i:Int) ((2*i+1:Nat):Int) ((2*i+2:Nat):Int) 0 l)) P:=by
 refine ID (c:=2*i+1) (by omega) rfl (by omega) (λa1 a2=>?_) λa1=>?_
 .refine ID (k:=0+1) (c:=2*i+2) (by omega) rfl (by omega) (λg n=>K _ (by omega) (by omega) λj h m=>?_) λg=>K _ (by omega) a2 λj h m=>?_
  all_goals grind
 .refine ID (k:=0+1) (c:=2*i+2) (by omega) rfl (by omega) (λg n=>K _ (by omega) n λj h m=>?_) λg=>K _ (by omega) (aj _) λj h m=>?_
  all_goals grind
theorem agG{q:List jr}(D:q.length<=1000000):∀(f i:Nat) (l:List jr),l.length-i<=f->l.Perm q->Ym (C6 l) l.length i->
  Go (J8 af) (.ak (.c0 p (i:Int) (i:Int) ((2*i+1:Nat):Int) ((2*i+2:Nat):Int) 0 l)) λr=>∃o,r=((p.a5,o,p.a6),())/\o.Perm q/\Lk o:=by
 intro f
 induction f with
 | zero=>
   intro i l C m n;refine K_ λc B v x=>aP (aW (λh=>absurd h (by decide)) λ_=>dD (λh=>?_) λ_=>ay ⟨l,rfl,m,U2 n λj a1 a2 u=>absurd a2 (by omega)⟩);omega
 | succ f ih=>
   intro i l C m n;have E:=m.length_eq;refine K_ λc B v x=>aP (aW (λh=>absurd h (by decide)) λ_=>dD (λh=>?_) λh=>ay ⟨l,rfl,m,U2 n λj a1 a2 u=>?_⟩)
   .have g:c<l.length/\(c=2*i+1\/c=2*i+2):=by omega
    refine ah (bM (by omega)) (ah (bM (by omega)) (ah (Uq (by omega)) ?_));rw[Vd,dbl (by omega) (by omega),dbl (by omega) (by omega)];obtain⟨y,z,A⟩:=Qi (l:=l) (i:=i) (j:=c) (by omega) g.1;have:=ih c (Kg l i c) (by rw[IQ];omega) ((Lh (by omega) g.1).trans m) (by
     rw[IQ];exact acA n g.1 (by omega) v (λj a1 a2 u=>x j a2 (by omega)) y z A)
    simp_all
   grind
def agH(f:q.2.1.length<=1000000)(g:Ym (C6 q.2.1) q.2.1.length 0):RX (q,0)=true/\∃c,Ub (q,0)=((q.1,c,q.2.2),())/\c.Perm q.2.1/\Lk c:=
 fQ (s:=J8 af) (t:=ahn af q 0) (agG (p:=⟨q.1,q.2.2⟩) f _ 0 q.2.1 (ai _) (.refl _) g)
theorem agi{e:jr}(v:q.1=true)(A:q.2.1.length<=16384)(x:Lk q.2.1):R1 (q,e)=true/\((wX (q,e)).2≠0/\(wX (q,e)).1=q\/(wX (q,e)).2=0/\q.2.2<=e.1/\∃c,(wX (q,e)).1=(q.1,c,q.2.2)/\c.Perm (e::q.2.1)/\c.length<=16384/\Lk c):=by
 refine fQ (s:=Empty.elim) (t:=ahr af q e) (d:=_) (P:=λr=>r.2≠0/\r.1=q\/r.2=0/\q.2.2<=e.1/\∃c,r.1=(q.1,c,q.2.2)/\c.Perm (e::q.2.1)/\c.length<=16384/\Lk c) ?_;refine cX (λk=>absurd (v.symm.trans k)<|by decide) λ_=>aW (λ_=>ay<|.inl ⟨show ¬(140:Int)=0 by decide,rfl⟩) λu=>kY (λ_=>ay<|.inl ⟨show ¬(140:Int)=0 by decide,rfl⟩) λ_=>nE (λ_=>ay<|.inl ⟨show ¬(3:Int)=0 by decide,rfl⟩) λg=>?_;have g:q.2.1.length<16384:=by rw[dW] at g;omega
 have p:af.fD (af.l<|af.p q.2.1 ([e]:List jr)) 1=(q.2.1.length:Int):=by
  rw[show af.p q.2.1 [e]=q.2.1 ++ [e] from rfl,dW,t_,bU,yT,lZ (by omega)<|by omega];omega
 rw[p];have h:∀j,j<q.2.1.length->C6 (q.2.1 ++ [e]) j=C6 q.2.1 j:=λj y=>by
  simp[C6,Jt,cB y]
 have⟨a1,c,a2,l,m⟩:=agn (q:=(q.1,q.2.1 ++ [e],q.2.2)) (i:=q.2.1.length) (by grind) (by
  rw[t_,bU];refine⟨Nat.lt_succ_self _,λj f n o=>?_,λj f n o z=>by omega⟩;rw[h _<|by omega,h _<|by omega];exact x j f<|by omega)
 refine ah ?_<|ah a1<|ay<|.inr ⟨rfl,u,c,?_,?_,?_,m⟩
 .rw[show af.p q.2.1 [e]=q.2.1 ++ [e] from rfl,dW,t_,bU,aB]
  grind
 .exact congrArg Prod.fst a2
 .grind
 .have:=l.length_eq;grind
def adC{l:List jr}{v:jr}(h:0<l.length):af.and (af.bE 0 0) (af.and (af.bE 0<|(l.length:Int)-1)<|af.bE ((l.length:Int)-1)<|af.l<|af.set l 0 v)=true:=by
 rw[bu,bu,aB,aB,aB,dW,gK,cr (by omega:(0:Int)<=(l.length:Int)-1),cr (by omega:(l.length:Int)-1<=(l.length:Int))];rfl
theorem anf(J:q.1=true)(S:q.2.1.length<=16384)(u:Lk q.2.1):RV (q,())=true/\(q.2.1=[]/\(zI (q,())).2.2≠0/\(zI (q,())).1=q\/(zI (q,())).2.2=0/\∃c,(zI (q,())).1=(q.1,c,(zI (q,())).2.1.1)/\((zI (q,())).2.1::c).Perm q.2.1/\Lk c/\∀y∈q.2.1,(zI (q,())).2.1.1<=y.1):=by
 refine fQ (s:=Empty.elim) (t:=adn af q) (d:=_) (P:=λr=>q.2.1=[]/\r.2.2≠0/\r.1=q\/r.2.2=0/\∃c,r.1=(q.1,c,r.2.1.1)/\(r.2.1::c).Perm q.2.1/\Lk c/\∀y∈q.2.1,r.2.1.1<=y.1) ?_;have p:yn af q=(q.2.1.length:Int)-1:=by
  show af.fD (af.l q.2.1) 1=_;rw[dW,yT,lZ (by omega) (by omega)]
 unfold adn;rw[p];refine cX (λk=>absurd (J.symm.trans k) (by decide)) λ_=>aW (λh=>ay (.inl ⟨df.1 (by omega),(show ¬(4:Int)=0 by decide),rfl⟩)) λh=>?_;have x:0<q.2.1.length:=by omega
 have K:((q.2.1.length:Int)-1)=((q.2.1.length-1:Nat):Int):=by omega
 have E:NJ af q=((q.1,(q.2.1.set 0 (q.2.1.getD (q.2.1.length-1) (0,0,0,0))).take (q.2.1.length-1),q.2.2),0):=by
  unfold NJ;rw[p,K,yM,yT,lZ (by omega) (by omega),jc,Int.sub_zero,AT];rfl
 rw[E];have n:((q.2.1.set 0 (q.2.1.getD (q.2.1.length-1) (0,0,0,0))).take (q.2.1.length-1)).length=q.2.1.length-1:=by simp_all
 have v:∀j,0<j->j<q.2.1.length-1->C6 ((q.2.1.set 0 (q.2.1.getD (q.2.1.length-1) (0,0,0,0))).take (q.2.1.length-1)) j=C6 q.2.1 j:=λj Q m=>by
  simp only[C6]
  grind
 obtain⟨a1,c,a2,A,B⟩:=agH (q:=(q.1,(q.2.1.set 0 (q.2.1.getD (q.2.1.length-1) (0,0,0,0))).take (q.2.1.length-1),q.2.2)) (by grind) (by
  rw[n];refine⟨λj g o C=>?_,λj g o C D=>absurd D (eZ 0)⟩;rw[v _ (by omega) (by omega),v _ g o];exact u j g (by omega))
 have G:(af.n pQ q.2.1 0:jr)=q.2.1.getD 0 (0,0,0,0):=yM (j:=0);refine ah (bM (i:=0) (by omega)) (ah (bM (by omega)) (ah ?_ (ah a1 (ay (.inr ⟨rfl,c,?_,?_,B,λy O=>?_⟩)))))
 .exact adC x
 .show lp2 (af.k Ub _).1 _=_;rw[b_,a2]
 .refine(A.cons _).trans ?_;generalize q.2.1=l at x;cases l with
  | nil=>simp_all
  | cons a t=>
    rcases List.eq_nil_or_concat t with rfl|⟨f,z,rfl⟩
    .rfl
    .have H:(a::(f ++ [z])).length-1=f.length+1:=by simp
     have I:(a::(f ++ [z])).getD (f.length+1) (0,0,0,0)=z:=by simp
     rw[List.concat_eq_append,H,I,mY,ib,iT]
     .show(a::z::f).Perm _;exact(List.perm_append_comm (l₁:=[z])).cons a
     .rfl
 .rw[G];obtain⟨j,m⟩:=gV O;have:=amg u j (aU.1 m).1;simp only[C6,m] at this
  simp_all
def W9(b:Int)(l:List Int):Prop:=∀i:Nat, -b<=l.getD i 0/\l.getD i 0<=b
theorem W9.set{v:Int}{l:List Int}{j:Int}(h:W9 b l)(c:-b<=v/\v<=b):W9 b<|af.set l j v:=λi=>by
 show -b<=(l.set j.toNat v).getD i 0/\(l.set j.toNat v).getD i 0<=b;have:=h i
 grind
theorem W9.of{l:List Int}(c:0<=b)(h:∀x∈l, -b<=x/\x<=b):W9 b l:=λi=>by
 rw[Jt];cases k:l[i]? with
 | none=>simp_all
 | some x=>exact h x<|jl k
def afG{l:List Int}{i j:Int}{v:Int}(h:0<=i/\i<(l.length:Int)):af.and (af.bE 0 i) (af.bo i<|af.l<|af.set l j v)=true:=bM (by rw[gK];exact h)
def acp{l:List Int}{i j v w:Int}:(af.set (af.set l i v) j w).length=l.length:=by rw[gK,gK]
def amQ(x:Int):El x=false:=by show(x != x)=false;simp
def alU{l:List Int}(f:l.length<=1000000)(h:W9 1099511627776 l):R7 (l,1099511627776)=true/\Z8 (l,1099511627776)=false:=by
 refine fQ (s:=WH af) (t:=ahz af l 1099511627776) (d:=_) (P:=λr=>r=false)<|aP ?_;have:∀(j k:Nat),l.length-k<=j->Go (WH af) (WH af<|.c0 ⟨l,af.l l,1099511627776⟩ k) λr=>r=false:=by
  intro j
  induction j with
  | zero=>intro k c;exact aW (λg=>absurd g (by show ¬(k:Int)<(l.length:Int);omega)) λ_=>ay rfl
  | succ j ih=>
    intro k c;refine aW (λg=>?_) λ_=>ay rfl;have g:k<l.length:=by have g:(k:Int)<(l.length:Int):=g;omega
    have i:=h k;refine ah (bM (l:=l)<|by omega)<|aW (λe=>?_) λ_=>kY (λe=>?_) λ_=>aP ?_
    .exfalso;have e:l.getD (k:Int).toNat 0 < -1099511627776:=e;rw[AT] at e;omega
    .exfalso;have e:1099511627776<l.getD (k:Int).toNat 0:=e;rw[AT] at e;omega
    .rw[dq<|by omega,show(k:Int)+1=((k+1:Nat):Int) from by omega];exact ih (k+1) (by omega)
 exact this _ 0<|ai _
def Oc(b:Int)(r:Int×Int×Int):Prop:=r.2.2=0/\(-b<=r.1/\r.1<=b)/\ -b<=r.2.1/\r.2.1<=b
theorem afH(z:1<=n/\n<=9):∀(f i:Nat) (l:List Int),n-i<=f->l.length=n->W9 b l->Go (Nj af) (.ak<|.c1 ⟨(n:Int),(i:Int),l⟩) (Oc b):=by
 have r:∀(l:List Int) (i:Nat),¬i<n->l.length=n->W9 b l->Go (Nj af) (.ak<|.c1 ⟨(n:Int),(i:Int),l⟩) (Oc b):=by
  intro l i u j c;have q:AS af ⟨(n:Int),(i:Int),l⟩=(n:Int)-1:=by
   show af.fD (af.l l) 1=_;rw[dW,j,kX<|by omega]
  have v:DX af ⟨(n:Int),(i:Int),l⟩=(n:Int)-2:=by
   show af.fD (AS af _) 1=_;rw[q,kX<|by omega];omega
  refine aP<|aW (λh=>absurd h<|by grind) λ_=>nE (λg=>?_) λg=>?_
  .have g:4<=n:=by have g:(4:Int)<=(l.length:Int):=g;omega
   refine ah ?_<|ah ?_<|ah ?_<|ay ⟨rfl,c _,c _⟩
   .simp[bu,aB,dW,fZ,uR];omega
   .simp[bu,aB,bi,fZ,uR];omega
   .rw[kX<|by omega];simp[bu,aB,bi,fZ,uR];omega
  .rw[q];exact ah (bM (l:=l)<|by omega)<|ah (bM (l:=l)<|by omega)<|ay ⟨rfl,c _,c _⟩
 intro f
 induction f with
 | zero=>grind
 | succ f ih=>
   intro i l x j c;by_cases u:i<n
   .refine aP<|aW (λ_=>aP ?_) λh=>absurd h (by grind);have p:∀(k:Nat) (l:List Int),k<=i->l.length=n->W9 b l->Go (Nj af) (Nj af<|.c2 ⟨(n:Int),(i:Int)⟩ k l) (Oc b):=by
     have m:∀(l:List Int),l.length=n->W9 b l->Go (Nj af) (.ak<|.c1 ⟨(n:Int),af.bJ i 1,l⟩) (Oc b):=λl j c=>by
      rw[dq<|by omega,show(i:Int)+1=((i+1:Nat):Int) from by omega];exact ih (i+1) l (by omega) j c
     intro k
     induction k with
     | zero=>intro l _ j c;exact kY (λh=>absurd h<|by decide) λ_=>m l j c
     | succ k o=>
       intro l y j c;refine kY (λ_=>?_) λh=>absurd h (by omega);have e:af.fD ((k+1:Nat):Int) 1=(k:Int):=by rw[kX<|by omega];omega
       refine ah (bM<|by omega)<|ah (bM<|by omega)<|du (λg=>absurd (g.symm.trans<|amQ _)<|by decide) λ_=>aW (λ_=>ah ?_<|aP ?_) λ_=>m l j c
       .unfold N0;exact afG (by omega)
       .unfold N1;rw[e];exact o _ (by omega) (acp.trans j)<|(c.set<|c _).set<|c _
    simp_all
   grind
def amC(h:n<=9):MH (af.v .u64 n)=true:=by
 have:∀k:Fin 10,MH (af.v .u64 ((k.val:Nat):Int))=true:=by decide +kernel
 exact this ⟨n,by omega⟩
def Y0{l:List Int}:af.spl (af.r (af.l l) (0:Int)) 0 (af.s l 0<|af.mn (af.l l)<|af.l<|af.r (af.l l) (0:Int))=l:=by
 have e:af.r (af.l l) (0:Int)=List.replicate l.length 0:=by rfl
 rw[e,dW,dW,Ht,mZ,if_neg<|by omega,jc,nU,AT,oo];simp
def amL{l:List α}{N:Int}(h:(l.length:Int)<=N):af.and (af.bq (af.l l)<|af.l l) (af.and (af.bE 0<|af.l l)<|af.bE (af.l l) N)=true:=by
 rw[bu,bu,bg,aB,aB,dW,cr h,cr (by omega:(0:Int)<=l.length)];simp
def afI{l:List Int}(n:0<=b/\b<=1099511627776)(f:1<=l.length/\l.length<=9)(h:∀x∈l, -b<=x/\x<=b):R6 l=true/\Oc b (Bt l):=by
 refine fQ (s:=Nj af) (t:=adu af l) (d:=_) ?_;have c:=W9.of n.1 h;have⟨j,m⟩:=alU (l:=l) (by omega) λi=>by have:=c i;omega
 have e:Jm af l=l:=Y0;unfold adu;rw[e];refine cv (λg=>by rw[dW] at g;omega) λ_=>ah j<|du (λg=>absurd (m.symm.trans g)<|by decide) λ_=>ah ?_<|ah (amC f.2)<|aP<|xQ (λ_=>?_) λg=>?_
 .exact amL (l:=l) (by omega)
 .exact afH f _ 1 l (ai _) rfl c
 .exfalso;have g:12<af.fD (l.length:Int) 0:=g;rw[kX<|by omega] at g;omega
theorem ayI{x:Int}:af.b .shr .i64 x 1=x/2:=by
 show Int.fdiv x (2^(min (1:Int).toNat 64))=_
 grind
def amJ{l:List Int}(g:0<=b/\b<=1099511627776)(i:1<=l.length/\l.length<=9)(h:∀x∈l, -b<=x/\x<=b):R5 l=true/\(OV l).2=0/\ -b<=(OV l).1/\(OV l).1<=b:=by
 have⟨c,f,j,m⟩:=afI g i h;refine fQ (s:=Empty.elim) (t:=ahw af l) (d:=_) (P:=λr=>r.2=0/\ -b<=r.1/\r.1<=b)<|ah c<|ay ⟨f,?_⟩;show -b<=af.b .shr .i64 (af.bJ (Bt l).1 (Bt l).2.1) 1/\af.b .shr .i64 (af.bJ (Bt l).1 (Bt l).2.1) 1<=b;rw[dq<|by omega,ayI];omega
def afl{w x:Int}(c:0<=w/\w<=1048576):Y6 w x=true↔ -w<=x/\x<=w:=by
 simp[Y6,fZ,fM,bi,iA,decide_eq_false_iff_not];rw[show af.u .neg .i64 w = -w from by show IntKind.i64.wrap (0-w)=_;rw[lZ (by omega)<|by omega];omega];omega
variable{c:qB}
theorem A7{w:Int}(f:0<=w/\w<=1048576):zd w c=true↔(0<=c.1/\c.1<=1099494850560)/\(0<=c.2.1/\c.2.1<=1048576)/\c.2.2.length<=8/\∀x∈c.2.2, -w<=x/\x<=w:=by
 simp[zd,fZ,cd,afl f]
 grind
theorem Vz(h:YU (m,c)=0):dP m=true/\zd m.2.2.2.1 c=true:=by
 unfold YU at h
 grind
theorem w7(h:dP m=true):(4<=m.1/\m.1<=8)/\(0<=m.2.2.2.2.1/\m.2.2.2.2.1<=64)/\(0<=m.2.2.2.2.2.1/\m.2.2.2.2.2.1<=64)/\(16*m.1*m.2.2.2.2.1+16<=m.2.2.2.1/\0<=m.2.2.2.1/\m.2.2.2.1<=1048576)/\(2*m.2.2.2.1+2*m.2.2.2.2.2.1+4<=m.2.2.1/\m.2.2.1<=1048576)/\2*m.2.2.1+jh m<=m.2.1/\m.2.1<=16777216/\0<=jh m:=by
 have⟨n,s,g,w,d,i,f,c⟩:=m;have:=aaY h;have j:=vF (m:=(n,s,g,w,d,i,f,c));simp[dP,qS] at h
 grind
theorem alC:R3 (m,c)=true/\((wZ (m,c)).2=0->dP m=true/\zd m.2.2.2.1 c=true/\ -m.2.2.2.1<=(wZ (m,c)).1/\(wZ (m,c)).1<=m.2.2.2.1):=by
 refine fQ (s:=Empty.elim) (t:=ads af m c) (d:=_) (P:=λr=>r.2=0->dP m=true/\zd m.2.2.2.1 c=true/\ -m.2.2.2.1<=r.1/\r.1<=m.2.2.2.1) ?_;unfold ads;rw[show af.k uw (m,c)=YU (m,c) from ZD];refine dD (λg=>ay λh=>absurd h g) λg=>?_;have⟨f,i⟩:=Vz g;have p:=w7 f;have⟨_,_,n,o⟩:=(A7<|by omega).1 i;have e:Jj af c=c.2.2 ++ [0]:=by
  unfold Jj;rw[Y0];rfl
 rw[e];have⟨a1,a2,j⟩:=amJ (l:=c.2.2 ++ [0]) (b:=m.2.2.2.1) (by omega) (by simp_all) λx q=>by grind
 refine ah ?_<|ah ?_<|ah a1<|ay λ_=>⟨f,i,j⟩
 .simp[bu,aB,dW,fZ,uR];rw[dq<|by omega];omega
 .rw[aB,dW,t_,bU];grind
structure FE(m:aA)(c:qB)(d:Int)(r:qB):Prop where
 ml:dP m=true
 ck:zd m.2.2.2.1 c=true
 ck':zd m.2.2.2.1 r=true
 dr:-m.2.2.2.2.1<=d/\d<=m.2.2.2.2.1
 sl:r.2.1=c.2.1+1
 st:(c.2.1+1)%m.1=0/\(c.1+m.2.1+d-m.2.2.2.1<=r.1/\r.1<=c.1+m.2.1+d+m.2.2.2.1)\/(c.2.1+1)%m.1≠0/\r.1=c.1+m.2.1+d
theorem amV{d:Int}:RY (m,c,d)=true/\((KF (m,c,d)).2=0->FE m c d (KF (m,c,d)).1):=by
 refine fQ (s:=Empty.elim) (t:=aho af m c d) (d:=_) (P:=λr=>r.2=0->FE m c d r.1) ?_;have⟨v,y⟩:=alC (m:=m) (c:=c);refine ah v<|dD (λg=>ay λh=>absurd h g) λg=>?_;have⟨j,l,D⟩:=y g;have E:=w7 j;have⟨z,A,B,C⟩:=(A7<|by omega).1 l;rw[show af.u .neg .i64 m.2.2.2.2.1 = -m.2.2.2.2.1 from by show IntKind.i64.wrap (0-_)=_;rw[lZ (by omega)<|by omega];omega];refine aW (λ_=>ay λh=>absurd h<|by omega) λn=>kY (λ_=>ay λh=>absurd h<|by omega) λo=>ah (by rw[bZ];grind) ?_;have p:af.b .rem .i64 (af.bJ c.2.1 1) m.1=(c.2.1+1)%m.1:=by
  rw[dq<|by omega,Nv,ja<|by omega]
 have q:af.bJ c.1 (af.bJ m.2.1 d)=c.1+m.2.1+d:=by rw[dq (x:=m.2.1)<|by omega,dq<|by omega];omega
 rw[p,q];refine cv (λi=>cX (λ_=>ay λh=>absurd h<|by omega) λf=>ay λ_=>?_) λi=>ah ?_<|cX (λ_=>ay λh=>absurd h<|by omega) λf=>ay λ_=>?_
 .have u:af.bJ (c.1+m.2.1+d) (af.k wZ (m,c)).1=c.1+m.2.1+d+(wZ (m,c)).1:=dq (by show _<=_+(wZ (m,c)).1/\_+(wZ (m,c)).1<_;omega);rw[u,dq (x:=c.2.1)<|by omega] at f ⊢;exact⟨j,l,f,⟨n,o⟩,rfl,.inl ⟨i,by grind⟩⟩
 .refine(fQ (s:=Empty.elim) (t:=ahu af c.2.2 0) (d:=[]) (P:=λ_=>True)<|ah ?_<|ay trivial).1;simp[bu,aB,bg,dW];rw[dq<|by omega];grind
 .rw[dq (x:=c.2.1)<|by omega] at f ⊢;exact⟨j,l,f,⟨n,o⟩,rfl,.inr ⟨i,rfl⟩⟩
variable{t:Int}
theorem anK(j:c.2.2.length<=1000000):Im (m,c,t)=true/\((wY (m,c,t)).2=0->(wY (m,c,t)).1.1=c.1/\(wY (m,c,t)).1.2.1=c.2.1/\(c.2.2.length<=8->(wY (m,c,t)).1.2.2.length<=8)):=by
 refine fQ (s:=Empty.elim) (t:=adr af m c t) (d:=_) (P:=λr=>r.2=0->r.1.1=c.1/\r.1.2.1=c.2.1/\(c.2.2.length<=8->r.1.2.2.length<=8)) ?_;have e:NZ af m c t=c.2.2 ++ [af.fD t<|af.k OA (m,c)]:=by
  unfold NZ;rw[Y0];rfl
 unfold adr;rw[e];refine dD (λg=>ay λh=>absurd h g) λ_=>cv (λ_=>ay λh=>absurd h<|by omega) λf=>aW (λ_=>ay λh=>absurd h<|by omega) λ_=>nE (λ_=>ay λh=>absurd h<|by omega) λ_=>ah ?_<|ah ?_<|ay λ_=>⟨rfl,rfl,λi=>?_⟩
 .simp[bu,aB,dW,fZ,uR];rw[dq<|by omega];omega
 .rw[aB,dW,t_,bU];grind
 .have f:c.2.2.length≠8:=λe=>f (by rw[dW,e];rfl)
  grind
def vL{R:Type}{P:R->Prop}{t:LT R Empty}{d:R}(h:Go Empty.elim t P)(e:t.Eqs)(f:t.pre=true):P<|t.val d:=by
 have⟨r,a,b⟩:=h;rw[<-a.one<|LT.runs (d:=d) e f];exact b
def YR{p:Int}(h:(rC (m,t,p)).2=0):dP m=true/\(0<=t/\t<=1099511627776)/\(0<=p/\p<m.1)/\rC (m,t,p)=((t-(m.2.2.1+m.2.2.2.2.2.1),p,[]),0)/\zd m.2.2.2.1 (t-(m.2.2.1+m.2.2.2.2.2.1),p,[])=true:=by
 revert h;refine vL (t:=aht af m t p) (P:=λr=>r.2=0->dP m=true/\(0<=t/\t<=1099511627776)/\(0<=p/\p<m.1)/\r=((t-(m.2.2.1+m.2.2.2.2.2.1),p,[]),0)/\zd m.2.2.2.1 (t-(m.2.2.1+m.2.2.2.2.2.1),p,[])=true) ?_ (LT.gI<|by rfl)<|LT.jg (by rfl);have i:∀x:qB,zd m.2.2.2.1 (-1,p,vm)=false:=λ_=>by rfl
 unfold aht adq;refine dD (λg=>ay λh=>absurd h g) λg=>aW (λ_=>ay λh=>absurd h<|by omega) λj=>nE (λ_=>ay λh=>absurd h<|by omega) λl=>?_;have f:=vY.1 g;have q:=w7 f;refine nE (λn=>xQ (λo=>?_) λ_=>?_) λ_=>?_
 .have e:af.fD t (af.bJ m.2.2.1 m.2.2.2.2.2.1)=t-(m.2.2.1+m.2.2.2.2.2.1):=by rw[dq<|by omega,kX<|by omega]
  rw[e];exact cX (λ_=>ay λh=>absurd h<|by omega) λc=>ay λ_=>⟨f,⟨n,o⟩,⟨j,l⟩,rfl,c⟩
 .exact cX (λ_=>ay λh=>absurd h<|by omega) λc=>absurd (c.symm.trans<|i (0,0,[])) (by decide)
 .exact cX (λ_=>ay λh=>absurd h<|by omega) λc=>absurd (c.symm.trans<|i (0,0,[])) (by decide)
theorem Hm{l:List α}(h:l.length≠0):af.cm (af.l l) 0=true:=by
 rw[bZ,dW];simp_all
def Y7{s:gH}{n k i d:Int}(o:0<=d)(h:∀x∈s.2.2.2.2.2.1, -d<=x/\x<=d)(v:s.2.2.2.2.2.1.length<=1000000):yb (s,n,k,i)=true/\ -d<=uA (s,n,k,i)/\uA (s,n,k,i)<=d:=by
 refine fQ (s:=Empty.elim) (t:=ahp af s n k i) (d:=_) (P:=λr=> -d<=r/\r<=d) ?_;have z:-d<=(0:Int)/\(0:Int)<=d:=by omega
 refine cv (λ_=>ay z) λg=>aW (λ_=>ay z) λm=>aW (λ_=>ay z) λp=>aW (λ_=>ay z) λq=>kY (λ_=>ay z) λc=>?_;have g:s.f.length≠0:=λe=>g (by rw[dW,e];rfl);have c:k<=1048576/\i<=1048576/\n<=1048576:=by
  rw[tX,tX] at c;split at c<;>split at c<;>omega
 have u:0<=k*n/\k*n<=1048576*1048576:=⟨gE m<|by omega,bP (eQ c.1<|by omega)<|f_ c.2.2<|by decide⟩;have e:af.b .rem .i64 (af.bJ (af.b .mul .i64 k n) i) (af.l s.f)=(k*n+i)%(s.f.length:Int):=by
  rw[jq,lZ (by omega)<|by omega,dq<|by omega,Nv,dW,ja<|by omega]
 have j:=jY (k*n+i) (b:=(s.f.length:Int)) (by omega);have l:=mW (k*n+i) (b:=(s.f.length:Int)) (by omega);have f:∀X,X=(k*n+i)%(s.f.length:Int)->Go Empty.elim (.ao (af.cm (af.l s.f) 0)<|.ao (af.and (af.bE 0 X)<|af.bo X<|af.l s.f)<|.ret (af.n yI s.f X:Int)) λr:Int=> -d<=r/\r<=d:=λX e=>by
  subst e;exact ah (Hm g)<|ah (bM ⟨j,l⟩)<|ay<|W9.of o h _
 exact f _ e
def dS:cN:=Ty.gy bS
def aH(x:Net)(i:Nat):cN:=x.2.2.2.2.2.2.1.getD i dS
def asd(x:Net)(e:Int)(h:List jr):Net:=(x.1,x.2.1,x.2.2.1,x.2.2.2.1,e,(x.2.2.2.2.2.1.1,h,x.2.2.2.2.2.1.2.2),x.2.2.2.2.2.2)
def cO(x:Net)(l:List cN):Net:=(x.1,x.2.1,x.2.2.1,x.2.2.2.1,x.2.2.2.2.1,x.2.2.2.2.2.1,l,x.2.2.2.2.2.2.2)
variable{x:Net}
def vD{y:Net}:VF.lens [fJ] x=VF.lens [fJ] y↔x.2.2.2.2.2.2.1.length=y.2.2.2.2.2.2.1.length:=by
 show[x.g.length]=[y.g.length]↔_;simp
def kF{R:Type}{s:Y->LT (Net×R) Y}{t:LT (Net×R) Y}{d:Net×R}{P:Net×R->Prop}(h:Go s t P)(g:∀r,P r->r.1.2.2.2.2.2.2.1.length=x.2.2.2.2.2.2.1.length):(fO s t&&decide (VF.lens [fJ] (fA s t d).1=VF.lens [fJ] x))=true/\P (fA s t d):=by
 have⟨f,c⟩:=fQ (d:=d) h;rw[f,cr<|vD.2<|g _ c];exact⟨rfl,c⟩
def Aq(h:q.1=true):rR (q,())=true/\gL (q,())=(q,q.2.2):=
 fQ (s:=Empty.elim) (t:=ahm af q) (d:=_) (P:=λr=>r=(q,q.2.2)) (cX (λk=>absurd (h.symm.trans k)<|by decide) λ_=>ay rfl)
def afR(h:q.1=true):RU (q,())=true/\ON (q,())=(q,(q.2.1.length:Int)):=
 fQ (s:=Empty.elim) (t:=ahl af q) (d:=_) (P:=λr=>r=(q,(q.2.1.length:Int))) (cX (λk=>absurd (h.symm.trans k)<|by decide) λ_=>ay rfl)
structure y9(x:Net):Prop where
 made:x.2.2.2.2.2.1.1=true
 len:x.2.2.2.2.2.1.2.1.length<=16384
 heap:Lk x.2.2.2.2.2.1.2.1
def v8(x:Net)(t:Int):Int:=if x.2.2.2.2.2.1.2.2 > t then x.2.2.2.2.2.1.2.2 else t
def tc(x:Net)(e:jr)(g:Net):Prop:=∃f c,g=asd x f c/\c.length<=16384/\Lk c/\((f=x.2.2.2.2.1/\e.1<=x.2.2.2.2.1/\c.Perm (e::x.2.2.2.2.2.1.2.1))\/(c=x.2.2.2.2.2.1.2.1/\f<=x.2.2.2.2.1/\f<=e.1))
theorem UO{k nd n:Int}(h:y9 x):qf (x,t,k,nd,n)=true/\tc x (v8 x t,k,nd,n) (tF (x,t,k,nd,n)).1:=by
 refine kF (s:=Empty.elim) (t:=SC af x t k nd n) (P:=λr=>tc x (v8 x t,k,nd,n) r.1) ?_ λr ⟨v,y,m,_⟩=>by rw[m];rfl
 have⟨i,u⟩:=Aq h.made;unfold SC;have f:af.k gL (x.2.2.2.2.2.1,())=(x.2.2.2.2.2.1,x.2.2.2.2.2.1.2.2):=u;have j:af.mx t x.2.2.2.2.2.1.2.2=v8 x t:=rfl;rw[f,j];refine ah i<|xQ (λg=>?_) λg=>ay ?_
 .have l:wN af x t k nd n=(x.2.2.2.2.2.1,(v8 x t,k,nd,n)):=by
   unfold wN
   simp_all
  rw[l];have⟨p1,p2⟩:=agi (e:=(v8 x t,k,nd,n)) h.made h.len h.heap;refine ah p1<|dD (λc=>?_) λc=>ay ?_
  .rcases p2 with ⟨_,p2⟩|⟨p2,_⟩
   .rw[show(af.k wX (x.2.2.2.2.2.1,v8 x t,k,nd,n)).1=x.2.2.2.2.2.1 from p2,f];refine ah i<|ay ⟨af.mn x.2.2.2.2.1 x.2.2.2.2.2.1.2.2,x.2.2.2.2.2.1.2.1,rfl,h.len,h.heap,.inr ⟨rfl,?_,?_⟩⟩
    .rw[mZ];omega
    .show af.mn x.2.2.2.2.1 x.2.2.2.2.2.1.2.2<=v8 x t;rw[mZ,v8];omega
   .exact absurd p2 c
  .rcases p2 with ⟨p2,_⟩|⟨_,p3,o,p4,p5,p,q⟩
   .exact absurd c p2
   .exact⟨x.2.2.2.2.1,o,by show(x.1,x.2.1,x.2.2.1,x.2.2.2.1,x.2.2.2.2.1,(wX (x.2.2.2.2.2.1,v8 x t,k,nd,n)).1,x.2.2.2.2.2.2)=_;rw[p4];rfl,p,q,.inl ⟨rfl,g,p5⟩⟩
 .exact⟨x.2.2.2.2.1,x.2.2.2.2.2.1.2.1,rfl,h.len,h.heap,.inr ⟨rfl,aj _,Int.le_of_lt g⟩⟩
def Ps(h:x.2.2.2.2.2.2.1.length≠0):af.cm (af.l x.2.2.2.2.2.2.1) 0=true:=Hm h
def Ir{k:Int}(h:y9 x)(o:i<x.2.2.2.2.2.2.1.length)(f:k≠3):wo (x,t,k,(i:Int))=true/\tc x (v8 x t,k,(i:Int),(aH x i).2.2.2.2.1) (zH (x,t,k,(i:Int))).1:=by
 refine kF (s:=Empty.elim) (t:=Sw af x t k i) (P:=λr=>tc x (v8 x t,k,(i:Int),(aH x i).2.2.2.2.1) r.1) ?_ λr ⟨j,m,c,_⟩=>by rw[c];rfl
 unfold Sw;have⟨p1,p2⟩:=UO (t:=t) (k:=k) (nd:=(i:Int)) (n:=(aH x i).2.2.2.2.1) h;have en:(af.n bS x.2.2.2.2.2.2.1 (i:Int):cN)=aH x i:=by rfl
 refine dD (λ_=>aW (λ_=>ah (bM (l:=x.2.2.2.2.2.2.1)<|by omega) ?_) λg=>absurd g (by show ¬(x.2.2.2.2.2.2.1.length:Int)<=(i:Int);omega)) λg=>absurd g f;exact ah p1<|ah (Ps<|by omega)<|ay p2
def bA(l:List cN)(i:Nat)(f:cN->cN):List cN:=l.set i<|f<|l.getD i dS
variable{f:cN->cN}
def bO{l:List cN}:(bA l i f).length=l.length:=bW ..
def uF{l:List cN}(c:i<l.length):(bA l i f).getD i dS=f (l.getD i dS):=by
 rw[bA,Jt,List.getElem?_set_self c];rfl
def afY{l:List cN}(h:j≠i):(bA l i f).getD j dS=l.getD j dS:=by
 rw[bA,Jt,List.getElem?_set_ne<|ig h,<-Jt]
def qa{l:List cN}(h:i<l.length):af.cm (af.l<|bA l i f) 0=true:=Hm (by rw[bO];omega)
def kG{l:List cN}:md af bS l i f=bA l i f:=by rfl
theorem mod_mod{l:List cN}{g:cN->cN}(c:i<l.length):bA (bA l i f) i g=bA l i λy=>g<|f y:=by
 unfold bA
 simp_all
def nR:(af.n bS x.2.2.2.2.2.2.1 (i:Int):cN)=aH x i:=by rfl
def BO{l:List cN}(c:i<l.length):(af.n bS (bA l i f) (i:Int):cN)=f (l.getD i dS):=by
 show(bA l i f).getD (i:Int).toNat _=_;rw[AT];exact uF c
def Fp{l:List cN}{v:cN}:af.set l i v=bA l i λ_=>v:=by rfl
def ovT(m:aA)(t:Int):Int:=t+(m.2.2.1+jh m+m.2.2.2.2.2.1+2*m.2.2.2.1)+2
def ovI{s g l w:Int}(i:0<=s/\s<=2199023255552)(f:0<=g/\g<=1048576)(c:0<=a/\a<=2062)(h:0<=l/\l<=64)(j:0<=w/\w<=1048576):af.bJ (af.bJ s<|af.bJ (af.bJ (af.bJ g a) l)<|af.b .mul .i64 2 w) 2=s+(g+a+l+2*w)+2:=by
 rw[jq,lZ (a:=2*w) (by omega)<|by omega,dq (x:=g) (y:=a)<|by omega,dq (x:=g+a) (y:=l)<|by omega,dq (x:=g+a+l) (y:=2*w)<|by omega,dq (x:=s)<|by omega,dq<|by omega]
def Fh(h:y9 x)(f:i<x.2.2.2.2.2.2.1.length)(g:dP x.2.1=true)(j:0<=(aH x i).2.1.1/\(aH x i).2.1.1<=2199023255552):Av (x,(i:Int))=true/\tc x (v8 x<|ovT x.2.1 (aH x i).2.1.1,1,(i:Int),(aH x i).2.2.2.2.1) (Ek (x,(i:Int))).1:=by
 refine kF (s:=Empty.elim) (t:=SF af x i) (P:=λr=>tc x (v8 x<|ovT x.2.1 (aH x i).2.1.1,1,(i:Int),(aH x i).2.2.2.2.1) r.1) ?_ λr ⟨o,p,c,_⟩=>by rw[c];rfl
 have q:=w7 g;have n:=vF (m:=x.2.1);have e:Jg af x (i:Int)=(x,ovT x.2.1 (aH x i).2.1.1,1,(i:Int)):=by
  unfold Jg;rw[nR,show af.k OC x.2.1=jh x.2.1 from rfl,ovI j (by omega) n (by omega)<|by omega];rfl
 unfold SF;rw[e];have⟨p1,p2⟩:=Ir (t:=ovT x.2.1 (aH x i).2.1.1) (k:=1) h f (by decide);exact ah (bM (l:=x.2.2.2.2.2.2.1)<|by omega)<|ah p1<|ah (Ps<|by omega)<|ay p2
def rG(w:Int)(y:cN):cN:=(y.1,y.2.1,y.2.2.1,w,y.2.2.2.2.1+1,y.2.2.2.2.2)
def Lst(x:Net)(i:Nat)(c:Net):Prop:=tc (cO x<|bA x.2.2.2.2.2.2.1 i<|rG x.2.2.2.2.2.1.2.2) (x.2.2.2.2.2.1.2.2+x.2.1.2.1,2,(i:Int),(aH x i).2.2.2.2.1+1) c
def Ho(h:y9 x)(j:i<x.2.2.2.2.2.2.1.length)(z:dP x.2.1=true)(G:0<=(aH x i).2.2.2.2.1/\(aH x i).2.2.2.2.1<=1000000000000)(H:0<=x.2.2.2.2.2.1.2.2/\x.2.2.2.2.2.1.2.2<=2199023255552):Ip (x,(i:Int))=true/\Lst x i (GU (x,(i:Int))).1:=by
 refine kF (s:=Empty.elim) (t:=SI af x i) (P:=λr=>Lst x i r.1) ?_ λr ⟨B,C,v,_⟩=>by rw[v];exact bO (f:=rG x.2.2.2.2.2.1.2.2)
 have D:=w7 z;have⟨n,o⟩:=Aq h.made;have c:af.k gL (x.2.2.2.2.2.1,())=(x.2.2.2.2.2.1,x.2.2.2.2.2.1.2.2):=o;have g:Jk af x (i:Int)=bA x.2.2.2.2.2.2.1 i λy=>QA y<|af.bJ y.2.2.2.2.1 1:=by rfl
 have m:md af bS (Jk af x i) (i:Int) (λg:cN=>up3 g (af.k gL (x.2.2.2.2.2.1,())).2)=bA x.2.2.2.2.2.2.1 i (rG x.2.2.2.2.2.1.2.2):=by
  rw[c,g];refine kG.trans<|(mod_mod j).trans ?_;unfold bA;congr 1;show up3 (QA (aH x i)<|af.bJ (aH x i).2.2.2.2.1 1) x.2.2.2.2.2.1.2.2=rG x.2.2.2.2.2.1.2.2 (aH x i);rw[dq<|by omega];rfl
 have p:Jl af x (i:Int)=(cO x<|bA x.2.2.2.2.2.2.1 i<|rG x.2.2.2.2.2.1.2.2,x.2.2.2.2.2.1.2.2+x.2.1.2.1,2,(i:Int)):=by
  unfold Jl;rw[m,c,show af.k gL (((x.2.2.2.2.2.1,x.2.2.2.2.2.1.2.2):rq×Int).1,())=(x.2.2.2.2.2.1,x.2.2.2.2.2.1.2.2) from o,dq<|by omega];rfl
 have A:y9<|cO x<|bA x.2.2.2.2.2.2.1 i<|rG x.2.2.2.2.2.1.2.2:=⟨h.made,h.len,h.heap⟩;have E:(bA x.2.2.2.2.2.2.1 i<|rG x.2.2.2.2.2.1.2.2).length=x.2.2.2.2.2.2.1.length:=bO;have⟨p1,p2⟩:=Ir (x:=cO x<|bA x.2.2.2.2.2.2.1 i<|rG x.2.2.2.2.2.1.2.2) (t:=x.2.2.2.2.2.1.2.2+x.2.1.2.1) (k:=2) (i:=i) A (by show i<(bA _ _ _).length;omega) (by decide);unfold SI;rw[m,p];refine ah (bM (l:=x.2.2.2.2.2.2.1)<|by omega)<|ah n<|ah (by rw[c];exact n)<|ah p1<|ah (qa j)<|ay ?_;have q:(aH (cO x<|bA x.2.2.2.2.2.2.1 i<|rG x.2.2.2.2.2.1.2.2) i).2.2.2.2.1=(aH x i).2.2.2.2.1+1:=by
  show((bA x.2.2.2.2.2.2.1 i<|rG x.2.2.2.2.2.1.2.2).getD i dS).2.2.2.2.1=_;rw[uF j];rfl
 have u:v8 (cO x<|bA x.2.2.2.2.2.2.1 i<|rG x.2.2.2.2.2.1.2.2) (x.2.2.2.2.2.1.2.2+x.2.1.2.1)=x.2.2.2.2.2.1.2.2+x.2.1.2.1:=by
  exact if_neg (by show ¬x.2.2.2.2.2.1.2.2 > _;omega)
 rw[q,u] at p2;exact p2
def o4(n:Node)(y:cN):cN:=(n,y.2.1,y.2.2.1,y.2.2.2.1,y.2.2.2.2.1+1,false,false,false)
def Pwr(x:Net)(i:Nat)(on:Bool)(c:Net):Prop:=
 ((jG x.2.1 (aH x i).1 on).2≠0/\c=x)\/((jG x.2.1 (aH x i).1 on).2=0/\(on=false/\c=cO x (bA x.2.2.2.2.2.2.1 i<|o4 (jG x.2.1 (aH x i).1 on).1)\/on=true/\Lst (cO x<|bA x.2.2.2.2.2.2.1 i<|o4 (jG x.2.1 (aH x i).1 on).1) i c))
def Lst.len{c:Net}(h:Lst x i c):(c.2.2.2.2.2.2.1).length=x.2.2.2.2.2.2.1.length:=by
 have⟨j,l,g,_⟩:=h;rw[g];exact bO (f:=rG x.f.2.2)
def H_{on:Bool}(h:y9 x)(c:i<x.2.2.2.2.2.2.1.length)(u:dP x.2.1=true)(A:0<=(aH x i).2.2.2.2.1/\(aH x i).2.2.2.2.1<=900000000000)(z:0<=x.2.2.2.2.2.1.2.2/\x.2.2.2.2.2.1.2.2<=2199023255552):tQ (x,(i:Int),on)=true/\Pwr x i on (wV (x,(i:Int),on)).1:=by
 refine kF (s:=Empty.elim) (t:=SG af x i on) (P:=λr=>Pwr x i on r.1) ?_ λr y=>?_
 .have p:af.k TP (x.2.1,(af.n bS x.2.2.2.2.2.2.1 (i:Int):cN).1,on)=jG x.2.1 (aH x i).1 on:=by rfl
  have f:AR af x i on=bA x.2.2.2.2.2.2.1 i (o4 (jG x.2.1 (aH x i).1 on).1):=by
   unfold AR SZ SY SX SV;refine(congrArg (λl=>md af bS l (i:Int) (λo:cN=>lp7 o false))<|(congrArg (λl=>md af bS l (i:Int) (λf:cN=>qK f false))<|(congrArg (λl=>md af bS l (i:Int) (λn:cN=>vn n false))<|(congrArg (λl=>md af bS l (i:Int) (λm:cN=>QA m<|af.bJ m.2.2.2.2.1 1))<|Fp (l:=x.2.2.2.2.2.2.1) (i:=i) (v:=((jG x.2.1 (aH x i).1 on).1,(aH x i).2))).trans<|kG.trans<|mod_mod c).trans<|kG.trans<|mod_mod c).trans<|kG.trans<|mod_mod c).trans (kG.trans<|(mod_mod c).trans ?_);unfold bA;congr 1;show lp7 (qK (vn (QA ((jG x.2.1 (aH x i).1 on).1,(aH x i).2)<|af.bJ (aH x i).2.2.2.2.1 1) false) false) false=o4 _ (aH x i);rw[dq<|by omega];rfl
  unfold SG;rw[f,p];refine ah (bM (l:=x.2.2.2.2.2.2.1)<|by omega)<|dD (λg=>ay<|.inl ⟨g,rfl⟩) λg=>du (λj=>?_) λj=>ay<|.inr ⟨g,.inl ⟨j,rfl⟩⟩;have q:(aH (cO x<|bA x.2.2.2.2.2.2.1 i<|o4 (jG x.2.1 (aH x i).1 on).1) i)=o4 (jG x.2.1 (aH x i).1 on).1 (aH x i):=uF c;have⟨p1,p2⟩:=Ho (x:=cO x<|bA x.2.2.2.2.2.2.1 i<|o4 (jG x.2.1 (aH x i).1 on).1) (i:=i) ⟨h.made,h.len,h.heap⟩ (by show i<(bA _ _ _).length;rw[bO];omega) u (by rw[q];show 0<=(aH x i).2.2.2.2.1+1/\(aH x i).2.2.2.2.1+1<=_;omega) z;exact ah p1<|ah (qa c)<|ay<|.inr ⟨g,.inr ⟨j,p2⟩⟩
 .rcases y with ⟨_,e⟩|⟨_,⟨_,e⟩|⟨_,e⟩⟩
  .rw[e]
  .rw[e];exact bO
  .rw[e.len];exact bO
def jnY(n:Node)(c:qB)(y:cN):cN:=(n,c,y.2.2.1,y.2.2.2.1,y.2.2.2.2.1+1,true,false,y.2.2.2.2.2.2.2)
def Jns(x:Net)(i:Nat)(n:Node)(t:Int)(c:Net):Prop:=
 c=x\/((rC (x.2.1,t,n.2.2.1.2.1)).2=0/\tc (cO x<|bA x.2.2.2.2.2.2.1 i<|jnY n (rC (x.2.1,t,n.2.2.1.2.1)).1) (v8 x<|ovT x.2.1 (rC (x.2.1,t,n.2.2.1.2.1)).1.1,1,(i:Int),(aH x i).2.2.2.2.1+1) c)
def aaF{n:Node}(h:y9 x)(c:i<x.2.2.2.2.2.2.1.length)(I:0<=(aH x i).2.2.2.2.1/\(aH x i).2.2.2.2.1<=900000000000):MR (x,(i:Int),n,t)=true/\Jns x i n t (OU (x,(i:Int),n,t)).1:=by
 refine kF (s:=Empty.elim) (t:=SD af x i n t) (P:=λr=>Jns x i n t r.1) ?_ λr z=>?_
 .have j:md af bS (Jb af x i n t) (i:Int) (λm:cN=>qK m false)=bA x.2.2.2.2.2.2.1 i (jnY n (rC (x.2.1,t,n.2.2.1.2.1)).1):=by
   refine(congrArg (λl=>md af bS l (i:Int) (λm:cN=>qK m false))<|(congrArg (λl=>md af bS l (i:Int) (λj:cN=>vn j true))<|(congrArg (λl=>md af bS l (i:Int) (λo:cN=>QA o<|af.bJ o.2.2.2.2.1 1))<|(congrArg (λl=>md af bS l (i:Int) (λv:cN=>zm v (af.k rC (x.2.1,t,n.2.2.1.2.1)).1))<|kG (l:=x.2.2.2.2.2.2.1) (f:=λu:cN=>up0 u n)).trans<|kG.trans<|mod_mod c).trans<|kG.trans<|mod_mod c).trans<|kG.trans<|mod_mod c).trans (kG.trans<|(mod_mod c).trans ?_);unfold bA;congr 1;show qK (vn (QA (zm (up0 (aH x i) n) (rC (x.2.1,t,n.2.2.1.2.1)).1)<|af.bJ (aH x i).2.2.2.2.1 1) true) false=jnY n _ (aH x i);rw[dq<|by omega];rfl
  unfold SD;rw[j];refine ah (bM (l:=x.2.2.2.2.2.2.1)<|by omega)<|dD (λ_=>ay<|.inl rfl) λg=>cX (λ_=>ay<|.inl rfl) λ_=>?_;have⟨q,_,_,A,B⟩:=YR g;have G:=w7 q;have H:=((A7<|by omega).1 B).1;have p:(aH (cO x<|bA x.2.2.2.2.2.2.1 i<|jnY n (rC (x.2.1,t,n.2.2.1.2.1)).1) i)=jnY n (rC (x.2.1,t,n.2.2.1.2.1)).1 (aH x i):=uF c;have D:(rC (x.2.1,t,n.2.2.1.2.1)).1.1=t-(x.2.1.2.2.1+x.2.1.2.2.2.2.2.1):=by rw[A]
  have⟨p1,p2⟩:=Fh (x:=cO x<|bA x.2.2.2.2.2.2.1 i<|jnY n (rC (x.2.1,t,n.2.2.1.2.1)).1) (i:=i) ⟨h.made,h.len,h.heap⟩ (by show i<(bA _ _ _).length;rw[bO];omega) q (by rw[p];show 0<=(rC (x.2.1,t,n.2.2.1.2.1)).1.1/\(rC (x.2.1,t,n.2.2.1.2.1)).1.1<=_;omega);rw[p] at p2;exact ah p1<|ah (qa c)<|ay<|.inr ⟨g,p2⟩
 .rcases z with e|⟨_,C,E,y,_⟩
  .rw[e]
  .rw[y];exact bO
def goes_go{p:FK}{k n u:Int}(q:p.a0=l)(v:p.a1=(l.length:Int))(z:p.Qy=k)(A:p.a21=n)(B:p.N9=u)(C:l.length<=1000000):∀(f i:Nat),l.length-i<=f->Go (zk af) (zk af<|.c0 p i) λr=>r.2=true->r.1∈l/\r.1.1=k/\r.1.2.1=n/\(r.1.2.2.2.2.1=u\/zD r.1.1=false):=by
 intro f
 induction f with
 | zero=>intro i y;exact aW (λg=>absurd g (by rw[v];omega)) λ_=>ay nofun
 | succ f ih=>
   intro i y;refine aW (λg=>?_) λ_=>ay nofun
   have g:i<l.length:=by rw[v] at g;omega
   have c:Go (zk af) (.ak<|.c0 p<|af.bJ i 1) λr=>r.2=true->r.1∈l/\r.1.1=k/\r.1.2.1=n/\(r.1.e=u\/zD r.1.1=false):=by
    rw[dq<|by omega,show(i:Int)+1=((i+1:Nat):Int) from by omega];exact aP<|ih (i+1) (by omega)
   have x:mE af p (i:Int)=l[i]:=by
    unfold mE;rw[q];exact eO g _
   have o:(mE af p i).1=p.Qy->(mE af p i).2.1=p.a21->((mE af p i).e=p.N9\/zD (mE af p i).1=false)->Go (zk af) (.ret (mE af p i,true)) λr=>r.2=true->r.1∈l/\r.1.1=k/\r.1.2.1=n/\(r.1.e=u\/zD r.1.1=false):=λh j m=>ay λ_=>⟨by rw[x];exact cZ g,by rw[<-z];exact h,by rw[<-A];exact j,by rw[<-B];exact m⟩;refine ah (by rw[q];exact bM (l:=l)<|by omega)<|cv (λ_=>cv (λm=>cv (λh=>cv (λj=>o h j<|.inl m) λ_=>c) λ_=>c) λ_=>cX (λm=>cv (λh=>cv (λj=>o h j<|.inr m) λ_=>c) λ_=>c) λ_=>c) λ_=>c
variable{v:(Bool×aA×gH×Unit)×(Int×Int×fB)}
def sF(f:v.1.2.2.1.2.2.2.2.2.2.2.length<=1000000):jy v=true/\((dV v).2=true->(dV v).1∈v.1.2.2.1.2.2.2.2.2.2.2/\(dV v).1.1=v.2.1/\(dV v).1.2.1=v.2.2.1/\((dV v).1.2.2.2.2.1=v.2.2.2.2.1\/zD (dV v).1.1=false)):=by
 have⟨⟨h,i,g,⟨⟩⟩,k,n,c⟩:=v;have f:g.2.2.2.2.2.2.2.length<=1000000:=f;exact fQ (s:=zk af) (t:=W1 af h i g k n c) (d:=_)<|ah (cr<|by omega)<|aP<|goes_go (l:=g.2.2.2.2.2.2.2) rfl rfl rfl rfl rfl f _ 0<|ai _
def afV{p:QF}(h:p.a0=l)(m:p.a1=(l.length:Int))(n:l.length<=1000000):∀(f i:Nat),l.length-i<=f->Go (IC af) (IC af<|.c0 p i) λ_=>True:=by
 intro f
 induction f with
 | zero=>intro i j;exact aW (λg=>absurd g<|by omega) λ_=>ay trivial
 | succ f ih=>
   intro i j;refine aW (λg=>?_) λ_=>ay trivial;have c:Go (IC af) (.ak<|.c0 p<|af.bJ i 1) λ_=>True:=by
    rw[dq<|by omega,show(i:Int)+1=((i+1:Nat):Int) from by omega];exact aP<|ih (i+1) (by omega)
   exact ah (by rw[h];exact bM (l:=l)<|by omega)<|cv (λ_=>cv (λ_=>cv (λ_=>cv (λ_=>ay trivial) λ_=>c) λ_=>c) λ_=>cX (λ_=>cv (λ_=>cv (λ_=>ay trivial) λ_=>c) λ_=>c) λ_=>c) λ_=>c
def Ut{v:(Bool×aA×gH×Unit)×(Int×fB)}(f:v.1.2.2.1.2.2.2.2.2.2.2.length<=1000000):Io v=true:=by
 have⟨⟨h,i,g,⟨⟩⟩,k,c⟩:=v;have f:g.2.2.2.2.2.2.2.length<=1000000:=f;exact(fQ (s:=IC af) (t:=adt af h i g k c) (d:=false)<|ah (cr<|by omega)<|aP<|afV (l:=g.2.2.2.2.2.2.2) rfl rfl f _ 0<|ai _).1
def Xm(l:List fC)(w:Span)(r:List fC×Seen):Prop:=r.1=l/\(r.2.1=2->w.1<=r.2.2.1/\r.2.2.1<w.2)
variable{s:fC}
def YT{a b:Span}(h:Z5 (s,a,b)=true):b.1<=s.2.1.1/\s.2.1.1<b.2:=by
 revert h;refine vL (t:=ao5 af s a b) (P:=λr=>r=true->b.1<=s.2.1.1/\s.2.1.1<b.2) ?_ (LT.gI<|by rfl)<|LT.jg (by rfl);exact du (λ_=>du (λ_=>cv (λ_=>nE (λg=>ay λh=>⟨g,of_decide_eq_true h⟩) λ_=>ay nofun) λ_=>ay nofun) λ_=>ay nofun) λ_=>ay nofun
theorem aaG{p:Yi}{l:List fC}{w:Span}(c:p.a2=l)(A:p.a0=(l.length:Int))(v:(p.a16,p.a17)=w)(C:l.length<=1000000):∀(f i:Nat) (n t:Int),l.length-i<=f->i<=l.length->0<=n/\n<=i->0<=t->(n=0\/t<l.length)->Go (J9 af) (J9 af<|.c0 p i n t) (Xm l w):=by
 have o:∀(i n t:Int),¬i<p.a0->0<=t->(n=0\/t<l.length)->Go (J9 af) (J9 af<|.c0 p i n t) (Xm l w):=by
  intro i n t j h u;refine aW (λg=>absurd g j) λ_=>cv (λ_=>ay ⟨c,nofun⟩) λy=>cv (λz=>ah (by rw[c];exact bM (l:=l)<|by omega)<|du (λg=>ay ⟨c,λ_=>?_⟩) λ_=>ay ⟨c,nofun⟩) λ_=>ay ⟨c,nofun⟩;have:=YT g;rw[<-v];omega
 intro f
 induction f with
 | zero=>grind
 | succ f ih=>
   intro i n t B j u h r;by_cases g:i<l.length
   .refine aW (λ_=>?_) λq=>absurd q (by omega);have m:Go (J9 af) (.ak<|.c0 p (af.bJ i 1) n t)<|Xm l w:=by
     rw[dq<|by omega,show(i:Int)+1=((i+1:Nat):Int) from by omega];exact aP<|ih (i+1) n t (by omega) (by omega) (by omega) h r
    refine ah (by rw[c];exact bM (l:=l)<|by omega)<|du (λ_=>du (λ_=>?_) λ_=>m) λ_=>m;rw[dq (x:=n)<|by omega,dq (x:=(i:Int))<|by omega,show(i:Int)+1=((i+1:Nat):Int) from by omega];exact cv (λ_=>aP<|ih (i+1) (n+1) i (by omega) (by omega) (by omega) (by omega)<|.inr<|by omega) λe=>aP<|ih (i+1) (n+1) t (by omega) (by omega) (by omega) h<|.inr (by omega)
   simp_all
theorem Bz{l:List fC}{a w:Span}{th:Int}(f:l.length<=1000000):Dn (l,a,w,th)=true/\Xm l w (n_ (l,a,w,th)):=by
 have⟨g,c⟩:=fQ (s:=J9 af) (t:=adp af l a w th) (d:=([],Ty.aR [qA])) (P:=Xm l w)<|aP<|aaG rfl rfl rfl f _ 0 0 0 (ai _) (aM _) (by omega) (by omega)<|.inl rfl;have e:(n_ (l,a,w,th)).1=l:=c.1;refine⟨?_,c⟩;show(fO (J9 af) (adp af l a w th)&&decide ((n_ (l,a,w,th)).1.length=l.length))=true
 simp_all
def bsG(_:Int×List Int):Bool:=true
def Vn:bsG (0,([]:List Int))=true:=rfl
def xB{f:sS}:bsG (Ae f).1=true:=rfl
def aj9{n:Int}:0<=mF n/\mF n<=2100:=by
 refine vL (t:=t173 af n) (P:=λr=>0<=r/\r<=2100) (aW (λ_=>ay<|by decide) λg=>kY (λ_=>ay<|by decide) λk=>ay ?_) (LT.gI<|by kernel_rfl)<|LT.jg (by kernel_rfl);show 0<=af.bJ 14 (af.b .quo .i64 (af.bJ n 1) 2)/\af.bJ 14 (af.b .quo .i64 (af.bJ n 1) 2)<=2100;rw[dq (x:=n)<|by omega,Fs,i_<|by omega,lZ (by omega)<|by omega,dq<|by omega];omega
def SgG(M:Int)(s:fC):Prop:=(0<=s.1/\s.1<=7)/\(0<=s.2.1.1/\s.2.1.1<=s.2.1.2/\s.2.1.2<=M)/\(0<=s.2.2.1/\s.2.2.1<=200)/\bsG s.2.2.2=true
abbrev Km(s:fC):Prop:=SgG 1050000000000 s
abbrev SgO(s:fC):Prop:=SgG 1099511627776 s
abbrev SgH(i t n l:Int)(b:List Int):Prop:=Km (i,(t,af.bJ t<|af.k mF n),l,n,b)
abbrev SgB(i t d:Int):Prop:=Km (i,(t,af.bJ t d),100,0,[])
def SgG.ltr{d:Int}(h:Km s)(i:0<=d/\d<=64):SgO<|zm s (af.bJ s.2.1.1 d,af.bJ s.2.1.2 d):=by
 have⟨c,g,f⟩:=h;refine⟨c,?_,f⟩;show 0<=af.bJ s.2.1.1 d/\af.bJ s.2.1.1 d<=af.bJ s.2.1.2 d/\af.bJ s.2.1.2 d<=_;rw[dq<|by omega,dq<|by omega];omega
def Pe{a b:Span}(h:Uf (a,b)=true):a.1<b.2/\b.1<a.2/\a.1<a.2/\b.1<b.2:=by
 revert h;exact vL (t:=ao7 af a b) (P:=λr=>r=true->_) (du (λ_=>aW (λc=>aW (λf=>aW (λg=>ay λk=>⟨c,f,g,of_decide_eq_true k⟩) λ_=>ay nofun) λ_=>ay nofun) λ_=>ay nofun) λ_=>ay nofun) (LT.gI<|by rfl)<|LT.jg (by rfl)
def af_{o:Span}{M:Int}(h:SgG M s):(Bu (o,s)).2=true->SgG M (Bu (o,s)).1:=by
 have⟨f,j,i,l⟩:=h;have c:Go Empty.elim (.ret N3) λr=>r.2=true->SgG M r.1:=ay λk=>Bool.noConfusion (show false=true from k);refine vL (t:=ahy af o s) (P:=λr=>r.2=true->SgG M r.1) (dD (λ_=>c) λ_=>dD (λ_=>c) λ_=>cX (λ_=>c) λg=>du (λ_=>ay λ_=>⟨f,j,i,l⟩) λ_=>ay λ_=>⟨f,?_,i,Vn⟩) (LT.gI<|by rfl)<|LT.jg (by rfl);have g:=Pe g;show 0<=af.mx s.2.1.1 o.1/\af.mx s.2.1.1 o.1<=af.mn s.2.1.2 o.2/\af.mn s.2.1.2 o.2<=M;rw[tX,mZ];omega
def Mt{l:Span}{n:Int}(h:lS (l,n)=true):l.1<=n/\n<=l.2:=by
 revert h;exact vL (t:=aoW af l n) (P:=λr=>r=true->_) (nE (λg=>ay λk=>⟨g,of_decide_eq_true k⟩) λ_=>ay nofun) (LT.gI<|by rfl)<|LT.jg (by rfl)
def Bm{f:bK}(h:ko (m,f)=true):lS ((af.n kv (kQ (m,f.1)).1 3:Span),f.2.2.2.2.2.1)=true/\lS ((af.n kv (kQ (m,f.1)).1 4:Span),f.2.2.2.2.2.2)=true/\(f.1=10->f.2.2.2.2.1≠f.2.1):=by
 revert h;have c:∀{P:Prop},Go Empty.elim (.ret false) λr=>r=true->P:=ay nofun
 exact vL (t:=adh af m f) (P:=λr=>r=true->_) (cX (λ_=>c) λ_=>aW (λ_=>c) λ_=>nE (λ_=>c) λ_=>cv (λ_=>cv (λ_=>c) λe=>cX (λ_=>c) λ_=>cX (λ_=>c) λ_=>cX (λ_=>c) λ_=>cX (λ_=>c) λa=>cX (λ_=>c) λb=>ay λ_=>⟨a,b,λ_=>e⟩) λe=>cX (λ_=>c) λ_=>cX (λ_=>c) λ_=>cX (λ_=>c) λ_=>cX (λ_=>c) λa=>cX (λ_=>c) λb=>ay λ_=>⟨a,b,λk=>absurd k e⟩) (LT.gI<|by rfl)<|LT.jg (by rfl)
def ua(x:Net)(a b:List fC)(s:List tg):Net:=(x.1,x.2.1,x.2.2.1,x.2.2.2.1,x.2.2.2.2.1,x.2.2.2.2.2.1,x.2.2.2.2.2.2.1,a,b,s,x.2.2.2.2.2.2.2.2.2.2)
def t7(l a:List fC)(k:Nat):Prop:=a.length<=l.length+k/\∀s∈a,s∈l\/SgO s
def t7.rfl{l:List fC}{k:Nat}:t7 l l k:=⟨Nat.le_add_right _ _,λ_=>.inl⟩
theorem t7.mono{l a:List fC}{k c:Nat}(h:t7 l a k)(g:k<=c):t7 l a c:=⟨bd h.1<|fN g _,h.2⟩
def t7.trans{l a b:List fC}{k c:Nat}(h:t7 l a k)(g:t7 a b c):t7 l b<|k+c:=⟨by have:=h.1;have:=g.1;omega,λs f=>(g.2 s f).elim (h.2 s) .inr⟩
def t7.app{l a:List fC}(h:t7 (l ++ [s]) a 0)(c:SgO s):t7 l a 1:=⟨by have:=h.1;rw[t_,bU] at this;exact this,λz f=>(h.2 z f).elim (λk=>(pP.1 k).elim .inl λk=>.inr (by rw[aO.1 k];exact c)) .inr⟩
def Xk(x:Net)(s:fC)(r:Net×fC×Bool):Prop:=r.1=x/\∀M,SgG M s->r.2.2=true->SgG M r.2.1
def aao{c:fB}(z:i<x.2.2.2.2.2.2.1.length)(v:x.2.2.1.2.2.2.2.2.2.2.length<=1000000)(y:x.2.2.2.2.2.2.1.length<=x.2.2.1.2.2.2.2.1.length):nG (x,(i:Int),c,s)=true/\Xk x s (gq (x,(i:Int),c,s)):=by
 refine kF (s:=wC af) (t:=W3 af x i c s) (P:=Xk x s) (aP ?_) λr h=>by rw[h.1]
 have j:∀{p:CL},p.a6=(i:Int)->p.a3=x->p.a8=s->Go (wC af) (.ao (af.and (af.bE 0 p.a6)<|af.bo p.a6<|af.l p.a3.2.2.2.2.2.2.1)<|.ao (af.and (af.bE 0 p.a6)<|af.bo p.a6<|af.l p.a3.2.2.1.2.2.2.2.1)<|.br (af.cm (tZ af p).2 0) (.ret (p.a3,(0,(0,0),0,0,([]:List Int)),false))<|.ret (p.a3,af.k Bu ((tZ af p).1,p.a8))) (Xk x s):=λn o q=>by
  rw[n,o,q];exact ah (bM (l:=x.2.2.2.2.2.2.1)<|by omega)<|ah (bM (l:=x.2.2.1.2.2.2.2.1)<|by omega)<|du (λ_=>ay ⟨rfl,λ_ _=>nofun⟩) λ_=>ay ⟨rfl,λ_=>af_⟩
 have:∀(f k:Nat),x.2.2.1.2.2.2.2.2.2.2.length-k<=f->Go (wC af) (wC af<|.c0 ⟨x.2.2.1.2.2.2.2.2.2.2,af.l x.2.2.1.2.2.2.2.2.2.2,x,c.1,(i:Int),c,s⟩ k) (Xk x s):=by
  intro f
  induction f with
  | zero=>intro k u;exact aW (λg=>absurd g (by show ¬(k:Int)<(x.2.2.1.2.2.2.2.2.2.2.length:Int);omega)) λ_=>j rfl rfl rfl
  | succ f ih=>
    intro k u;refine aW (λg=>?_) λ_=>j rfl rfl rfl;have g:k<x.2.2.1.2.2.2.2.2.2.2.length:=by have g:(k:Int)<(x.2.2.1.2.2.2.2.2.2.2.length:Int):=g;omega
    have m:Go (wC af) (.ak<|.c0 ⟨x.2.2.1.2.2.2.2.2.2.2,af.l x.2.2.1.2.2.2.2.2.2.2,x,c.1,(i:Int),c,s⟩<|af.bJ k 1)<|Xk x s:=by
     rw[dq<|by omega,show(k:Int)+1=((k+1:Nat):Int) from by omega];exact aP<|ih (k+1) (by omega)
    refine ah (bM (l:=x.2.2.1.2.2.2.2.2.2.2)<|by omega)<|cv (λ_=>xQ (λ_=>cv (λ_=>nE (λ_=>ay ⟨rfl,λ_ h _=>h⟩) λ_=>j rfl rfl rfl) λ_=>m) λ_=>m) λ_=>m
 exact this _ 0<|ai _
theorem Qd{l:List α}{v:α}(h:i<=l.length)(c:l.length<=1000000):(af.spl l i<|af.r (af.fD (af.l l) i) v).length=l.length:=by
 rw[dW,kX<|by omega,uK,nU]
 simp_all
theorem aco{l L:List fC}{i:Int}{v:fC}(h:∀s∈l,s∈L)(c:s∈(af.set l i v:List fC))(f:v∈L):s∈L:=(List.mem_or_eq_of_mem_set c).elim (h s) λe=>by simp_all
def abh{l:List fC}(h:i<l.length):(af.n iC l (i:Int):fC)=l[i]:=eO h _
theorem alX{L:List fC}(z:x.2.2.2.2.2.1.1=true)(E:n<=1000000):∀(f i j:Nat) (l:List fC),n-j<=f->i<=j->j<=n->l.length=n->(∀s∈l,s∈L)->Go (vJ af) (vJ af (.c1 (i:Int) (j:Int) (ua x l x.2.2.2.2.2.2.2.2.1 x.2.2.2.2.2.2.2.2.2.1))) λr=>∃a:List fC,(a.length<=n/\∀s∈a,s∈L)/\r.1=ua x a x.2.2.2.2.2.2.2.2.1 x.2.2.2.2.2.2.2.2.2.1:=by
 have o:∀(i j:Nat) (l:List fC),¬j<n->i<=j->j<=n->l.length=n->(∀s∈l,s∈L)->Go (vJ af) (vJ af (.c1 (i:Int) (j:Int) (ua x l x.2.2.2.2.2.2.2.2.1 x.2.2.2.2.2.2.2.2.2.1))) λr=>∃a:List fC,(a.length<=n/\∀s∈a,s∈L)/\r.1=ua x a x.2.2.2.2.2.2.2.2.1 x.2.2.2.2.2.2.2.2.2.1:=by
  intro i j l q p y h c;have C:(af.spl l (i:Int) (af.r (af.fD (af.l l) (i:Int)) (Ty.gy iC:fC))).length=n:=(Qd (by omega) (by omega)).trans h;refine aW (λg=>absurd g (by show ¬(j:Int)<(l.length:Int);omega)) λ_=>ah ?_ (ah ?_ (ay ⟨_,⟨?_,λs m=>?_⟩,rfl⟩))
  .simp only[bu,aB,fZ,uR];exact⟨by omega,by show(i:Int)<=(l.length:Int);omega,aj _⟩
  .simp only[bu,aB,fZ,uR];exact⟨by omega,by omega,by show(i:Int)<=((af.spl l (i:Int) (af.r (af.fD (af.l l) (i:Int)) (Ty.gy iC:fC))).length:Int);omega⟩
  .show(af.s (af.spl l (i:Int) (af.r (af.fD (af.l l) (i:Int)) (Ty.gy iC:fC))) 0 (af.fD (i:Int) 0)).length<=_;rw[jc,dQ,dh];omega
  .have m:s∈(af.s (af.spl l (i:Int) (af.r (af.fD (af.l l) (i:Int)) (Ty.gy iC:fC))) 0 (af.fD (i:Int) 0):List fC):=m;rw[jc,nU,kX (by omega)] at m
   grind
 intro f
 induction f with
 | zero=>grind
 | succ f ih=>
   intro i j l D p q h c;by_cases g:j<n
   .obtain⟨A,B⟩:=Aq z;have u:af.k gL ((ua x l x.2.2.2.2.2.2.2.2.1 x.2.2.2.2.2.2.2.2.2.1).2.2.2.2.2.1,())=(x.2.2.2.2.2.1,x.2.2.2.2.2.1.2.2):=B;refine aW (λ_=>?_) λv=>absurd v (by show ¬(l.length:Int)<=(j:Int);omega);rw[u,dq (x:=(j:Int)) (by omega),dq (x:=(i:Int)) (by omega),show(i:Int)+1=((i+1:Nat):Int) from by omega,show(j:Int)+1=((j+1:Nat):Int) from by omega];exact ah (bM (l:=l) (by omega)) (ah A (cX (λ_=>ah (bM (l:=l) (by omega)) (aP (ih (i+1) (j+1) _ (by omega) (by omega) (by omega) (gK.trans h) λs m=>aco c m (by show(af.n iC l (j:Int):fC)∈L;rw[abh (by omega)];exact c _ (cZ _))))) λ_=>aP (ih i (j+1) l (by omega) (by omega) (by omega) h c)))
   .exact o i j l g p q h c
def alW{p:Tg}(c:x.2.2.2.2.2.1.1=true)(u:p.a0=(x.2.2.2.2.2.2.2.1.length:Int))(m:x.2.2.2.2.2.2.2.1.length<=1000000):∀(f i:Nat),x.2.2.2.2.2.2.2.1.length-i<=f->Go (vJ af) (vJ af<|.c0 p i x) λr=>∃a:List fC,t7 x.2.2.2.2.2.2.2.1 a 0/\r.1=ua x a x.2.2.2.2.2.2.2.2.1 x.2.2.2.2.2.2.2.2.2.1:=by
 intro f
 induction f with
 | zero=>intro i j;exact aW (λg=>absurd g<|by omega) λ_=>ay ⟨_,t7.rfl,rfl⟩
 | succ f ih=>
   intro i j;have⟨o,q⟩:=Aq c;have h:af.k gL (x.2.2.2.2.2.1,())=(x.2.2.2.2.2.1,x.2.2.2.2.2.1.2.2):=q;refine aW (λg=>?_) λ_=>ay ⟨_,t7.rfl,rfl⟩;rw[h,dq (x:=(i:Int))<|by omega,show(i:Int)+1=((i+1:Nat):Int) from by omega];refine ah (bM (l:=x.2.2.2.2.2.2.2.1)<|by omega)<|ah o<|du (λ_=>cv (λe=>by omega) λ_=>aP ?_) λ_=>aP<|ih (i+1) (by omega);exact(alX (x:=x) c m _ i (i+1) x.2.2.2.2.2.2.2.1 (ai _) (by omega) (by omega) rfl λ_=>id).mono λr ⟨a,k,e⟩=>⟨a,⟨k.1,λs n=>.inl<|k.2 s n⟩,e⟩
def alY(h:x.2.2.2.2.2.1.1=true)(g:x.2.2.2.2.2.2.2.1.length<=1000000):MW (x,0)=true/\∃a:List fC,t7 x.2.2.2.2.2.2.2.1 a 0/\(C_ (x,0)).1=ua x a x.2.2.2.2.2.2.2.2.1 x.2.2.2.2.2.2.2.2.2.1:=by
 have⟨c,f⟩:=kF (x:=x) (s:=vJ af) (t:=IV af x 0) (d:=(Ty.aR [jS],Ty.aR [])) (P:=λr=>∃a:List fC,t7 x.h a 0/\r.1=ua x a x.i x.j) (kY (λ_=>aP<|alW h rfl g _ 0<|ai _) λ_=>ay ⟨_,t7.rfl,rfl⟩) λr ⟨a,_,e⟩=>by rw[e];rfl
 rw[fZ] at c;refine⟨?_,f⟩;show(decide ((0:Int)=0)&&fO _ _&&_)=true;rw[c.1];exact c.2
theorem al0{L:List fC}(z:x.2.2.2.2.2.1.1=true)(E:n<=1000000):∀(f i j:Nat) (l:List fC),n-j<=f->i<=j->j<=n->l.length=n->(∀s∈l,s∈L)->Go (vK af) (vK af (.c1 (i:Int) (j:Int) (ua x x.2.2.2.2.2.2.2.1 l x.2.2.2.2.2.2.2.2.2.1))) λr=>∃a:List fC,(a.length<=n/\∀s∈a,s∈L)/\r.1=ua x x.2.2.2.2.2.2.2.1 a x.2.2.2.2.2.2.2.2.2.1:=by
 have o:∀(i j:Nat) (l:List fC),¬j<n->i<=j->j<=n->l.length=n->(∀s∈l,s∈L)->Go (vK af) (vK af (.c1 (i:Int) (j:Int) (ua x x.2.2.2.2.2.2.2.1 l x.2.2.2.2.2.2.2.2.2.1))) λr=>∃a:List fC,(a.length<=n/\∀s∈a,s∈L)/\r.1=ua x x.2.2.2.2.2.2.2.1 a x.2.2.2.2.2.2.2.2.2.1:=by
  intro i j l q p y h c;have C:(af.spl l (i:Int) (af.r (af.fD (af.l l) (i:Int)) (Ty.gy iC:fC))).length=n:=(Qd (by omega) (by omega)).trans h;refine aW (λg=>absurd g (by show ¬(j:Int)<(l.length:Int);omega)) λ_=>ah ?_ (ah ?_ (ay ⟨_,⟨?_,λs m=>?_⟩,rfl⟩))
  .simp only[bu,aB,fZ,uR];exact⟨by omega,by show(i:Int)<=(l.length:Int);omega,aj _⟩
  .simp only[bu,aB,fZ,uR];exact⟨by omega,by omega,by show(i:Int)<=((af.spl l (i:Int) (af.r (af.fD (af.l l) (i:Int)) (Ty.gy iC:fC))).length:Int);omega⟩
  .show(af.s (af.spl l (i:Int) (af.r (af.fD (af.l l) (i:Int)) (Ty.gy iC:fC))) 0 (af.fD (i:Int) 0)).length<=_;rw[jc,dQ,dh];omega
  .have m:s∈(af.s (af.spl l (i:Int) (af.r (af.fD (af.l l) (i:Int)) (Ty.gy iC:fC))) 0 (af.fD (i:Int) 0):List fC):=m;rw[jc,nU,kX (by omega)] at m
   grind
 intro f
 induction f with
 | zero=>grind
 | succ f ih=>
   intro i j l D p q h c;by_cases g:j<n
   .obtain⟨A,B⟩:=Aq z;have u:af.k gL ((ua x x.2.2.2.2.2.2.2.1 l x.2.2.2.2.2.2.2.2.2.1).2.2.2.2.2.1,())=(x.2.2.2.2.2.1,x.2.2.2.2.2.1.2.2):=B;refine aW (λ_=>?_) λv=>absurd v (by show ¬(l.length:Int)<=(j:Int);omega);rw[u,dq (x:=(j:Int)) (by omega),dq (x:=(i:Int)) (by omega),show(i:Int)+1=((i+1:Nat):Int) from by omega,show(j:Int)+1=((j+1:Nat):Int) from by omega];exact ah (bM (l:=l) (by omega)) (ah A (cX (λ_=>ah (bM (l:=l) (by omega)) (aP (ih (i+1) (j+1) _ (by omega) (by omega) (by omega) (gK.trans h) λs m=>aco c m (by show(af.n iC l (j:Int):fC)∈L;rw[abh (by omega)];exact c _ (cZ _))))) λ_=>aP (ih i (j+1) l (by omega) (by omega) (by omega) h c)))
   .exact o i j l g p q h c
def alZ{p:Ti}(c:x.2.2.2.2.2.1.1=true)(u:p.a0=(x.2.2.2.2.2.2.2.2.1.length:Int))(m:x.2.2.2.2.2.2.2.2.1.length<=1000000):∀(f i:Nat),x.2.2.2.2.2.2.2.2.1.length-i<=f->Go (vK af) (vK af<|.c0 p i x) λr=>∃a:List fC,t7 x.2.2.2.2.2.2.2.2.1 a 0/\r.1=ua x x.2.2.2.2.2.2.2.1 a x.2.2.2.2.2.2.2.2.2.1:=by
 intro f
 induction f with
 | zero=>intro i j;exact aW (λg=>absurd g<|by omega) λ_=>ay ⟨_,t7.rfl,rfl⟩
 | succ f ih=>
   intro i j;have⟨o,q⟩:=Aq c;have h:af.k gL (x.2.2.2.2.2.1,())=(x.2.2.2.2.2.1,x.2.2.2.2.2.1.2.2):=q;refine aW (λg=>?_) λ_=>ay ⟨_,t7.rfl,rfl⟩;rw[h,dq (x:=(i:Int))<|by omega,show(i:Int)+1=((i+1:Nat):Int) from by omega];refine ah (bM (l:=x.2.2.2.2.2.2.2.2.1)<|by omega)<|ah o<|du (λ_=>cv (λe=>by omega) λ_=>aP ?_) λ_=>aP<|ih (i+1) (by omega);exact(al0 (x:=x) c m _ i (i+1) x.2.2.2.2.2.2.2.2.1 (ai _) (by omega) (by omega) rfl λ_=>id).mono λr ⟨a,k,e⟩=>⟨a,⟨k.1,λs n=>.inl<|k.2 s n⟩,e⟩
def al1(h:x.2.2.2.2.2.1.1=true)(g:x.2.2.2.2.2.2.2.2.1.length<=1000000):MX (x,1)=true/\∃a:List fC,t7 x.2.2.2.2.2.2.2.2.1 a 0/\(Da (x,1)).1=ua x x.2.2.2.2.2.2.2.1 a x.2.2.2.2.2.2.2.2.2.1:=by
 have⟨c,f⟩:=kF (x:=x) (s:=vK af) (t:=IW af x 1) (d:=(Ty.aR [jS],Ty.aR [])) (P:=λr=>∃a:List fC,t7 x.i a 0/\r.1=ua x x.h a x.j) (kY (λ_=>aP<|alZ h rfl g _ 0<|ai _) λ_=>ay ⟨_,t7.rfl,rfl⟩) λr ⟨a,_,e⟩=>by rw[e];rfl
 rw[fZ] at c;refine⟨?_,f⟩;show(decide ((1:Int)=1)&&fO _ _&&_)=true;rw[c.1];exact c.2
def afu(h:x.2.2.2.2.2.1.1=true)(c:x.2.2.2.2.2.2.2.1.length<=1000000):qV (x,0)=true/\∃a:List fC,t7 x.2.2.2.2.2.2.2.1 a 0/\(rD (x,0)).1=ua x a x.2.2.2.2.2.2.2.2.1 x.2.2.2.2.2.2.2.2.2.1:=alY h c
def afv(h:x.2.2.2.2.2.1.1=true)(c:x.2.2.2.2.2.2.2.2.1.length<=1000000):qV (x,1)=true/\∃a:List fC,t7 x.2.2.2.2.2.2.2.2.1 a 0/\(rD (x,1)).1=ua x x.2.2.2.2.2.2.2.1 a x.2.2.2.2.2.2.2.2.2.1:=al1 h c
theorem al6(h:x.2.2.2.2.2.1.1=true)(l:x.2.2.2.2.2.2.2.1.length<=900000)(i:SgO s):qV (CH x<|af.p x.2.2.2.2.2.2.2.1 ([s]:List fC),0)=true/\∃a:List fC,t7 x.2.2.2.2.2.2.2.1 a 1/\(af.k rD (CH x<|af.p x.2.2.2.2.2.2.2.1 ([s]:List fC),0)).1=ua x a x.2.2.2.2.2.2.2.2.1 x.2.2.2.2.2.2.2.2.2.1:=by
 have j:(x.2.2.2.2.2.2.2.1 ++ [s]).length=x.2.2.2.2.2.2.2.1.length+1:=by simp_all
 have⟨c,a,f,g⟩:=afu (x:=CH x<|af.p x.2.2.2.2.2.2.2.1 ([s]:List fC)) h (by show(x.2.2.2.2.2.2.2.1 ++ [s]).length<=_;omega);exact⟨c,a,t7.app f i,g⟩
theorem ayf(h:x.2.2.2.2.2.1.1=true)(l:x.2.2.2.2.2.2.2.2.1.length<=900000)(i:SgO s):qV (yZ x<|af.p x.2.2.2.2.2.2.2.2.1 ([s]:List fC),1)=true/\∃a:List fC,t7 x.2.2.2.2.2.2.2.2.1 a 1/\(af.k rD (yZ x<|af.p x.2.2.2.2.2.2.2.2.1 ([s]:List fC),1)).1=ua x x.2.2.2.2.2.2.2.1 a x.2.2.2.2.2.2.2.2.2.1:=by
 have j:(x.2.2.2.2.2.2.2.2.1 ++ [s]).length=x.2.2.2.2.2.2.2.2.1.length+1:=by simp_all
 have⟨c,a,f,g⟩:=afv (x:=yZ x<|af.p x.2.2.2.2.2.2.2.2.1 ([s]:List fC)) h (by show(x.2.2.2.2.2.2.2.2.1 ++ [s]).length<=_;omega);exact⟨c,a,t7.app f i,g⟩
end
end Go.Ev.M
