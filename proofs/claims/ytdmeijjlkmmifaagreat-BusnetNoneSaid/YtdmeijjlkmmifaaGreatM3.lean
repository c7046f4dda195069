/-
  PROVED: what functions of the program compute, part 3. Conditions: none.
-/
import Derived.Test.YtdmeijjlkmmifaaGreatM2
set_option linter.unusedVariables false
set_option linter.unusedSimpArgs false
namespace Go.Ev.M
open Go.Proofs
set_option maxRecDepth 100000
open Go.Ev.Pl
noncomputable section
def atA(A:aS)(a:Span)(b:Span):LT Bool Empty:=.br (A.bK (A.k FV a) 0) (.ret (A.bK (A.k FV b) 0)) (.ret false)
def Ym:(Span×Span)->Bool:=λ(a,b)=>(atA af a b).val (Ty.aR [.bool])
def asM:aM:=.all [kT,kT] [.bool] Ym
theorem ag6:Sd 295 asM:=fa (aP ar dK sl 24 [] (λA (a,b)=>atA A a b) (kz (fc Tryz.func295 fz) (sc OG sz)) (λ_ _ _=>LT.bE (by kernel_rfl)))
def atv(A:aS)(a:Span)(b:Span):LT Bool Empty:=.br (A.k Ym (a,b)) (.br (A.bD a.1 b.2) (.br (A.bD b.1 a.2) (.br (A.bD a.1 a.2) (.ret (A.bD b.1 b.2)) (.ret false)) (.ret false)) (.ret false)) (.ret false)
def Yk:(Span×Span)->Bool:=λ(a,b)=>(atv af a b).val (Ty.aR [.bool])
def asG:aM:=.all [kT,kT] [.bool] Yk
theorem ag3:Sd 245 asG:=fa (aP ar dK sl 47 [] (λA (a,b)=>atv A a b) (kz (fc Tryz.func245 fz) (sc ag6 sz)) (λ_ _ _=>LT.bE (by kernel_rfl)))
abbrev ahc(A:aS)(a:Span)(b:Span):LT Bool Empty:=(.br (A.k Ym (a,b)) (.br (A.qP a.1 b.1) (.ret (A.bU a.2 b.2)) (.ret false)) (.ret false))
def atw(A:aS)(a:Span)(b:Span):LT Bool Empty:=.br (A.and (A.bK a.1 b.1) (A.and (A.bK a.2 b.2) true)) (.br (A.bK (A.k FV a) 0) (.ret true) (ahc A a b)) (ahc A a b)
def Yl:(Span×Span)->Bool:=λ(a,b)=>(atw af a b).val (Ty.aR [.bool])
def asH:aM:=.all [kT,kT] [.bool] Yl
theorem ag4:Sd 247 asH:=fa (aP ar dK sl 43 [] (λA (a,b)=>atw A a b) (kz (fc Tryz.func247 fz) (sc OG (sc ag6 sz))) (λ_ _ _=>LT.bE (by kernel_rfl)))
def atu(A:aS)(s:gm)(c:Int):LT Bool Empty:=.br (A.qP s.2.2.1 (A.mx c 1)) (.ret (A.bK (A.k R1 s) 0)) (.ret false)
def af9:(gm×Int)->Bool:=λ(s,c)=>(atu af s c).val (Ty.aR [.bool])
def asF:aM:=.all [jG,yI] [.bool] af9
theorem aqA:Sd 244 asF:=fa (aP ar dK sl 25 [] (λA (s,c)=>atu A s c) (kz (fc Tryz.func244 fz) (sc aaD sz)) (λ_ _ _=>LT.bE (by kernel_rfl)))
def amA(A:aS)(s:gm)(f:Span)(c:Span):LT Bool Empty:=.br (A.k af1 s) (.br (A.k Yl (s.2.1,f)) (.br (A.bK (A.k FV c) 0) (.br (A.qP s.2.1.1 c.1) (.ret (A.bD s.2.1.1 c.2)) (.ret false)) (.ret false)) (.ret false)) (.ret false)
def Yj:(gm×Span×Span)->Bool:=λ(s,f,c)=>(amA af s f c).val (Ty.aR [.bool])
def asC:aM:=.all [jG,kT,kT] [.bool] Yj
theorem aqw:Sd 196 asC:=fa (aP ar dK sl 46 [] (λA (s,f,c)=>amA A s f c) (kz (fc Tryz.func196 fz) (sc apz (sc OG (sc ag4 sz)))) (λ_ _ _=>LT.bE (by kernel_rfl)))
structure WA where
 (a0:Int) (a2:List gm) (a3 a4 a5 a6 a7 a8 a9 jd kU a12 Dl Ju MZ a16 a17:Int)
inductive ac7 where
 | c0 (p:WA) (a1:Int) (a21:Int) (a22:Int)
noncomputable def ajb:ac7->iH
 | .c0 p a1 a21 a22=>⟨[⟨243,30,(en [(0,.yield 1),(2,.ptr 2 0),(3,.ptr 3 0),(7,.own 0),(8,vi p.a0),(9,vi a1)]),sk Tryz.f243 [1,0,0],[],none⟩,⟨143,56,(en [(0,.own 0),(5,.ptr 4 0),(6,.ptr 5 0),(8,.ptr 6 0),(9,.ptr 7 0),(10,.ptr 8 0)]),[.oI 1,.inBlock 0,.code (cw Tryz.f143 [1,1,1])],[9],none⟩],[.arr false jG p.a2,.loop ⟨143,56,(en [(0,.own 0),(1,.agg [vi p.a3,vi p.a4]),(2,.agg [vi p.a5,vi p.a6]),(3,vi p.a7),(5,.ptr 4 0),(6,.ptr 5 0),(8,.ptr 6 0),(9,.ptr 7 0),(10,.ptr 8 0),(13,.own 0),(14,.agg [vi p.a8,vi p.a9]),(15,vi p.jd),(16,.fn 243 [] [.ptr 10 0,.ptr 2 0,.ptr 3 0])]),[17],(cw Tryz.f143 [1,1,0,1,0,0]),(cw Tryz.f143 [1,1,0,1,0,1]),0,none⟩,.ay false [vi p.kU],.ay false [vi p.a12,vi p.Dl],.ay false [vi p.Ju,vi p.MZ],.ay false [vi p.a16,vi p.a17],.ay false [vi 0,vi 0,vi 0,.gi true],.ay false [vi a21],.ay false [vi a22],.It,.ay false [.own 0],.aZ]⟩
def abE(A:aS)(l:List gm)(f:Span)(g:Span)(c:Int):LT (List gm×Seen) ac7:=.ao (.c0 ⟨(A.l l),l,f.1,f.2,g.1,g.2,c,f.1,f.2,c,c,f.1,f.2,f.1,f.2,g.1,g.2⟩ 0 0 0)
def Jg(A:aS):ac7->LT (List gm×Seen) ac7
 | .c0 p a1 a21 a22=>.br (A.bD a1 p.a0) (.gQ A a1 p.a2 (.br (A.k af9 ((A.n jG p.a2 a1:gm),p.kU)) (.br (A.k Yk ((A.n jG p.a2 a1:gm).2.1,p.a12,p.Dl)) (.br (A.bK (A.cB a21 1) 1) (.ao (.c0 p (A.cB a1 1) (A.cB a21 1) a1)) (.ao (.c0 p (A.cB a1 1) (A.cB a21 1) a22))) (.ao (.c0 p (A.cB a1 1) a21 a22))) (.ao (.c0 p (A.cB a1 1) a21 a22)))) (.br (A.bK a21 0) (.ret (p.a2,0,0,0,([]:List Int))) (.br (A.bK a21 1) (.gQ A a22 p.a2 (.br (A.k Yj ((A.n jG p.a2 a22:gm),(p.Ju,p.MZ),p.a16,p.a17)) (.ret (p.a2,2,(A.n jG p.a2 a22:gm).2.1.1,(A.n jG p.a2 a22:gm).2.2.2.1,(A.k nI (A.n jG p.a2 a22:gm).2.2.2.2))) (.ret (p.a2,1,0,0,([]:List Int))))) (.ret (p.a2,1,0,0,([]:List Int)))))
def mP:List gm×(Span×Span×Int)->List gm×Seen:=λ(l,(g,f,c))=>gS (Jg af) (abE af l g f c) ([],Ty.aR [qe])
def CM:List gm×(Span×Span×Int)->Bool:=λ(l,(g,f,c))=>iq (Jg af) (abE af l g f c)&&decide ((mP (l,(g,f,c))).1.length=l.length)
def anH:fT:=⟨jG, [kT,kT,yI], [], [qe],CM,mP⟩
theorem agf:fT.bH Tryz.prog 143 anH:=gf ar dK sl 50 [⟨243,1, [[0,2,3,7,8,9], [0,5,6,8,9,10]]⟩] [] (λA (l,(g,f,c))=>abE A l g f c) Jg ajb (kz (fc Tryz.func143 (fc Tryz.func195 (fc Tryz.func243 fz))) (sc D3 (sc aqw (sc aqA (sc ag3 sz))))) (λA y=>match y with |.c0 p a1 m n=>⟨72,(.kQ [0,0,0,0,0,0,0,0,0,2]),by kernel_rfl⟩) λ((l,(g,f,c)):List gm×(Span×Span×Int)) j o h=>⟨of_decide_eq_true ((fQ _ _).mp j).2,Iw j⟩
def afy(A:aS)(l:List Int)(ao:Int):LT (List Int) Empty:=.ap (A.and (A.bK (A.l l) (A.cB (A.l l) ao)) (A.and (A.bU 0 (A.l l)) (A.bU (A.l l) 17592186044416))) (.ret (A.spl (A.r (A.l l) (0:Int)) 0 (A.s l 0 (A.mn (A.l l) (A.l (A.r (A.l l) (0:Int)))))))
def Yh:(List Int×Int)->(List Int):=λ(l,ao)=>gS Empty.elim (afy af l ao) (Ty.aR [BY])
def ZQ:(List Int×Int)->Bool:=λ(l,ao)=>iq Empty.elim (afy af l ao)
def asz:aM:=⟨[BY,yI], [BY],ZQ,Yh,false⟩
theorem aqu:Sd 153 asz:=b_ ar dK sl 32 [] (λA (l,ao)=>afy A l ao) (kz (fc Tryz.func153 fz) sz) λ((l,ao):List Int×Int) c h=>gb c
def atr(A:aS)(m:ax)(c:qk):LT (Int×Int) Empty:=.br (A.cr (A.k tQ (m,c)) 0) (.ret (0,(A.k tQ (m,c)))) (.ret ((A.cB c.1 m.2.2.1),0))
def DJ:(ax×qk)->(Int×Int):=λ(m,c)=>(atr af m c).val (Ty.aR [yI,yI])
def asA:aM:=.all [bM,wP] [yI,yI] DJ
theorem ag2:Sd 156 asA:=fa (aP ar dK sl 38 [] (λA (m,c)=>atr A m c) (kz (fc Tryz.func156 fz) (sc OE sz)) (λ_ _ _=>LT.bE (by kernel_rfl)))
def atq(A:aS)(m:ax)(c:qk):LT (Span×Int) Empty:=.br (A.cr (A.k tQ (m,c)) 0) (.ret ((0,0),(A.k tQ (m,c)))) (.ret ((c.1,(A.cB c.1 m.2.1)),0))
def JU:(ax×qk)->(Span×Int):=λ(m,c)=>(atq af m c).val (Ty.aR [kT,yI])
def asw:aM:=.all [bM,wP] [kT,yI] JU
theorem aqr:Sd 146 asw:=fa (aP ar dK sl 41 [] (λA (m,c)=>atq A m c) (kz (fc Tryz.func146 fz) (sc OE sz)) (λ_ _ _=>LT.bE (by kernel_rfl)))
def MP(A:aS)(m:ax)(c:qk)(f:Int):List Int:=(A.p (A.spl (A.r (A.l c.2.2) (0:Int)) 0 (A.s c.2.2 0 (A.mn (A.l c.2.2) (A.l (A.r (A.l c.2.2) (0:Int)))))) [(A.fF f (A.k Nt (m,c)))])
def abG(A:aS)(m:ax)(c:qk)(f:Int):LT (qk×Int) Empty:=.br (A.cr (A.k y9 (m,c)).2 0) (.ret ((0,0,([]:List Int)),(A.k y9 (m,c)).2)) (.br (A.bK (A.l c.2.2) 8) (.ret ((0,0,([]:List Int)),2)) (.br (A.bD f (A.k y9 (m,c)).1.1) (.ret ((0,0,([]:List Int)),2)) (.br (A.qP f (A.k y9 (m,c)).1.2) (.ret ((0,0,([]:List Int)),2)) (.ap (A.and (A.bU (A.l c.2.2) (A.cB (A.l c.2.2) 1)) (A.and (A.bU 0 (A.l c.2.2)) (A.bU (A.cB (A.l c.2.2) 1) 17592186044416))) (.ap (A.bU (A.l (MP A m c f)) 17592186044416) (.ret ((lp2 c (MP A m c f)),0)))))))
def wE:(ax×qk×Int)->(qk×Int):=λ(m,c,f)=>gS Empty.elim (abG af m c f) (Ty.aR [wP,yI])
def GX:(ax×qk×Int)->Bool:=λ(m,c,f)=>iq Empty.elim (abG af m c f)
def asx:aM:=⟨[bM,wP,yI], [wP,yI],GX,wE,false⟩
theorem aqs:Sd 149 asx:=bp ar dK sl 105 [⟨153,2000000, []⟩] [] (λA (m,c,f)=>abG A m c f) (λ_=>Empty.elim) Empty.elim (kz (fc Tryz.func149 (fc Tryz.func153 fz)) (sc agD (sc agF sz))) (λ_ y=>y.elim) λ((m,c,f):ax×qk×Int) g h=>gb g
structure ah6 where
 (a0:List Int) (a1 a3:Int)
inductive ade where
 | c0 (p:ah6) (a2:Int)
noncomputable def ajh:ade->iH
 | .c0 p a2=>⟨[⟨257,19,(en [(0,.sl yI p.a0),(1,.fn 325 [] [.ptr 0 0]),(7,vi p.a1),(8,vi a2)]),sk Tryz.f257 [1,0,1,0,0],[],none⟩,⟨204,9,.leaf,[.ops (ow Tryz.f204 [1,0]) ((ow Tryz.f204 [1,0]).toList.drop 2),.code .ret],[],none⟩,⟨302,8,.leaf,[.ops (ow Tryz.f302 [1,0]) ((ow Tryz.f302 [1,0]).toList.drop 2),.code .ret],[],none⟩],[.ay false [vi p.a3],.aZ]⟩
def afE(A:aS)(l:List Int)(bound:Int):LT Bool ade:=.ao (.c0 ⟨l,(A.l l),bound⟩ 0)
def U_(A:aS):ade->LT Bool ade
 | .c0 p a2=>.br (A.bD a2 p.a1) (.gQ A a2 p.a0 (.br (A.bD (A.n yI p.a0 a2:Int) (A.u .neg .i64 p.a3)) (.ret (A.qP a2 0)) (.br (A.jw (A.n yI p.a0 a2:Int) p.a3) (.ret (A.qP a2 0)) (.ao (.c0 p (A.cB a2 1)))))) (.ret false)
def Yn:(List Int×Int)->Bool:=λ(l,bound)=>gS (U_ af) (afE af l bound) (Ty.aR [.bool])
def QL:(List Int×Int)->Bool:=λ(l,bound)=>iq (U_ af) (afE af l bound)
def asN:aM:=⟨[BY,yI], [.bool],QL,Yn,false⟩
theorem aqE:Sd 302 asN:=bp ar dK sl 38 [⟨257,2, [[0,1,7,8], [], []]⟩] [] (λA (l,bound)=>afE A l bound) U_ ajh (kz (fc Tryz.func302 (fc Tryz.func204 (fc Tryz.func257 (fc Tryz.func325 (fc Tryz.func326 fz))))) sz) (λA y=>match y with |.c0 p a2=>⟨72,sl,by kernel_rfl⟩) λ((l,bound):List Int×Int) c h=>gb c
structure ahI where
 (a0 a1:Int)
inductive acL where
 | c0 (p:ahI)
noncomputable def aiN:acL->iH
 | .c0 p=>⟨[⟨281,25,(en [(0,.int .u64 false p.a0),(2,vi p.a1)]),[.code (cw Tryz.f281 [1,1,1,1,0]),.code .ret],[],none⟩,⟨229,8,.leaf,[.ops (ow Tryz.f229 [1,1,0]) ((ow Tryz.f229 [1,1,0]).toList.drop 1),.code .ret],[],none⟩],[.aZ]⟩
def ams(A:aS)(c:Int):LT Int acL:=.br (A.qP c 4294967296) (.br (A.qP (A.b .shr .u64 c 32) 65536) (.br (A.qP (A.b .shr .u64 (A.b .shr .u64 c 32) 16) 256) (.ao (.c0 ⟨(A.b .shr .u64 (A.b .shr .u64 (A.b .shr .u64 c 32) 16) 8),56⟩)) (.ao (.c0 ⟨(A.b .shr .u64 (A.b .shr .u64 c 32) 16),48⟩))) (.br (A.qP (A.b .shr .u64 c 32) 256) (.ao (.c0 ⟨(A.b .shr .u64 (A.b .shr .u64 c 32) 8),40⟩)) (.ao (.c0 ⟨(A.b .shr .u64 c 32),32⟩)))) (.br (A.qP c 65536) (.br (A.qP (A.b .shr .u64 c 16) 256) (.ao (.c0 ⟨(A.b .shr .u64 (A.b .shr .u64 c 16) 8),24⟩)) (.ao (.c0 ⟨(A.b .shr .u64 c 16),16⟩))) (.br (A.qP c 256) (.ao (.c0 ⟨(A.b .shr .u64 c 8),8⟩)) (.ao (.c0 ⟨c,0⟩))))
def ak8(A:aS):acL->LT Int acL
 | .c0 p=>.gQ A (A.v .u8 p.a0) ([0,1,2,2,3,3,3,3,4,4,4,4,4,4,4,4,5,5,5,5,5,5,5,5,5,5,5,5,5,5,5,5,6,6,6,6,6,6,6,6,6,6,6,6,6,6,6,6,6,6,6,6,6,6,6,6,6,6,6,6,6,6,6,6,7,7,7,7,7,7,7,7,7,7,7,7,7,7,7,7,7,7,7,7,7,7,7,7,7,7,7,7,7,7,7,7,7,7,7,7,7,7,7,7,7,7,7,7,7,7,7,7,7,7,7,7,7,7,7,7,7,7,7,7,7,7,7,7,8,8,8,8,8,8,8,8,8,8,8,8,8,8,8,8,8,8,8,8,8,8,8,8,8,8,8,8,8,8,8,8,8,8,8,8,8,8,8,8,8,8,8,8,8,8,8,8,8,8,8,8,8,8,8,8,8,8,8,8,8,8,8,8,8,8,8,8,8,8,8,8,8,8,8,8,8,8,8,8,8,8,8,8,8,8,8,8,8,8,8,8,8,8,8,8,8,8,8,8,8,8,8,8,8,8,8,8,8,8,8,8,8,8,8,8,8,8,8,8,8,8,8,8,8,8,8,8]:List UInt8) (.ret (A.cB p.a1 (A.v .i64 (A.byte ([0,1,2,2,3,3,3,3,4,4,4,4,4,4,4,4,5,5,5,5,5,5,5,5,5,5,5,5,5,5,5,5,6,6,6,6,6,6,6,6,6,6,6,6,6,6,6,6,6,6,6,6,6,6,6,6,6,6,6,6,6,6,6,6,7,7,7,7,7,7,7,7,7,7,7,7,7,7,7,7,7,7,7,7,7,7,7,7,7,7,7,7,7,7,7,7,7,7,7,7,7,7,7,7,7,7,7,7,7,7,7,7,7,7,7,7,7,7,7,7,7,7,7,7,7,7,7,7,8,8,8,8,8,8,8,8,8,8,8,8,8,8,8,8,8,8,8,8,8,8,8,8,8,8,8,8,8,8,8,8,8,8,8,8,8,8,8,8,8,8,8,8,8,8,8,8,8,8,8,8,8,8,8,8,8,8,8,8,8,8,8,8,8,8,8,8,8,8,8,8,8,8,8,8,8,8,8,8,8,8,8,8,8,8,8,8,8,8,8,8,8,8,8,8,8,8,8,8,8,8,8,8,8,8,8,8,8,8,8,8,8,8,8,8,8,8,8,8,8,8,8,8,8,8,8,8]:List UInt8) (A.v .u8 p.a0)))))
def af7:Int->Int:=λc=>gS (ak8 af) (ams af c) (Ty.aR [yI])
def LA:Int->Bool:=λc=>iq (ak8 af) (ams af c)
def asg:aM:=⟨[(.int .u64)], [yI],LA,af7,false⟩
theorem aqh:Sd 229 asg:=bp ar dK sl 74 [] [⟨281,10, [[0,2], []]⟩] (λA c=>ams A c) ak8 aiN (kz (fc Tryz.func229 (fc Tryz.func281 fz)) sz) (λA y=>match y with |.c0 p=>⟨17,sl,by kernel_rfl⟩) λ(c:Int) f h=>gb f
structure ah4 where
 (a1 a2:Int) (a5:List Int)
structure Pf where
 (b1 b2:Int) (b3:List Int)
structure ah5 where
 (c1 c2:Int)
inductive adb where
 | c0 (p:ah4)
 | c1 (p:Pf)
 | c2 (p:ah5) (c3:Int) (c4:List Int)
noncomputable def ajg:adb->iH
 | .c0 p=>⟨[⟨327,134,(en [(0,.own 0),(1,vi 0),(2,vi p.a1),(3,vi p.a2),(8,vb true),(9,vb true)]),sk Tryz.f327 [1,1,0,0],[],none⟩,⟨303,11,.leaf,[.ops (ow Tryz.f303 [1]) ((ow Tryz.f303 [1]).toList.drop 5)],[],none⟩,⟨256,38,(en [(5,.own 0)]),(.ops (ow Tryz.f256 [1,1,1,1,0]) ((ow Tryz.f256 [1,1,1,1,0]).toList.drop 1)::sk Tryz.f256 [1,1,1,1,0]),[],none⟩],[.arr false yI p.a5,.aZ]⟩
 | .c1 p=>⟨[⟨336,49,(en [(0,.own 0),(1,vi 0),(2,vi p.b1),(6,vi p.b2)]),sk Tryz.f336 [1,0,0],[],none⟩,⟨327,134,.leaf,(.ops (ow Tryz.f327 [1,1,0,0,0,1,0,1,0,0]) ((ow Tryz.f327 [1,1,0,0,0,1,0,1,0,0]).toList.drop 3)::sk Tryz.f327 [1,1,0,0,0,1,0,1,0,0]),[],none⟩,⟨303,11,.leaf,[.ops (ow Tryz.f303 [1]) ((ow Tryz.f303 [1]).toList.drop 5)],[],none⟩,⟨256,38,(en [(5,.own 0)]),(.ops (ow Tryz.f256 [1,1,1,1,0]) ((ow Tryz.f256 [1,1,1,1,0]).toList.drop 1)::sk Tryz.f256 [1,1,1,1,0]),[],none⟩],[.arr false yI p.b3,.aZ]⟩
 | .c2 p c3 c4=>⟨[⟨336,49,(en [(0,.own 0),(1,vi 0),(2,vi p.c1),(6,vi p.c2),(7,vi c3)]),sk Tryz.f336 [1,0,0,1,0,0,1,0,0],[],none⟩,⟨327,134,.leaf,(.ops (ow Tryz.f327 [1,1,0,0,0,1,0,1,0,0]) ((ow Tryz.f327 [1,1,0,0,0,1,0,1,0,0]).toList.drop 3)::sk Tryz.f327 [1,1,0,0,0,1,0,1,0,0]),[],none⟩,⟨303,11,.leaf,[.ops (ow Tryz.f303 [1]) ((ow Tryz.f303 [1]).toList.drop 5)],[],none⟩,⟨256,38,(en [(5,.own 0)]),(.ops (ow Tryz.f256 [1,1,1,1,0]) ((ow Tryz.f256 [1,1,1,1,0]).toList.drop 1)::sk Tryz.f256 [1,1,1,1,0]),[],none⟩],[.arr false yI c4,.aZ]⟩
def Im(A:aS)(l:List Int):List Int:=(A.spl (A.r (A.l l) (0:Int)) 0 (A.s l 0 (A.mn (A.l l) (A.l (A.r (A.l l) (0:Int))))))
def Al(A:aS)(p:Pf):Int:=(A.fF (A.l p.b3) 1)
def Dg(A:aS)(p:Pf):Int:=(A.fF (Al A p) 1)
def MS(A:aS)(c3:Int)(c4:List Int):Bool:=(A.and (A.bU 0 (A.fF c3 1)) (A.bD (A.fF c3 1) (A.l (A.set c4 c3 (A.n yI c4 (A.fF c3 1):Int)))))
def MU(A:aS)(c3:Int)(c4:List Int):List Int:=(A.set (A.set c4 c3 (A.n yI c4 (A.fF c3 1):Int)) (A.fF c3 1) (A.n yI c4 c3:Int))
def abJ(A:aS)(l:List Int):LT (Int×Int×Int) adb:=.br (A.bK (A.l l) 0) (.ret (0,0,4)) (.ap (A.k QL (l,1099511627776)) (.br (A.k Yn (l,1099511627776)) (.ret (0,0,80)) (.ap (A.and (A.bK (A.l l) (A.l l)) (A.and (A.bU 0 (A.l l)) (A.bU (A.l l) 17592186044416))) (.ap (A.k LA (A.v .u64 (A.l (Im A l)))) (.ao (.c0 ⟨(A.l (Im A l)),(A.k af7 (A.v .u64 (A.l (Im A l)))),(Im A l)⟩))))))
def L8(A:aS):adb->LT (Int×Int×Int) adb
 | .c0 p=>.br (A.bU (A.fF p.a1 0) 12) (.ao (.c1 ⟨p.a1,(A.cB 0 1),p.a5⟩)) (.br (A.bK p.a2 0) (.bT 163 "zsortordered.go:81") (.br (A.not true) (.bT 163 "zsortordered.go:87") (.bT 163 "zsortordered.go:91")))
 | .c1 p=>.br (A.bD p.b2 p.b1) (.ao (.c2 ⟨p.b1,p.b2⟩ p.b2 p.b3)) (.br (A.qP (A.l p.b3) 4) (.ap (A.and (A.bU 0 1) (A.and (A.bU 1 (Al A p)) (A.bU (Al A p) (A.l p.b3)))) (.ap (A.and (A.bU 0 0) (A.bD 0 (Dg A p))) (.ap (A.and (A.bU 0 (A.fF (Dg A p) 1)) (A.bD (A.fF (Dg A p) 1) (Dg A p))) (.ret ((A.n yI p.b3 (A.cB 1 0):Int),(A.n yI p.b3 (A.cB 1 (A.fF (Dg A p) 1)):Int),0))))) (.gQ A 0 p.b3 (.gQ A (Al A p) p.b3 (.ret ((A.n yI p.b3 0:Int),(A.n yI p.b3 (Al A p):Int),0)))))
 | .c2 p c3 c4=>.br (A.jw c3 0) (.gQ A c3 c4 (.gQ A (A.fF c3 1) c4 (.br (A.k DK (A.n yI c4 c3:Int)) (.br (A.not (A.k DK (A.n yI c4 (A.fF c3 1):Int))) (.ap (MS A c3 c4) (.ao (.c2 p (A.fF c3 1) (MU A c3 c4)))) (.br (A.bD (A.n yI c4 c3:Int) (A.n yI c4 (A.fF c3 1):Int)) (.ap (MS A c3 c4) (.ao (.c2 p (A.fF c3 1) (MU A c3 c4)))) (.ao (.c1 ⟨p.c1,(A.cB p.c2 1),c4⟩)))) (.br (A.bD (A.n yI c4 c3:Int) (A.n yI c4 (A.fF c3 1):Int)) (.ap (MS A c3 c4) (.ao (.c2 p (A.fF c3 1) (MU A c3 c4)))) (.ao (.c1 ⟨p.c1,(A.cB p.c2 1),c4⟩)))))) (.ao (.c1 ⟨p.c1,(A.cB p.c2 1),c4⟩))
def A4:(List Int)->(Int×Int×Int):=λl=>gS (L8 af) (abJ af l) (Ty.aR [yI,yI,yI])
def QK:(List Int)->Bool:=λl=>iq (L8 af) (abJ af l)
def asI:aM:=⟨[BY], [yI,yI,yI],QK,A4,false⟩
theorem aqB:Sd 256 asI:=bp ar dK sl 71 [⟨327,2, [[0,1,2,3,8,9], [], [5]]⟩,⟨336,1, [[0,1,2,6], [], [], [5]]⟩,⟨336,4, [[0,1,2,6,7], [], [], [5]]⟩] [] (λA l=>abJ A l) L8 ajg (kz (fc Tryz.func256 (fc Tryz.func303 (fc Tryz.func327 (fc Tryz.func336 (fc Tryz.func342 fz))))) (sc aqh (sc ag5 (sc aqE sz)))) (λA y=>match y with |.c0 p=>⟨43,sl,by kernel_rfl⟩|.c1 p=>⟨52,sl,by kernel_rfl⟩|.c2 p c3 c4=>⟨76,(.kQ [0,0,0,0,0,3,4,4,0,0,4,5,5,0,0,3,4,4]),by kernel_rfl⟩) λ(l:List Int) c h=>gb c
def afB(A:aS)(l:List Int):LT (Int×Int) Empty:=.ap (A.k QK l) (.ret ((A.b .shr .i64 (A.cB (A.k A4 l).1 (A.k A4 l).2.1) 1),(A.k A4 l).2.2))
def NI:(List Int)->(Int×Int):=λl=>gS Empty.elim (afB af l) (Ty.aR [yI,yI])
def QJ:(List Int)->Bool:=λl=>iq Empty.elim (afB af l)
def asD:aM:=⟨[BY], [yI,yI],QJ,NI,false⟩
theorem aqx:Sd 203 asD:=b_ ar dK sl 33 [] (λA l=>afB A l) (kz (fc Tryz.func203 fz) (sc aqB sz)) λ(l:List Int) c h=>gb c
def Il(A:aS)(c:qk):List Int:=(A.p (A.spl (A.r (A.l c.2.2) (0:Int)) 0 (A.s c.2.2 0 (A.mn (A.l c.2.2) (A.l (A.r (A.l c.2.2) (0:Int)))))) ([0]:List Int))
def abH(A:aS)(m:ax)(c:qk):LT (Int×Int) Empty:=.br (A.cr (A.k tQ (m,c)) 0) (.ret (0,(A.k tQ (m,c)))) (.ap (A.and (A.bU (A.l c.2.2) (A.cB (A.l c.2.2) 1)) (A.and (A.bU 0 (A.l c.2.2)) (A.bU (A.cB (A.l c.2.2) 1) 17592186044416))) (.ap (A.bU (A.l (Il A c)) 17592186044416) (.ap (A.k QJ (Il A c)) (.ret (A.k NI (Il A c))))))
def wF:(ax×qk)->(Int×Int):=λ(m,c)=>gS Empty.elim (abH af m c) (Ty.aR [yI,yI])
def QH:(ax×qk)->Bool:=λ(m,c)=>iq Empty.elim (abH af m c)
def asy:aM:=⟨[bM,wP], [yI,yI],QH,wF,false⟩
theorem aqt:Sd 152 asy:=bp ar dK sl 68 [⟨153,2000000, []⟩] [] (λA (m,c)=>abH A m c) (λ_=>Empty.elim) Empty.elim (kz (fc Tryz.func152 (fc Tryz.func153 fz)) (sc OE (sc aqx sz))) (λ_ y=>y.elim) λ((m,c):ax×qk) f h=>gb f
def Ij:qk:=(0,0,([]:List Int))
def afq(A:aS)(m:ax)(c:qk)(f:Int):LT (qk×Int) Empty:=.ap (A.k QH (m,c)) (.br (A.cr (A.k wF (m,c)).2 0) (.ret ((Ij),(A.k wF (m,c)).2)) (.br (A.bD f (A.u .neg .i64 m.2.2.2.2.1)) (.ret ((Ij),2)) (.br (A.jw f m.2.2.2.2.1) (.ret ((Ij),2)) (.ap (A.cr m.1 0) (.br (A.bK (A.b .rem .i64 (A.cB c.2.1 1) m.1) 0) (.br (A.not (A.k FU (m,(A.cB (A.cB c.1 (A.cB m.2.1 f)) (A.k wF (m,c)).1),(A.cB c.2.1 1),([]:List Int)))) (.ret ((Ij),130)) (.ret (((A.cB (A.cB c.1 (A.cB m.2.1 f)) (A.k wF (m,c)).1),(A.cB c.2.1 1),([]:List Int)),0))) (.ap (A.k ZQ (c.2.2,0)) (.br (A.not (A.k FU (m,(A.cB c.1 (A.cB m.2.1 f)),(A.cB c.2.1 1),(A.k Yh (c.2.2,0))))) (.ret ((Ij),130)) (.ret (((A.cB c.1 (A.cB m.2.1 f)),(A.cB c.2.1 1),(A.k Yh (c.2.2,0))),0)))))))))
def JQ:(ax×qk×Int)->(qk×Int):=λ(m,c,f)=>gS Empty.elim (afq af m c f) (Ty.aR [wP,yI])
def QC:(ax×qk×Int)->Bool:=λ(m,c,f)=>iq Empty.elim (afq af m c f)
def ass:aM:=⟨[bM,wP,yI], [wP,yI],QC,JQ,false⟩
theorem aqo:Sd 100 ass:=b_ ar dK sl 102 [] (λA (m,c,f)=>afq A m c f) (kz (fc Tryz.func100 fz) (sc aaB (sc aqt (sc aqu sz)))) λ((m,c,f):ax×qk×Int) g h=>gb g
def uM:List Int:=([]:List Int)
abbrev abF(A:aS)(m:ax)(c:Int):LT (qk×Int) Empty:=(.br (A.not (A.k FU (m,(-1),c,(uM)))) (.ret ((0,0,(uM)),130)) (.ret (((-1),c,(uM)),0)))
def afx(A:aS)(m:ax)(f:Int)(c:Int):LT (qk×Int) Empty:=.br (A.cr (A.k jM m) 0) (.ret ((0,0,(uM)),(A.k jM m))) (.br (A.bD c 0) (.ret ((0,0,(uM)),2)) (.br (A.qP c m.1) (.ret ((0,0,(uM)),2)) (.br (A.qP f 0) (.br (A.bU f 1099511627776) (.br (A.not (A.k FU (m,(A.fF f (A.cB m.2.2.1 m.2.2.2.2.2.1)),c,(uM)))) (.ret ((0,0,(uM)),130)) (.ret (((A.fF f (A.cB m.2.2.1 m.2.2.2.2.2.1)),c,(uM)),0))) (abF A m c)) (abF A m c))))
def q9:(ax×Int×Int)->(qk×Int):=λ(m,c,f)=>(afx af m c f).val (Ty.aR [wP,yI])
def asv:aM:=.all [bM,yI,yI] [wP,yI] q9
theorem aqp:Sd 144 asv:=fa (aP ar dK sl 85 [] (λA (m,c,f)=>afx A m c f) (kz (fc Tryz.func144 fz) (sc BF (sc aaB sz))) (λ_ _ _=>LT.bE (by kernel_rfl)))
abbrev ahb(A:aS)(s:ia)(c:Int)(f:Int)(node:Int):=(A.b .rem .i64 (A.cB (A.b .mul .i64 f c) node) (A.l s.2.2.2.2.2.1))
def afr(A:aS)(s:ia)(c:Int)(f:Int)(node:Int):LT Int Empty:=.br (A.bK (A.l s.2.2.2.2.2.1) 0) (.ret 0) (.br (A.bD f 0) (.ret 0) (.br (A.bD node 0) (.ret 0) (.br (A.bD c 1) (.ret 0) (.br (A.jw (A.mx (A.mx f node) c) 1048576) (.ret 0) (.pq A s.2.2.2.2.2.1 (.gQ A (ahb A s c f node) s.2.2.2.2.2.1 (.ret (A.n yI s.2.2.2.2.2.1 (ahb A s c f node):Int))))))))
def zd:(ia×Int×Int×Int)->Int:=λ(s,c,f,node)=>gS Empty.elim (afr af s c f node) (Ty.aR [yI])
def LJ:(ia×Int×Int×Int)->Bool:=λ(s,c,f,node)=>iq Empty.elim (afr af s c f node)
def ast:aM:=⟨[oq,yI,yI,yI], [yI],LJ,zd,false⟩
theorem ag0:Sd 101 ast:=b_ ar dK sl 57 [] (λA (s,c,f,node)=>afr A s c f node) (kz (fc Tryz.func101 fz) sz) λ((s,c,f,node):ia×Int×Int×Int) g h=>gb g
def atx(A:aS)(m:ax)(c:qk)(off:Int)(id:Int)(f:Int):LT (Span×Int) Empty:=.br (A.cr (A.k tQ (m,c)) 0) (.ret ((0,0),(A.k tQ (m,c)))) (.br (A.bD id 0) (.ret ((0,0),2)) (.br (A.qP id m.1) (.ret ((0,0),2)) (.br (A.bD f 0) (.ret ((0,0),2)) (.br (A.qP f m.1) (.ret ((0,0),2)) (.br (A.bD off (A.u .neg .i64 (A.b .quo .i64 m.2.2.2.1 2))) (.ret ((0,0),2)) (.br (A.jw off (A.b .quo .i64 m.2.2.2.1 2)) (.ret ((0,0),2)) (.br (A.cr id f) (.ret ((0,0),0)) (.ret (((A.mx (A.fF (A.cB c.1 (A.cB off m.2.2.1)) m.2.2.2.1) 0),(A.cB (A.cB (A.cB c.1 (A.cB off m.2.2.1)) (A.k Nv m)) m.2.2.2.1)),0)))))))))
def af_:(ax×qk×Int×Int×Int)->(Span×Int):=λ(m,c,off,id,f)=>(atx af m c off id f).val (Ty.aR [kT,yI])
def asJ:aM:=.all [bM,wP,yI,yI,yI] [kT,yI] af_
theorem aqC:Sd 264 asJ:=fa (aP ar dK sl 130 [] (λA (m,c,off,id,f)=>atx A m c off id f) (kz (fc Tryz.func264 fz) (sc OE (sc aaC sz))) (λ_ _ _=>LT.bE (by kernel_rfl)))
def Rn:(Int×Span×Int×Int×List Int)×Bool:=((0,(0,0),0,0,([]:List Int)),false)
def aty(A:aS)(c:Span)(s:gm):LT (gm×Bool) Empty:=.br (A.cr (A.k R1 s) 0) (.ret (Rn)) (.br (A.cr (A.k FV c) 0) (.ret (Rn)) (.br (A.not (A.k Yk (s.2.1,c))) (.ret (Rn)) (.br (A.k Yl (s.2.1,c)) (.ret ((lp4 s (A.k nI s.2.2.2.2)),true)) (.ret ((lp4 (up3 (zt s ((A.mx s.2.1.1 c.1),(A.mn s.2.1.2 c.2))) (0:Int)) ([]:List Int)),true)))))
def Sw:(Span×gm)->(gm×Bool):=λ(c,s)=>(aty af c s).val (Ty.aR [jG,.bool])
def asK:aM:=.all [kT,jG] [jG,.bool] Sw
theorem aqD:Sd 265 asK:=fa (aP ar dK sl 79 [] (λA (c,s)=>aty A c s) (kz (fc Tryz.func265 fz) (sc D3 (sc aaD (sc OG (sc ag3 (sc ag4 sz)))))) (λ_ _ _=>LT.bE (by kernel_rfl)))
structure Ky where
 (a0:List fO) (a1:Int) (a3:Bool×ax×ia×Unit) (a4 a5:Int) (a6:fB) (a7 a8 a9 jd:Bool×ax×ia×Unit) (kU:List fO) (a12 Dl Ju MZ:Int) (O2:fB) (O3:Int) (a20:List fO) (a21:Int)
inductive ac2 where
 | c0 (p:Ky) (a2:Int)
noncomputable def ai7:ac2->iH
 | .c0 p a2=>⟨[⟨219,36,(en [(0,.yield 0),(2,.ptr 1 0),(3,.ptr 2 0),(7,.sl eY p.a0),(8,vi p.a1),(9,vi a2)]),sk Tryz.f219 [1,0,0],[],none⟩,⟨106,34,(en [(8,.ptr 3 0),(9,.ptr 4 0)]),[.oI 0,.inBlock 0,.code (cw Tryz.f106 [1,1])],[5],none⟩],[.loop ⟨106,34,(en [(0,.pj (.struct [.bool,bM,oq,(.any 8)]) p.a3 0),(1,vi p.a4),(2,vi p.a5),(3,.agg (dc ir p.a6)),(5,.ptr 7 0),(6,.ptr 9 0),(7,.ptr 6 0),(8,.ptr 3 0),(9,.ptr 4 0),(11,.pj (.struct [.bool,bM,oq,(.any 8)]) p.a7 0),(12,.pj (.struct [.bool,bM,oq,(.any 8)]) p.a8 0),(13,.pj (.struct [.bool,bM,oq,(.any 8)]) p.a9 9),(14,.pj (.struct [.bool,bM,oq,(.any 8)]) p.jd 16),(15,.sl eY p.kU),(16,.ptr 6 0),(17,vi p.a12),(18,.ptr 6 1),(19,vi p.Dl),(20,.fn 219 [] [.ptr 8 0,.ptr 1 0,.ptr 2 0])]),[21],(cw Tryz.f106 [1,0,1,0,0]),(cw Tryz.f106 [1,0,1,0,1]),0,none⟩,.ay false [vi p.Ju],.ay false [vi p.MZ],.ay false [vi 0,vi 0,vi 0,vi 0,vi 0,vi 0,vi 0],.ay false [vb false],.It,.ay false (dc ir p.O2),.ay false [vi p.O3],.ay false [.sl eY p.a20],.ay false [vi p.a21],.aZ]⟩
def qd(A:aS)(p:Ky)(a2:Int):fO:=(A.n eY p.a0 a2:fO)
def abB(A:aS)(j:Bool)(l:ax)(f:ia)(g:Int)(node:Int)(c:fB):LT (fO×Bool) ac2:=.ap (A.k Qp f.2.2.2.2.2.2.2) (.ao (.c0 ⟨(A.k F3 f.2.2.2.2.2.2.2),(A.l (A.k F3 f.2.2.2.2.2.2.2)),(j,l,f,()),g,node,c,(j,l,f,()),(j,l,f,()),(j,l,f,()),(j,l,f,()),f.2.2.2.2.2.2.2,c.1,c.2.1,c.1,c.2.1,c,g,(A.k F3 f.2.2.2.2.2.2.2),node⟩ 0))
def Ek(A:aS):ac2->LT (fO×Bool) ac2
 | .c0 p a2=>.br (A.bD a2 p.a1) (.gQ A a2 p.a0 (.br (A.bK (qd A p a2).2.2.2.1 p.Ju) (.br (A.bK (qd A p a2).2.2.2.2.1 p.MZ) (.br (A.bK (qd A p a2).1 p.O3) (.br (A.bK (qd A p a2).2.1 p.a21) (.ret ((qd A p a2),true)) (.ao (.c0 p (A.cB a2 1)))) (.ao (.c0 p (A.cB a2 1)))) (.br (A.not (A.k ND (qd A p a2).1)) (.br (A.bK (qd A p a2).1 p.O3) (.br (A.bK (qd A p a2).2.1 p.a21) (.ret ((qd A p a2),true)) (.ao (.c0 p (A.cB a2 1)))) (.ao (.c0 p (A.cB a2 1)))) (.ao (.c0 p (A.cB a2 1))))) (.ao (.c0 p (A.cB a2 1))))) (.ret ((0,0,0,0,0,0,0),false))
def gU:(Bool×ax×ia×Unit)×(Int×Int×fB)->(fO×Bool):=λ((g,j,l,()),(f,node,c))=>gS (Ek af) (abB af g j l f node c) (Ty.aR [eY,.bool])
def ji:(Bool×ax×ia×Unit)×(Int×Int×fB)->Bool:=λ((g,j,l,()),(f,node,c))=>iq (Ek af) (abB af g j l f node c)
def ao1:qm:=⟨(.struct [.bool,bM,oq,(.any 8)]), [yI,yI,ir], [eY,.bool],ji,gU⟩
theorem Od:qm.bH Tryz.prog 106 ao1:=BH ar dK sl 57 [⟨219,1, [[0,2,3,7,8,9], [8,9]]⟩] [] (λA ((g,j,l,()),(f,node,c))=>abB A g j l f node c) Ek ai7 (kz (fc Tryz.func106 (fc Tryz.func164 (fc Tryz.func219 fz))) (sc agW (sc agX sz))) (λA y=>match y with |.c0 p a2=>⟨77,sl,by kernel_rfl⟩) λ((g,j,l,()),(f,node,c)) m n h=>gb m
structure WB where
 (a0:List fO) (a1:Int) (a3:Bool×ax×ia×Unit) (a4:Int) (a5:fB) (a6 a7 a8 a9:Bool×ax×ia×Unit) (jd:List fO) (kU a12 Dl Ju:Int) (a16:fB) (a17:List fO) (O2:Int)
inductive ac8 where
 | c0 (p:WB) (a2:Int)
noncomputable def ajc:ac8->iH
 | .c0 p a2=>⟨[⟨219,36,(en [(0,.yield 0),(2,.ptr 1 0),(3,.ptr 2 0),(7,.sl eY p.a0),(8,vi p.a1),(9,vi a2)]),sk Tryz.f219 [1,0,0],[],none⟩,⟨160,28,(en [(6,.ptr 3 0)]),[.oI 0,.inBlock 0,.code (cw Tryz.f160 [1,1])],[4],none⟩],[.loop ⟨160,28,(en [(0,.pj (.struct [.bool,bM,oq,(.any 8)]) p.a3 0),(1,vi p.a4),(2,.agg (dc ir p.a5)),(4,.ptr 7 0),(5,.ptr 5 0),(6,.ptr 3 0),(8,.pj (.struct [.bool,bM,oq,(.any 8)]) p.a6 0),(9,.pj (.struct [.bool,bM,oq,(.any 8)]) p.a7 0),(10,.pj (.struct [.bool,bM,oq,(.any 8)]) p.a8 9),(11,.pj (.struct [.bool,bM,oq,(.any 8)]) p.a9 16),(12,.sl eY p.jd),(13,.ptr 5 0),(14,vi p.kU),(15,.ptr 5 1),(16,vi p.a12),(17,.fn 219 [] [.ptr 6 0,.ptr 1 0,.ptr 2 0])]),[18],(cw Tryz.f160 [1,0,1,0,0]),(cw Tryz.f160 [1,0,1,0,1]),0,none⟩,.ay false [vi p.Dl],.ay false [vi p.Ju],.ay false [vb false],.It,.ay false (dc ir p.a16),.ay false [.sl eY p.a17],.ay false [vi p.O2],.aZ]⟩
def afz(A:aS)(j:Bool)(l:ax)(g:ia)(f:Int)(c:fB):LT Bool ac8:=.ap (A.k Qp g.2.2.2.2.2.2.2) (.ao (.c0 ⟨(A.k F3 g.2.2.2.2.2.2.2),(A.l (A.k F3 g.2.2.2.2.2.2.2)),(j,l,g,()),f,c,(j,l,g,()),(j,l,g,()),(j,l,g,()),(j,l,g,()),g.2.2.2.2.2.2.2,c.1,c.2.1,c.1,c.2.1,c,(A.k F3 g.2.2.2.2.2.2.2),f⟩ 0))
def QT(A:aS):ac8->LT Bool ac8
 | .c0 p a2=>.br (A.bD a2 p.a1) (.gQ A a2 p.a0 (.br (A.bK (A.n eY p.a0 a2:fO).2.2.2.1 p.Dl) (.br (A.bK (A.n eY p.a0 a2:fO).2.2.2.2.1 p.Ju) (.br (A.bK (A.n eY p.a0 a2:fO).1 5) (.br (A.bK (A.n eY p.a0 a2:fO).2.2.1 p.O2) (.ret true) (.ao (.c0 p (A.cB a2 1)))) (.ao (.c0 p (A.cB a2 1)))) (.br (A.not (A.k ND (A.n eY p.a0 a2:fO).1)) (.br (A.bK (A.n eY p.a0 a2:fO).1 5) (.br (A.bK (A.n eY p.a0 a2:fO).2.2.1 p.O2) (.ret true) (.ao (.c0 p (A.cB a2 1)))) (.ao (.c0 p (A.cB a2 1)))) (.ao (.c0 p (A.cB a2 1))))) (.ao (.c0 p (A.cB a2 1))))) (.ret false)
def Yi:(Bool×ax×ia×Unit)×(Int×fB)->Bool:=λ((g,j,l,()),(f,c))=>gS (QT af) (afz af g j l f c) (Ty.aR [.bool])
def LL:(Bool×ax×ia×Unit)×(Int×fB)->Bool:=λ((g,j,l,()),(f,c))=>iq (QT af) (afz af g j l f c)
def ao2:qm:=⟨(.struct [.bool,bM,oq,(.any 8)]), [yI,ir], [.bool],LL,Yi⟩
theorem aoY:qm.bH Tryz.prog 160 ao2:=BH ar dK sl 55 [⟨219,1, [[0,2,3,7,8,9], [6]]⟩] [] (λA ((g,j,l,()),(f,c))=>afz A g j l f c) QT ajc (kz (fc Tryz.func160 (fc Tryz.func164 (fc Tryz.func219 fz))) (sc agW (sc agX sz))) (λA y=>match y with |.c0 p a2=>⟨76,sl,by kernel_rfl⟩) λ((g,j,l,()),(f,c)) m n h=>gb m
def xR(A:aS)(g:Net)(f:Int)(c:Int)(node:Int)(n:Int):qU×Int×Int×Int×Int:=((A.k gB (g.2.2.2.2.2.1,())).1,(A.mx f (A.k gB (g.2.2.2.2.2.1,())).2),c,node,n)
def abw(A:aS)(g:Net)(f:Int)(c:Int)(node:Int)(n:Int):LT (Net×Unit) Empty:=.ap (A.k rD (g.2.2.2.2.2.1,())) (.br (A.bU (A.mx f (A.k gB (g.2.2.2.2.2.1,())).2) g.2.2.2.2.1) (.ap (A.k QG (xR A g f c node n)) (.br (A.cr (A.k wD (xR A g f c node n)).2 0) (.ap (A.k rD ((A.k wD (xR A g f c node n)).1,())) (.ret ((wu (TU g (A.mn g.2.2.2.2.1 (A.k gB ((A.k wD (xR A g f c node n)).1,())).2)) (A.k gB ((A.k wD (xR A g f c node n)).1,())).1),()))) (.ret ((wu g (A.k wD (xR A g f c node n)).1),())))) (.ret ((wu g (A.k gB (g.2.2.2.2.2.1,())).1),())))
def tX:Net×(Int×Int×Int×Int)->Net×Unit:=λ(g,(f,c,node,n))=>gS Empty.elim (abw af g f c node n) (Ty.aR [lD],Ty.aR [])
def qG:Net×(Int×Int×Int×Int)->Bool:=λ(g,(f,c,node,n))=>iq Empty.elim (abw af g f c node n)&&decide (VF.lens [fN] (tX (g,(f,c,node,n))).1=VF.lens [fN] ((g,(f,c,node,n)):Net×(Int×Int×Int×Int)).1)
def aop:cd:=⟨[fN], [yI,yI,yI,yI], [],qG,tX,false,false⟩
theorem Za:cd.bH Tryz.prog 81 aop:=bP ar dK sl 56 [] [] (λA (g,(f,c,node,n))=>abw A g f c node n) (λ_=>Empty.elim) Empty.elim ⟨(fc Tryz.func81 fz),sz,oz,iz,(mc NY (mc an7 mz)),pz⟩ (λ_ y=>y.elim) (λ((g,(f,c,node,n)):Net×(Int×Int×Int×Int)) j l h=>Iw j) (z:=λ_ _ h=>Ip h)
def abm(A:aS)(g:Net)(f:Int)(c:Int)(node:Int):LT (Net×Unit) Empty:=.br (A.cr c 3) (.br (A.bD node (A.l g.2.2.2.2.2.2.1)) (.gQ A node g.2.2.2.2.2.2.1 (.ap (A.k qG (g,f,c,node,(A.n bO g.2.2.2.2.2.2.1 node:cm).2.2.2.2.1)) (.pq A g.2.2.2.2.2.2.1 (.ret ((A.k tX (g,f,c,node,(A.n bO g.2.2.2.2.2.2.1 node:cm).2.2.2.2.1)).1,()))))) (.ap (A.k qG (g,f,c,node,0)) (.pq A g.2.2.2.2.2.2.1 (.ret ((A.k tX (g,f,c,node,0)).1,()))))) (.ap (A.k qG (g,f,c,node,0)) (.pq A g.2.2.2.2.2.2.1 (.ret ((A.k tX (g,f,c,node,0)).1,()))))
def tW:Net×(Int×Int×Int)->Net×Unit:=λ(g,(f,c,node))=>gS Empty.elim (abm af g f c node) (Ty.aR [lD],Ty.aR [])
def vO:Net×(Int×Int×Int)->Bool:=λ(g,(f,c,node))=>iq Empty.elim (abm af g f c node)&&decide (VF.lens [fN] (tW (g,(f,c,node))).1=VF.lens [fN] ((g,(f,c,node)):Net×(Int×Int×Int)).1)
def aog:cd:=⟨[fN], [yI,yI,yI], [],vO,tW,false,false⟩
theorem J7:cd.bH Tryz.prog 42 aog:=bP ar dK sl 45 [] [] (λA (g,(f,c,node))=>abm A g f c node) (λ_=>Empty.elim) Empty.elim ⟨(fc Tryz.func42 fz),sz,oz,iz,(mc Za mz),pz⟩ (λ_ y=>y.elim) (λ((g,(f,c,node)):Net×(Int×Int×Int)) j l h=>Iw j) (z:=λ_ _ h=>Ip h)
def MQ(A:aS)(f:Net)(i:Int):List cm:=(md A bO f.2.2.2.2.2.2.1 i λ(c:cm)=>(TU c (A.cB c.2.2.2.2.1 1)))
def MR(A:aS)(c:Net)(i:Int):Net×Int×Int×Int:=((rv (wu c (A.k gB ((A.k gB (c.2.2.2.2.2.1,())).1,())).1) (md A bO (MQ A c i) i λ(f:cm)=>(up3 f (A.k gB (c.2.2.2.2.2.1,())).2))),(A.cB (A.k gB ((A.k gB (c.2.2.2.2.2.1,())).1,())).2 c.2.1.2.1),2,i)
def abI(A:aS)(c:Net)(i:Int):LT (Net×Unit) Empty:=.gQ A i c.2.2.2.2.2.2.1 (.ap (A.k rD (c.2.2.2.2.2.1,())) (.ap (A.k rD ((A.k gB (c.2.2.2.2.2.1,())).1,())) (.ap (A.k vO (MR A c i)) (.pq A (md A bO (MQ A c i) i λ(f:cm)=>(up3 f (A.k gB (c.2.2.2.2.2.1,())).2)) (.ret ((A.k tW (MR A c i)).1,()))))))
def JV:Net×Int->Net×Unit:=λ(c,i)=>gS Empty.elim (abI af c i) (Ty.aR [lD],Ty.aR [])
def LM:Net×Int->Bool:=λ(c,i)=>iq Empty.elim (abI af c i)&&decide (VF.lens [fN] (JV (c,i)).1=VF.lens [fN] ((c,i):Net×Int).1)
def aoB:cd:=⟨[fN], [yI], [],LM,JV,false,false⟩
theorem agq:cd.bH Tryz.prog 163 aoB:=bP ar dK sl 55 [] [] (λA (c,i)=>abI A c i) (λ_=>Empty.elim) Empty.elim ⟨(fc Tryz.func163 fz),sz,oz,iz,(mc J7 (mc NY mz)),pz⟩ (λ_ y=>y.elim) (λ((c,i):Net×Int) f g h=>Iw f) (z:=λ_ _ h=>Ip h)
def MG(A:aS)(c:Net)(i:Int):Net×Int×Int×Int:=(c,(A.cB (A.cB (A.n bO c.2.2.2.2.2.2.1 i:cm).2.1.1 (A.cB (A.cB (A.cB c.2.1.2.2.1 (A.k Nv c.2.1)) c.2.1.2.2.2.2.2.1) (A.b .mul .i64 2 c.2.1.2.2.2.1))) 2),1,i)
def abz(A:aS)(c:Net)(i:Int):LT (Net×Unit) Empty:=.gQ A i c.2.2.2.2.2.2.1 (.ap (A.k vO (MG A c i)) (.pq A c.2.2.2.2.2.2.1 (.ret ((A.k tW (MG A c i)).1,()))))
def F6:Net×Int->Net×Unit:=λ(c,i)=>gS Empty.elim (abz af c i) (Ty.aR [lD],Ty.aR [])
def CL:Net×Int->Bool:=λ(c,i)=>iq Empty.elim (abz af c i)&&decide (VF.lens [fN] (F6 (c,i)).1=VF.lens [fN] ((c,i):Net×Int).1)
def aov:cd:=⟨[fN], [yI], [],CL,F6,false,false⟩
theorem Zb:cd.bH Tryz.prog 104 aov:=bP ar dK sl 46 [] [] (λA (c,i)=>abz A c i) (λ_=>Empty.elim) Empty.elim ⟨(fc Tryz.func104 fz),(sc aaC sz),oz,iz,(mc J7 mz),pz⟩ (λ_ y=>y.elim) (λ((c,i):Net×Int) f g h=>Iw f) (z:=λ_ _ h=>Ip h)
def ab4(A:aS)(c:Net)(i:Int)(on:Bool):List cm:=(A.set c.2.2.2.2.2.2.1 i ((A.k R3 (c.2.1,(A.n bO c.2.2.2.2.2.2.1 i:cm).1,on)).1,(A.n bO c.2.2.2.2.2.2.1 i:cm).2))
def ab5(A:aS)(f:Net)(i:Int)(on:Bool):List cm:=(md A bO (ab4 A f i on) i λ(c:cm)=>(TU c (A.cB c.2.2.2.2.1 1)))
def ab6(A:aS)(f:Net)(i:Int)(on:Bool):List cm:=(md A bO (ab5 A f i on) i λ(c:cm)=>(wu c false))
def ab7(A:aS)(f:Net)(i:Int)(on:Bool):List cm:=(md A bO (ab6 A f i on) i λ(c:cm)=>(rv c false))
def De(A:aS)(f:Net)(i:Int)(on:Bool):List cm:=(md A bO (ab7 A f i on) i λ(c:cm)=>(lp7 c false))
def abA(A:aS)(c:Net)(i:Int)(on:Bool):LT (Net×Unit) Empty:=.gQ A i c.2.2.2.2.2.2.1 (.br (A.cr (A.k R3 (c.2.1,(A.n bO c.2.2.2.2.2.2.1 i:cm).1,on)).2 0) (.ret (c,())) (.br on (.ap (A.k LM ((rv c (De A c i on)),i)) (.pq A (De A c i on) (.ret ((A.k JV ((rv c (De A c i on)),i)).1,())))) (.ret ((rv c (De A c i on)),()))))
def xf:Net×(Int×Bool)->Net×Unit:=λ(c,(i,on))=>gS Empty.elim (abA af c i on) (Ty.aR [lD],Ty.aR [])
def uH:Net×(Int×Bool)->Bool:=λ(c,(i,on))=>iq Empty.elim (abA af c i on)&&decide (VF.lens [fN] (xf (c,(i,on))).1=VF.lens [fN] ((c,(i,on)):Net×(Int×Bool)).1)
def aow:cd:=⟨[fN], [yI,.bool], [],uH,xf,false,false⟩
theorem Zc:cd.bH Tryz.prog 105 aow:=bP ar dK sl 87 [] [] (λA (c,(i,on))=>abA A c i on) (λ_=>Empty.elim) Empty.elim ⟨(fc Tryz.func105 fz),(sc apF sz),oz,iz,(mc agq mz),pz⟩ (λ_ y=>y.elim) (λ((c,(i,on)):Net×(Int×Bool)) f g h=>Iw f) (z:=λ_ _ h=>Ip h)
def amH(A:aS)(f:Net)(i:Int)(n:Node)(c:Int):List cm:=(md A bO (md A bO f.2.2.2.2.2.2.1 i λ(g:cm)=>(up0 g n)) i λ(j:cm)=>(zt j (A.k q9 (f.2.1,c,n.2.2.1.2.1)).1))
def amI(A:aS)(g:Net)(i:Int)(n:Node)(c:Int):List cm:=(md A bO (amH A g i n c) i λ(f:cm)=>(TU f (A.cB f.2.2.2.2.1 1)))
def Mz(A:aS)(g:Net)(i:Int)(n:Node)(c:Int):List cm:=(md A bO (amI A g i n c) i λ(f:cm)=>(wu f true))
def abx(A:aS)(f:Net)(i:Int)(n:Node)(c:Int):LT (Net×Unit) Empty:=.gQ A i f.2.2.2.2.2.2.1 (.br (A.cr (A.k q9 (f.2.1,c,n.2.2.1.2.1)).2 0) (.ret (f,())) (.br (A.not (A.k Sf (n.2.2.1,n.2.2.1.2.1))) (.ret (f,())) (.ap (A.k CL ((rv f (md A bO (Mz A f i n c) i λ(g:cm)=>(rv g false))),i)) (.pq A (md A bO (Mz A f i n c) i λ(g:cm)=>(rv g false)) (.ret ((A.k F6 ((rv f (md A bO (Mz A f i n c) i λ(g:cm)=>(rv g false))),i)).1,()))))))
def Sr:Net×(Int×Node×Int)->Net×Unit:=λ(f,(i,n,c))=>gS Empty.elim (abx af f i n c) (Ty.aR [lD],Ty.aR [])
def QA:Net×(Int×Node×Int)->Bool:=λ(f,(i,n,c))=>iq Empty.elim (abx af f i n c)&&decide (VF.lens [fN] (Sr (f,(i,n,c))).1=VF.lens [fN] ((f,(i,n,c)):Net×(Int×Node×Int)).1)
def aor:cd:=⟨[fN], [yI,fA,yI], [],QA,Sr,false,false⟩
theorem an1:cd.bH Tryz.prog 95 aor:=bP ar dK sl 95 [] [] (λA (f,(i,n,c))=>abx A f i n c) (λ_=>Empty.elim) Empty.elim ⟨(fc Tryz.func95 fz),(sc agP (sc aqp sz)),oz,iz,(mc Zb mz),pz⟩ (λ_ y=>y.elim) (λ((f,(i,n,c)):Net×(Int×Node×Int)) g j h=>Iw g) (z:=λ_ _ h=>Ip h)
structure Pe where
 (a0:List fO) (a1:Int) (a3:Net) (a5 a6:Int) (a7:fB) (a8:gm)
inductive ac_ where
 | c0 (p:Pe) (a2:Int)
noncomputable def aje:ac_->iH
 | .c0 p a2=>⟨[⟨332,19,(en [(0,.sl eY p.a0),(1,.fn 310 [] [.ptr 2 0,.ptr 3 0,.ptr 4 0]),(7,vi p.a1),(8,vi a2)]),sk Tryz.f332 [1,0,1,0,0],[],none⟩,⟨309,9,.leaf,[.ops (ow Tryz.f309 [1,0]) ((ow Tryz.f309 [1,0]).toList.drop 2),.code .ret],[],none⟩,⟨262,16,.leaf,[.ops (ow Tryz.f262 [1,0]) ((ow Tryz.f262 [1,0]).toList.drop 6),.code .ret],[],none⟩,⟨212,53,(en [(0,.ptr 0 0),(5,.ptr 5 0),(6,.ptr 6 0),(7,.ptr 7 0),(8,.ptr 8 0)]),(.ops (ow Tryz.f212 [1,0,0]) ((ow Tryz.f212 [1,0,0]).toList.drop 4)::sk Tryz.f212 [1,0,0]),[],none⟩],[yY p.a3 9 1 10 11 12 13,yT p.a3,.ay false [vi 11],.ay false [vi p.a5],.ay false [.fn 263 [] [.ptr 5 0]],.ay false [vi p.a6],.ay false (dc ir p.a7),.ay false (dc jG p.a8),.ay false [vi 0,vi 0,vi 0,vi 0,vi 0,.gi true],yW p.a3 14,yR p.a3,bxB p.a3,yX p.a3,yV p.a3,yS p.a3,.aZ]⟩
def Df(A:aS)(p:Pe):sH:=(A.k af_ (p.a3.2.1,(A.n bO p.a3.2.2.2.2.2.2.1 p.a6:cm).2.1,(A.n yI p.a3.2.2.1.2.2.2.2.1 p.a6:Int),p.a6,p.a7.2.1))
def afC(A:aS)(f:Net)(i:Int)(c:fB)(s:gm):LT (Net×(gm×Bool)) ac_:=.ao (.c0 ⟨f.2.2.1.2.2.2.2.2.2.2,(A.l f.2.2.1.2.2.2.2.2.2.2),f,c.1,i,c,s⟩ 0)
def Ox(A:aS):ac_->LT (Net×(gm×Bool)) ac_
 | .c0 p a2=>.br (A.bD a2 p.a1) (.gQ A a2 p.a0 (.br (A.bK (A.n eY p.a0 a2:fO).1 11) (.br (A.bU (A.n eY p.a0 a2:fO).2.2.2.1 p.a5) (.br (A.bK (A.n eY p.a0 a2:fO).2.1 p.a6) (.br (A.qP a2 0) (.ret (p.a3,p.a8,true)) (.gQ A p.a6 p.a3.2.2.2.2.2.2.1 (.gQ A p.a6 p.a3.2.2.1.2.2.2.2.1 (.br (A.cr (Df A p).2 0) (.ret (p.a3,(0,(0,0),0,0,([]:List Int)),false)) (.ret (p.a3,(A.k Sw ((Df A p).1,p.a8)))))))) (.ao (.c0 p (A.cB a2 1)))) (.ao (.c0 p (A.cB a2 1)))) (.ao (.c0 p (A.cB a2 1))))) (.gQ A p.a6 p.a3.2.2.2.2.2.2.1 (.gQ A p.a6 p.a3.2.2.1.2.2.2.2.1 (.br (A.cr (Df A p).2 0) (.ret (p.a3,(0,(0,0),0,0,([]:List Int)),false)) (.ret (p.a3,(A.k Sw ((Df A p).1,p.a8)))))))
def jN:Net×(Int×fB×gm)->Net×(gm×Bool):=λ(f,(i,c,s))=>gS (Ox af) (afC af f i c s) (Ty.aR [lD],Ty.aR [jG,.bool])
def mG:Net×(Int×fB×gm)->Bool:=λ(f,(i,c,s))=>iq (Ox af) (afC af f i c s)&&decide (VF.lens [fN] (jN (f,(i,c,s))).1=VF.lens [fN] ((f,(i,c,s)):Net×(Int×fB×gm)).1)
def aoC:cd:=⟨[fN], [yI,ir,jG], [jG,.bool],mG,jN,false,false⟩
theorem agr:cd.bH Tryz.prog 212 aoC:=bP ar dK sl 60 [⟨332,2, [[0,1,7,8], [], [], [0,5,6,7,8]]⟩] [] (λA (f,(i,c,s))=>afC A f i c s) Ox aje (kz (fc Tryz.func212 (fc Tryz.func262 (fc Tryz.func263 (fc Tryz.func309 (fc Tryz.func310 (fc Tryz.func332 fz)))))) (sc aqC (sc aqD sz))) (λA y=>match y with |.c0 p a2=>⟨136,(.kQ [0,0,0,0,0,0,0,0,1,2,0,0,0,1,2]),by kernel_rfl⟩) (λ((f,(i,c,s)):Net×(Int×fB×gm)) g j h=>Iw g) (z:=λ_ _ h=>Ip h)
structure ahT where
 (a2 a3:fO) (a4:Int) (a5:Bool) (a6 a7:Int) (a8:List Int) (a9 jd:Int)
structure Wv where
 (b0:Int) (b2 b3:fO) (b4:Int) (b5:Bool) (b6 b7:Int) (b8:List Int) (b9 b10:Int)
inductive acW where
 | c0 (p:ahT)
 | c1 (p:Wv) (b1:Int) (B7:List iN)
noncomputable def aiZ:acW->iH
 | .c0 p=>⟨[⟨46,39,(en [(1,.ptr 0 0),(2,.ptr 1 0),(19,vi 0),(20,vi 0)]),sk Tryz.f46 [1,1,1,0,1,0,0],[],none⟩],[.ay false (dc eY p.a2++dc eY p.a3 ++ [vi p.a4,vb p.a5,vi p.a6,vi p.a7,.sl yU p.a8,.gi false,vi p.a9,vi p.jd]),.ay false [vi 0,vi 0,vi 0,vi 0,vi 0,vi 0,vi 0,vi 0,vi 0,vi 0,vi 0,vi 0,vi 0,vi 0,vi 0,vb false,vi 0,vi 0,.gi true,.gi true,vi 0,vi 0],.aZ]⟩
 | .c1 p b1 c=>⟨[⟨46,39,(en [(1,.ptr 0 0),(2,.ptr 1 0),(19,vi p.b0),(20,vi b1)]),sk Tryz.f46 [1,1,1,0,1,0,0],[],none⟩],[.ay false (dc eY p.b2++dc eY p.b3 ++ [vi p.b4,vb p.b5,vi p.b6,vi p.b7,.sl yU p.b8,.own 2,vi p.b9,vi p.b10]),.ay false [vi 0,vi 0,vi 0,vi 0,vi 0,vi 0,vi 0,vi 0,vi 0,vi 0,vi 0,vi 0,vi 0,vi 0,vi 0,vb false,vi 0,vi 0,.gi true,.gi true,vi 0,vi 0],.arr false kW c,.aZ]⟩
def amw(A:aS)(n:Node):LT Node acW:=.pq A n.2.2.2.2.2.2.2.2.2.1 (.br (A.bK (A.l n.2.2.2.2.2.2.2.2.2.1) 0) (.ao (.c0 ⟨(n.1,n.2.1,n.2.2.1),n.2.2.2.1,n.2.2.2.2.1,n.2.2.2.2.2.1,n.2.2.2.2.2.2.1,n.2.2.2.2.2.2.2.1,(A.k nI n.2.2.2.2.2.2.2.2.1),n.2.2.2.2.2.2.2.2.2.2.1,n.2.2.2.2.2.2.2.2.2.2.2⟩)) (.ap (A.bU (A.l n.2.2.2.2.2.2.2.2.2.1) 4398046511104) (.ao (.c1 ⟨(A.l n.2.2.2.2.2.2.2.2.2.1),(n.1,n.2.1,n.2.2.1),n.2.2.2.1,n.2.2.2.2.1,n.2.2.2.2.2.1,n.2.2.2.2.2.2.1,n.2.2.2.2.2.2.2.1,(A.k nI n.2.2.2.2.2.2.2.2.1),n.2.2.2.2.2.2.2.2.2.2.1,n.2.2.2.2.2.2.2.2.2.2.2⟩ 0 n.2.2.2.2.2.2.2.2.2.1))))
def aad(A:aS):acW->LT Node acW
 | .c0 p=>.br (A.bD 0 0) (.bT 37 "busnet.go:149") (.ret (p.a2.1,p.a2.2.1,p.a2.2.2,p.a3,p.a4,p.a5,p.a6,p.a7,p.a8,([]:List iN),p.a9,p.jd))
 | .c1 p b1 c=>.br (A.bD b1 p.b0) (.gQ A b1 c (.gQ A b1 c (.ao (.c1 p (A.cB b1 1) (A.set c b1 ((A.k nI (A.n kW c b1:iN).1),(A.n kW c b1:iN).2)))))) (.ret (p.b2.1,p.b2.2.1,p.b2.2.2,p.b3,p.b4,p.b5,p.b6,p.b7,p.b8,c,p.b9,p.b10))
def ads(n:Node):Bool:=decide (1<=n.2.2.2.2.2.2.2.2.2.1.length/\n.2.2.2.2.2.2.2.2.2.1.length<=4398046511103)
theorem Xg{p:Wv}{l:List iN}(f:p.b0=(l.length:Int))(o:l.length<=140737488355328):∀(j i:Nat),l.length-i=j->i<=l.length->aW (aad af) (.ao (.c1 p (i:Int) l)) (p.b2.1,p.b2.2.1,p.b2.2.2,p.b3,p.b4,p.b5,p.b6,p.b7,p.b8,l,p.b9,p.b10):=by
 intro j
 induction j with
 | zero=>
   intro i n m;have:i=l.length:=by omega
   subst this;rw[aB,aad,f];exact(ak (by rw[aV];simp)).2 (.ret _)
 | succ j ih=>
   intro i n m;have c:i<l.length:=by omega
   rw[aB,aad,f];refine(al (by rw[aV];exact da (by omega))).2 (au.2 ⟨du c,au.2 ⟨du c,?_⟩⟩);have e:(af.n kW l (i:Int):iN)=l[i]:=fL c _;have g:af.set l (i:Int) ((af.k nI (af.n kW l (i:Int):iN).1),(af.n kW l (i:Int):iN).2)=l:=by
    rw[e];show l.set (i:Int).toNat l[i]=l;rw[rO];exact List.set_getElem_self _
   rw[g,aj2 (i:=i) (by omega)];exact ih (i+1) (by omega) (by omega)
theorem auu{n:Node}(h:ads n=true):aW (aad af) (amw af n) n:=by
 obtain⟨c,f⟩:=of_decide_eq_true h;unfold amw;refine au.2 ⟨by rw[bZ,d_];exact bne_iff_ne.2 (by omega),(ak (by rw[bd,d_];exact beq_eq_false_iff_ne.2 (by omega))).2 (au.2 ⟨by rw[aC,d_];exact da (by omega),?_⟩)⟩;exact Xg rfl (by omega) _ 0 rfl (by omega)
def xe:Node->Node:=λn=>n
def xF:Node->Bool:=ads
def asp:aM:=⟨[fA], [fA],xF,xe,false⟩
theorem aaK:Sd 46 asp:=bp ar dK sl 62 [⟨46,4, [[1,2,19,20]]⟩] [] (λA n=>amw A n) aad aiZ (kz (fc Tryz.func46 (fc Tryz.func82 fz)) (sc D3 sz)) (λA y=>match y with |.c0 p=>⟨29,sl,by kernel_rfl⟩|.c1 p b1 f=>⟨42,sl,by kernel_rfl⟩) λ(n:Node) c h=>auu c
structure Ry where
 (a0:Int)
inductive RD where
 | c0 (p:Ry) (a1:Int) (a2:Net)
 | c1 (b0:Int) (b1:Int) (b2:Net)
noncomputable def adq:RD->iH
 | .c0 p a1 a2=>⟨[⟨311,19,(en [(0,.own 2),(1,.fn 267 [] [.ptr 3 0]),(7,vi p.a0),(8,vi a1)]),sk Tryz.f311 [1,0,1,0,0],[],none⟩,⟨266,42,(en [(0,.own 2),(1,.fn 267 [] [.ptr 3 0])]),(.ops (ow Tryz.f266 [1,0]) ((ow Tryz.f266 [1,0]).toList.drop 2)::sk Tryz.f266 [1,0]),[],none⟩,⟨214,22,(en [(1,.int .i64 true 0),(2,.ptr 3 0),(14,.ptr 0 0),(15,.int .i64 true 0),(19,.ptr 0 0),(20,.ptr 0 21)]),[.rR (ow Tryz.f214 [1,1,1,0]) [0,0,0,0,12,1,33,127,255] 4 [7,8] [6,5,1,0]],[],none⟩],[yY a2 4 1 2 5 6 7,yT a2,yR a2,.ay false [.ptr 0 0],yW a2 8,bxB a2,yX a2,yV a2,yS a2,.aZ]⟩
 | .c1 b0 b1 b2=>⟨[⟨266,42,(en [(0,.own 2),(1,.fn 267 [] [.ptr 3 0]),(5,vi b0),(6,vi b1)]),sk Tryz.f266 [1,1,1,0,1,0,0],[],none⟩,⟨214,22,(en [(1,.int .i64 true 0),(2,.ptr 3 0),(14,.ptr 0 0),(15,.int .i64 true 0),(19,.ptr 0 0),(20,.ptr 0 21)]),[.rR (ow Tryz.f214 [1,1,1,0]) [0,0,0,0,12,1,33,127,255] 4 [7,8] [6,5,1,0]],[],none⟩],[yY b2 4 1 2 5 6 7,yT b2,yR b2,.ay false [.ptr 0 0],yW b2 8,bxB b2,yX b2,yV b2,yS b2,.aZ]⟩
def nD(c:Net):List gm:=c.2.2.2.2.2.2.2.1
def TQ(A:aS)(c:Net)(k:Int):LT (Net×Unit) RD:=.br (A.jw (A.l c.2.2.2.2.2.2.2.1) 64) (.ao (.c0 ⟨(A.l c.2.2.2.2.2.2.2.1)⟩ 0 c)) (.ret (c,()))
def zl(A:aS):RD->LT (Net×Unit) RD
 | .c0 p a1 a2=>.br (A.bD a1 p.a0) (.gQ A a1 a2.2.2.2.2.2.2.2.1 (.ap (A.k rD (a2.2.2.2.2.2.1,())) (.br (A.bD (A.n jG a2.2.2.2.2.2.2.2.1 a1:gm).2.1.2 (A.fF (A.k gB (a2.2.2.2.2.2.1,())).2 (A.b .mul .i64 3 a2.2.1.2.1))) (.br (A.bK a1 (-1)) (.ret ((wu a2 (A.k gB (a2.2.2.2.2.2.1,())).1),())) (.ao (.c1 a1 (A.cB a1 1) (wu a2 (A.k gB (a2.2.2.2.2.2.1,())).1)))) (.ao (.c0 p (A.cB a1 1) (wu a2 (A.k gB (a2.2.2.2.2.2.1,())).1)))))) (.ret (a2,()))
 | .c1 b0 b1 b2=>.br (A.bD b1 (A.l (nD b2))) (.gQ A b1 (nD b2) (.ap (A.k rD (b2.2.2.2.2.2.1,())) (.br (A.not (A.bD (A.n jG (nD b2) b1:gm).2.1.2 (A.fF (A.k gB (b2.2.2.2.2.2.1,())).2 (A.b .mul .i64 3 b2.2.1.2.1)))) (.gQ A b0 (nD b2) (.ao (.c1 (A.cB b0 1) (A.cB b1 1) (Eo (wu b2 (A.k gB (b2.2.2.2.2.2.1,())).1) (A.set (nD b2) b0 (A.n jG (nD b2) b1:gm)))))) (.ao (.c1 b0 (A.cB b1 1) (wu b2 (A.k gB (b2.2.2.2.2.2.1,())).1)))))) (.ap (A.and (A.bU 0 b0) (A.and (A.bU b0 (A.l (nD b2))) (A.bU (A.l (nD b2)) (A.l (nD b2))))) (.ap (A.and (A.bU 0 0) (A.and (A.bU 0 b0) (A.bU b0 (A.l (A.spl (nD b2) b0 (A.r (A.fF (A.l (nD b2)) b0) (Ty.gD jG:gm))))))) (.ret ((Eo b2 (A.s (A.spl (nD b2) b0 (A.r (A.fF (A.l (nD b2)) b0) (Ty.gD jG:gm))) 0 (A.fF b0 0))),()))))
def K6:Net×Int->Net×Unit:=λ(c,k)=>gS (zl af) (TQ af c k) (Ty.aR [lD],Ty.aR [])
def LN:Net×Int->Bool:=λ(c,k)=>(decide (k=0)&&iq (zl af) (TQ af c k))&&decide (VF.lens [fN] (K6 (c,k)).1=VF.lens [fN] ((c,k):Net×Int).1)
def akl:cd:=⟨[fN], [yI], [],LN,K6,false,false⟩
theorem akj:cd.bH Tryz.prog 214 akl:=vY ar dK sl 57 [⟨266,5, [[0,1,5,6], [2,14,19,20,65537,65551]]⟩,⟨311,2, [[0,1,7,8], [0,1], [2,14,19,20,65537,65551]]⟩,⟨214,2000000, []⟩] [] [some 0] (λA (c,k)=>TQ A c k) zl adq ⟨(fc Tryz.func214 (fc Tryz.func266 (fc Tryz.func267 (fc Tryz.func311 fz)))),sz,oz,iz,(mc NY mz),pz⟩ (λA y=>match y with |.c0 p a1 a2=>⟨81,sl,by kernel_rfl⟩|.c1 b0 b1 b2=>⟨80,sl,by kernel_rfl⟩) (λ((c,k):Net×Int) f g h=>gb ((fQ _ _).mp ((fQ _ _).mp f).1).2) (v:=(λ_ (y:Int) h=>⟨@of_decide_eq_true (y=0) _ ((fQ _ _).mp ((fQ _ _).mp h).1).1,trivial⟩)) (z:=λ_ _ h=>Ip h)
structure Rz where
 (a0:Int)
inductive RE where
 | c0 (p:Rz) (a1:Int) (a2:Net)
 | c1 (b0:Int) (b1:Int) (b2:Net)
noncomputable def adr:RE->iH
 | .c0 p a1 a2=>⟨[⟨311,19,(en [(0,.own 2),(1,.fn 267 [] [.ptr 3 0]),(7,vi p.a0),(8,vi a1)]),sk Tryz.f311 [1,0,1,0,0],[],none⟩,⟨266,42,(en [(0,.own 2),(1,.fn 267 [] [.ptr 3 0])]),(.ops (ow Tryz.f266 [1,0]) ((ow Tryz.f266 [1,0]).toList.drop 2)::sk Tryz.f266 [1,0]),[],none⟩,⟨214,22,(en [(1,.int .i64 true 1),(2,.ptr 3 0),(14,.ptr 0 0),(15,.int .i64 true 1),(19,.ptr 0 0),(20,.ptr 0 21)]),[.rR (ow Tryz.f214 [1,1,1,0]) [0,0,0,0,12,1,33,127,255] 4 [7,8] [6,5,1,0]],[],none⟩],[yY a2 4 1 5 2 6 7,yT a2,bxB a2,.ay false [.ptr 0 0],yW a2 8,yR a2,yX a2,yV a2,yS a2,.aZ]⟩
 | .c1 b0 b1 b2=>⟨[⟨266,42,(en [(0,.own 2),(1,.fn 267 [] [.ptr 3 0]),(5,vi b0),(6,vi b1)]),sk Tryz.f266 [1,1,1,0,1,0,0],[],none⟩,⟨214,22,(en [(1,.int .i64 true 1),(2,.ptr 3 0),(14,.ptr 0 0),(15,.int .i64 true 1),(19,.ptr 0 0),(20,.ptr 0 21)]),[.rR (ow Tryz.f214 [1,1,1,0]) [0,0,0,0,12,1,33,127,255] 4 [7,8] [6,5,1,0]],[],none⟩],[yY b2 4 1 5 2 6 7,yT b2,bxB b2,.ay false [.ptr 0 0],yW b2 8,yR b2,yX b2,yV b2,yS b2,.aZ]⟩
def nE(c:Net):List gm:=c.2.2.2.2.2.2.2.2.1
def TR(A:aS)(c:Net)(k:Int):LT (Net×Unit) RE:=.br (A.jw (A.l c.2.2.2.2.2.2.2.2.1) 64) (.ao (.c0 ⟨(A.l c.2.2.2.2.2.2.2.2.1)⟩ 0 c)) (.ret (c,()))
def zm(A:aS):RE->LT (Net×Unit) RE
 | .c0 p a1 a2=>.br (A.bD a1 p.a0) (.gQ A a1 a2.2.2.2.2.2.2.2.2.1 (.ap (A.k rD (a2.2.2.2.2.2.1,())) (.br (A.bD (A.n jG a2.2.2.2.2.2.2.2.2.1 a1:gm).2.1.2 (A.fF (A.k gB (a2.2.2.2.2.2.1,())).2 (A.b .mul .i64 3 a2.2.1.2.1))) (.br (A.bK a1 (-1)) (.ret ((wu a2 (A.k gB (a2.2.2.2.2.2.1,())).1),())) (.ao (.c1 a1 (A.cB a1 1) (wu a2 (A.k gB (a2.2.2.2.2.2.1,())).1)))) (.ao (.c0 p (A.cB a1 1) (wu a2 (A.k gB (a2.2.2.2.2.2.1,())).1)))))) (.ret (a2,()))
 | .c1 b0 b1 b2=>.br (A.bD b1 (A.l (nE b2))) (.gQ A b1 (nE b2) (.ap (A.k rD (b2.2.2.2.2.2.1,())) (.br (A.not (A.bD (A.n jG (nE b2) b1:gm).2.1.2 (A.fF (A.k gB (b2.2.2.2.2.2.1,())).2 (A.b .mul .i64 3 b2.2.1.2.1)))) (.gQ A b0 (nE b2) (.ao (.c1 (A.cB b0 1) (A.cB b1 1) (Am (wu b2 (A.k gB (b2.2.2.2.2.2.1,())).1) (A.set (nE b2) b0 (A.n jG (nE b2) b1:gm)))))) (.ao (.c1 b0 (A.cB b1 1) (wu b2 (A.k gB (b2.2.2.2.2.2.1,())).1)))))) (.ap (A.and (A.bU 0 b0) (A.and (A.bU b0 (A.l (nE b2))) (A.bU (A.l (nE b2)) (A.l (nE b2))))) (.ap (A.and (A.bU 0 0) (A.and (A.bU 0 b0) (A.bU b0 (A.l (A.spl (nE b2) b0 (A.r (A.fF (A.l (nE b2)) b0) (Ty.gD jG:gm))))))) (.ret ((Am b2 (A.s (A.spl (nE b2) b0 (A.r (A.fF (A.l (nE b2)) b0) (Ty.gD jG:gm))) 0 (A.fF b0 0))),()))))
def K7:Net×Int->Net×Unit:=λ(c,k)=>gS (zm af) (TR af c k) (Ty.aR [lD],Ty.aR [])
def LO:Net×Int->Bool:=λ(c,k)=>(decide (k=1)&&iq (zm af) (TR af c k))&&decide (VF.lens [fN] (K7 (c,k)).1=VF.lens [fN] ((c,k):Net×Int).1)
def akm:cd:=⟨[fN], [yI], [],LO,K7,false,false⟩
theorem akk:cd.bH Tryz.prog 214 akm:=vY ar dK sl 57 [⟨266,5, [[0,1,5,6], [2,14,19,20,65537,65551]]⟩,⟨311,2, [[0,1,7,8], [0,1], [2,14,19,20,65537,65551]]⟩,⟨214,2000000, []⟩] [] [some 1] (λA (c,k)=>TR A c k) zm adr ⟨(fc Tryz.func214 (fc Tryz.func266 (fc Tryz.func267 (fc Tryz.func311 fz)))),sz,oz,iz,(mc NY mz),pz⟩ (λA y=>match y with |.c0 p a1 a2=>⟨81,sl,by kernel_rfl⟩|.c1 b0 b1 b2=>⟨80,sl,by kernel_rfl⟩) (λ((c,k):Net×Int) f g h=>gb ((fQ _ _).mp ((fQ _ _).mp f).1).2) (v:=(λ_ (y:Int) h=>⟨@of_decide_eq_true (y=1) _ ((fQ _ _).mp ((fQ _ _).mp h).1).1,trivial⟩)) (z:=λ_ _ h=>Ip h)
def rJ:Net×Int->Net×Unit:=λx=>bif decide (x.2=0) then K6 x else K7 x
def rE:Net×Int->Bool:=λx=>bif decide (x.2=0) then LN x else LO x
def aoD:cd:=⟨[fN], [yI], [],rE,rJ,false,false⟩
theorem ags:cd.bH Tryz.prog 214 aoD:=(akj.either akk)
structure B9 where
 (a0:Int) (a2:Net) (a3 a4 a5:Int) (a6:List Int) (a7:Int) (a8:Bool) (a9 jd:fB) (Dl:Int)
structure EU where
 (b0:Int) (b2:Bool) (b3:Net) (b4 b5 b6:Int) (b7:List Int) (b8:Int) (b9:Bool) (b10 b11:fB) (Jx:Int) (EZ:gm)
structure EV where
 (c0:Int) (c1:Bool) (c2:Net) (c3 c4 c5:Int) (c6:List Int) (c7:Int) (c8:Bool) (c9 c10:fB) (c11 c12 c13:Int)
structure wR where
 (d0:Int) (d1 d2:Bool) (d3:Net) (d4 d5 d6:Int) (d7:List Int) (d8:Int) (d9:Bool) (Xm d11:fB) (d12 RO d14:Int) (Cg:gm)
inductive ac1 where
 | c0 (p:B9)
 | c1 (p:EU)
 | c2 (p:EV)
 | c3 (p:wR)
noncomputable def ai6:ac1->iH
 | .c0 p=>⟨[⟨157,80,(en [(0,.ptr 0 0),(1,vi p.a0),(3,.fn 158 [] [.ptr 2 0,.ptr 3 0,.ptr 4 0,.ptr 5 0,.ptr 6 0,.ptr 7 0,.ptr 8 0]),(6,.ptr 9 0),(8,.ptr 10 0),(9,vb false),(15,.int .i64 true 0)]),(.code (cw Tryz.f157 [1,1,1,0,1,0,0,1,1,0,0,0])::sk Tryz.f157 [1,1,1,0,1,0,0,1,1,0,0,0]),[],none⟩,⟨103,91,.leaf,[.ops (ow Tryz.f103 [1,1,1,1,1,1,1,1,1]) ((ow Tryz.f103 [1,1,1,1,1,1,1,1,1]).toList.drop 4)],[],none⟩],[yY p.a2 11 1 12 13 14 15,yT p.a2,.ay false [vi p.a3],.ay false [vi p.a4],.ay false [vi p.a5,.sl yU p.a6],.ay false [vi p.a7],.ay false [vb p.a8],.ay false [.ptr 0 0],.ay false (dc ir p.a9),.ay false (dc ir p.jd),.ay false [vi 0,vi 0,vi p.Dl],yW p.a2 16,yR p.a2,bxB p.a2,yX p.a2,yV p.a2,yS p.a2,.aZ]⟩
 | .c1 p=>⟨[⟨157,80,(en [(0,.ptr 0 0),(1,vi p.b0),(3,.fn 158 [] [.ptr 2 0,.ptr 3 0,.ptr 4 0,.ptr 5 0,.ptr 6 0,.ptr 7 0,.ptr 8 0]),(6,.ptr 9 0),(8,.ptr 10 0),(9,vb false),(10,.int .i64 true 0),(11,.ptr 11 0),(12,vb p.b2),(15,.int .i64 true 0)]),(.code (cw Tryz.f157 [1,1,1,0,1,0,0,1,1,0,0,1,1,0,0])::sk Tryz.f157 [1,1,1,0,1,0,0,1,1,0,0,1,1,0,0]),[],none⟩,⟨103,91,.leaf,[.ops (ow Tryz.f103 [1,1,1,1,1,1,1,1,1]) ((ow Tryz.f103 [1,1,1,1,1,1,1,1,1]).toList.drop 4)],[],none⟩],[yY p.b3 12 1 13 14 15 16,yT p.b3,.ay false [vi p.b4],.ay false [vi p.b5],.ay false [vi p.b6,.sl yU p.b7],.ay false [vi p.b8],.ay false [vb p.b9],.ay false [.ptr 0 0],.ay false (dc ir p.b10),.ay false (dc ir p.b11),.ay false [vi 0,vi 0,vi p.Jx],.ay false (dc jG p.EZ),yW p.b3 17,yR p.b3,bxB p.b3,yX p.b3,yV p.b3,yS p.b3,.aZ]⟩
 | .c2 p=>⟨[⟨157,80,(en [(0,.ptr 0 0),(1,vi p.c0),(3,.fn 158 [] [.ptr 2 0,.ptr 3 0,.ptr 4 0,.ptr 5 0,.ptr 6 0,.ptr 7 0,.ptr 8 0]),(6,.ptr 9 0),(8,.ptr 10 0),(9,vb p.c1),(15,.int .i64 true 1)]),(.code (cw Tryz.f157 [1,1,1,0,1,0,0,1,1,0,0,0])::sk Tryz.f157 [1,1,1,0,1,0,0,1,1,0,0,0]),[],none⟩,⟨103,91,.leaf,[.ops (ow Tryz.f103 [1,1,1,1,1,1,1,1,1]) ((ow Tryz.f103 [1,1,1,1,1,1,1,1,1]).toList.drop 4)],[],none⟩],[yY p.c2 11 1 12 13 14 15,yT p.c2,.ay false [vi p.c3],.ay false [vi p.c4],.ay false [vi p.c5,.sl yU p.c6],.ay false [vi p.c7],.ay false [vb p.c8],.ay false [.ptr 0 0],.ay false (dc ir p.c9),.ay false (dc ir p.c10),.ay false [vi p.c11,vi p.c12,vi p.c13],yW p.c2 16,yR p.c2,bxB p.c2,yX p.c2,yV p.c2,yS p.c2,.aZ]⟩
 | .c3 p=>⟨[⟨157,80,(en [(0,.ptr 0 0),(1,vi p.d0),(3,.fn 158 [] [.ptr 2 0,.ptr 3 0,.ptr 4 0,.ptr 5 0,.ptr 6 0,.ptr 7 0,.ptr 8 0]),(6,.ptr 9 0),(8,.ptr 10 0),(9,vb p.d1),(10,.int .i64 true 1),(11,.ptr 11 0),(12,vb p.d2),(15,.int .i64 true 1)]),(.code (cw Tryz.f157 [1,1,1,0,1,0,0,1,1,0,0,1,1,0,0])::sk Tryz.f157 [1,1,1,0,1,0,0,1,1,0,0,1,1,0,0]),[],none⟩,⟨103,91,.leaf,[.ops (ow Tryz.f103 [1,1,1,1,1,1,1,1,1]) ((ow Tryz.f103 [1,1,1,1,1,1,1,1,1]).toList.drop 4)],[],none⟩],[yY p.d3 12 1 13 14 15 16,yT p.d3,.ay false [vi p.d4],.ay false [vi p.d5],.ay false [vi p.d6,.sl yU p.d7],.ay false [vi p.d8],.ay false [vb p.d9],.ay false [.ptr 0 0],.ay false (dc ir p.Xm),.ay false (dc ir p.d11),.ay false [vi p.d12,vi p.RO,vi p.d14],.ay false (dc jG p.Cg),yW p.d3 17,yR p.d3,bxB p.d3,yX p.d3,yV p.d3,yS p.d3,.aZ]⟩
def Ik(A:aS)(c:Net)(i:Int):Span:=(A.k DJ (c.2.1,(A.n bO c.2.2.2.2.2.2.1 i:cm).2.1))
def Rf(A:aS)(p:B9):Net×Int×fB×Int×Span×Int×Int×List Int:=(p.a2,p.a0,p.jd,p.a3,(p.a4,(A.cB p.a4 (A.k qo p.a5))),p.a7,0,([]:List Int))
def ME(A:aS)(p:B9):Net×Int×fB×Int×Span×Int×Int×List Int:=(p.a2,p.a0,p.jd,p.a3,(p.a4,(A.cB p.a4 (A.k qo p.a5))),p.a7,p.a5,p.a6)
def Db(A:aS)(p:B9):Net×(gm×Bool):=(A.k jN (Rf A p))
def ab3(A:aS)(p:EU):Span:=((A.cB p.EZ.2.1.1 p.b3.2.1.2.2.2.2.2.1),(A.cB p.EZ.2.1.2 p.b3.2.1.2.2.2.2.2.1))
def Rh(A:aS)(p:EU):List gm:=(A.p p.b3.2.2.2.2.2.2.2.1 ([(zt p.EZ (ab3 A p))]:List gm))
def Ri(A:aS)(p:EV):Net×Int×fB×Int×Span×Int×Int×List Int:=(p.c2,p.c0,p.c10,p.c3,(p.c4,(A.cB p.c4 (A.k qo p.c5))),p.c7,0,([]:List Int))
def MF(A:aS)(p:EV):Net×Int×fB×Int×Span×Int×Int×List Int:=(p.c2,p.c0,p.c10,p.c3,(p.c4,(A.cB p.c4 (A.k qo p.c5))),p.c7,p.c5,p.c6)
def Dc(A:aS)(p:EV):Net×(gm×Bool):=(A.k jN (Ri A p))
def Dd(A:aS)(p:wR):Span:=((A.cB p.Cg.2.1.1 p.d3.2.1.2.2.2.2.2.1),(A.cB p.Cg.2.1.2 p.d3.2.1.2.2.2.2.2.1))
def EG(A:aS)(p:wR):Net:=(A.k rJ ((Am p.d3 (A.p p.d3.2.2.2.2.2.2.2.2.1 ([(zt p.Cg (Dd A p))]:List gm))),1)).1
def EH(A:aS)(p:wR):List sH:=(A.p (EG A p).2.2.2.2.2.2.2.2.2.1 ([((Dd A p),p.d14)]:List sH))
def BR(A:aS)(p:wR):List sH:=(A.p p.d3.2.2.2.2.2.2.2.2.2.1 ([((p.d12,p.RO),p.d14)]:List sH))
def MC(A:aS)(p:wR):Net×Int×Int×Int×Int:=((TW (EG A p) (EH A p)),(A.cB p.Cg.2.1.2 p.d3.2.1.2.2.2.2.2.1),3,0,(A.fF (A.l (EH A p)) 1))
def afs(A:aS)(g:Net)(i:Int)(f:sF)(c:fB):LT (Net×Unit) ac1:=.ap (A.k ji ((mY g ()),3,i,c)) (.br (A.k gU ((mY g ()),3,i,c)).2 (.ret (g,())) (.gQ A i g.2.2.2.2.2.2.1 (.br (A.cr (A.k A1 f).2 0) (.ret (g,())) (.br (A.cr (Ik A g i).2 0) (.ret (g,())) (.ap (A.k ji ((mY g ()),7,i,c)) (.br (A.k gU ((mY g ()),7,i,c)).2 (.ap (A.k ji ((mY g ()),8,i,c)) (.br (A.k gU ((mY g ()),8,i,c)).2 (.ap (A.k ji ((mY g ()),4,i,c)) (.ao (.c0 ⟨i,g,i,(A.mx (A.cB (Ik A g i).1 (A.k gU ((mY g ()),8,i,c)).1.2.2.2.2.2.1) 0),(A.k A1 f).1.1,(A.k A1 f).1.2,(A.k gU ((mY g ()),7,i,c)).1.2.2.2.2.2.1,(A.k gU ((mY g ()),4,i,c)).2,c,c,i⟩))) (.ap (A.k ji ((mY g ()),4,i,c)) (.ao (.c0 ⟨i,g,i,(Ik A g i).1,(A.k A1 f).1.1,(A.k A1 f).1.2,(A.k gU ((mY g ()),7,i,c)).1.2.2.2.2.2.1,(A.k gU ((mY g ()),4,i,c)).2,c,c,i⟩))))) (.ap (A.k ji ((mY g ()),8,i,c)) (.br (A.k gU ((mY g ()),8,i,c)).2 (.ap (A.k ji ((mY g ()),4,i,c)) (.ao (.c0 ⟨i,g,i,(A.mx (A.cB (Ik A g i).1 (A.k gU ((mY g ()),8,i,c)).1.2.2.2.2.2.1) 0),(A.k A1 f).1.1,(A.k A1 f).1.2,100,(A.k gU ((mY g ()),4,i,c)).2,c,c,i⟩))) (.ap (A.k ji ((mY g ()),4,i,c)) (.ao (.c0 ⟨i,g,i,(Ik A g i).1,(A.k A1 f).1.1,(A.k A1 f).1.2,100,(A.k gU ((mY g ()),4,i,c)).2,c,c,i⟩)))))))))))
def xI(A:aS):ac1->LT (Net×Unit) ac1
 | .c0 p=>.br p.a8 (.ap (A.k mG (Rf A p)) (.pq A p.a2.2.2.2.2.2.2.1 (.ao (.c1 ⟨p.a0,(Db A p).2.2,(Db A p).1,p.a3,p.a4,p.a5,p.a6,p.a7,p.a8,p.a9,p.jd,p.Dl,(Db A p).2.1⟩)))) (.ap (A.k LL ((mY p.a2 ()),0,p.a9)) (.br (A.k Yi ((mY p.a2 ()),0,p.a9)) (.ap (A.k mG (Rf A p)) (.pq A p.a2.2.2.2.2.2.2.1 (.ao (.c1 ⟨p.a0,(Db A p).2.2,(Db A p).1,p.a3,p.a4,p.a5,p.a6,p.a7,p.a8,p.a9,p.jd,p.Dl,(Db A p).2.1⟩)))) (.ap (A.k mG (ME A p)) (.pq A p.a2.2.2.2.2.2.2.1 (.ao (.c1 ⟨p.a0,(A.k jN (ME A p)).2.2,(A.k jN (ME A p)).1,p.a3,p.a4,p.a5,p.a6,p.a7,p.a8,p.a9,p.jd,p.Dl,(A.k jN (ME A p)).2.1⟩))))))
 | .c1 p=>.br (A.not p.b2) (.ao (.c2 ⟨p.b0,false,p.b3,p.b4,p.b5,p.b6,p.b7,p.b8,p.b9,p.b10,p.b11,0,0,p.Jx⟩)) (.ap (A.bU (A.l (Rh A p)) 2199023255552) (.ap (A.k rE ((Eo p.b3 (Rh A p)),0)) (.pq A p.b3.2.2.2.2.2.2.1 (.ao (.c2 ⟨p.b0,true,(A.k rJ ((Eo p.b3 (Rh A p)),0)).1,p.b4,p.b5,p.b6,p.b7,p.b8,p.b9,p.b10,p.b11,(A.cB p.EZ.2.1.1 p.b3.2.1.2.2.2.2.2.1),(A.cB p.EZ.2.1.2 p.b3.2.1.2.2.2.2.2.1),p.Jx⟩)))))
 | .c2 p=>.br p.c8 (.ap (A.k mG (Ri A p)) (.pq A p.c2.2.2.2.2.2.2.1 (.ao (.c3 ⟨p.c0,p.c1,(Dc A p).2.2,(Dc A p).1,p.c3,p.c4,p.c5,p.c6,p.c7,p.c8,p.c9,p.c10,p.c11,p.c12,p.c13,(Dc A p).2.1⟩)))) (.ap (A.k LL ((mY p.c2 ()),1,p.c9)) (.br (A.k Yi ((mY p.c2 ()),1,p.c9)) (.ap (A.k mG (Ri A p)) (.pq A p.c2.2.2.2.2.2.2.1 (.ao (.c3 ⟨p.c0,p.c1,(Dc A p).2.2,(Dc A p).1,p.c3,p.c4,p.c5,p.c6,p.c7,p.c8,p.c9,p.c10,p.c11,p.c12,p.c13,(Dc A p).2.1⟩)))) (.ap (A.k mG (MF A p)) (.pq A p.c2.2.2.2.2.2.2.1 (.ao (.c3 ⟨p.c0,p.c1,(A.k jN (MF A p)).2.2,(A.k jN (MF A p)).1,p.c3,p.c4,p.c5,p.c6,p.c7,p.c8,p.c9,p.c10,p.c11,p.c12,p.c13,(A.k jN (MF A p)).2.1⟩))))))
 | .c3 p=>.br (A.not p.d2) (.br p.d1 (.ap (A.bU (A.l (BR A p)) 5864062014805) (.ap (A.k qG ((TW p.d3 (BR A p)),p.RO,3,0,(A.fF (A.l (BR A p)) 1))) (.pq A p.d3.2.2.2.2.2.2.1 (.ret ((A.k tX ((TW p.d3 (BR A p)),p.RO,3,0,(A.fF (A.l (BR A p)) 1))).1,()))))) (.ret (p.d3,()))) (.ap (A.bU (A.l (A.p p.d3.2.2.2.2.2.2.2.2.1 ([(zt p.Cg (Dd A p))]:List gm))) 2199023255552) (.ap (A.k rE ((Am p.d3 (A.p p.d3.2.2.2.2.2.2.2.2.1 ([(zt p.Cg (Dd A p))]:List gm))),1)) (.pq A p.d3.2.2.2.2.2.2.1 (.ap (A.bU (A.l (EH A p)) 5864062014805) (.ap (A.k qG (MC A p)) (.pq A (EG A p).2.2.2.2.2.2.1 (.ret ((A.k tX (MC A p)).1,()))))))))
def ze:Net×(Int×sF×fB)->Net×Unit:=λ(g,(i,f,c))=>gS (xI af) (afs af g i f c) (Ty.aR [lD],Ty.aR [])
def GV:Net×(Int×sF×fB)->Bool:=λ(g,(i,f,c))=>iq (xI af) (afs af g i f c)&&decide (VF.lens [fN] (ze (g,(i,f,c))).1=VF.lens [fN] ((g,(i,f,c)):Net×(Int×sF×fB)).1)
def aou:cd:=⟨[fN], [yI,Io,ir], [],GV,ze,false,false⟩
theorem agp:cd.bH Tryz.prog 103 aou:=bP ar dK (.kQ [0,0,0,1]) 187 [] [⟨157,5, [[0,1,3,6,8,9,65551], []]⟩,⟨157,7, [[0,1,3,6,8,9,11,12,65546,65551], []]⟩] (λA (g,(i,f,c))=>afs A g i f c) xI ai6 ⟨(fc Tryz.func103 (fc Tryz.func157 (fc Tryz.func158 (fc Tryz.func213 fz)))),(sc ap4 (sc TC (sc ag2 sz))),oz,iz,(mc Za (mc agr (mc ags mz))),(pc Od (pc aoY pz))⟩ (λA y=>match y with |.c0 p=>⟨85,sl,by kernel_rfl⟩|.c1 p=>⟨102,sl,by kernel_rfl⟩|.c2 p=>⟨85,sl,by kernel_rfl⟩|.c3 p=>⟨133,sl,by kernel_rfl⟩) (λ((g,(i,f,c)):Net×(Int×sF×fB)) j l h=>Iw j) (z:=λ_ _ h=>Ip h)
structure O_ where
 (a0 a2:Int) (a3:Net) (a4 a5:Int) (a6:fO) (a7:fB) (jd:Int) (kU:fB)
structure Kz where
 (b0 b2:Int) (b3:Net) (b4 b5 b6:Int) (b7:List Int) (b8:fB) (b11:Int) (b12:fB)
structure KA where
 (c0:Int) (c2:Bool) (c3:Int) (c4:Net) (c5 c6:Int) (c7:fO) (c8:fB) (c11:Int) (c12:gm) (c13:fB)
structure KB where
 (d0:Int) (d2:Bool) (d3:Int) (d4:Net) (d5 d6 d7:Int) (d8:List Int) (d9:fB) (d12:Int) (RO:gm) (d14:fB)
structure Pb where
 (e0:Int) (e1:Bool) (e2:Int) (e3:Net) (e4 e5:Int) (e6:fO) (e7:fB) (e8 e9 e10:Int) (e11:fB)
structure Pd where
 (f0:Int) (f1:Bool) (f2:Int) (f3:Net) (f4 f5 f6:Int) (f7:List Int) (f8:fB) (f9 f10 f11:Int) (f12:fB)
structure qt where
 (g0:Int) (g1 g2:Bool) (g3:Int) (g4:Net) (g5 g6:Int) (g7:fO) (g8:fB) (g9 g10 g11:Int) (g12:gm) (g13:fB)
structure zx where
 (h0:Int) (h1 h2:Bool) (h3:Int) (h4:Net) (h5 h6 h7:Int) (h8:List Int) (h9:fB) (h10 h11 h12:Int) (SE:gm) (h14:fB)
inductive ac3 where
 | c0 (p:O_)
 | c1 (p:Kz)
 | c2 (p:KA)
 | c3 (p:KB)
 | c4 (p:Pb)
 | c5 (p:Pd)
 | c6 (p:qt)
 | c7 (p:zx)
noncomputable def ai8:ac3->iH
 | .c0 p=>⟨[⟨157,80,(en [(0,.ptr 0 0),(1,vi p.a0),(3,.fn 169 [] [.ptr 2 0,.ptr 3 0,.ptr 4 0]),(6,.ptr 5 0),(8,.ptr 6 0),(9,vb false),(15,.int .i64 true 0)]),(.code (cw Tryz.f157 [1,1,1,0,1,0,0,1,1,0,0,0])::sk Tryz.f157 [1,1,1,0,1,0,0,1,1,0,0,0]),[],none⟩,⟨109,84,(en [(0,.ptr 0 0),(4,.ptr 2 0),(5,.ptr 7 0),(6,.kV 1 p.a2 0)]),(.ops (ow Tryz.f109 [1,1,0,1,1,0,1]) ((ow Tryz.f109 [1,1,0,1,1,0,1]).toList.drop 4)::sk Tryz.f109 [1,1,0,1,1,0,1]),[],none⟩],[yY p.a3 8 1 9 10 11 12,yT p.a3,.ay false [vi p.a4],.ay false [vi p.a5],.ay false (dc eY p.a6),.ay false (dc ir p.a7),.ay false [vi 0,vi 0,vi p.jd],.ay false (dc ir p.kU),yW p.a3 13,yR p.a3,bxB p.a3,yX p.a3,yV p.a3,yS p.a3,.aZ]⟩
 | .c1 p=>⟨[⟨157,80,(en [(0,.ptr 0 0),(1,vi p.b0),(3,.fn 170 [] [.ptr 2 0,.ptr 3 0,.ptr 4 0]),(6,.ptr 5 0),(8,.ptr 6 0),(9,vb false),(15,.int .i64 true 0)]),(.code (cw Tryz.f157 [1,1,1,0,1,0,0,1,1,0,0,0])::sk Tryz.f157 [1,1,1,0,1,0,0,1,1,0,0,0]),[],none⟩,⟨109,84,(en [(0,.ptr 0 0),(4,.ptr 2 0),(5,.ptr 7 0),(6,.kV 1 p.b2 0)]),[.ops (ow Tryz.f109 [1,1,1,1,1,1,1]) ((ow Tryz.f109 [1,1,1,1,1,1,1]).toList.drop 4)],[],none⟩],[yY p.b3 8 1 9 10 11 12,yT p.b3,.ay false [vi p.b4],.ay false [vi p.b5],.ay false [vi p.b6,.sl yU p.b7],.ay false (dc ir p.b8),.ay false [vi 0,vi 0,vi p.b11],.ay false (dc ir p.b12),yW p.b3 13,yR p.b3,bxB p.b3,yX p.b3,yV p.b3,yS p.b3,.aZ]⟩
 | .c2 p=>⟨[⟨157,80,(en [(0,.ptr 0 0),(1,vi p.c0),(3,.fn 169 [] [.ptr 2 0,.ptr 3 0,.ptr 4 0]),(6,.ptr 5 0),(8,.ptr 6 0),(9,vb false),(10,.int .i64 true 0),(11,.ptr 7 0),(12,vb p.c2),(15,.int .i64 true 0)]),(.code (cw Tryz.f157 [1,1,1,0,1,0,0,1,1,0,0,1,1,0,0])::sk Tryz.f157 [1,1,1,0,1,0,0,1,1,0,0,1,1,0,0]),[],none⟩,⟨109,84,(en [(0,.ptr 0 0),(4,.ptr 2 0),(5,.ptr 8 0),(6,.kV 1 p.c3 0)]),(.ops (ow Tryz.f109 [1,1,0,1,1,0,1]) ((ow Tryz.f109 [1,1,0,1,1,0,1]).toList.drop 4)::sk Tryz.f109 [1,1,0,1,1,0,1]),[],none⟩],[yY p.c4 9 1 10 11 12 13,yT p.c4,.ay false [vi p.c5],.ay false [vi p.c6],.ay false (dc eY p.c7),.ay false (dc ir p.c8),.ay false [vi 0,vi 0,vi p.c11],.ay false (dc jG p.c12),.ay false (dc ir p.c13),yW p.c4 14,yR p.c4,bxB p.c4,yX p.c4,yV p.c4,yS p.c4,.aZ]⟩
 | .c3 p=>⟨[⟨157,80,(en [(0,.ptr 0 0),(1,vi p.d0),(3,.fn 170 [] [.ptr 2 0,.ptr 3 0,.ptr 4 0]),(6,.ptr 5 0),(8,.ptr 6 0),(9,vb false),(10,.int .i64 true 0),(11,.ptr 7 0),(12,vb p.d2),(15,.int .i64 true 0)]),(.code (cw Tryz.f157 [1,1,1,0,1,0,0,1,1,0,0,1,1,0,0])::sk Tryz.f157 [1,1,1,0,1,0,0,1,1,0,0,1,1,0,0]),[],none⟩,⟨109,84,(en [(0,.ptr 0 0),(4,.ptr 2 0),(5,.ptr 8 0),(6,.kV 1 p.d3 0)]),[.ops (ow Tryz.f109 [1,1,1,1,1,1,1]) ((ow Tryz.f109 [1,1,1,1,1,1,1]).toList.drop 4)],[],none⟩],[yY p.d4 9 1 10 11 12 13,yT p.d4,.ay false [vi p.d5],.ay false [vi p.d6],.ay false [vi p.d7,.sl yU p.d8],.ay false (dc ir p.d9),.ay false [vi 0,vi 0,vi p.d12],.ay false (dc jG p.RO),.ay false (dc ir p.d14),yW p.d4 14,yR p.d4,bxB p.d4,yX p.d4,yV p.d4,yS p.d4,.aZ]⟩
 | .c4 p=>⟨[⟨157,80,(en [(0,.ptr 0 0),(1,vi p.e0),(3,.fn 169 [] [.ptr 2 0,.ptr 3 0,.ptr 4 0]),(6,.ptr 5 0),(8,.ptr 6 0),(9,vb p.e1),(15,.int .i64 true 1)]),(.code (cw Tryz.f157 [1,1,1,0,1,0,0,1,1,0,0,0])::sk Tryz.f157 [1,1,1,0,1,0,0,1,1,0,0,0]),[],none⟩,⟨109,84,(en [(0,.ptr 0 0),(4,.ptr 2 0),(5,.ptr 7 0),(6,.kV 1 p.e2 0)]),(.ops (ow Tryz.f109 [1,1,0,1,1,0,1]) ((ow Tryz.f109 [1,1,0,1,1,0,1]).toList.drop 4)::sk Tryz.f109 [1,1,0,1,1,0,1]),[],none⟩],[yY p.e3 8 1 9 10 11 12,yT p.e3,.ay false [vi p.e4],.ay false [vi p.e5],.ay false (dc eY p.e6),.ay false (dc ir p.e7),.ay false [vi p.e8,vi p.e9,vi p.e10],.ay false (dc ir p.e11),yW p.e3 13,yR p.e3,bxB p.e3,yX p.e3,yV p.e3,yS p.e3,.aZ]⟩
 | .c5 p=>⟨[⟨157,80,(en [(0,.ptr 0 0),(1,vi p.f0),(3,.fn 170 [] [.ptr 2 0,.ptr 3 0,.ptr 4 0]),(6,.ptr 5 0),(8,.ptr 6 0),(9,vb p.f1),(15,.int .i64 true 1)]),(.code (cw Tryz.f157 [1,1,1,0,1,0,0,1,1,0,0,0])::sk Tryz.f157 [1,1,1,0,1,0,0,1,1,0,0,0]),[],none⟩,⟨109,84,(en [(0,.ptr 0 0),(4,.ptr 2 0),(5,.ptr 7 0),(6,.kV 1 p.f2 0)]),[.ops (ow Tryz.f109 [1,1,1,1,1,1,1]) ((ow Tryz.f109 [1,1,1,1,1,1,1]).toList.drop 4)],[],none⟩],[yY p.f3 8 1 9 10 11 12,yT p.f3,.ay false [vi p.f4],.ay false [vi p.f5],.ay false [vi p.f6,.sl yU p.f7],.ay false (dc ir p.f8),.ay false [vi p.f9,vi p.f10,vi p.f11],.ay false (dc ir p.f12),yW p.f3 13,yR p.f3,bxB p.f3,yX p.f3,yV p.f3,yS p.f3,.aZ]⟩
 | .c6 p=>⟨[⟨157,80,(en [(0,.ptr 0 0),(1,vi p.g0),(3,.fn 169 [] [.ptr 2 0,.ptr 3 0,.ptr 4 0]),(6,.ptr 5 0),(8,.ptr 6 0),(9,vb p.g1),(10,.int .i64 true 1),(11,.ptr 7 0),(12,vb p.g2),(15,.int .i64 true 1)]),(.code (cw Tryz.f157 [1,1,1,0,1,0,0,1,1,0,0,1,1,0,0])::sk Tryz.f157 [1,1,1,0,1,0,0,1,1,0,0,1,1,0,0]),[],none⟩,⟨109,84,(en [(0,.ptr 0 0),(4,.ptr 2 0),(5,.ptr 8 0),(6,.kV 1 p.g3 0)]),(.ops (ow Tryz.f109 [1,1,0,1,1,0,1]) ((ow Tryz.f109 [1,1,0,1,1,0,1]).toList.drop 4)::sk Tryz.f109 [1,1,0,1,1,0,1]),[],none⟩],[yY p.g4 9 1 10 11 12 13,yT p.g4,.ay false [vi p.g5],.ay false [vi p.g6],.ay false (dc eY p.g7),.ay false (dc ir p.g8),.ay false [vi p.g9,vi p.g10,vi p.g11],.ay false (dc jG p.g12),.ay false (dc ir p.g13),yW p.g4 14,yR p.g4,bxB p.g4,yX p.g4,yV p.g4,yS p.g4,.aZ]⟩
 | .c7 p=>⟨[⟨157,80,(en [(0,.ptr 0 0),(1,vi p.h0),(3,.fn 170 [] [.ptr 2 0,.ptr 3 0,.ptr 4 0]),(6,.ptr 5 0),(8,.ptr 6 0),(9,vb p.h1),(10,.int .i64 true 1),(11,.ptr 7 0),(12,vb p.h2),(15,.int .i64 true 1)]),(.code (cw Tryz.f157 [1,1,1,0,1,0,0,1,1,0,0,1,1,0,0])::sk Tryz.f157 [1,1,1,0,1,0,0,1,1,0,0,1,1,0,0]),[],none⟩,⟨109,84,(en [(0,.ptr 0 0),(4,.ptr 2 0),(5,.ptr 8 0),(6,.kV 1 p.h3 0)]),[.ops (ow Tryz.f109 [1,1,1,1,1,1,1]) ((ow Tryz.f109 [1,1,1,1,1,1,1]).toList.drop 4)],[],none⟩],[yY p.h4 9 1 10 11 12 13,yT p.h4,.ay false [vi p.h5],.ay false [vi p.h6],.ay false [vi p.h7,.sl yU p.h8],.ay false (dc ir p.h9),.ay false [vi p.h10,vi p.h11,vi p.h12],.ay false (dc jG p.SE),.ay false (dc ir p.h14),yW p.h4 14,yR p.h4,bxB p.h4,yX p.h4,yV p.h4,yS p.h4,.aZ]⟩
def Rj(A:aS)(f:Net)(i:Int)(c:fB):Bits×Int:=(A.k A1 (1,0,(0,0,0,0,0),(A.k gU ((mY f ()),10,i,c)).1.2.2.2.2.2.1,([]:List Int)))
def MH(A:aS)(p:O_):Net×Int×fB×Int×Span×Int×Int×List Int:=(p.a3,p.a0,p.a7,p.a4,(p.a5,(A.cB p.a5 p.a6.2.2.2.2.2.2)),100,0,([]:List Int))
def ML(A:aS)(p:Kz):Net×Int×fB×Int×Span×Int×Int×List Int:=(p.b3,p.b0,p.b8,p.b4,(p.b5,(A.cB p.b5 (A.k qo p.b6))),100,p.b6,p.b7)
def ab8(A:aS)(p:KA):Span:=((A.cB p.c12.2.1.1 p.c4.2.1.2.2.2.2.2.1),(A.cB p.c12.2.1.2 p.c4.2.1.2.2.2.2.2.1))
def Rk(A:aS)(p:KA):List gm:=(A.p p.c4.2.2.2.2.2.2.2.1 ([(zt p.c12 (ab8 A p))]:List gm))
def ab9(A:aS)(p:KB):Span:=((A.cB p.RO.2.1.1 p.d4.2.1.2.2.2.2.2.1),(A.cB p.RO.2.1.2 p.d4.2.1.2.2.2.2.2.1))
def Rl(A:aS)(p:KB):List gm:=(A.p p.d4.2.2.2.2.2.2.2.1 ([(zt p.RO (ab9 A p))]:List gm))
def MN(A:aS)(p:Pb):Net×Int×fB×Int×Span×Int×Int×List Int:=(p.e3,p.e0,p.e7,p.e4,(p.e5,(A.cB p.e5 p.e6.2.2.2.2.2.2)),100,0,([]:List Int))
def MO(A:aS)(p:Pd):Net×Int×fB×Int×Span×Int×Int×List Int:=(p.f3,p.f0,p.f8,p.f4,(p.f5,(A.cB p.f5 (A.k qo p.f6))),100,p.f6,p.f7)
def yz(A:aS)(p:qt):Span:=((A.cB p.g12.2.1.1 p.g4.2.1.2.2.2.2.2.1),(A.cB p.g12.2.1.2 p.g4.2.1.2.2.2.2.2.1))
def uq(A:aS)(p:qt):List gm:=(A.p p.g4.2.2.2.2.2.2.2.2.1 ([(zt p.g12 (yz A p))]:List gm))
def Rm(A:aS)(p:qt):Net×Int×Int×Int×Int:=((TW (A.k rJ ((Am p.g4 (uq A p)),1)).1 (A.p (A.k rJ ((Am p.g4 (uq A p)),1)).1.2.2.2.2.2.2.2.2.2.1 ([((yz A p),p.g11)]:List sH))),(A.cB p.g12.2.1.2 p.g4.2.1.2.2.2.2.2.1),3,0,(A.fF (A.l (A.p (A.k rJ ((Am p.g4 (uq A p)),1)).1.2.2.2.2.2.2.2.2.2.1 ([((yz A p),p.g11)]:List sH))) 1))
def BS(A:aS)(p:qt):List sH:=(A.p p.g4.2.2.2.2.2.2.2.2.2.1 ([((p.g9,p.g10),p.g11)]:List sH))
def rZ(A:aS)(p:qt):Net:=(A.k tX ((TW p.g4 (BS A p)),p.g10,3,0,(A.fF (A.l (BS A p)) 1))).1
def qR(A:aS)(p:qt):Net:=(A.k tX (Rm A p)).1
def EI(A:aS)(p:qt):Bits×Int:=(A.k A1 (1,0,(0,0,0,0,0),(A.k gU ((mY (qR A p) ()),10,p.g5,p.g13)).1.2.2.2.2.2.1,([]:List Int)))
def MI(A:aS)(p:qt):Bits×Int:=(A.k A1 (1,0,(0,0,0,0,0),(A.k gU ((mY (rZ A p) ()),10,p.g5,p.g13)).1.2.2.2.2.2.1,([]:List Int)))
def MJ(A:aS)(p:qt):Bits×Int:=(A.k A1 (1,0,(0,0,0,0,0),(A.k gU ((mY p.g4 ()),10,p.g5,p.g13)).1.2.2.2.2.2.1,([]:List Int)))
def TT(A:aS)(p:qt):Span:=(A.k DJ ((rZ A p).2.1,(A.n bO (rZ A p).2.2.2.2.2.2.1 p.g3:cm).2.1))
def MK(A:aS)(p:qt):Span:=(A.k DJ ((qR A p).2.1,(A.n bO (qR A p).2.2.2.2.2.2.1 p.g3:cm).2.1))
def yA(A:aS)(p:zx):Span:=((A.cB p.SE.2.1.1 p.h4.2.1.2.2.2.2.2.1),(A.cB p.SE.2.1.2 p.h4.2.1.2.2.2.2.2.1))
def EJ(A:aS)(p:zx):Net:=(A.k rJ ((Am p.h4 (A.p p.h4.2.2.2.2.2.2.2.2.1 ([(zt p.SE (yA A p))]:List gm))),1)).1
def EK(A:aS)(p:zx):List sH:=(A.p (EJ A p).2.2.2.2.2.2.2.2.2.1 ([((yA A p),p.h12)]:List sH))
def BU(A:aS)(p:zx):List sH:=(A.p p.h4.2.2.2.2.2.2.2.2.2.1 ([((p.h10,p.h11),p.h12)]:List sH))
def MM(A:aS)(p:zx):Net×Int×Int×Int×Int:=((TW (EJ A p) (EK A p)),(A.cB p.SE.2.1.2 p.h4.2.1.2.2.2.2.2.1),3,0,(A.fF (A.l (EK A p)) 1))
def aft(A:aS)(f:Net)(i:Int)(c:fB):LT (Net×Unit) ac3:=.gQ A i f.2.2.2.2.2.2.1 (.ap (A.k ji ((mY f ()),9,i,c)) (.br (A.k gU ((mY f ()),9,i,c)).2 (.ao (.c0 ⟨i,i,f,i,(A.cB (A.n bO f.2.2.2.2.2.2.1 i:cm).2.1.1 (A.k gU ((mY f ()),9,i,c)).1.2.2.2.2.2.1),(A.k gU ((mY f ()),9,i,c)).1,c,i,c⟩)) (.ap (A.k ji ((mY f ()),10,i,c)) (.br (A.not (A.k gU ((mY f ()),10,i,c)).2) (.ret (f,())) (.br (A.cr (A.k DJ (f.2.1,(A.n bO f.2.2.2.2.2.2.1 i:cm).2.1)).2 0) (.ret (f,())) (.br (A.cr (Rj A f i c).2 0) (.ret (f,())) (.ao (.c1 ⟨i,i,f,i,(A.k DJ (f.2.1,(A.n bO f.2.2.2.2.2.2.1 i:cm).2.1)).1,(Rj A f i c).1.1,(Rj A f i c).1.2,c,i,c⟩))))))))
def tf(A:aS):ac3->LT (Net×Unit) ac3
 | .c0 p=>.ap (A.k mG (MH A p)) (.pq A p.a3.2.2.2.2.2.2.1 (.ao (.c2 ⟨p.a0,(A.k jN (MH A p)).2.2,p.a2,(A.k jN (MH A p)).1,p.a4,p.a5,p.a6,p.a7,p.jd,(A.k jN (MH A p)).2.1,p.kU⟩)))
 | .c1 p=>.ap (A.k mG (ML A p)) (.pq A p.b3.2.2.2.2.2.2.1 (.ao (.c3 ⟨p.b0,(A.k jN (ML A p)).2.2,p.b2,(A.k jN (ML A p)).1,p.b4,p.b5,p.b6,p.b7,p.b8,p.b11,(A.k jN (ML A p)).2.1,p.b12⟩)))
 | .c2 p=>.br (A.not p.c2) (.ao (.c4 ⟨p.c0,false,p.c3,p.c4,p.c5,p.c6,p.c7,p.c8,0,0,p.c11,p.c13⟩)) (.ap (A.bU (A.l (Rk A p)) 2199023255552) (.ap (A.k rE ((Eo p.c4 (Rk A p)),0)) (.pq A p.c4.2.2.2.2.2.2.1 (.ao (.c4 ⟨p.c0,true,p.c3,(A.k rJ ((Eo p.c4 (Rk A p)),0)).1,p.c5,p.c6,p.c7,p.c8,(A.cB p.c12.2.1.1 p.c4.2.1.2.2.2.2.2.1),(A.cB p.c12.2.1.2 p.c4.2.1.2.2.2.2.2.1),p.c11,p.c13⟩)))))
 | .c3 p=>.br (A.not p.d2) (.ao (.c5 ⟨p.d0,false,p.d3,p.d4,p.d5,p.d6,p.d7,p.d8,p.d9,0,0,p.d12,p.d14⟩)) (.ap (A.bU (A.l (Rl A p)) 2199023255552) (.ap (A.k rE ((Eo p.d4 (Rl A p)),0)) (.pq A p.d4.2.2.2.2.2.2.1 (.ao (.c5 ⟨p.d0,true,p.d3,(A.k rJ ((Eo p.d4 (Rl A p)),0)).1,p.d5,p.d6,p.d7,p.d8,p.d9,(A.cB p.RO.2.1.1 p.d4.2.1.2.2.2.2.2.1),(A.cB p.RO.2.1.2 p.d4.2.1.2.2.2.2.2.1),p.d12,p.d14⟩)))))
 | .c4 p=>.ap (A.k mG (MN A p)) (.pq A p.e3.2.2.2.2.2.2.1 (.ao (.c6 ⟨p.e0,p.e1,(A.k jN (MN A p)).2.2,p.e2,(A.k jN (MN A p)).1,p.e4,p.e5,p.e6,p.e7,p.e8,p.e9,p.e10,(A.k jN (MN A p)).2.1,p.e11⟩)))
 | .c5 p=>.ap (A.k mG (MO A p)) (.pq A p.f3.2.2.2.2.2.2.1 (.ao (.c7 ⟨p.f0,p.f1,(A.k jN (MO A p)).2.2,p.f2,(A.k jN (MO A p)).1,p.f4,p.f5,p.f6,p.f7,p.f8,p.f9,p.f10,p.f11,(A.k jN (MO A p)).2.1,p.f12⟩)))
 | .c6 p=>.br (A.not p.g2) (.br p.g1 (.ap (A.bU (A.l (BS A p)) 5864062014805) (.ap (A.k qG ((TW p.g4 (BS A p)),p.g10,3,0,(A.fF (A.l (BS A p)) 1))) (.pq A p.g4.2.2.2.2.2.2.1 (.ap (A.k ji ((mY (rZ A p) ()),10,p.g5,p.g13)) (.br (A.not (A.k gU ((mY (rZ A p) ()),10,p.g5,p.g13)).2) (.ret ((rZ A p),())) (.br (A.cr (TT A p).2 0) (.ret ((rZ A p),())) (.br (A.cr (MI A p).2 0) (.ret ((rZ A p),())) (.ao (.c1 ⟨p.g5,p.g3,(rZ A p),p.g5,(TT A p).1,(MI A p).1.1,(MI A p).1.2,p.g13,p.g5,p.g13⟩))))))))) (.ap (A.k ji ((mY p.g4 ()),10,p.g5,p.g13)) (.br (A.not (A.k gU ((mY p.g4 ()),10,p.g5,p.g13)).2) (.ret (p.g4,())) (.br (A.cr (A.k DJ (p.g4.2.1,(A.n bO p.g4.2.2.2.2.2.2.1 p.g3:cm).2.1)).2 0) (.ret (p.g4,())) (.br (A.cr (MJ A p).2 0) (.ret (p.g4,())) (.ao (.c1 ⟨p.g5,p.g3,p.g4,p.g5,(A.k DJ (p.g4.2.1,(A.n bO p.g4.2.2.2.2.2.2.1 p.g3:cm).2.1)).1,(MJ A p).1.1,(MJ A p).1.2,p.g13,p.g5,p.g13⟩))))))) (.ap (A.bU (A.l (uq A p)) 2199023255552) (.ap (A.k rE ((Am p.g4 (uq A p)),1)) (.pq A p.g4.2.2.2.2.2.2.1 (.ap (A.bU (A.l (A.p (A.k rJ ((Am p.g4 (uq A p)),1)).1.2.2.2.2.2.2.2.2.2.1 ([((yz A p),p.g11)]:List sH))) 5864062014805) (.ap (A.k qG (Rm A p)) (.pq A (A.k rJ ((Am p.g4 (uq A p)),1)).1.2.2.2.2.2.2.1 (.ap (A.k ji ((mY (qR A p) ()),10,p.g5,p.g13)) (.br (A.not (A.k gU ((mY (qR A p) ()),10,p.g5,p.g13)).2) (.ret ((qR A p),())) (.br (A.cr (MK A p).2 0) (.ret ((qR A p),())) (.br (A.cr (EI A p).2 0) (.ret ((qR A p),())) (.ao (.c1 ⟨p.g5,p.g3,(qR A p),p.g5,(MK A p).1,(EI A p).1.1,(EI A p).1.2,p.g13,p.g5,p.g13⟩))))))))))))
 | .c7 p=>.br (A.not p.h2) (.br p.h1 (.ap (A.bU (A.l (BU A p)) 5864062014805) (.ap (A.k qG ((TW p.h4 (BU A p)),p.h11,3,0,(A.fF (A.l (BU A p)) 1))) (.pq A p.h4.2.2.2.2.2.2.1 (.ret ((A.k tX ((TW p.h4 (BU A p)),p.h11,3,0,(A.fF (A.l (BU A p)) 1))).1,()))))) (.ret (p.h4,()))) (.ap (A.bU (A.l (A.p p.h4.2.2.2.2.2.2.2.2.1 ([(zt p.SE (yA A p))]:List gm))) 2199023255552) (.ap (A.k rE ((Am p.h4 (A.p p.h4.2.2.2.2.2.2.2.2.1 ([(zt p.SE (yA A p))]:List gm))),1)) (.pq A p.h4.2.2.2.2.2.2.1 (.ap (A.bU (A.l (EK A p)) 5864062014805) (.ap (A.k qG (MM A p)) (.pq A (EJ A p).2.2.2.2.2.2.1 (.ret ((A.k tX (MM A p)).1,()))))))))
def zf:Net×(Int×fB)->Net×Unit:=λ(f,(i,c))=>gS (tf af) (aft af f i c) (Ty.aR [lD],Ty.aR [])
def QD:Net×(Int×fB)->Bool:=λ(f,(i,c))=>iq (tf af) (aft af f i c)&&decide (VF.lens [fN] (zf (f,(i,c))).1=VF.lens [fN] ((f,(i,c)):Net×(Int×fB)).1)
def aox:cd:=⟨[fN], [yI,ir], [],QD,zf,false,false⟩
theorem an4:cd.bH Tryz.prog 109 aox:=bP ar dK sl 140 [] [⟨157,5, [[0,1,3,6,8,9,65551], [0,4,5,6]]⟩,⟨157,7, [[0,1,3,6,8,9,11,12,65546,65551], [0,4,5,6]]⟩] (λA (f,(i,c))=>aft A f i c) tf ai8 ⟨(fc Tryz.func109 (fc Tryz.func157 (fc Tryz.func169 (fc Tryz.func170 (fc Tryz.func213 fz))))),(sc ap4 (sc TC (sc ag2 sz))),oz,iz,(mc Za (mc agr (mc ags mz))),(pc Od pz)⟩ (λA y=>match y with |.c0 p=>⟨46,sl,by kernel_rfl⟩|.c1 p=>⟨48,sl,by kernel_rfl⟩|.c2 p=>⟨102,sl,by kernel_rfl⟩|.c3 p=>⟨102,sl,by kernel_rfl⟩|.c4 p=>⟨46,sl,by kernel_rfl⟩|.c5 p=>⟨48,sl,by kernel_rfl⟩|.c6 p=>⟨232,sl,by kernel_rfl⟩|.c7 p=>⟨133,sl,by kernel_rfl⟩) (λ((f,(i,c)):Net×(Int×fB)) g j h=>Iw g) (z:=λ_ _ h=>Ip h)
def rH(A:aS)(c:Net)(i:Int):Node×sF×Bool×Int:=(A.k af2 (c.2.1,(A.n bO c.2.2.2.2.2.2.1 i:cm).1))
def xS(A:aS)(c:Net)(i:Int):List cm:=(A.set c.2.2.2.2.2.2.1 i ((rH A c i).1,(A.n bO c.2.2.2.2.2.2.1 i:cm).2))
def Ak(A:aS)(c:Net)(i:Int):Net:=(A.k JV ((rv c (xS A c i)),i)).1
def abC(A:aS)(f:Net)(i:Int)(c:fB):LT (Net×Bool) Empty:=.gQ A i f.2.2.2.2.2.2.1 (.br (A.cr (rH A f i).2.2.2 0) (.ret (f,true)) (.br (A.bK (rH A f i).1.2.1 1) (.ap (A.k LM ((rv f (xS A f i)),i)) (.pq A (xS A f i) (.br (A.not (rH A f i).2.2.1) (.ret ((Ak A f i),(A.k lY (rH A f i).1))) (.ap (A.k GV ((Ak A f i),i,(rH A f i).2.1,c)) (.pq A (Ak A f i).2.2.2.2.2.2.1 (.ret ((A.k ze ((Ak A f i),i,(rH A f i).2.1,c)).1,true))))))) (.br (A.not (rH A f i).2.2.1) (.ret ((rv f (xS A f i)),(A.k lY (rH A f i).1))) (.ap (A.k GV ((rv f (xS A f i)),i,(rH A f i).2.1,c)) (.pq A (xS A f i) (.ret ((A.k ze ((rv f (xS A f i)),i,(rH A f i).2.1,c)).1,true)))))))
def xg:Net×(Int×fB)->Net×Bool:=λ(f,(i,c))=>gS Empty.elim (abC af f i c) (Ty.aR [lD],Ty.aR [.bool])
def QE:Net×(Int×fB)->Bool:=λ(f,(i,c))=>iq Empty.elim (abC af f i c)&&decide (VF.lens [fN] (xg (f,(i,c))).1=VF.lens [fN] ((f,(i,c)):Net×(Int×fB)).1)
def aoy:cd:=⟨[fN], [yI,ir], [.bool],QE,xg,false,false⟩
theorem an5:cd.bH Tryz.prog 110 aoy:=bP ar dK sl 94 [] [] (λA (f,(i,c))=>abC A f i c) (λ_=>Empty.elim) Empty.elim ⟨(fc Tryz.func110 fz),(sc BG (sc apI sz)),oz,iz,(mc agp (mc agq mz)),pz⟩ (λ_ y=>y.elim) (λ((f,(i,c)):Net×(Int×fB)) g j h=>Iw g) (z:=λ_ _ h=>Ip h)
def Ib(A:aS)(c:Net)(i:Int):List cm:=(A.set c.2.2.2.2.2.2.1 i ((A.k FW (c.2.1,(A.n bO c.2.2.2.2.2.2.1 i:cm).1)).1,(A.n bO c.2.2.2.2.2.2.1 i:cm).2))
def Ic(A:aS)(f:Net)(i:Int):List cm:=(md A bO (Ib A f i) i λ(c:cm)=>(up2 c (A.cB c.2.2.1 1)))
def Mx(A:aS)(f:Net)(i:Int):List cm:=(md A bO (md A bO (Ic A f i) i λ(c:cm)=>(TU c (A.cB c.2.2.2.2.1 1))) i λ(g:cm)=>(zt g ((A.k gB (f.2.2.2.2.2.1,())).2,i,([]:List Int))))
def Da(A:aS)(c:Net)(i:Int):Net×Int×sF×Int×Int×Int×Int×Int:=((rv (wu c (A.k gB (c.2.2.2.2.2.1,())).1) (md A bO (md A bO (Mx A c i) i λ(f:cm)=>(wu f true)) i λ(g:cm)=>(rv g false))),i,(A.k FW (c.2.1,(A.n bO c.2.2.2.2.2.2.1 i:cm).1)).2.1,(A.k FW (c.2.1,(A.n bO c.2.2.2.2.2.2.1 i:cm).1)).1.2.2.1)
def My(A:aS)(c:Net)(i:Int):Net×Int×Int×Int:=((rv (wu c (A.k gB (c.2.2.2.2.2.1,())).1) (Ic A c i)),(A.cB (A.k gB (c.2.2.2.2.2.1,())).2 (A.cB c.2.1.2.1 (A.k zd (c.2.2.1,c.2.1.1,(A.n bO (Ib A c i) i:cm).2.2.1,i)))),2,i)
def abr(A:aS)(c:Net)(i:Int):LT (Net×Unit) Empty:=.gQ A i c.2.2.2.2.2.2.1 (.br (A.cr (A.k FW (c.2.1,(A.n bO c.2.2.2.2.2.2.1 i:cm).1)).2.2.2 0) (.ret (c,())) (.ap (A.k LJ (c.2.2.1,c.2.1.1,(A.n bO (Ib A c i) i:cm).2.2.1,i)) (.br (A.not (A.k FW (c.2.1,(A.n bO c.2.2.2.2.2.2.1 i:cm).1)).2.2.1) (.ap (A.k rD (c.2.2.2.2.2.1,())) (.ap (A.k vO (My A c i)) (.pq A (Ic A c i) (.ret ((A.k tW (My A c i)).1,()))))) (.ap (A.k rD (c.2.2.2.2.2.1,())) (.ap (A.k GV (Da A c i)) (.pq A (md A bO (md A bO (Mx A c i) i λ(f:cm)=>(wu f true)) i λ(g:cm)=>(rv g false)) (.ap (A.k CL ((A.k ze (Da A c i)).1,i)) (.pq A (A.k ze (Da A c i)).1.2.2.2.2.2.2.1 (.ret ((A.k F6 ((A.k ze (Da A c i)).1,i)).1,()))))))))))
def Sm:Net×Int->Net×Unit:=λ(c,i)=>gS Empty.elim (abr af c i) (Ty.aR [lD],Ty.aR [])
def Qw:Net×Int->Bool:=λ(c,i)=>iq Empty.elim (abr af c i)&&decide (VF.lens [fN] (Sm (c,i)).1=VF.lens [fN] ((c,i):Net×Int).1)
def aom:cd:=⟨[fN], [yI], [],Qw,Sm,false,false⟩
theorem anX:cd.bH Tryz.prog 67 aom:=bP ar dK sl 144 [] [] (λA (c,i)=>abr A c i) (λ_=>Empty.elim) Empty.elim ⟨(fc Tryz.func67 fz),(sc apK (sc ag0 sz)),oz,iz,(mc J7 (mc NY (mc agp (mc Zb mz)))),pz⟩ (λ_ y=>y.elim) (λ((c,i):Net×Int) f g h=>Iw f) (z:=λ_ _ h=>Ip h)
def abt(A:aS)(c:Net)(i:Int):LT (Net×Unit) Empty:=.ap (A.k uH (c,i,true)) (.pq A c.2.2.2.2.2.2.1 (.ret ((A.k xf (c,i,true)).1,())))
def Sn:Net×Int->Net×Unit:=λ(c,i)=>gS Empty.elim (abt af c i) (Ty.aR [lD],Ty.aR [])
def Qx:Net×Int->Bool:=λ(c,i)=>iq Empty.elim (abt af c i)&&decide (VF.lens [fN] (Sn (c,i)).1=VF.lens [fN] ((c,i):Net×Int).1)
def aon:cd:=⟨[fN], [yI], [],Qx,Sn,false,false⟩
theorem anY:cd.bH Tryz.prog 68 aon:=bP ar dK sl 11 [] [] (λA (c,i)=>abt A c i) (λ_=>Empty.elim) Empty.elim ⟨(fc Tryz.func68 fz),sz,oz,iz,(mc Zc mz),pz⟩ (λ_ y=>y.elim) (λ((c,i):Net×Int) f g h=>Iw f) (z:=λ_ _ h=>Ip h)
def ab1(A:aS)(c:Net)(i:Int):List gm×Span×Span×Int:=(c.2.2.2.2.2.2.2.1,(A.k JU (c.2.1,(A.n bO c.2.2.2.2.2.2.1 i:cm).2.1)).1,(A.k y9 (c.2.1,(A.n bO c.2.2.2.2.2.2.1 i:cm).2.1)).1,(A.n yI c.2.2.1.2.2.2.1 i:Int))
def qc(A:aS)(c:Net)(i:Int):List gm×Seen:=(A.k mP (ab1 A c i))
def ab2(A:aS)(c:Net)(i:Int):List gm×Span×Span×Int:=(c.2.2.2.2.2.2.2.2.1,(A.k JU (c.2.1,(A.n bO c.2.2.2.2.2.2.1 i:cm).2.1)).1,(A.k y9 (c.2.1,(A.n bO c.2.2.2.2.2.2.1 i:cm).2.1)).1,(A.n yI c.2.2.1.2.2.2.1 i:Int))
def qN(A:aS)(c:Net)(i:Int):List gm×Seen:=(A.k mP (ab2 A c i))
def Ie(A:aS)(c:Net)(i:Int):Node×qf×Int:=(A.k R5 (c.2.1,(A.n bO c.2.2.2.2.2.2.1 i:cm).1,(A.p ([(qc A c i).2]:List Seen) ([(qN A c i).2]:List Seen))))
def Ig(A:aS)(c:Net)(i:Int):List cm:=(A.set c.2.2.2.2.2.2.1 i ((A.k R5 (c.2.1,(A.n bO c.2.2.2.2.2.2.1 i:cm).1,(A.r 2 (Ty.gD qe:Seen)))).1,(A.n bO c.2.2.2.2.2.2.1 i:cm).2))
def Ih(A:aS)(c:Net)(i:Int):List cm:=(A.set c.2.2.2.2.2.2.1 i ((Ie A c i).1,(A.n bO c.2.2.2.2.2.2.1 i:cm).2))
def MB(A:aS)(c:Net)(i:Int):qf×Int:=(A.k R5 (c.2.1,(A.n bO c.2.2.2.2.2.2.1 i:cm).1,(A.r 2 (Ty.gD qe:Seen)))).2
def Rc(A:aS)(c:Net)(i:Int):ax×qk×Int:=(c.2.1,(A.n bO (Ih A c i) i:cm).2.1,(Ie A c i).2.1.2.2.2.2)
def Re(A:aS)(c:Net)(i:Int):ax×qk×Int:=(c.2.1,(A.n bO (Ig A c i) i:cm).2.1,(MB A c i).1.2.2.2.2)
def afp(A:aS)(c:Net)(i:Int):LT (Net×Unit) Empty:=.gQ A i c.2.2.2.2.2.2.1 (.br (A.cr (A.k JU (c.2.1,(A.n bO c.2.2.2.2.2.2.1 i:cm).2.1)).2 0) (.ret (c,())) (.br (A.cr (A.k y9 (c.2.1,(A.n bO c.2.2.2.2.2.2.1 i:cm).2.1)).2 0) (.ret (c,())) (.gQ A i c.2.2.1.2.2.2.1 (.ap (A.k CM (ab1 A c i)) (.ap (A.bU (A.l (([(qc A c i).2]:List Seen):List Seen)) 2932031007402) (.ap (A.k CM (ab2 A c i)) (.ap (A.bU (A.l (A.p ([(qc A c i).2]:List Seen) ([(qN A c i).2]:List Seen))) 2932031007402) (.ap (A.k ji ((mY c ()),6,i,(A.n bO c.2.2.2.2.2.2.1 i:cm).1.2.2.1)) (.br (A.k gU ((mY c ()),6,i,(A.n bO c.2.2.2.2.2.2.1 i:cm).1.2.2.1)).2 (.ap (A.and (A.bK 2 2) (A.and (A.bU 0 2) (A.bU 2 2932031007402))) (.br (A.cr (MB A c i).2 0) (.ret ((Am (Eo c (qc A c i).1) (qN A c i).1),())) (.br (A.cr (MB A c i).1.1 3) (.ret ((Am (Eo (rv c (Ig A c i)) (qc A c i).1) (qN A c i).1),())) (.ap (A.k GX (Re A c i)) (.br (A.bK (A.k wE (Re A c i)).2 0) (.ret ((Am (Eo (rv c (md A bO (Ig A c i) i λ(f:cm)=>(zt f (A.k wE (Re A c i)).1))) (qc A c i).1) (qN A c i).1),())) (.ret ((Am (Eo (rv c (Ig A c i)) (qc A c i).1) (qN A c i).1),()))))))) (.br (A.cr (Ie A c i).2.2 0) (.ret ((Am (Eo c (qc A c i).1) (qN A c i).1),())) (.br (A.cr (Ie A c i).2.1.1 3) (.ret ((Am (Eo (rv c (Ih A c i)) (qc A c i).1) (qN A c i).1),())) (.ap (A.k GX (Rc A c i)) (.br (A.bK (A.k wE (Rc A c i)).2 0) (.ret ((Am (Eo (rv c (md A bO (Ih A c i) i λ(f:cm)=>(zt f (A.k wE (Rc A c i)).1))) (qc A c i).1) (qN A c i).1),())) (.ret ((Am (Eo (rv c (Ih A c i)) (qc A c i).1) (qN A c i).1),())))))))))))))))
def sR:Net×Int->Net×Unit:=λ(c,i)=>gS Empty.elim (afp af c i) (Ty.aR [lD],Ty.aR [])
def QB:Net×Int->Bool:=λ(c,i)=>iq Empty.elim (afp af c i)&&decide (VF.lens [fN] (sR (c,i)).1=VF.lens [fN] ((c,i):Net×Int).1)
def aos:cd:=⟨[fN], [yI], [],QB,sR,false,false⟩
theorem an2:cd.bH Tryz.prog 97 aos:=bP ar dK (.kQ [0,0,0,0,0,0,3,0,0,0,0,0,0,0,0,1,0,0,0,0,1]) 299 [] [] (λA (c,i)=>afp A c i) (λ_=>Empty.elim) Empty.elim ⟨(fc Tryz.func97 (fc Tryz.func94 fz)),(sc agD (sc apH (sc aqr (sc aqs sz)))),oz,(ic agf iz),mz,(pc Od pz)⟩ (λ_ y=>y.elim) (λ((c,i):Net×Int) f g h=>Iw f) (z:=λ_ _ h=>Ip h)
structure ahY where
 (a0:Int) (a2:Net) (a3:fB)
structure ahZ where
 (b0:Int) (b3:fB)
inductive ac0 where
 | c0 (p:ahY) (a1:Int)
 | c1 (p:ahZ) (b1:Int) (b2:Net)
noncomputable def ai5:ac0->iH
 | .c0 p a1=>⟨[⟨98,102,(en [(0,.ptr 0 0),(5,.ptr 2 0),(34,vi p.a0),(35,vi a1)]),sk Tryz.f98 [1,1,0,1,0,0],[],none⟩],[yY p.a2 3 1 4 5 6 7,yT p.a2,.ay false (dc ir p.a3),yW p.a2 8,yR p.a2,bxB p.a2,yX p.a2,yV p.a2,yS p.a2,.aZ]⟩
 | .c1 p b1 b2=>⟨[⟨98,102,(en [(0,.ptr 0 0),(5,.ptr 2 0),(52,.own 1),(53,vi p.b0),(54,vi b1)]),sk Tryz.f98 [1,1,1,1,0,0],[],none⟩],[yY b2 3 1 4 5 6 7,yT b2,.ay false (dc ir p.b3),yW b2 8,yR b2,bxB b2,yX b2,yV b2,yS b2,.aZ]⟩
def Ii(A:aS)(c:Int)(f:Net):Node:=(A.n bO f.2.2.2.2.2.2.1 c:cm).1
def nU(A:aS)(c:Int):Int:=(A.cB c 1)
def aby(A:aS)(f:Net)(i:Int)(c:fB):LT (Net×Unit) ac0:=.gQ A i f.2.2.2.2.2.2.1 (.br (A.not (A.n bO f.2.2.2.2.2.2.1 i:cm).2.2.2.2.2.2.1) (.ret (f,())) (.br (A.cr (A.n bO f.2.2.2.2.2.2.1 i:cm).1.2.1 4) (.ret (f,())) (.ao (.c0 ⟨i,f,c⟩ 0))))
def Ad(A:aS):ac0->LT (Net×Unit) ac0
 | .c0 p a1=>.br (A.bD a1 p.a0) (.gQ A a1 p.a2.2.2.2.2.2.2.1 (.br (A.bK (A.n bO p.a2.2.2.2.2.2.2.1 a1:cm).1.2.1 4) (.ret (p.a2,())) (.ao (.c0 p (A.cB a1 1))))) (.ao (.c1 ⟨(A.l p.a2.2.2.2.2.2.2.1),p.a3⟩ 0 p.a2))
 | .c1 p b1 b2=>.br (A.bD b1 p.b0) (.gQ A b1 b2.2.2.2.2.2.2.1 (.ap (A.k ji ((mY b2 ()),2,b1,p.b3)) (.ap (A.k ji ((mY b2 ()),1,b1,p.b3)) (.br (A.k gU ((mY b2 ()),2,b1,p.b3)).2 (.br (A.bK (Ii A b1 b2).2.1 0) (.ap (A.k uH (b2,b1,true)) (.pq A b2.2.2.2.2.2.2.1 (.ao (.c1 p (nU A b1) (A.k xf (b2,b1,true)).1)))) (.br (A.k gU ((mY b2 ()),1,b1,p.b3)).2 (.br (A.cr (Ii A b1 b2).2.1 0) (.br (A.not (A.k lY (Ii A b1 b2))) (.ap (A.k uH (b2,b1,false)) (.pq A b2.2.2.2.2.2.2.1 (.ao (.c1 p (nU A b1) (A.k xf (b2,b1,false)).1)))) (.ao (.c1 p (nU A b1) b2))) (.ao (.c1 p (nU A b1) b2))) (.ao (.c1 p (nU A b1) b2)))) (.br (A.k gU ((mY b2 ()),1,b1,p.b3)).2 (.br (A.cr (Ii A b1 b2).2.1 0) (.br (A.not (A.k lY (Ii A b1 b2))) (.ap (A.k uH (b2,b1,false)) (.pq A b2.2.2.2.2.2.2.1 (.ao (.c1 p (nU A b1) (A.k xf (b2,b1,false)).1)))) (.ao (.c1 p (nU A b1) b2))) (.ao (.c1 p (nU A b1) b2))) (.ao (.c1 p (nU A b1) b2))))))) (.ret (b2,()))
def F5:Net×(Int×fB)->Net×Unit:=λ(f,(i,c))=>gS (Ad af) (aby af f i c) (Ty.aR [lD],Ty.aR [])
def CK:Net×(Int×fB)->Bool:=λ(f,(i,c))=>iq (Ad af) (aby af f i c)&&decide (VF.lens [fN] (F5 (f,(i,c))).1=VF.lens [fN] ((f,(i,c)):Net×(Int×fB)).1)
def aot:cd:=⟨[fN], [yI,ir], [],CK,F5,false,false⟩
theorem an3:cd.bH Tryz.prog 98 aot:=bP ar dK (.kQ [0,0,2]) 45 [⟨98,3, [[0,5,34,35]]⟩,⟨98,8, [[0,5,52,53,54]]⟩] [] (λA (f,(i,c))=>aby A f i c) Ad ai5 ⟨(fc Tryz.func98 fz),(sc BG sz),oz,iz,(mc Zc mz),(pc Od pz)⟩ (λA y=>match y with |.c0 p a1=>⟨40,sl,by kernel_rfl⟩|.c1 p b1 b2=>⟨92,sl,by kernel_rfl⟩) (λ((f,(i,c)):Net×(Int×fB)) g j h=>Iw g) (z:=λ_ _ h=>Ip h)
structure zw where
 (a0 a1:Int) (a2:Net)
inductive WT where
 | c0 (p:zw)
noncomputable def ai1:WT->iH
 | .c0 p=>⟨[⟨66,138,(en [(0,.ptr 0 0),(1,vi p.a0),(4,.kV 1 p.a1 0)]),(.code (cw Tryz.f66 [1,1,1,1,1,1,0,0])::sk Tryz.f66 [1,1,1,1,1,1,0,0]),[],none⟩],[yY p.a2 2 1 3 4 5 6,yT p.a2,yW p.a2 7,yR p.a2,bxB p.a2,yX p.a2,yV p.a2,yS p.a2,.aZ]⟩
def Ah(A:aS)(c:Net)(i:Int):cm:=(A.n bO c.2.2.2.2.2.2.1 i:cm)
def Mv(A:aS)(c:Net)(i:Int):Net×Int×Int×Int×Int×Int×Int:=((rv c (md A bO c.2.2.2.2.2.2.1 i λ(f:cm)=>(wu f false))),i,(Ah A c i).1.2.2.1)
def Mw(A:aS)(c:Net)(i:Int):Net×Int×Int×Int×Int×Int×Int:=((rv (A.k sR (c,i)).1 (md A bO (A.k sR (c,i)).1.2.2.2.2.2.2.1 i λ(f:cm)=>(wu f false))),i,(Ah A c i).1.2.2.1)
def Ai(A:aS)(p:zw):Node×Int:=(A.k X2 (p.a2.2.1,(A.n bO p.a2.2.2.2.2.2.2.1 p.a1:cm).1))
def wq(A:aS)(p:zw):List cm:=(A.set p.a2.2.2.2.2.2.2.1 p.a1 ((Ai A p).1,(A.n bO p.a2.2.2.2.2.2.2.1 p.a1:cm).2))
def xN(A:aS)(p:zw):qk×Int:=(A.k JQ (p.a2.2.1,(A.n bO (wq A p) p.a1:cm).2.1,(A.k zd (p.a2.2.2.1,p.a2.2.1.1,(A.n bO (wq A p) p.a1:cm).2.2.1,p.a0))))
def ab0(A:aS)(p:zw):List cm:=(md A bO (wq A p) p.a1 λ(c:cm)=>(zt c (xN A p).1))
def xO(A:aS)(p:zw):List cm:=(md A bO (ab0 A p) p.a1 λ(c:cm)=>(up2 c (A.cB c.2.2.1 1)))
def Ia(A:aS)(p:zw):List fj:=(A.p p.a2.2.2.2.2.2.2.2.2.2.2 ([((Ai A p).1.2.2.1.1,(A.k xe (Ai A p).1))]:List fj))
abbrev abq(A:aS)(c:Net)(i:Int):LT (Net×Unit) WT:=(.ap (A.k CK (Mv A c i)) (.pq A (md A bO c.2.2.2.2.2.2.1 i λ(f:cm)=>(wu f false)) (.ao (.c0 ⟨i,i,(A.k F5 (Mv A c i)).1⟩))))
def abp(A:aS)(c:Net)(i:Int):LT (Net×Unit) WT:=.gQ A i c.2.2.2.2.2.2.1 (.br (A.not (A.k lY (Ah A c i).1)) (.ret (c,())) (.br (A.not (Ah A c i).2.2.2.2.2.1) (.br (A.cr (Ah A c i).1.2.2.1.2.1 i) (.ap (A.k QB (c,i)) (.pq A c.2.2.2.2.2.2.1 (.ap (A.k CK (Mw A c i)) (.pq A (md A bO (A.k sR (c,i)).1.2.2.2.2.2.2.1 i λ(f:cm)=>(wu f false)) (.ao (.c0 ⟨i,i,(A.k F5 (Mw A c i)).1⟩)))))) (abq A c i)) (abq A c i)))
def Ow(A:aS):WT->LT (Net×Unit) WT
 | .c0 p=>.br (A.not (A.k lY (A.n bO p.a2.2.2.2.2.2.2.1 p.a1:cm).1)) (.ret (p.a2,())) (.br (A.cr (Ai A p).2 0) (.ret (p.a2,())) (.ap (A.k LJ (p.a2.2.2.1,p.a2.2.1.1,(A.n bO (wq A p) p.a1:cm).2.2.1,p.a0)) (.ap (A.k QC (p.a2.2.1,(A.n bO (wq A p) p.a1:cm).2.1,(A.k zd (p.a2.2.2.1,p.a2.2.1.1,(A.n bO (wq A p) p.a1:cm).2.2.1,p.a0)))) (.br (A.cr (xN A p).2 0) (.ret ((rv p.a2 (md A bO (wq A p) p.a1 λ(c:cm)=>(lp7 c true))),())) (.br (A.bK (Ai A p).1.2.2.1.2.1 0) (.ap (A.k xF (Ai A p).1) (.ap (A.bU (A.l (Ia A p)) 651562446089) (.ap (A.k vO ((anO (rv p.a2 (xO A p)) (Ia A p)),(xN A p).1.1,4,p.a0)) (.pq A (xO A p) (.ret ((A.k tW ((anO (rv p.a2 (xO A p)) (Ia A p)),(xN A p).1.1,4,p.a0)).1,())))))) (.ap (A.k vO ((rv p.a2 (xO A p)),(xN A p).1.1,4,p.a0)) (.pq A (xO A p) (.ret ((A.k tW ((rv p.a2 (xO A p)),(xN A p).1.1,4,p.a0)).1,())))))))))
def Sl:Net×Int->Net×Unit:=λ(c,i)=>gS (Ow af) (abp af c i) (Ty.aR [lD],Ty.aR [])
def Qv:Net×Int->Bool:=λ(c,i)=>iq (Ow af) (abp af c i)&&decide (VF.lens [fN] (Sl (c,i)).1=VF.lens [fN] ((c,i):Net×Int).1)
def aol:cd:=⟨[fN], [yI], [],Qv,Sl,false,false⟩
theorem anW:cd.bH Tryz.prog 66 aol:=bP ar dK sl 75 [] [⟨66,7, [[0,1,4]]⟩] (λA (c,i)=>abp A c i) Ow ai1 ⟨(fc Tryz.func66 fz),(sc BG (sc apJ (sc aaK (sc aqo (sc ag0 sz))))),oz,iz,(mc J7 (mc an2 (mc an3 mz))),pz⟩ (λA y=>match y with |.c0 p=>⟨143,(.kQ [0,0,0,0,1,2]),by kernel_rfl⟩) (λ((c,i):Net×Int) f g h=>Iw f) (z:=λ_ _ h=>Ip h)
structure ahU where
 (a0:Int) (a1:Net)
structure B8 where
 (b0:List dL) (b1 b3:Int) (b6:ia) (b13 B7:Int)
inductive WU where
 | c0 (p:ahU)
 | c1 (p:B8) (b2:Int) (b4:Net)
noncomputable def ai2:WU->iH
 | .c0 p=>⟨[⟨69,131,(en [(1,vi p.a0),(2,.ptr 2 0),(4,.ptr 3 0)]),(.code (cw Tryz.f69 [1,1,1,1,1,1,0,0])::sk Tryz.f69 [1,1,1,1,1,1,0,0]),[],none⟩],[yY p.a1 4 1 5 6 7 8,yT p.a1,.ay false [.ptr 0 0],.ay false [.kV 1 p.a0 0],yW p.a1 9,yR p.a1,bxB p.a1,yX p.a1,yV p.a1,yS p.a1,.aZ]⟩
 | .c1 p b2 b4=>⟨[⟨166,37,(en [(0,.yield 2),(2,.ptr 3 0),(3,.ptr 4 0),(4,.ptr 5 0),(8,.sl eZ p.b0),(9,vi p.b1),(10,vi b2)]),sk Tryz.f166 [1,0,0],[],none⟩,⟨69,131,(en [(1,vi p.b3),(2,.ptr 6 0),(4,.ptr 7 0)]),[.oI 2,.inBlock 0,.code (cw Tryz.f69 [1,1,1,1,1,1,1])],[8],none⟩],[yY b4 9 1 10 11 12 13,yT b4,.loop ⟨69,131,(en [(1,vi p.b3),(2,.ptr 6 0),(4,.ptr 7 0),(70,.ptr 0 0),(71,.ptr 0 0),(72,.ptr 0 9),(73,.agg (dc oq p.b6)),(74,vi p.b3),(75,.kV 1 p.b3 0),(76,.kV 1 p.b3 0),(77,.kV 1 p.b3 0),(78,.kV 1 p.b3 2),(79,.kV 1 p.b3 2),(80,vi p.b13),(81,.kV 1 p.b3 0),(82,.kV 1 p.b3 0),(83,.kV 1 p.b3 0),(84,.kV 1 p.b3 2),(85,.kV 1 p.b3 3),(86,vi p.B7),(87,.fn 166 [] [.ptr 14 0,.ptr 3 0,.ptr 4 0,.ptr 5 0])]),[88],(cw Tryz.f69 [1,1,1,1,1,1,0,1,0,0]),(cw Tryz.f69 [1,1,1,1,1,1,0,1,0,1]),0,none⟩,.ay false [vi p.b3],.ay false [vi p.b13],.ay false [vi p.B7],.ay false [.ptr 0 0],.ay false [.kV 1 p.b3 0],.It,yW b4 15,yR b4,bxB b4,yX b4,yV b4,.ay false [.sl eZ p.b0],yS b4,.aZ]⟩
def Aj(A:aS)(c:Net)(i:Int):cm:=(A.n bO c.2.2.2.2.2.2.1 i:cm)
def tx(A:aS)(p:B8)(c:Net):cm:=(A.n bO c.2.2.2.2.2.2.1 p.b3:cm)
def xQ(A:aS)(p:B8)(c:Net):Net:=(A.k zf (c,p.b3,(tx A p c).1.2.2.1)).1
def xP(A:aS)(p:B8)(c:Net):Net×Int×Int×Int×Int×Int×Int:=((xQ A p c),p.b3,(tx A p c).1.2.2.1)
abbrev abv(A:aS)(c:Net)(i:Int):LT (Net×Unit) WU:=(.ap (A.k ji ((mY c ()),1,i,(Aj A c i).1.2.2.1)) (.br (A.k gU ((mY c ()),1,i,(Aj A c i).1.2.2.1)).2 (.ap (A.k uH (c,i,false)) (.pq A c.2.2.2.2.2.2.1 (.ret ((A.k xf (c,i,false)).1,())))) (.ao (.c0 ⟨i,(rv c (md A bO c.2.2.2.2.2.2.1 i λ(f:cm)=>(rv f (A.bK f.1.2.1 4))))⟩))))
def abu(A:aS)(c:Net)(i:Int):LT (Net×Unit) WU:=.gQ A i c.2.2.2.2.2.2.1 (.br (A.not (A.k lY (Aj A c i).1)) (.ret (c,())) (.br (A.bK (Aj A c i).1.2.2.1.1 c.2.2.2.1) (.br (A.bK (Aj A c i).1.2.2.1.2.1 0) (.ret ((rv c (md A bO c.2.2.2.2.2.2.1 i λ(f:cm)=>(lp7 f true))),())) (abv A c i)) (abv A c i)))
def Bz(A:aS):WU->LT (Net×Unit) WU
 | .c0 p=>.ap (A.k Qo p.a1.2.2.1.2.2.2.2.2.2.1) (.ao (.c1 ⟨(A.k Yd p.a1.2.2.1.2.2.2.2.2.2.1),(A.l (A.k Yd p.a1.2.2.1.2.2.2.2.2.2.1)),p.a0,p.a1.2.2.1,(A.n bO p.a1.2.2.2.2.2.2.1 p.a0:cm).1.2.2.1.1,(A.n bO p.a1.2.2.2.2.2.2.1 p.a0:cm).1.2.2.1.2.1⟩ 0 p.a1))
 | .c1 p b2 b4=>.br (A.bD b2 p.b1) (.gQ A b2 p.b0 (.br (A.bK (A.n eZ p.b0 b2:dL).1 p.b3) (.br (A.bK (A.n eZ p.b0 b2:dL).2.1 p.b13) (.br (A.bK (A.n eZ p.b0 b2:dL).2.2.1 p.B7) (.br (A.bK (A.k R4 (b4.2.1,(tx A p b4).1,(A.n eZ p.b0 b2:dL))).2 0) (.ao (.c1 p (A.cB b2 1) (rv b4 (A.set b4.2.2.2.2.2.2.1 p.b3 ((A.k R4 (b4.2.1,(tx A p b4).1,(A.n eZ p.b0 b2:dL))).1,(tx A p b4).2))))) (.ao (.c1 p (A.cB b2 1) b4))) (.ao (.c1 p (A.cB b2 1) b4))) (.ao (.c1 p (A.cB b2 1) b4))) (.ao (.c1 p (A.cB b2 1) b4)))) (.ap (A.k QD (b4,p.b3,(tx A p b4).1.2.2.1)) (.pq A b4.2.2.2.2.2.2.1 (.br (A.bK (tx A p b4).1.2.2.1.2.1 p.b3) (.ap (A.k QE (xP A p b4)) (.pq A (xQ A p b4).2.2.2.2.2.2.1 (.br (A.not (A.k xg (xP A p b4)).2) (.ret ((A.k xg (xP A p b4)).1,())) (.ap (A.k CL ((A.k xg (xP A p b4)).1,p.b3)) (.pq A (A.k xg (xP A p b4)).1.2.2.2.2.2.2.1 (.ret ((A.k F6 ((A.k xg (xP A p b4)).1,p.b3)).1,()))))))) (.ap (A.k CL ((xQ A p b4),p.b3)) (.pq A (xQ A p b4).2.2.2.2.2.2.1 (.ret ((A.k F6 ((xQ A p b4),p.b3)).1,())))))))
def Sp:Net×Int->Net×Unit:=λ(c,i)=>gS (Bz af) (abu af c i) (Ty.aR [lD],Ty.aR [])
def Qy:Net×Int->Bool:=λ(c,i)=>iq (Bz af) (abu af c i)&&decide (VF.lens [fN] (Sp (c,i)).1=VF.lens [fN] ((c,i):Net×Int).1)
def aoo:cd:=⟨[fN], [yI], [],Qy,Sp,false,false⟩
theorem anZ:cd.bH Tryz.prog 69 aoo:=bP ar dK sl 99 [⟨166,1, [[0,2,3,4,8,9,10], [1,2,4]]⟩] [⟨69,9, [[1,2,4]]⟩] (λA (c,i)=>abu A c i) Bz ai2 ⟨(fc Tryz.func69 (fc Tryz.func107 (fc Tryz.func166 fz))),(sc BG (sc apG (sc aqe sz))),oz,iz,(mc Zb (mc Zc (mc an4 (mc an5 mz)))),(pc Od pz)⟩ (λA y=>match y with |.c0 p=>⟨57,sl,by kernel_rfl⟩|.c1 p b2 b4=>⟨94,sl,by kernel_rfl⟩) (λ((c,i):Net×Int) f g h=>Iw f) (z:=λ_ _ h=>Ip h)
structure ET where
 (a0 a3 a4 a5:Int)
inductive acX where
 | c0 (p:ET) (a1:Int) (a2:Net)
noncomputable def ai0:acX->iH
 | .c0 p a1 a2=>⟨[⟨65,95,(en [(0,.ptr 0 0),(4,.ptr 2 0),(22,vi p.a0),(23,vi a1)]),sk Tryz.f65 [1,1,0,0],[],none⟩],[yY a2 3 1 4 5 6 7,yT a2,.ay false [vi p.a3,vi p.a4,vi p.a5],yW a2 8,yR a2,bxB a2,yX a2,yV a2,yS a2,.aZ]⟩
def uL(A:aS)(p:ET)(a1:Int)(a2:Net):List gm×Span×Span×Int:=(a2.2.2.2.2.2.2.2.1,(p.a3,p.a4),(p.a3,(A.cB p.a3 1)),(A.n yI a2.2.2.1.2.2.2.1 a1:Int))
def wo(A:aS)(p:ET)(a1:Int)(a2:Net):List gm×Span×Span×Int:=(a2.2.2.2.2.2.2.2.2.1,(p.a3,p.a4),(p.a3,(A.cB p.a3 1)),(A.n yI a2.2.2.1.2.2.2.1 a1:Int))
def wm(A:aS)(p:ET)(a1:Int)(a2:Net):Node×Int×Bool×Int:=(A.k X0 (a2.2.1,(A.n bO a2.2.2.2.2.2.2.1 a1:cm).1,(A.p ([(A.k mP (uL A p a1 a2)).2]:List Seen) ([(A.k mP (wo A p a1 a2)).2]:List Seen))))
def H_(A:aS)(p:ET)(a1:Int)(a2:Net):Net:=(Am (Eo a2 (A.k mP (uL A p a1 a2)).1) (A.k mP (wo A p a1 a2)).1)
def abo(A:aS)(f:Net)(c:Int):LT (Net×Unit) acX:=.gQ A c f.2.2.2.2.2.2.2.2.2.1 (.ao (.c0 ⟨(A.l f.2.2.2.2.2.2.1),(A.n Jq f.2.2.2.2.2.2.2.2.2.1 c:sH).1.1,(A.n Jq f.2.2.2.2.2.2.2.2.2.1 c:sH).1.2,(A.n Jq f.2.2.2.2.2.2.2.2.2.1 c:sH).2⟩ 0 f))
def L6(A:aS):acX->LT (Net×Unit) acX
 | .c0 p a1 a2=>.br (A.bD a1 p.a0) (.gQ A a1 a2.2.2.2.2.2.2.1 (.br (A.cr (A.n bO a2.2.2.2.2.2.2.1 a1:cm).1.2.1 1) (.ao (.c0 p (A.cB a1 1) a2)) (.br (A.jw (A.n bO a2.2.2.2.2.2.2.1 a1:cm).2.2.2.1 p.a3) (.ao (.c0 p (A.cB a1 1) a2)) (.br (A.bK p.a5 a1) (.ao (.c0 p (A.cB a1 1) a2)) (.gQ A a1 a2.2.2.1.2.2.2.1 (.ap (A.k CM (uL A p a1 a2)) (.ap (A.bU (A.l (([(A.k mP (uL A p a1 a2)).2]:List Seen):List Seen)) 2932031007402) (.ap (A.k CM (wo A p a1 a2)) (.ap (A.bU (A.l (A.p ([(A.k mP (uL A p a1 a2)).2]:List Seen) ([(A.k mP (wo A p a1 a2)).2]:List Seen))) 2932031007402) (.br (A.cr (wm A p a1 a2).2.2.2 0) (.ao (.c0 p (A.cB a1 1) (H_ A p a1 a2))) (.br (A.not (wm A p a1 a2).2.2.1) (.ao (.c0 p (A.cB a1 1) (Am (Eo (rv a2 (A.set a2.2.2.2.2.2.2.1 a1 ((wm A p a1 a2).1,(A.n bO a2.2.2.2.2.2.2.1 a1:cm).2))) (A.k mP (uL A p a1 a2)).1) (A.k mP (wo A p a1 a2)).1))) (.ap (A.k QA ((H_ A p a1 a2),a1,(wm A p a1 a2).1,(wm A p a1 a2).2.1)) (.pq A a2.2.2.2.2.2.2.1 (.ao (.c0 p (A.cB a1 1) (A.k Sr ((H_ A p a1 a2),a1,(wm A p a1 a2).1,(wm A p a1 a2).2.1)).1))))))))))))))) (.ret (a2,()))
def Sk:Net×Int->Net×Unit:=λ(f,c)=>gS (L6 af) (abo af f c) (Ty.aR [lD],Ty.aR [])
def Qu:Net×Int->Bool:=λ(f,c)=>iq (L6 af) (abo af f c)&&decide (VF.lens [fN] (Sk (f,c)).1=VF.lens [fN] ((f,c):Net×Int).1)
def aok:cd:=⟨[fN], [yI], [],Qu,Sk,false,false⟩
theorem anV:cd.bH Tryz.prog 65 aok:=bP ar dK sl 29 [⟨65,2, [[0,4,22,23]]⟩] [] (λA (f,c)=>abo A f c) L6 ai0 ⟨(fc Tryz.func65 (fc Tryz.func94 fz)),(sc apC sz),oz,(ic agf iz),(mc an1 mz),pz⟩ (λA y=>match y with |.c0 p a1 a2=>⟨240,(.kQ [0,0,0,0,0,0,0,0,3]),by kernel_rfl⟩) (λ((f,c):Net×Int) g j h=>Iw g) (z:=λ_ _ h=>Ip h)
def nq(A:aS)(c:Net):qU×(jc×Int):=(A.k za (c.2.2.2.2.2.1,()))
def C9(A:aS)(c:Net):Int×Bool×Bool×Bool:=(A.n bO c.2.2.2.2.2.2.1 (nq A c).2.1.2.2.1:cm).2.2.2.2
def H8(A:aS)(c:Net):Bool:=(A.and (A.bU 0 (nq A c).2.1.2.2.1) (A.bD (nq A c).2.1.2.2.1 (A.l c.2.2.2.2.2.2.1)))
def uK(A:aS)(c:Net):Net×Int:=((wu c (nq A c).1),(nq A c).2.1.2.2.1)
def qM(A:aS)(c:Net):Net×Unit:=((wu c (nq A c).1),())
def H9(A:aS)(c:Net):Bool:=(A.bK (C9 A c).1 (nq A c).2.1.2.2.2)
def C_(A:aS)(c:Net):Bool:=(A.cr (A.l c.2.2.2.2.2.2.1) 0)
def abl(A:aS)(c:Net):LT (Net×Unit) Empty:=.ap (A.k Qt (c.2.2.2.2.2.1,())) (.br (A.cr (nq A c).2.2 0) (.ret (qM A c)) (.br (A.bK (nq A c).2.1.2.1 3) (.ap (A.k Qu ((wu c (nq A c).1),(nq A c).2.1.2.2.2)) (.ap (C_ A c) (.ret ((A.k Sk ((wu c (nq A c).1),(nq A c).2.1.2.2.2)).1,())))) (.br (A.bK (nq A c).2.1.2.1 1) (.ap (H8 A c) (.br (H9 A c) (.br (A.not (C9 A c).2.2.2) (.ap (A.k Qv (uK A c)) (.ap (C_ A c) (.ret ((A.k Sl (uK A c)).1,())))) (.ret (qM A c))) (.ret (qM A c)))) (.br (A.bK (nq A c).2.1.2.1 2) (.ap (H8 A c) (.br (H9 A c) (.br (A.not (C9 A c).2.2.2) (.ap (A.k Qw (uK A c)) (.ap (C_ A c) (.ret ((A.k Sm (uK A c)).1,())))) (.ret (qM A c))) (.ret (qM A c)))) (.br (A.bK (nq A c).2.1.2.1 5) (.ap (H8 A c) (.br (H9 A c) (.br (A.not (C9 A c).2.2.2) (.ap (A.k Qx (uK A c)) (.ap (C_ A c) (.ret ((A.k Sn (uK A c)).1,())))) (.ret (qM A c))) (.ret (qM A c)))) (.ap (H8 A c) (.br (H9 A c) (.br (A.not (C9 A c).2.2.2) (.ap (A.k Qy (uK A c)) (.ap (C_ A c) (.ret ((A.k Sp (uK A c)).1,())))) (.ret (qM A c))) (.ret (qM A c)))))))))
def sQ:Net×Unit->Net×Unit:=λ(c,())=>gS Empty.elim (abl af c) (Ty.aR [lD],Ty.aR [])
def CH:Net×Unit->Bool:=λ(c,())=>iq Empty.elim (abl af c)&&decide (VF.lens [fN] (sQ (c,())).1=VF.lens [fN] ((c,()):Net×Unit).1)
def aof:cd:=⟨[fN], [], [],CH,sQ,false,false⟩
theorem ago:cd.bH Tryz.prog 30 aof:=bP ar dK (.kQ [0,0,0,0,0,0,0,1,0,0,0,0,0,0,1,0,0,0,0,0,0,1,0,0,0,0,0,1]) 102 [] [] (λA (c,())=>abl A c) (λ_=>Empty.elim) Empty.elim ⟨(fc Tryz.func30 fz),sz,oz,iz,(mc anU (mc anV (mc anW (mc anX (mc anY (mc anZ mz)))))),pz⟩ (λ_ y=>y.elim) (λ((c,()):Net×Unit) f g h=>Iw f) (z:=λ_ _ h=>Ip h)
def ato(A:aS)(a:fj)(b:fj):LT Int Empty:=.ret (A.k NB [(A.k q8 (a.1,b.1)),(A.k q8 (a.2.1,b.2.1))])
def NH:(fj×fj)->Int:=λ(a,b)=>(ato af a b).val (Ty.aR [yI])
def asr:aM:=.all [iv,iv] [yI] NH
theorem agZ:Sd 58 asr:=fa (aP ar dK sl 30 [] (λA (a,b)=>ato A a b) (kz (fc Tryz.func58 fz) (sc aaI (sc aaJ sz))) (λ_ _ _=>LT.bE (by kernel_rfl)))
def eT{Y:Type}(s:Y->LT (List fj×Unit) Y)(N:Nat)(t:LT (List fj×Unit) Y):Prop:=∃r:List fj,r.length=N/\aW s t (r,())
section
variable {Y:Type} {s:Y->LT (List fj×Unit) Y} {N:Nat} {t e:LT (List fj×Unit) Y} {a b:Int}
theorem eT.ret{r:List fj}(h:r.length=N):eT s N (.ret (r,())):=⟨r,h,.ret _⟩
theorem eT.ao{y:Y}(h:eT s N (s y)):eT s N (.ao y):=h.elim λr k=>⟨r,k.1,.ao k.2⟩
theorem eT.ap{b:Bool}(c:b=true)(h:eT s N t):eT s N (.ap b t):=h.elim λr k=>⟨r,k.1,.ap c k.2⟩
theorem eT.br{b:Bool}(c:b=true->eT s N t)(f:b=false->eT s N e):eT s N (.br b t e):=by
 cases b
 ·exact(f rfl).elim λr k=>⟨r,k.1,.br k.2⟩
 ·exact(c rfl).elim λr k=>⟨r,k.1,.br k.2⟩
theorem eT.lss(c:a<b->eT s N t)(f:b<=a->eT s N e):eT s N (.br (af.bD a b) t e):=
 eT.br (λh=>c (of_decide_eq_true (p:=a<b) h)) λh=>f (jH.1 (of_decide_eq_false (p:=a<b) h))
theorem eT.gtr(c:b<a->eT s N t)(f:a<=b->eT s N e):eT s N (.br (af.jw a b) t e):=
 eT.br (λh=>c (of_decide_eq_true (p:=b<a) h)) λh=>f (jH.1 (of_decide_eq_false (p:=b<a) h))
theorem eT.leq(c:a<=b->eT s N t)(f:b<a->eT s N e):eT s N (.br (af.bU a b) t e):=
 eT.br (λh=>c (of_decide_eq_true (p:=a<=b) h)) λh=>f (Int.not_le.1 (of_decide_eq_false (p:=a<=b) h))
theorem eT.eql(c:a=b->eT s N t)(f:¬a=b->eT s N e):eT s N (.br (af.bK a b) t e):=by
 rw[dE];exact eT.br (λh=>c (of_decide_eq_true h)) λh=>f (of_decide_eq_false h)
theorem eT.neq(c:¬a=b->eT s N t)(f:a=b->eT s N e):eT s N (.br (af.cr a b) t e):=by
 rw[dM];exact eT.br (λh=>c (of_decide_eq_true h)) λh=>f (dx.1 (of_decide_eq_false h))
end
def rB{Y:Type}(s:Y->LT (List fj×Unit) Y)(t:LT (List fj×Unit) Y)(d:List fj):List fj:=bif Nat.beq (gS s t (d,())).1.length d.length then(gS s t (d,())).1 else d
variable{Y:Type}{d:List fj}
theorem qF{s:Y->LT (List fj×Unit) Y}{t:LT (List fj×Unit) Y}:(rB s t d).length=d.length:=by
 unfold rB;cases h:Nat.beq (gS s t (d,())).1.length d.length
 ·rfl
 ·exact vk h
theorem sj{s:Y->LT (List fj×Unit) Y}{t:LT (List fj×Unit) Y}(h:eT s d.length t):(rB s t d).length=d.length/\aW s t (rB s t d,()):=by
 refine⟨qF,?_⟩;obtain⟨r,f,c⟩:=h;rw[rB,LW c,sZ.2 f];exact c
theorem Ew{l:List fj}{i j:Int}{v:fj}(h:0<=i/\i<(l.length:Int)):af.and (af.bU 0 i) (af.bD i (af.l (af.set l j v)))=true:=bW (by rw[gy];exact h)
structure WE where
 (a0 a1 a2:Int)
inductive ada where
 | c0 (p:WE) (a3:Int) (a4:List fj)
noncomputable def ajf:ada->iH
 | .c0 p a3 a4=>⟨[⟨235,38,(en [(0,.own 0),(1,vi p.a0),(2,vi p.a1),(3,vi p.a2),(10,vi a3)]),sk Tryz.f235 [1,0,0],[],none⟩],[.arr false iv a4,.aZ]⟩
def amB(A:aS)(c:List fj)(a:Int)(b:Int)(n:Int):LT (List fj×Unit) ada:=.ao (.c0 ⟨a,b,n⟩ 0 c)
def aeN(A:aS):ada->LT (List fj×Unit) ada
 | .c0 p a3 a4=>.br (A.bD a3 p.a2) (.gQ A (A.cB p.a1 a3) a4 (.gQ A (A.cB p.a0 a3) a4 (.gQ A (A.cB p.a0 a3) a4 (.gQ A (A.cB p.a1 a3) (A.set a4 (A.cB p.a0 a3) (A.n iv a4 (A.cB p.a1 a3):fj)) (.ao (.c0 p (A.cB a3 1) (A.set (A.set a4 (A.cB p.a0 a3) (A.n iv a4 (A.cB p.a1 a3):fj)) (A.cB p.a1 a3) (A.n iv a4 (A.cB p.a0 a3):fj)))))))) (.ret (a4,()))
variable{N:Nat}
theorem afc{p:WE}(l:0<=p.a0)(m:0<=p.a1)(n:p.a0+p.a2<=N)(o:p.a1+p.a2<=N)(q:N<=1000000):∀(j:Nat) (k:Int) (d:List fj),(p.a2-k).toNat<=j->0<=k->d.length=N->eT (aeN af) N (.ao (.c0 p k d)):=by
 intro j
 induction j with
 | zero=>intro k d f g c;exact eT.ao (eT.lss (λh=>by omega) λ_=>eT.ret c)
 | succ j ih=>
   intro k d f g c;refine eT.ao (eT.lss (λh=>?_) λ_=>eT.ret c);rw[dD (x:=p.a1) (y:=k) (by omega),dD (x:=p.a0) (y:=k) (by omega),dD (x:=k) (y:=1) (by omega)];exact eT.ap (bW (by omega)) (eT.ap (bW (by omega)) (eT.ap (bW (by omega)) (eT.ap (Ew (by omega)) (ih (k+1) _ (by omega) (by omega) (gy.trans (gy.trans c))))))
variable{a b:Int}
theorem alv{n:Int}(h:0<=a/\0<=n/\a+n<=b/\b+n<=(d.length:Int)/\d.length<=1000000):eT (aeN af) d.length (amB af d a b n):=
 afc (p:=⟨a,b,n⟩) (by simp only;omega) (by simp only;omega) (by simp only;omega) (by simp only;omega) (by omega) _ 0 d (ah _) (aj 0) rfl
def NJ:List fj×(Int×Int×Int)->List fj×Unit:=λ(d,a,b,n)=>(rB (aeN af) (amB af d a b n) d,())
def GY:List fj×(Int×Int×Int)->Bool:=λ(d,a,b,n)=>decide (0<=a/\0<=n/\a+n<=b/\b+n<=(d.length:Int)/\d.length<=1000000)
def anJ:fT:=⟨iv, [yI,yI,yI], [58], [],GY,NJ⟩
theorem anw:fT.bH Tryz.prog 235 anJ:=gf ar dK sl 12 [⟨235,1, [[0,1,2,3,10]]⟩] [] (λA (c,(a,b,n))=>amB A c a b n) aeN ajf (kz (fc Tryz.func235 fz) sz) (λA y=>match y with |.c0 p g j=>⟨49,sl,by kernel_rfl⟩) λ((c,(a,b,n)):List fj×(Int×Int×Int)) f l h=>sj (alv (of_decide_eq_true f))
structure WC where
 (a0:Int)
inductive ac9 where
 | c0 (p:WC) (a1:Int) (a2:Int) (a3:List fj)
noncomputable def ajd:ac9->iH
 | .c0 p a1 a2 a3=>⟨[⟨187,58,(en [(0,.own 0),(2,vi p.a0),(4,.fn 58 [] []),(10,vi a1),(11,vi a2)]),sk Tryz.f187 [1,1,0,0,0],[],none⟩],[.arr false iv a3,.aZ]⟩
def afA(A:aS)(c:List fj)(a:Int)(m:Int)(b:Int):LT (List fj×Unit) ac9:=.ao (.c0 ⟨m⟩ (A.fF m a) (A.fF b m) c)
def aeM(A:aS):ac9->LT (List fj×Unit) ac9
 | .c0 p a1 a2 a3=>.br (A.cr a1 a2) (.br (A.jw a1 a2) (.ap (A.k GY (a3,(A.fF p.a0 a1),p.a0,a2)) (.ao (.c0 p (A.fF a1 a2) a2 (A.k NJ (a3,(A.fF p.a0 a1),p.a0,a2)).1))) (.ap (A.k GY (a3,(A.fF p.a0 a1),(A.fF (A.cB p.a0 a2) a1),a1)) (.ao (.c0 p a1 (A.fF a2 a1) (A.k NJ (a3,(A.fF p.a0 a1),(A.fF (A.cB p.a0 a2) a1),a1)).1)))) (.ap (A.k GY (a3,(A.fF p.a0 a1),p.a0,a1)) (.ret ((A.k NJ (a3,(A.fF p.a0 a1),p.a0,a1)).1,())))
theorem LQ{n:Int}(h:0<=a/\0<=n/\a+n<=b/\b+n<=(d.length:Int)/\d.length<=1000000):af.k GY (d,a,b,n)=true:=da h
theorem P5{n:Int}:(af.k NJ (d,a,b,n)).1.length=d.length:=qF
theorem aeF{p:WC}(r:N<=1000000):∀(f:Nat) (i j:Int) (d:List fj),(i+j).toNat<=f->1<=i->1<=j->i<=p.a0->p.a0+j<=N->d.length=N->eT (aeM af) N (.ao (.c0 p i j d)):=by
 intro f
 induction f with
 | zero=>intro i j d n l m;omega
 | succ f ih=>
   intro i j d n l m o q c;refine eT.ao (eT.neq (λh=>eT.gtr (λg=>?_) λg=>?_) λh=>?_)
   ·rw[lN (x:=p.a0) (y:=i) (by omega),lN (x:=i) (y:=j) (by omega)]
    exact eT.ap (LQ (by omega)) (ih (i-j) j _ (by omega) (by omega) m (by omega) q (P5.trans c))
   ·rw[dD (x:=p.a0) (y:=j) (by omega),lN (x:=p.a0) (y:=i) (by omega),lN (x:=p.a0+j) (y:=i) (by omega),lN (x:=j) (y:=i) (by omega)]
    exact eT.ap (LQ (by omega)) (ih i (j-i) _ (by omega) l (by omega) o (by omega) (P5.trans c))
   ·rw[lN (x:=p.a0) (y:=i) (by omega)]
    exact eT.ap (LQ (by omega)) (eT.ret (P5.trans c))
theorem akW{m:Int}(h:0<=a/\a<m/\m<b/\b<=(d.length:Int)/\d.length<=1000000):eT (aeM af) d.length (afA af d a m b):=by
 unfold afA;rw[lN (x:=m) (y:=a) (by omega),lN (x:=b) (y:=m) (by omega)];exact aeF (p:=⟨m⟩) (by omega) _ (m-a) (b-m) d (ah _) (by omega) (by omega) (by simp only;omega) (by simp only;omega) rfl
def sS:List fj×(Int×Int×Int)->List fj×Unit:=λ(d,a,m,b)=>(rB (aeM af) (afA af d a m b) d,())
def QI:List fj×(Int×Int×Int)->Bool:=λ(d,a,m,b)=>decide (0<=a/\a<m/\m<b/\b<=(d.length:Int)/\d.length<=1000000)
def anI:fT:=⟨iv, [yI,yI,yI], [58], [],QI,sS⟩
theorem anv:fT.bH Tryz.prog 187 anI:=gf ar dK sl 23 [⟨187,2, [[0,2,4,10,11]]⟩] [] (λA (c,(a,m,b))=>afA A c a m b) aeM ajd ⟨(fc Tryz.func187 fz),sz,oz,(ic anw iz),mz,pz⟩ (λA y=>match y with |.c0 p a1 a2 g=>⟨45,sl,by kernel_rfl⟩) λ((c,(a,m,b)):List fj×(Int×Int×Int)) f j h=>sj (akW (of_decide_eq_true f))
structure ah0 where
 (a0 a1 a2:Int) (a3:List fj)
structure ah1 where
 (b0 b1 b2:Int)
inductive ac5 where
 | c0 (p:ah0)
 | c1 (p:ah1) (b3:Int) (b4:List fj)
noncomputable def ai_:ac5->iH
 | .c0 p=>⟨[⟨136,53,(en [(0,.own 0),(1,vi p.a0),(2,vi p.a1),(3,.fn 58 [] []),(8,vi p.a2)]),sk Tryz.f136 [1,0,0],[],none⟩],[.arr false iv p.a3,.aZ]⟩
 | .c1 p b3 b4=>⟨[⟨136,53,(en [(0,.own 0),(1,vi p.b0),(2,vi p.b1),(3,.fn 58 [] []),(8,vi p.b2),(9,vi b3)]),sk Tryz.f136 [1,0,0,1,0,0,1,0,0],[],none⟩],[.arr false iv b4,.aZ]⟩
def afw(A:aS)(c:List fj)(a:Int)(b:Int):LT (List fj×Unit) ac5:=.ao (.c0 ⟨a,b,(A.cB a 1),c⟩)
def U9(A:aS):ac5->LT (List fj×Unit) ac5
 | .c0 p=>.br (A.bD p.a2 p.a1) (.ao (.c1 ⟨p.a0,p.a1,p.a2⟩ p.a2 p.a3)) (.ret (p.a3,()))
 | .c1 p b3 b4=>.br (A.jw b3 p.b0) (.gQ A b3 b4 (.gQ A (A.fF b3 1) b4 (.br (A.bD (A.k NH ((A.n iv b4 b3:fj),(A.n iv b4 (A.fF b3 1):fj))) 0) (.gQ A (A.fF b3 1) b4 (.gQ A b3 b4 (.gQ A b3 b4 (.gQ A (A.fF b3 1) (A.set b4 b3 (A.n iv b4 (A.fF b3 1):fj)) (.ao (.c1 p (A.fF b3 1) (A.set (A.set b4 b3 (A.n iv b4 (A.fF b3 1):fj)) (A.fF b3 1) (A.n iv b4 b3:fj)))))))) (.ao (.c0 ⟨p.b0,p.b1,(A.cB p.b2 1),b4⟩))))) (.ao (.c0 ⟨p.b0,p.b1,(A.cB p.b2 1),b4⟩))
theorem adY(A:N<=1000000)(z:0<=a)(B:b<=N):∀(f:Nat) (i:Int) (d:List fj),(b-i).toNat<=f->a<i->d.length=N->eT (U9 af) N (.ao (.c0 ⟨a,b,i,d⟩)):=by
 intro f
 induction f with
 | zero=>intro i d q u l;exact eT.ao (eT.lss (λh=>by have:i<b:=h;omega) λ_=>eT.ret l)
 | succ f ih=>
   intro i d q u l;refine eT.ao (eT.lss (λh=>?_) λ_=>eT.ret l);have h:i<b:=h;have p:∀e:List fj,e.length=N->eT (U9 af) N (.ao (.c0 ⟨a,b,af.cB i 1,e⟩)):=λe c=>by
    rw[dD (x:=i) (y:=1) (by omega)];exact ih (i+1) e (by omega) (by omega) c
   have o:∀(g:Nat) (j:Int) (e:List fj),(j-a).toNat<=g->a<=j->j<=i->e.length=N->eT (U9 af) N (.ao (.c1 ⟨a,b,i⟩ j e)):=by
    intro g
    induction g with
    | zero=>intro j e r v m c;exact eT.ao (eT.gtr (λh=>by have:a<j:=h;omega) λ_=>p e c)
    | succ g n=>
      intro j e r v m c;refine eT.ao (eT.gtr (λh=>?_) λ_=>p e c);have h:a<j:=h;rw[lN (x:=j) (y:=1) (by omega)];exact eT.ap (bW (by omega)) (eT.ap (bW (by omega)) (eT.br (λ_=>eT.ap (bW (by omega)) (eT.ap (bW (by omega)) (eT.ap (bW (by omega)) (eT.ap (Ew (by omega)) (n (j-1) _ (by omega) (by omega) (by omega) (gy.trans (gy.trans c))))))) λ_=>p e c))
   exact o _ i d (ah _) (by omega) (aj i) l
theorem aj4(h:0<=a/\a<=b/\b<=(d.length:Int)/\d.length<=1000000):eT (U9 af) d.length (afw af d a b):=by
 unfold afw;rw[dD (x:=a) (y:=1) (by omega)];exact adY (by omega) h.1 h.2.2.1 _ (a+1) d (ah _) (by omega) rfl
def Ss:List fj×(Int×Int)->List fj×Unit:=λ(d,a,b)=>(rB (U9 af) (afw af d a b) d,())
def LK:List fj×(Int×Int)->Bool:=λ(d,a,b)=>decide (0<=a/\a<=b/\b<=(d.length:Int)/\d.length<=1000000)
def anG:fT:=⟨iv, [yI,yI], [58], [],LK,Ss⟩
theorem anu:fT.bH Tryz.prog 136 anG:=gf ar dK sl 14 [⟨136,1, [[0,1,2,3,8]]⟩,⟨136,4, [[0,1,2,3,8,9]]⟩] [] (λA (c,(a,b))=>afw A c a b) U9 ai_ (kz (fc Tryz.func136 fz) (sc agZ sz)) (λA y=>match y with |.c0 p=>⟨24,sl,by kernel_rfl⟩|.c1 p b3 b4=>⟨57,sl,by kernel_rfl⟩) λ((c,(a,b)):List fj×(Int×Int)) f g h=>sj (aj4 (of_decide_eq_true f))
abbrev VE:Type:=List fj×Int×Int×Int->List fj×Unit
def jC(k:Nat):List fj×Int×Int×Int->Bool:=λ(d,a,m,b)=>decide (0<=a/\a<m/\m<b/\b<=(d.length:Int)/\d.length<=1000000/\b-a<=(k:Int))
def YR(k:Nat)(F:VE):fT:=⟨iv, [yI,yI,yI], [58], [],jC k,F⟩
structure Wx where
 (a0:Int) (a3:List fj)
structure Wy where
 (b0:Int) (b3:List fj)
structure Wz where
 (c0 c1 c2 c3 c4 c7:Int) (c8:List fj)
structure ah2 where
 (d0:Int)
structure ah3 where
 (e0:Int)
inductive ac6 where
 | c0 (p:Wx) (a1:Int) (a2:Int)
 | c1 (p:Wy) (b1:Int) (b2:Int)
 | c2 (p:Wz) (c5:Int) (c6:Int)
 | c3 (p:ah2) (d1:Int) (d2:List fj)
 | c4 (p:ah3) (e1:Int) (e2:List fj)
noncomputable def aja:ac6->iH
 | .c0 p a1 a2=>⟨[⟨137,220,(en [(0,.own 0),(1,vi p.a0),(4,.fn 58 [] []),(10,vi a1),(11,vi a2)]),sk Tryz.f137 [0,1,0,1,1,0,0,0],[],none⟩],[.arr false iv p.a3,.aZ]⟩
 | .c1 p b1 b2=>⟨[⟨137,220,(en [(0,.own 0),(2,vi p.b0),(4,.fn 58 [] []),(14,vi b1),(15,vi b2)]),sk Tryz.f137 [1,0,1,0,1,1,0,0,0],[],none⟩],[.arr false iv p.b3,.aZ]⟩
 | .c2 p c5 c6=>⟨[⟨137,220,(en [(0,.own 0),(1,vi p.c0),(2,vi p.c1),(3,vi p.c2),(4,.fn 58 [] []),(18,vi p.c3),(19,vi p.c4),(20,vi c5),(21,vi c6),(22,vi p.c7)]),sk Tryz.f137 [1,1,1,1,1,1,1,0,0,0],[],none⟩],[.arr false iv p.c8,.aZ]⟩
 | .c3 p d1 d2=>⟨[⟨137,220,(en [(0,.own 0),(10,vi p.d0),(13,vi d1)]),sk Tryz.f137 [0,1,0,1,1,1,0,1,0,0],[],none⟩],[.arr false iv d2,.aZ]⟩
 | .c4 p e1 e2=>⟨[⟨137,220,(en [(0,.own 0),(14,vi p.e0),(17,vi e1)]),sk Tryz.f137 [1,0,1,0,1,1,1,0,1,0,0],[],none⟩],[.arr false iv e2,.aZ]⟩
abbrev zp(A:aS)(a:Int)(b:Int):=(A.v .i64 (A.b .shr .u64 (A.v .u64 (A.cB a b)) 1))
def abD(A:aS)(c:List fj)(a:Int)(m:Int)(b:Int):LT (List fj×Unit) ac6:=.br (A.bK (A.fF m a) 1) (.ao (.c0 ⟨a,c⟩ m b)) (.br (A.bK (A.fF b m) 1) (.ao (.c1 ⟨m,c⟩ a m)) (.br (A.jw m (zp A a b)) (.ao (.c2 ⟨a,m,b,(zp A a b),(A.cB (zp A a b) m),(A.fF (A.cB (zp A a b) m) 1),c⟩ (A.fF (A.cB (zp A a b) m) b) (zp A a b))) (.ao (.c2 ⟨a,m,b,(zp A a b),(A.cB (zp A a b) m),(A.fF (A.cB (zp A a b) m) 1),c⟩ a m))))
def wO(F:VE)(k:Nat)(A:aS):ac6->LT (List fj×Unit) ac6
 | .c0 p a1 a2=>.br (A.bD a1 a2) (.gQ A (A.v .i64 (A.b .shr .u64 (A.v .u64 (A.cB a1 a2)) 1)) p.a3 (.gQ A p.a0 p.a3 (.br (A.bD (A.k NH ((A.n iv p.a3 (A.v .i64 (A.b .shr .u64 (A.v .u64 (A.cB a1 a2)) 1)):fj),(A.n iv p.a3 p.a0:fj))) 0) (.ao (.c0 p (A.cB (A.v .i64 (A.b .shr .u64 (A.v .u64 (A.cB a1 a2)) 1)) 1) a2)) (.ao (.c0 p a1 (A.v .i64 (A.b .shr .u64 (A.v .u64 (A.cB a1 a2)) 1))))))) (.ao (.c3 ⟨a1⟩ p.a0 p.a3))
 | .c1 p b1 b2=>.br (A.bD b1 b2) (.gQ A p.b0 p.b3 (.gQ A (A.v .i64 (A.b .shr .u64 (A.v .u64 (A.cB b1 b2)) 1)) p.b3 (.br (A.not (A.bD (A.k NH ((A.n iv p.b3 p.b0:fj),(A.n iv p.b3 (A.v .i64 (A.b .shr .u64 (A.v .u64 (A.cB b1 b2)) 1)):fj))) 0)) (.ao (.c1 p (A.cB (A.v .i64 (A.b .shr .u64 (A.v .u64 (A.cB b1 b2)) 1)) 1) b2)) (.ao (.c1 p b1 (A.v .i64 (A.b .shr .u64 (A.v .u64 (A.cB b1 b2)) 1))))))) (.ao (.c4 ⟨b1⟩ p.b0 p.b3))
 | .c2 p c5 c6=>.br (A.bD c5 c6) (.gQ A (A.fF p.c7 (A.v .i64 (A.b .shr .u64 (A.v .u64 (A.cB c5 c6)) 1))) p.c8 (.gQ A (A.v .i64 (A.b .shr .u64 (A.v .u64 (A.cB c5 c6)) 1)) p.c8 (.br (A.not (A.bD (A.k NH ((A.n iv p.c8 (A.fF p.c7 (A.v .i64 (A.b .shr .u64 (A.v .u64 (A.cB c5 c6)) 1))):fj),(A.n iv p.c8 (A.v .i64 (A.b .shr .u64 (A.v .u64 (A.cB c5 c6)) 1)):fj))) 0)) (.ao (.c2 p (A.cB (A.v .i64 (A.b .shr .u64 (A.v .u64 (A.cB c5 c6)) 1)) 1) c6)) (.ao (.c2 p c5 (A.v .i64 (A.b .shr .u64 (A.v .u64 (A.cB c5 c6)) 1))))))) (.br (A.bD c5 p.c1) (.br (A.bD p.c1 (A.fF p.c4 c5)) (.ap (A.k QI (p.c8,c5,p.c1,(A.fF p.c4 c5))) (.br (A.bD p.c0 c5) (.br (A.bD c5 p.c3) (.ap (A.k (jC k) ((A.k sS (p.c8,c5,p.c1,(A.fF p.c4 c5))).1,p.c0,c5,p.c3)) (.br (A.bD p.c3 (A.fF p.c4 c5)) (.br (A.bD (A.fF p.c4 c5) p.c2) (.ap (A.k (jC k) ((A.k F ((A.k sS (p.c8,c5,p.c1,(A.fF p.c4 c5))).1,p.c0,c5,p.c3)).1,p.c3,(A.fF p.c4 c5),p.c2)) (.ret ((A.k F ((A.k F ((A.k sS (p.c8,c5,p.c1,(A.fF p.c4 c5))).1,p.c0,c5,p.c3)).1,p.c3,(A.fF p.c4 c5),p.c2)).1,()))) (.ret ((A.k F ((A.k sS (p.c8,c5,p.c1,(A.fF p.c4 c5))).1,p.c0,c5,p.c3)).1,()))) (.ret ((A.k F ((A.k sS (p.c8,c5,p.c1,(A.fF p.c4 c5))).1,p.c0,c5,p.c3)).1,())))) (.br (A.bD p.c3 (A.fF p.c4 c5)) (.br (A.bD (A.fF p.c4 c5) p.c2) (.ap (A.k (jC k) ((A.k sS (p.c8,c5,p.c1,(A.fF p.c4 c5))).1,p.c3,(A.fF p.c4 c5),p.c2)) (.ret ((A.k F ((A.k sS (p.c8,c5,p.c1,(A.fF p.c4 c5))).1,p.c3,(A.fF p.c4 c5),p.c2)).1,()))) (.ret ((A.k sS (p.c8,c5,p.c1,(A.fF p.c4 c5))).1,()))) (.ret ((A.k sS (p.c8,c5,p.c1,(A.fF p.c4 c5))).1,())))) (.br (A.bD p.c3 (A.fF p.c4 c5)) (.br (A.bD (A.fF p.c4 c5) p.c2) (.ap (A.k (jC k) ((A.k sS (p.c8,c5,p.c1,(A.fF p.c4 c5))).1,p.c3,(A.fF p.c4 c5),p.c2)) (.ret ((A.k F ((A.k sS (p.c8,c5,p.c1,(A.fF p.c4 c5))).1,p.c3,(A.fF p.c4 c5),p.c2)).1,()))) (.ret ((A.k sS (p.c8,c5,p.c1,(A.fF p.c4 c5))).1,()))) (.ret ((A.k sS (p.c8,c5,p.c1,(A.fF p.c4 c5))).1,()))))) (.br (A.bD p.c0 c5) (.br (A.bD c5 p.c3) (.ap (A.k (jC k) (p.c8,p.c0,c5,p.c3)) (.br (A.bD p.c3 (A.fF p.c4 c5)) (.br (A.bD (A.fF p.c4 c5) p.c2) (.ap (A.k (jC k) ((A.k F (p.c8,p.c0,c5,p.c3)).1,p.c3,(A.fF p.c4 c5),p.c2)) (.ret ((A.k F ((A.k F (p.c8,p.c0,c5,p.c3)).1,p.c3,(A.fF p.c4 c5),p.c2)).1,()))) (.ret ((A.k F (p.c8,p.c0,c5,p.c3)).1,()))) (.ret ((A.k F (p.c8,p.c0,c5,p.c3)).1,())))) (.br (A.bD p.c3 (A.fF p.c4 c5)) (.br (A.bD (A.fF p.c4 c5) p.c2) (.ap (A.k (jC k) (p.c8,p.c3,(A.fF p.c4 c5),p.c2)) (.ret ((A.k F (p.c8,p.c3,(A.fF p.c4 c5),p.c2)).1,()))) (.ret (p.c8,()))) (.ret (p.c8,())))) (.br (A.bD p.c3 (A.fF p.c4 c5)) (.br (A.bD (A.fF p.c4 c5) p.c2) (.ap (A.k (jC k) (p.c8,p.c3,(A.fF p.c4 c5),p.c2)) (.ret ((A.k F (p.c8,p.c3,(A.fF p.c4 c5),p.c2)).1,()))) (.ret (p.c8,()))) (.ret (p.c8,()))))) (.br (A.bD p.c0 c5) (.br (A.bD c5 p.c3) (.ap (A.k (jC k) (p.c8,p.c0,c5,p.c3)) (.br (A.bD p.c3 (A.fF p.c4 c5)) (.br (A.bD (A.fF p.c4 c5) p.c2) (.ap (A.k (jC k) ((A.k F (p.c8,p.c0,c5,p.c3)).1,p.c3,(A.fF p.c4 c5),p.c2)) (.ret ((A.k F ((A.k F (p.c8,p.c0,c5,p.c3)).1,p.c3,(A.fF p.c4 c5),p.c2)).1,()))) (.ret ((A.k F (p.c8,p.c0,c5,p.c3)).1,()))) (.ret ((A.k F (p.c8,p.c0,c5,p.c3)).1,())))) (.br (A.bD p.c3 (A.fF p.c4 c5)) (.br (A.bD (A.fF p.c4 c5) p.c2) (.ap (A.k (jC k) (p.c8,p.c3,(A.fF p.c4 c5),p.c2)) (.ret ((A.k F (p.c8,p.c3,(A.fF p.c4 c5),p.c2)).1,()))) (.ret (p.c8,()))) (.ret (p.c8,())))) (.br (A.bD p.c3 (A.fF p.c4 c5)) (.br (A.bD (A.fF p.c4 c5) p.c2) (.ap (A.k (jC k) (p.c8,p.c3,(A.fF p.c4 c5),p.c2)) (.ret ((A.k F (p.c8,p.c3,(A.fF p.c4 c5),p.c2)).1,()))) (.ret (p.c8,()))) (.ret (p.c8,())))))
 | .c3 p d1 d2=>.br (A.bD d1 (A.fF p.d0 1)) (.gQ A (A.cB d1 1) d2 (.gQ A d1 d2 (.gQ A d1 d2 (.gQ A (A.cB d1 1) (A.set d2 d1 (A.n iv d2 (A.cB d1 1):fj)) (.ao (.c3 p (A.cB d1 1) (A.set (A.set d2 d1 (A.n iv d2 (A.cB d1 1):fj)) (A.cB d1 1) (A.n iv d2 d1:fj)))))))) (.ret (d2,()))
 | .c4 p e1 e2=>.br (A.jw e1 p.e0) (.gQ A (A.fF e1 1) e2 (.gQ A e1 e2 (.gQ A e1 e2 (.gQ A (A.fF e1 1) (A.set e2 e1 (A.n iv e2 (A.fF e1 1):fj)) (.ao (.c4 p (A.fF e1 1) (A.set (A.set e2 e1 (A.n iv e2 (A.fF e1 1):fj)) (A.fF e1 1) (A.n iv e2 e1:fj)))))))) (.ret (e2,()))
section
variable {k:Nat} {F:VE}
theorem aev{m:Int}(h:0<=a/\a<m/\m<b/\b<=(d.length:Int)/\d.length<=1000000):af.k QI (d,a,m,b)=true:=da h
theorem ake{m:Int}:(af.k sS (d,a,m,b)).1.length=d.length:=qF
theorem Tf{m:Int}(h:0<=a/\a<m/\m<b/\b<=(d.length:Int)/\d.length<=1000000/\b-a<=(k:Int)):af.k (jC k) (d,a,m,b)=true:=da h
theorem amJ(n:N<=1000000){i:Int}(m:0<=i)(o:i<=N):∀(f:Nat) (j:Int) (d:List fj),(i-j).toNat<=f->0<=j->d.length=N->eT (wO F k af) N (.ao (.c3 ⟨i⟩ j d)):=by
 intro f
 induction f with
 | zero=>
   intro j d g l c;refine eT.ao ?_;rw[wO,lN (x:=i) (y:=1) (by omega)];exact eT.lss (λh=>by omega) λ_=>eT.ret c
 | succ f ih=>
   intro j d g l c;refine eT.ao ?_;rw[wO,lN (x:=i) (y:=1) (by omega)];refine eT.lss (λh=>?_) λ_=>eT.ret c;rw[dD (x:=j) (y:=1) (by omega)];exact eT.ap (bW (by omega)) (eT.ap (bW (by omega)) (eT.ap (bW (by omega)) (eT.ap (Ew (by omega)) (ih (j+1) _ (by omega) (by omega) (gy.trans (gy.trans c))))))
theorem ajt(m:N<=1000000){i:Int}(n:0<=i):∀(f:Nat) (j:Int) (d:List fj),(j-i).toNat<=f->j<N->d.length=N->eT (wO F k af) N (.ao (.c4 ⟨i⟩ j d)):=by
 intro f
 induction f with
 | zero=>intro j d g l c;exact eT.ao (eT.gtr (λh=>by have:i<j:=h;omega) λ_=>eT.ret c)
 | succ f ih=>
   intro j d g l c;refine eT.ao (eT.gtr (λh=>?_) λ_=>eT.ret c);have h:i<j:=h;rw[lN (x:=j) (y:=1) (by omega)];exact eT.ap (bW (by omega)) (eT.ap (bW (by omega)) (eT.ap (bW (by omega)) (eT.ap (Ew (by omega)) (ih (j-1) _ (by omega) (by omega) (gy.trans (gy.trans c))))))
theorem ak5{p:Wx}(q:N<=1000000)(r:p.a3.length=N)(o:0<=p.a0/\p.a0<N):∀(f:Nat) (i j:Int),(j-i).toNat<=f->0<=i->i<=j->j<=N->eT (wO F k af) N (.ao (.c0 p i j)):=by
 intro f;have l:∀i:Int,0<=i->i<=N->eT (wO F k af) N (.ao (.c3 ⟨i⟩ p.a0 p.a3)):=λi h g=>amJ q h g _ p.a0 p.a3 (ah _) o.1 r
 induction f with
 | zero=>intro i j u g m n;exact eT.ao (eT.lss (λh=>by omega) λ_=>l i g (by omega))
 | succ f ih=>
   intro i j u g m n;refine eT.ao (eT.lss (λh=>?_) λ_=>l i g (by omega));obtain⟨c,e,c1,c2⟩:=NV g (show 0<=j by omega) (by omega);rw[e,dD (x:=c) (y:=1) (by omega)];exact eT.ap (bW (by omega)) (eT.ap (bW (by omega)) (eT.br (λ_=>ih (c+1) j (by omega) (by omega) (by omega) n) λ_=>ih i c (by omega) g (by omega) (by omega)))
theorem ak7{p:Wy}(q:N<=1000000)(r:p.b3.length=N)(o:0<=p.b0/\p.b0<N):∀(f:Nat) (i j:Int),(j-i).toNat<=f->0<=i->i<=j->j<=N->eT (wO F k af) N (.ao (.c1 p i j)):=by
 intro f;have l:∀i:Int,0<=i->eT (wO F k af) N (.ao (.c4 ⟨i⟩ p.b0 p.b3)):=λi g=>ajt q g _ p.b0 p.b3 (ah _) o.2 r
 induction f with
 | zero=>intro i j u g m n;exact eT.ao (eT.lss (λh=>by omega) λ_=>l i g)
 | succ f ih=>
   intro i j u g m n;refine eT.ao (eT.lss (λh=>?_) λ_=>l i g);obtain⟨c,e,c1,c2⟩:=NV g (show 0<=j by omega) (by omega);rw[e,dD (x:=c) (y:=1) (by omega)];exact eT.ap (bW (by omega)) (eT.ap (bW (by omega)) (eT.br (λ_=>ih (c+1) j (by omega) (by omega) (by omega) n) λ_=>ih i c (by omega) g (by omega) (by omega)))
theorem Z7(D:∀x,(F x).1.length=x.1.length){p:Wz}(W:N<=1000000)(g:p.c8.length=N){lo:Int}(H:0<=p.c0/\p.c0<p.c1/\p.c1<p.c2/\p.c2<=N/\p.c2-p.c0<=(k:Int)+1)
  (I:2*p.c3<=p.c0+p.c2/\p.c0+p.c2<=2*p.c3+1) (J:p.c4=p.c3+p.c1) (O:p.c7=p.c4-1) (P:p.c0<=lo/\p.c4-lo<=p.c2) :
  ∀(f:Nat) (i j:Int),(j-i).toNat<=f->lo<=i->i<=j->j<=p.c1->j<=p.c3\/p.c1<=p.c3->eT (wO F k af) N (.ao (.c2 p i j)):=by
 have B:∀{d:List fj} {a m b:Int},(af.k F (d,a,m,b)).1.length=d.length:=D _;have l:∀i:Int,lo<=i->i<=p.c1->i<=p.c3\/p.c1<=p.c3->eT (wO F k af) N (.ao (.c2 p i i)):=λi Q S V=>by
  refine eT.ao ?_;rw[wO,lN (x:=p.c4) (y:=i) (by omega)];refine eT.lss (λh=>by omega) λ_=>?_;have C:∀{d:List fj},d.length=N->p.c3<p.c4-i->p.c4-i<p.c2->eT (wO F k af) N (.ap (af.k (jC k) (d,p.c3,p.c4-i,p.c2)) (.ret ((af.k F (d,p.c3,p.c4-i,p.c2)).1,()))):=λg n o=>eT.ap (Tf (by omega)) (eT.ret (B.trans g))
  have q:∀{d:List fj},d.length=N->eT (wO F k af) N (.br (af.bD p.c3 (p.c4-i)) (.br (af.bD (p.c4-i) p.c2) (.ap (af.k (jC k) (d,p.c3,p.c4-i,p.c2)) (.ret ((af.k F (d,p.c3,p.c4-i,p.c2)).1,()))) (.ret (d,()))) (.ret (d,()))):=λg=>
   eT.lss (λn=>eT.lss (λo=>C g n o) λ_=>eT.ret g) λ_=>eT.ret g
  have r:∀{d:List fj},d.length=N->eT (wO F k af) N (.br (af.bD p.c0 i) (.br (af.bD i p.c3) (.ap (af.k (jC k) (d,p.c0,i,p.c3)) (.br (af.bD p.c3 (p.c4-i)) (.br (af.bD (p.c4-i) p.c2) (.ap (af.k (jC k) ((af.k F (d,p.c0,i,p.c3)).1,p.c3,p.c4-i,p.c2)) (.ret ((af.k F ((af.k F (d,p.c0,i,p.c3)).1,p.c3,p.c4-i,p.c2)).1,()))) (.ret ((af.k F (d,p.c0,i,p.c3)).1,()))) (.ret ((af.k F (d,p.c0,i,p.c3)).1,()))))
    (.br (af.bD p.c3 (p.c4-i)) (.br (af.bD (p.c4-i) p.c2) (.ap (af.k (jC k) (d,p.c3,p.c4-i,p.c2)) (.ret ((af.k F (d,p.c3,p.c4-i,p.c2)).1,()))) (.ret (d,()))) (.ret (d,()))))
    (.br (af.bD p.c3 (p.c4-i)) (.br (af.bD (p.c4-i) p.c2) (.ap (af.k (jC k) (d,p.c3,p.c4-i,p.c2)) (.ret ((af.k F (d,p.c3,p.c4-i,p.c2)).1,()))) (.ret (d,()))) (.ret (d,())))):=λg=>
   eT.lss (λn=>eT.lss (λo=>eT.ap (Tf (by omega)) (q (B.trans g))) λ_=>q g) λ_=>q g
  refine eT.lss (λn=>eT.lss (λo=>eT.ap (aev (by omega)) (r (ake.trans g))) λ_=>r g) λ_=>r g
 intro f
 induction f with
 | zero=>intro i j G v z A u;rw[show j=i by omega];exact l i v (by omega) (by omega)
 | succ f ih=>
   intro i j G v z A u;by_cases E:i=j
   ·rw[E];exact l j (by omega) A u
   refine eT.ao (eT.lss (λh=>?_) λh=>by omega);obtain⟨c,e,c1,c2⟩:=NV (i:=i) (j:=j) (by omega) (by omega) (by omega);rw[e,dD (x:=c) (y:=1) (by omega),lN (x:=p.c7) (y:=c) (by omega)];exact eT.ap (bW (by omega)) (eT.ap (bW (by omega)) (eT.br (λ_=>ih (c+1) j (by omega) (by omega) (by omega) A u) λ_=>ih i c (by omega) v (by omega) (by omega) (by omega)))
theorem afd(n:∀x,(F x).1.length=x.1.length){m:Int}(h:0<=a/\a<m/\m<b/\b<=(d.length:Int)/\d.length<=1000000/\b-a<=((k+1:Nat):Int)):eT (wO F k af) d.length (abD af d a m b):=by
 obtain⟨o,r,u,q,f,l⟩:=h;have l:b-a<=(k:Int)+1:=l;unfold abD zp;obtain⟨c,e,c1,c2⟩:=NV (i:=a) (j:=b) (by omega) (by omega) (by omega);rw[e,lN (x:=m) (y:=a) (by omega),lN (x:=b) (y:=m) (by omega),dD (x:=c) (y:=m) (by omega),lN (x:=c+m) (y:=1) (by omega),lN (x:=c+m) (y:=b) (by omega)];refine eT.eql (λ_=>ak5 (p:=⟨a,d⟩) f rfl (by simp only;omega) _ m b (ah _) (by omega) (by omega) q) λ_=>eT.eql (λ_=>ak7 (p:=⟨m,d⟩) f rfl (by simp only;omega) _ a m (ah _) o (by omega) (by omega)) λ_=>eT.gtr (λg=>?_) λg=>?_
 ·exact Z7 n (p:=⟨a,m,b,c,c+m,c+m-1,d⟩) (lo:=c+m-b) f rfl (by simp only;omega) (by simp only;omega) rfl rfl (by simp only;omega) _ (c+m-b) c (ah _) (aj _) (by omega) (by simp only;omega) (by simp only;omega)
 ·exact Z7 n (p:=⟨a,m,b,c,c+m,c+m-1,d⟩) (lo:=a) f rfl (by simp only;omega) (by simp only;omega) rfl rfl (by simp only;omega) _ a m (ah _) (aj _) (by omega) (by simp only;omega) (by simp only;omega)
end
theorem aj7{k:Nat}{F:VE}(f:∀x,(F x).1.length=x.1.length)(j:fT.bH Tryz.prog 137 (YR k F)):fT.bH Tryz.prog 137 (YR (k+1) λ(d,a,m,b)=>(rB (wO F k af) (abD af d a m b) d,())):=gf ar dK sl 76 [⟨137,3, [[0,1,4,10,11]]⟩,⟨137,9, [[0,10,13]]⟩,⟨137,15, [[0,2,4,14,15]]⟩,⟨137,21, [[0,14,17]]⟩,⟨137,33, [[0,1,2,3,4,18,19,20,21,22]]⟩] [] (λA (c,(a,m,b))=>abD A c a m b) (wO F k) aja ⟨(fc Tryz.func137 fz),(sc agZ sz),oz,(ic j (ic anv iz)),mz,pz⟩ (λA y=>match y with |.c0 p a1 a2=>⟨47,sl,by kernel_rfl⟩|.c1 p b1 b2=>⟨48,sl,by kernel_rfl⟩|.c2 p c5 c6=>⟨84,sl,by kernel_rfl⟩|.c3 p d1 d2=>⟨44,sl,by kernel_rfl⟩|.c4 p e1 e2=>⟨43,sl,by kernel_rfl⟩) λ((c,(a,m,b)):List fj×(Int×Int×Int)) g l h=>sj (afd f (of_decide_eq_true g))
def JR:Nat->VE
 | 0=>λx=>(x.1,())
 | k+1=>λ(d,a,m,b)=>(rB (wO (JR k) k af) (abD af d a m b) d,())
theorem Y3:∀(k:Nat) (x:List fj×Int×Int×Int),(JR k x).1.length=x.1.length
 | 0,_=>rfl
 | _+1,_=>qF
theorem ZP{x:List fj×Int×Int×Int}:jC 0 x=false:=by
 obtain⟨d,a,m,b⟩:=x;exact gI (by omega)
theorem age:∀k,fT.bH Tryz.prog 137 (YR k (JR k))
 | 0=>⟨λw I x y v f B _ _ _ _ c=>Bool.noConfusion ((ZP (x:=(x,y))).symm.trans c),Tryz.f137,Tryz.func137,by kernel_rfl,by kernel_rfl⟩
 | k+1=>aj7 (Y3 k) (age k)
structure ahV where
 (a0:Int)
structure ahW where
 (b0 b1:Int) (b2:List fj)
structure ahX where
 (c0 c1:Int)
inductive acY where
 | c0 (p:ahV) (a2:Int) (a3:Int) (a4:List fj)
 | c1 (p:ahW)
 | c2 (p:ahX) (c2:Int) (c3:Int) (c4:List fj)
noncomputable def ai3:acY->iH
 | .c0 p a2 a3 a4=>⟨[⟨90,63,(en [(0,.own 0),(1,vi p.a0),(2,.fn 58 [] []),(6,vi 20),(7,vi a2),(8,vi a3)]),sk Tryz.f90 [1,1,0,0,0],[],none⟩],[.arr false iv a4,.aZ]⟩
 | .c1 p=>⟨[⟨90,63,(en [(0,.own 0),(1,vi p.b0),(2,.fn 58 [] []),(6,vi p.b1)]),sk Tryz.f90 [1,1,1,1,0,0],[],none⟩],[.arr false iv p.b2,.aZ]⟩
 | .c2 p c2 c3 c4=>⟨[⟨90,63,(en [(0,.own 0),(1,vi p.c0),(2,.fn 58 [] []),(6,vi p.c1),(7,vi c2),(8,vi c3)]),sk Tryz.f90 [1,1,1,1,0,0,1,0,1,0,0,0],[],none⟩],[.arr false iv c4,.aZ]⟩
def amz(A:aS)(c:List fj)(n:Int):LT (List fj×Unit) acY:=.ao (.c0 ⟨n⟩ 0 20 c)
def QS(A:aS):acY->LT (List fj×Unit) acY
 | .c0 p a2 a3 a4=>.br (A.bU a3 p.a0) (.ap (A.k LK (a4,a2,a3)) (.ao (.c0 p a3 (A.cB a3 20) (A.k Ss (a4,a2,a3)).1))) (.ap (A.k LK (a4,a2,p.a0)) (.ao (.c1 ⟨p.a0,20,(A.k Ss (a4,a2,p.a0)).1⟩)))
 | .c1 p=>.br (A.bD p.b1 p.b0) (.ao (.c2 ⟨p.b0,p.b1⟩ 0 (A.b .mul .i64 2 p.b1) p.b2)) (.ret (p.b2,()))
 | .c2 p c2 c3 c4=>.br (A.bU c3 p.c0) (.ap (A.k (jC 1000000) (c4,c2,(A.cB c2 p.c1),c3)) (.ao (.c2 p c3 (A.cB c3 (A.b .mul .i64 2 p.c1)) (A.k (JR 1000000) (c4,c2,(A.cB c2 p.c1),c3)).1))) (.br (A.bD (A.cB c2 p.c1) p.c0) (.ap (A.k (jC 1000000) (c4,c2,(A.cB c2 p.c1),p.c0)) (.ao (.c1 ⟨p.c0,(A.b .mul .i64 p.c1 2),(A.k (JR 1000000) (c4,c2,(A.cB c2 p.c1),p.c0)).1⟩))) (.ao (.c1 ⟨p.c0,(A.b .mul .i64 p.c1 2),c4⟩)))
theorem afa(r:N<=1000000){bs:Int}(q:1<=bs/\bs<=1000000)(g:∀d:List fj,d.length=N->eT (QS af) N (.ao (.c1 ⟨(N:Int),af.b .mul .i64 bs 2,d⟩))):∀(f:Nat) (a:Int) (d:List fj),(N-a).toNat<=f->0<=a->a<=N->d.length=N->eT (QS af) N (.ao (.c2 ⟨(N:Int),bs⟩ a (a+2*bs) d)):=by
 have e:af.b .mul .i64 2 bs=2*bs:=by rw[jb,lC (by omega) (by omega)]
 have j:∀{d:List fj} {a m b:Int},(af.k (JR 1000000) (d,a,m,b)).1.length=d.length:=Y3 _ _;have l:∀{d:List fj} {a m b:Int},(0<=a/\a<m/\m<b/\b<=(d.length:Int)/\d.length<=1000000/\b-a<=((1000000:Nat):Int))->af.k (jC 1000000) (d,a,m,b)=true:=λh=>da h;intro f
 induction f with
 | zero=>
   intro a d o n p c;refine eT.ao (eT.leq (λh=>by have:a+2*bs<=N:=h;omega) λ_=>?_);rw[show af.cB a bs=a+bs from dD (by omega)];exact eT.lss (λh=>by have:a+bs<N:=h;omega) λ_=>g d c
 | succ f ih=>
   intro a d o n p c;refine eT.ao (eT.leq (λh=>?_) λ_=>?_)
   ·have h:a+2*bs<=N:=h
    rw[show af.cB a bs=a+bs from dD (by omega),show af.b .mul .i64 2 bs=2*bs from e,dD (x:=a+2*bs) (y:=2*bs) (by omega)];exact eT.ap (l (by omega)) (ih (a+2*bs) _ (by omega) (by omega) h (j.trans c))
   ·rw[show af.cB a bs=a+bs from dD (by omega)]
    exact eT.lss (λh=>by have h:a+bs<N:=h;exact eT.ap (l (by simp only;omega)) (g _ (j.trans c))) λ_=>g d c
theorem TH(j:N<=1000000):∀(f:Nat) (bs:Int) (d:List fj),(N-bs).toNat<=f->1<=bs->d.length=N->eT (QS af) N (.ao (.c1 ⟨(N:Int),bs,d⟩)):=by
 intro f
 induction f with
 | zero=>intro bs d m g c;exact eT.ao (eT.lss (λh=>by have:bs<N:=h;omega) λ_=>eT.ret c)
 | succ f ih=>
   intro bs d m g c;refine eT.ao (eT.lss (λh=>?_) λ_=>eT.ret c);have h:bs<N:=h;rw[show af.b .mul .i64 2 bs=0+2*bs by rw[jb,lC (by omega) (by omega)];omega];refine afa j ⟨g,by omega⟩ (λe l=>?_) _ 0 d (ah _) (aj 0) (by omega) c;rw[show af.b .mul .i64 bs 2=bs*2 by rw[jb,lC (by omega) (by omega)]];exact ih (bs*2) e (by omega) (by omega) l
theorem ae_(l:N<=1000000):∀(f:Nat) (a:Int) (d:List fj),(N-a).toNat<=f->0<=a->a<=N->d.length=N->eT (QS af) N (.ao (.c0 ⟨(N:Int)⟩ a (a+20) d)):=by
 have g:∀{d:List fj} {a b:Int},(af.k Ss (d,a,b)).1.length=d.length:=qF;have j:∀{d:List fj} {a b:Int},(0<=a/\a<=b/\b<=(d.length:Int)/\d.length<=1000000)->af.k LK (d,a,b)=true:=λh=>da h;intro f
 induction f with
 | zero=>intro a d n m o c;exact eT.ao (eT.leq (λh=>by have:a+20<=N:=h;omega) λ_=>eT.ap (j (by simp only;omega)) (TH l _ 20 _ (ah _) (by omega) (g.trans c)))
 | succ f ih=>
   intro a d n m o c;refine eT.ao (eT.leq (λh=>?_) λ_=>eT.ap (j (by simp only;omega)) (TH l _ 20 _ (ah _) (by omega) (g.trans c)));have h:a+20<=N:=h;rw[dD (x:=a+20) (y:=20) (by omega)];exact eT.ap (j (by omega)) (ih (a+20) _ (by omega) (by omega) h (g.trans c))
theorem aln{n:Int}(h:n=(d.length:Int)/\d.length<=1000000):eT (QS af) d.length (amz af d n):=by
 obtain⟨rfl,h⟩:=h;exact ae_ h _ 0 d (ah _) (aj 0) (by omega) rfl
def Yf:List fj×Int->List fj×Unit:=λ(d,n)=>(rB (QS af) (amz af d n) d,())
def ZO:List fj×Int->Bool:=λ(d,n)=>decide (n=(d.length:Int)/\d.length<=1000000)
def anF:fT:=⟨iv, [yI], [58], [],ZO,Yf⟩
theorem ant:fT.bH Tryz.prog 90 anF:=gf ar dK sl 19 [⟨90,2, [[0,1,2,6,7,8]]⟩,⟨90,7, [[0,1,2,6]]⟩,⟨90,9, [[0,1,2,6,7,8]]⟩] [] (λA (c,n)=>amz A c n) QS ai3 ⟨(fc Tryz.func90 fz),sz,oz,(ic anu (ic (age 1000000) iz)),mz,pz⟩ (λA y=>match y with |.c0 p a2 g j=>⟨36,sl,by kernel_rfl⟩|.c1 p=>⟨26,sl,by kernel_rfl⟩|.c2 p c2 c3 c4=>⟨44,sl,by kernel_rfl⟩) λ((c,n):List fj×Int) f l h=>sj (aln (of_decide_eq_true f))
def amy(A:aS)(c:List fj):LT (List fj×Unit) Empty:=.ap (A.k ZO (c,(A.l c))) (.ret ((A.k Yf (c,(A.l c))).1,()))
theorem alm(h:d.length<=1000000):eT Empty.elim d.length (amy af d):=
 eT.ap (da ⟨rfl,h⟩) (eT.ret (show(af.k Yf (d,af.l d)).1.length=d.length from qF))
def af8:List fj×Unit->List fj×Unit:=λ(d,_)=>(rB Empty.elim (amy af d) d,())
def CJ:List fj×Unit->Bool:=λ(d,_)=>decide (d.length<=1000000)
def anE:fT:=⟨iv, [], [58], [],CJ,af8⟩
theorem agd:fT.bH Tryz.prog 57 anE:=gf ar dK sl 13 [] [] (λA (c,())=>amy A c) (λ_=>Empty.elim) Empty.elim ⟨(fc Tryz.func57 fz),sz,oz,(ic ant iz),mz,pz⟩ (λ_ y=>y.elim) λ((c,()):List fj×Unit) f g h=>sj (alm (of_decide_eq_true f))
structure ahQ where
 (a4:ax) (a5:ia)
structure ahR where
 (b4:ax) (b5:ia)
structure Wu where
 (c0:Int) (c2 c4:ax) (c5:ia) (c6 c7:Int)
structure ahS where
 (d0:Int) (d2 d4:ax) (d5:ia) (d6 d7:Int)
inductive acV where
 | c0 (p:ahQ)
 | c1 (p:ahR)
 | c2 (p:Wu)
 | c3 (p:ahS) (d1:Int) (Xm:List cm)
noncomputable def aiY:acV->iH
 | .c0 p=>⟨[⟨76,55,(en [(0,.gi true),(4,.ptr 0 0),(14,.gi true),(15,vi 0),(16,vi 0)]),sk Tryz.f76 [1,1,1,0,1,0,0],[],none⟩,⟨40,83,(en [(2,.ptr 1 0),(6,.ptr 2 0)]),(.ops (ow Tryz.f40 [1,1,1,0]) ((ow Tryz.f40 [1,1,1,0]).toList.drop 0)::sk Tryz.f40 [1,1,1,0]),[],none⟩],[.ay false [vb true,.gi true,vi 0],.ay false (dc bM p.a4),.ay false (dc oq p.a5),.aZ]⟩
 | .c1 p=>⟨[⟨76,55,(en [(4,.ptr 0 0),(29,.gi true),(30,vi 0),(31,vi 0)]),sk Tryz.f76 [1,1,1,1,0,1,0,0],[],none⟩,⟨40,83,(en [(2,.ptr 1 0),(6,.ptr 2 0)]),(.ops (ow Tryz.f40 [1,1,1,0]) ((ow Tryz.f40 [1,1,1,0]).toList.drop 0)::sk Tryz.f40 [1,1,1,0]),[],none⟩],[.ay false [vb true,.gi true,vi 0],.ay false (dc bM p.b4),.ay false (dc oq p.b5),.aZ]⟩
 | .c2 p=>⟨[⟨40,83,(en [(2,.ptr 0 0),(9,.ptr 1 0),(57,vi p.c0),(58,vi 0)]),sk Tryz.f40 [1,1,1,1,1,1,1,0,1,0,0],[],none⟩],[.ay false (dc bM p.c2),.ay false ([vb true]++dc bM p.c4++dc oq p.c5 ++ [vi p.c6,vi p.c7,.ptr 2 0,.gi true,.gi true,.gi true,.gi true,.gi true]),.ay false [vb true,.gi true,vi 0],.aZ]⟩
 | .c3 p d1 c=>⟨[⟨40,83,(en [(2,.ptr 0 0),(9,.ptr 1 0),(57,vi p.d0),(58,vi d1)]),sk Tryz.f40 [1,1,1,1,1,1,1,0,1,0,0],[],none⟩],[.ay false (dc bM p.d2),.ay false ([vb true]++dc bM p.d4++dc oq p.d5 ++ [vi p.d6,vi p.d7,.ptr 2 0,.own 3,.gi true,.gi true,.gi true,.gi true]),.ay false [vb true,.gi true,vi 0],.arr false bO c,.aZ]⟩
def abZ(A:aS)(p:Wu):List cm:=([((A.k wA (p.c2,0)).1,(0,0,([]:List Int)),0,0,0,false,false,false)]:List cm)
def Vr(A:aS)(m:ax)(s:ia):LT (Bool×Net×Int) acV:=.ap (A.k rC (m,s)) (.br (A.cr (A.k JN (m,s)).2 0) (.ret (false,(Ty.gD lD:Net),(A.k JN (m,s)).2)) (.ao (.c0 ⟨m,(A.k JN (m,s)).1⟩)))
def QR(A:aS):acV->LT (Bool×Net×Int) acV
 | .c0 p=>.br (A.bD 0 0) (.bT 37 "queue.go:33") (.ao (.c1 ⟨p.a4,p.a5⟩))
 | .c1 p=>.br (A.bD 0 0) (.bT 37 "queue.go:38") (.ao (.c2 ⟨p.b4.1,p.b4,p.b4,p.b5,p.b5.1,(A.cB (A.b .mul .i64 p.b4.2.1 (A.cB (A.b .mul .i64 (A.cB p.b5.1 2) p.b4.1) 1)) (A.b .mul .i64 4 (A.b .mul .i64 p.b5.1 p.b4.2.2.2.1)))⟩))
 | .c2 p=>.br (A.bD 0 p.c0) (.br (A.cr (A.k wA (p.c2,0)).2 0) (.ret (false,(Ty.gD lD:Net),(A.k wA (p.c2,0)).2)) (.ap (A.bU (A.l ((abZ A p):List cm)) 502633886983) (.ao (.c3 ⟨p.c0,p.c2,p.c4,p.c5,p.c6,p.c7⟩ (A.cB 0 1) (abZ A p))))) (.ret (true,(true,p.c4,p.c5,p.c6,p.c7,(true,([]:List jc),0),([]:List cm),([]:List gm),([]:List gm),([]:List sH),([]:List fj)),0))
 | .c3 p d1 c=>.br (A.bD d1 p.d0) (.br (A.cr (A.k wA (p.d2,d1)).2 0) (.ret (false,(Ty.gD lD:Net),(A.k wA (p.d2,d1)).2)) (.ap (A.bU (A.l (A.p c ([((A.k wA (p.d2,d1)).1,(0,0,([]:List Int)),0,0,0,false,false,false)]:List cm))) 502633886983) (.ao (.c3 p (A.cB d1 1) (A.p c ([((A.k wA (p.d2,d1)).1,(0,0,([]:List Int)),0,0,0,false,false,false)]:List cm)))))) (.ret (true,(true,p.d4,p.d5,p.d6,p.d7,(true,([]:List jc),0),c,([]:List gm),([]:List gm),([]:List sH),([]:List fj)),0))
def lZ:(ax×ia)->Bool×Net×Int:=λ(m,s)=>gS (QR af) (Vr af m s) (false,Ty.gD lD,Ty.aR [yI])
def GU:(ax×ia)->Bool:=λ(m,s)=>iq (QR af) (Vr af m s)
def aoN:oV:=⟨[bM,oq],aud,true, [yI],GU,lZ⟩
theorem agv:oV.bH Tryz.prog 40 aoN:=vZ ar dK sl 65 [⟨40,10, [[2,9,57,58]]⟩,⟨76,5, [[0,4,14,15,16], [2,6]]⟩,⟨76,11, [[4,29,30,31], [2,6]]⟩] [] (λA (m,s)=>Vr A m s) QR aiY (kz (fc Tryz.func40 (fc Tryz.func76 fz)) (sc agK (sc ap8 sz))) (λA y=>match y with |.c0 p=>⟨22,sl,by kernel_rfl⟩|.c1 p=>⟨78,sl,by kernel_rfl⟩|.c2 p=>⟨59,sl,by kernel_rfl⟩|.c3 p d1 f=>⟨59,sl,by kernel_rfl⟩) λ((m,s):(ax×ia)) c h=>gb c
structure Wp where
 (a1:List Bool) (a2:Int) (a4:ax) (a5:Net)
structure Kw where
 (b0:Int) (b1:List Bool) (b2:Int) (b4:ax)
inductive acR where
 | c0 (p:Wp) (a0:Int) (a3:Int)
 | c1 (p:Kw) (b3:Int) (b5:Net)
noncomputable def aiU:acR->iH
 | .c0 p a0 a3=>⟨[⟨17,100,(en [(2,.ptr 0 0),(6,.ptr 1 0),(8,vi a0),(27,.sl .bool p.a1),(28,vi p.a2),(29,vi a3)]),sk Tryz.f17 [1,1,1,1,0,1,0,0],[],none⟩],[.ay false (dc bM p.a4),yY p.a5 2 3 4 5 6 7,yW p.a5 8,yT p.a5,yR p.a5,bxB p.a5,yX p.a5,yV p.a5,yS p.a5,.aZ]⟩
 | .c1 p b3 c=>⟨[⟨17,100,(en [(2,.ptr 0 0),(6,.ptr 1 0),(8,vi p.b0),(44,.sl .bool p.b1),(45,vi p.b2),(46,vi b3)]),sk Tryz.f17 [1,1,1,1,1,0,1,0,0],[],none⟩],[.ay false (dc bM p.b4),yY c 2 3 4 5 6 7,yW c 8,yT c,yR c,bxB c,yX c,yV c,yS c,.aZ]⟩
def Rb(A:aS)(p:Kw)(c:Int)(f:Net):List cm:=(A.set f.2.2.2.2.2.2.1 c ((A.k R2 (p.b4,(A.n bO f.2.2.2.2.2.2.1 c:cm).1,p.b0)).1,(A.n bO f.2.2.2.2.2.2.1 c:cm).2))
def Ag(A:aS)(p:Kw)(c:Int)(f:Net):List cm:=(md A bO (Rb A p c f) c λ(g:cm)=>(zt g ((A.cB p.b4.2.1 (A.n yI f.2.2.1.2.2.1 c:Int)),(0:Int),([]:List Int))))
def Vp(A:aS)(m:ax)(s:ia):LT (Bool×Net×Int) acR:=.ap (A.k GU (m,s)) (.br (A.k lZ (m,s)).1 (.br (A.cr (A.k lZ (m,s)).2.2 0) (.ret (false,(Ty.gD lD:Net),(A.k lZ (m,s)).2.2)) (.ao (.c0 ⟨(A.k lZ (m,s)).2.1.2.2.1.2.1,(A.l (A.k lZ (m,s)).2.1.2.2.1.2.1),m,(A.k lZ (m,s)).2.1⟩ 0 0))) (.br (A.cr (A.k lZ (m,s)).2.2 0) (.ret (false,(Ty.gD lD:Net),(A.k lZ (m,s)).2.2)) (.bT 73 "busnet.go:95")))
def Je(A:aS):acR->LT (Bool×Net×Int) acR
 | .c0 p a0 a3=>.br (A.bD a3 p.a2) (.gQ A a3 p.a1 (.br (A.n .bool p.a1 a3:Bool) (.ap (A.bU 0 a3) (.ao (.c0 p (A.b .or .i64 a0 (A.b .shl .i64 1 a3)) (A.cB a3 1)))) (.ao (.c0 p a0 (A.cB a3 1))))) (.ao (.c1 ⟨a0,p.a5.2.2.1.2.1,(A.l p.a5.2.2.1.2.1),p.a4⟩ 0 p.a5))
 | .c1 p b3 c=>.br (A.bD b3 p.b2) (.gQ A b3 p.b1 (.br (A.not (A.n .bool p.b1 b3:Bool)) (.ao (.c1 p (A.cB b3 1) c)) (.gQ A b3 c.2.2.2.2.2.2.1 (.br (A.cr (A.k R2 (p.b4,(A.n bO c.2.2.2.2.2.2.1 b3:cm).1,p.b0)).2 0) (.ret (false,(Ty.gD lD:Net),(A.k R2 (p.b4,(A.n bO c.2.2.2.2.2.2.1 b3:cm).1,p.b0)).2)) (.gQ A b3 c.2.2.1.2.2.1 (.ap (A.k vO ((rv c (Ag A p b3 c)),(A.n bO (Ag A p b3 c) b3:cm).2.1.1,4,b3)) (.pq A (Ag A p b3 c) (.ao (.c1 p (A.cB b3 1) (A.k tW ((rv c (Ag A p b3 c)),(A.n bO (Ag A p b3 c) b3:cm).2.1.1,4,b3)).1))))))))) (.ret (true,c,0))
def pI:(ax×ia)->Bool×Net×Int:=λ(m,s)=>gS (Je af) (Vp af m s) (false,Ty.gD lD,Ty.aR [yI])
def LF:(ax×ia)->Bool:=λ(m,s)=>iq (Je af) (Vp af m s)
def aoM:oV:=⟨[bM,oq],aud,true, [yI],LF,pI⟩
theorem aoK:oV.bH Tryz.prog 17 aoM:=vZ ar dK sl 49 [⟨17,6, [[2,6,8,27,28,29]]⟩,⟨17,12, [[2,6,8,44,45,46]]⟩] [] (λA (m,s)=>Vp A m s) Je aiU ⟨(fc Tryz.func17 fz),(sc apE sz),(oc agv oz),iz,(mc J7 mz),pz⟩ (λA y=>match y with |.c0 p f g=>⟨40,sl,by kernel_rfl⟩|.c1 p b3 j=>⟨101,sl,by kernel_rfl⟩) λ((m,s):(ax×ia)) c h=>gb c
def abk(A:aS)(c:Net):LT (Net×Bool) Empty:=.br (A.not c.1) (.ret (c,true)) (.ap (A.k Qs (c.2.2.2.2.2.1,())) (.ret ((wu c (A.k NG (c.2.2.2.2.2.1,())).1),(A.bK (A.k NG (c.2.2.2.2.2.1,())).2 0))))
def pJ:Net×Unit->Net×Bool:=λ(c,())=>gS Empty.elim (abk af c) (Ty.aR [lD],Ty.aR [.bool])
def LG:Net×Unit->Bool:=λ(c,())=>iq Empty.elim (abk af c)&&decide (VF.lens [fN] (pJ (c,())).1=VF.lens [fN] ((c,()):Net×Unit).1)
def aod:cd:=⟨[fN], [], [.bool],LG,pJ,false,false⟩
theorem agn:cd.bH Tryz.prog 21 aod:=bP ar dK sl 42 [] [] (λA (c,())=>abk A c) (λ_=>Empty.elim) Empty.elim ⟨(fc Tryz.func21 (fc Tryz.func45 fz)),sz,oz,iz,(mc anT mz),pz⟩ (λ_ y=>y.elim) (λ((c,()):Net×Unit) f g h=>Iw f) (z:=λ_ _ h=>Ip h)
structure ahO where
 (a0:Int) (a2:Net)
structure ahP where
 (b0:Int) (b2:Net)
inductive acS where
 | c0 (p:ahO)
 | c1 (p:ahP) (b1:Int) (b3:List Node)
noncomputable def aiV:acS->iH
 | .c0 p=>⟨[⟨19,25,(en [(3,.gi true),(11,.own 1),(12,vi p.a0),(13,vi 0)]),sk Tryz.f19 [1,1,0,1,0,1,0,0],[],none⟩],[yY p.a2 2 1 3 4 5 6,yT p.a2,yW p.a2 7,yR p.a2,bxB p.a2,yX p.a2,yV p.a2,yS p.a2,.aZ]⟩
 | .c1 p b1 b3=>⟨[⟨19,25,(en [(3,.own 2),(11,.own 1),(12,vi p.b0),(13,vi b1)]),sk Tryz.f19 [1,1,0,1,0,1,0,0],[],none⟩],[yY p.b2 3 1 4 5 6 7,yT p.b2,.arr false fA b3,yW p.b2 8,yR p.b2,bxB p.b2,yX p.b2,yV p.b2,yS p.b2,.aZ]⟩
def afk(A:aS)(c:Net):LT (Net×(List Node)) acS:=.br c.1 (.ao (.c0 ⟨(A.l c.2.2.2.2.2.2.1),c⟩)) (.ret (c,([]:List Node)))
def U7(A:aS):acS->LT (Net×(List Node)) acS
 | .c0 p=>.br (A.bD 0 p.a0) (.gQ A 0 p.a2.2.2.2.2.2.2.1 (.ap (A.k xF (A.n bO p.a2.2.2.2.2.2.2.1 0:cm).1) (.ap (A.bU (A.l (([(A.k xe (A.n bO p.a2.2.2.2.2.2.2.1 0:cm).1)]:List Node):List Node)) 676622540169) (.ao (.c1 ⟨p.a0,p.a2⟩ (A.cB 0 1) ([(A.k xe (A.n bO p.a2.2.2.2.2.2.2.1 0:cm).1)]:List Node)))))) (.ret (p.a2,([]:List Node)))
 | .c1 p b1 b3=>.br (A.bD b1 p.b0) (.gQ A b1 p.b2.2.2.2.2.2.2.1 (.ap (A.k xF (A.n bO p.b2.2.2.2.2.2.2.1 b1:cm).1) (.ap (A.bU (A.l (A.p b3 ([(A.k xe (A.n bO p.b2.2.2.2.2.2.2.1 b1:cm).1)]:List Node))) 676622540169) (.ao (.c1 p (A.cB b1 1) (A.p b3 ([(A.k xe (A.n bO p.b2.2.2.2.2.2.2.1 b1:cm).1)]:List Node))))))) (.ret (p.b2,b3))
def NF:Net×Unit->Net×(List Node):=λ(c,())=>gS (U7 af) (afk af c) (Ty.aR [lD],Ty.aR [(.slice fA)])
def Qr:Net×Unit->Bool:=λ(c,())=>iq (U7 af) (afk af c)&&decide (VF.lens [fN] (NF (c,())).1=VF.lens [fN] ((c,()):Net×Unit).1)
def aoc:cd:=⟨[fN], [], [(.slice fA)],Qr,NF,false,false⟩
theorem anR:cd.bH Tryz.prog 19 aoc:=bP ar dK sl 49 [⟨19,4, [[3,11,12,13]]⟩] [] (λA (c,())=>afk A c) U7 aiV (kz (fc Tryz.func19 (fc Tryz.func45 fz)) (sc aaK sz)) (λA y=>match y with |.c0 p=>⟨36,sl,by kernel_rfl⟩|.c1 p b1 b3=>⟨36,sl,by kernel_rfl⟩) (λ((c,()):Net×Unit) f g h=>Iw f) (z:=λ_ _ h=>Ip h)
structure Ws where
 (a0:Int) (a2:Net)
structure Wt where
 (b0:Int) (b2:Net)
inductive acU where
 | c0 (p:Ws)
 | c1 (p:Wt) (b1:Int) (b3:List fj)
noncomputable def aiX:acU->iH
 | .c0 p=>⟨[⟨28,30,(en [(3,.gi true),(11,.own 2),(12,vi p.a0),(13,vi 0)]),sk Tryz.f28 [1,1,0,1,0,1,0,0],[],none⟩],[yY p.a2 3 1 4 5 6 2,yT p.a2,yV p.a2,yW p.a2 7,yR p.a2,bxB p.a2,yX p.a2,yS p.a2,.aZ]⟩
 | .c1 p b1 b3=>⟨[⟨28,30,(en [(3,.own 2),(11,.own 3),(12,vi p.b0),(13,vi b1)]),sk Tryz.f28 [1,1,0,1,0,1,0,0],[],none⟩],[yY p.b2 4 1 5 6 7 3,yT p.b2,.arr false iv b3,yV p.b2,yW p.b2 8,yR p.b2,bxB p.b2,yX p.b2,yS p.b2,.aZ]⟩
def H6(A:aS)(p:Ws):fj:=(A.n iv p.a2.2.2.2.2.2.2.2.2.2.2 0:fj)
def H7(A:aS)(p:Wt)(c:Int):fj:=(A.n iv p.b2.2.2.2.2.2.2.2.2.2.2 c:fj)
def afl(A:aS)(c:Net):LT (Net×(List fj)) acU:=.br c.1 (.ao (.c0 ⟨(A.l c.2.2.2.2.2.2.2.2.2.2),c⟩)) (.ap (A.k CJ (([]:List fj),())) (.ret (c,([]:List fj))))
def U8(A:aS):acU->LT (Net×(List fj)) acU
 | .c0 p=>.br (A.bD 0 p.a0) (.gQ A 0 p.a2.2.2.2.2.2.2.2.2.2.2 (.ap (A.k xF (H6 A p).2) (.ap (A.bU (A.l (([(lp1 (H6 A p) (A.k xe (H6 A p).2))]:List fj):List fj)) 651562446089) (.ao (.c1 ⟨p.a0,p.a2⟩ (A.cB 0 1) ([(lp1 (H6 A p) (A.k xe (H6 A p).2))]:List fj)))))) (.ap (A.k CJ (([]:List fj),())) (.ret (p.a2,([]:List fj))))
 | .c1 p b1 b3=>.br (A.bD b1 p.b0) (.gQ A b1 p.b2.2.2.2.2.2.2.2.2.2.2 (.ap (A.k xF (H7 A p b1).2) (.ap (A.bU (A.l (A.p b3 ([(lp1 (H7 A p b1) (A.k xe (H7 A p b1).2))]:List fj))) 651562446089) (.ao (.c1 p (A.cB b1 1) (A.p b3 ([(lp1 (H7 A p b1) (A.k xe (H7 A p b1).2))]:List fj))))))) (.ap (A.k CJ (b3,())) (.ret (p.b2,(A.k af8 (b3,())).1)))
def Sj:Net×Unit->Net×(List fj):=λ(c,())=>gS (U8 af) (afl af c) (Ty.aR [lD],Ty.aR [(.slice iv)])
def LH:Net×Unit->Bool:=λ(c,())=>iq (U8 af) (afl af c)&&decide (VF.lens [fN] (Sj (c,())).1=VF.lens [fN] ((c,()):Net×Unit).1)
def aoe:cd:=⟨[fN], [], [(.slice iv)],LH,Sj,false,false⟩
theorem anS:cd.bH Tryz.prog 28 aoe:=bP ar dK sl 49 [⟨28,4, [[3,11,12,13]]⟩] [] (λA (c,())=>afl A c) U8 aiX ⟨(fc Tryz.func28 (fc Tryz.func45 fz)),(sc aaK sz),oz,(ic agd iz),mz,pz⟩ (λA y=>match y with |.c0 p=>⟨39,sl,by kernel_rfl⟩|.c1 p b1 b3=>⟨39,sl,by kernel_rfl⟩) (λ((c,()):Net×Unit) f g h=>Iw f) (z:=λ_ _ h=>Ip h)
inductive acQ where
 | c0 (a0:Net)
 | c1
noncomputable def aiT:acQ->iH
 | .c0 a0=>⟨[⟨10,24,(en [(6,.ptr 0 0)]),sk Tryz.f10 [1,1,1,0,0,0],[],none⟩],[yY a0 1 2 3 4 5 6,yW a0 7,yT a0,yR a0,bxB a0,yX a0,yV a0,yS a0,.aZ]⟩
 | .c1=>⟨[⟨10,24,(en [(6,.jT)]),sk Tryz.f10 [1,1,1,0,0,0],[],none⟩],[.aZ]⟩
def abj(A:aS)(m:ax)(s:ia):LT (List fj×Int) acQ:=.ap (A.k LF (m,s)) (.br (A.k pI (m,s)).1 (.br (A.cr (A.k pI (m,s)).2.2 0) (.ret (([]:List fj),(A.k pI (m,s)).2.2)) (.ao (.c0 (A.k pI (m,s)).2.1))) (.br (A.cr (A.k pI (m,s)).2.2 0) (.ret (([]:List fj),(A.k pI (m,s)).2.2)) (.ao (.c1))))
def G8(A:aS):acQ->LT (List fj×Int) acQ
 | .c0 a0=>.ap (A.k LG (a0,())) (.pq A a0.2.2.2.2.2.2.1 (.br (A.not (A.k pJ (a0,())).2) (.ap (A.k CH ((A.k pJ (a0,())).1,())) (.pq A (A.k pJ (a0,())).1.2.2.2.2.2.2.1 (.ao (.c0 (A.k sQ ((A.k pJ (a0,())).1,())).1)))) (.ap (A.k LH ((A.k pJ (a0,())).1,())) (.pq A (A.k pJ (a0,())).1.2.2.2.2.2.2.1 (.ret ((A.k Sj ((A.k pJ (a0,())).1,())).2,0))))))
 | .c1=>.bT 194 "busnet.go:237"
def xd:(ax×ia)->(List fj×Int):=λ(m,s)=>gS (G8 af) (abj af m s) (Ty.aR [(.slice iv),yI])
def GQ:(ax×ia)->Bool:=λ(m,s)=>iq (G8 af) (abj af m s)
def asm:aM:=⟨[bM,oq], [(.slice iv),yI],GQ,xd,false⟩
theorem agY:Sd 10 asm:=bp ar dK sl 37 [⟨10,4, [[6]]⟩] [] (λA (m,s)=>abj A m s) G8 aiT ⟨(fc Tryz.func10 fz),sz,(oc aoK oz),iz,(mc agn (mc anS (mc ago mz))),pz⟩ (λA y=>match y with |.c0 f=>⟨22,sl,by kernel_rfl⟩|.c1=>⟨10,sl,by kernel_rfl⟩) λ((m,s):ax×ia) c h=>gb c
def amx(A:aS)(m:ax):LT (Int×Int) Empty:=.br (A.cr (A.k jM m) 0) (.ret (0,(A.k jM m))) (.ret ((A.b .mul .i64 40 m.1),0))
def DI:ax->(Int×Int):=λm=>(amx af m).val (Ty.aR [yI,yI])
def asq:aM:=.all [bM] [yI,yI] DI
theorem aqn:Sd 55 asq:=fa (aP ar dK sl 34 [] (λA m=>amx A m) (kz (fc Tryz.func55 fz) (sc BF sz)) (λ_ _ _=>LT.bE (by kernel_rfl)))
structure Wq where
 (a0:List Int) (a1:Int) (a3:ax)
inductive acT where
 | c0 (p:Wq) (a2:Int) (a4:Net)
 | c1 (b0:Net)
noncomputable def aiW:acT->iH
 | .c0 p a2 a4=>⟨[⟨26,90,(en [(3,.ptr 0 0),(8,.ptr 1 0),(55,.sl yI p.a0),(56,vi p.a1),(57,vi a2)]),sk Tryz.f26 [1,1,1,1,1,1,1,1,0,1,0,0],[],none⟩],[.ay false (dc bM p.a3),yY a4 2 3 4 5 6 7,yW a4 8,yT a4,yR a4,bxB a4,yX a4,yV a4,yS a4,.aZ]⟩
 | .c1 b0=>⟨[⟨26,90,(en [(8,.ptr 0 0)]),sk Tryz.f26 [1,1,1,1,1,1,1,1,1,0,0,0],[],none⟩],[yY b0 1 2 3 4 5 6,yW b0 7,yT b0,yR b0,bxB b0,yX b0,yV b0,yS b0,.aZ]⟩
def tu(m:ax)(s:ia):ax×Int×List Bool×List Int×List Int×List Int×List Int×List dL×List fO:=(m,s.1,([]:List Bool),([]:List Int),s.2.2.2.1,s.2.2.2.2.1,s.2.2.2.2.2.1,([]:List dL),([]:List fO))
def Vq(A:aS)(m:ax)(s:ia)(c:List Int):LT (List Node×Int) acT:=.ap (A.k GU (tu m s)) (.br (A.k lZ (tu m s)).1 (.br (A.cr (A.k lZ (tu m s)).2.2 0) (.ret (([]:List Node),(A.k lZ (tu m s)).2.2)) (.br (A.cr (A.l c) m.1) (.ret (([]:List Node),2)) (.br (A.cr (A.k DI m).2 0) (.ret (([]:List Node),(A.k DI m).2)) (.ao (.c0 ⟨c,(A.l c),m⟩ 0 (TU (up3 (A.k lZ (tu m s)).2.1 (1048576:Int)) (A.b .mul .i64 m.2.1 (A.cB (A.k DI m).1 1)))))))) (.br (A.cr (A.k lZ (tu m s)).2.2 0) (.ret (([]:List Node),(A.k lZ (tu m s)).2.2)) (.br (A.cr (A.l c) m.1) (.ret (([]:List Node),2)) (.br (A.cr (A.k DI m).2 0) (.ret (([]:List Node),(A.k DI m).2)) (.bT 73 "busnet.go:257")))))
def Ac(A:aS):acT->LT (List Node×Int) acT
 | .c0 p a2 a4=>.br (A.bD a2 p.a1) (.gQ A a2 p.a0 (.br (A.bD (A.n yI p.a0 a2:Int) (-1)) (.ret (([]:List Node),2)) (.br (A.jw (A.n yI p.a0 a2:Int) (A.b .mul .i64 p.a3.1 p.a3.2.1)) (.ret (([]:List Node),2)) (.br (A.qP (A.n yI p.a0 a2:Int) 0) (.ap (A.k vO (a4,(A.cB p.a3.2.1 (A.n yI p.a0 a2:Int)),5,a2)) (.pq A a4.2.2.2.2.2.2.1 (.ao (.c0 p (A.cB a2 1) (A.k tW (a4,(A.cB p.a3.2.1 (A.n yI p.a0 a2:Int)),5,a2)).1)))) (.ao (.c0 p (A.cB a2 1) a4)))))) (.ao (.c1 a4))
 | .c1 b0=>.ap (A.k LG (b0,())) (.pq A b0.2.2.2.2.2.2.1 (.br (A.not (A.k pJ (b0,())).2) (.ap (A.k CH ((A.k pJ (b0,())).1,())) (.pq A (A.k pJ (b0,())).1.2.2.2.2.2.2.1 (.ao (.c1 (A.k sQ ((A.k pJ (b0,())).1,())).1)))) (.ap (A.k Qr ((A.k pJ (b0,())).1,())) (.pq A (A.k pJ (b0,())).1.2.2.2.2.2.2.1 (.ret ((A.k NF ((A.k pJ (b0,())).1,())).2,0))))))
def qp:(ax×ia×List Int)->(List Node×Int):=λ(m,s,c)=>gS (Ac af) (Vq af m s c) (Ty.aR [(.slice fA),yI])
def GR:(ax×ia×List Int)->Bool:=λ(m,s,c)=>iq (Ac af) (Vq af m s c)
def aso:aM:=⟨[bM,oq,BY], [(.slice fA),yI],GR,qp,false⟩
theorem aqm:Sd 26 aso:=bp ar dK sl 99 [⟨26,12, [[3,8,55,56,57]]⟩,⟨26,19, [[8]]⟩] [] (λA (m,s,c)=>Vq A m s c) Ac aiW ⟨(fc Tryz.func26 fz),(sc aqn sz),(oc agv oz),iz,(mc anR (mc agn (mc ago (mc J7 mz)))),pz⟩ (λA y=>match y with |.c0 p a2 g=>⟨60,sl,by kernel_rfl⟩|.c1 b0=>⟨22,sl,by kernel_rfl⟩) λ((m,s,c):ax×ia×List Int) f h=>gb f
def amv(A:aS)(s:ia):LT Bool Empty:=.br (A.bU (A.l s.2.2.2.2.2.2.1) 300) (.br (A.bU (A.l s.2.2.2.2.2.2.2) 300) (.ret (A.bU (A.l s.2.2.2.2.2.1) 1100)) (.ret false)) (.ret false)
def Ye:ia->Bool:=λs=>(amv af s).val (Ty.aR [.bool])
def asn:aM:=.all [oq] [.bool] Ye
theorem aql:Sd 12 asn:=fa (aP ar dK sl 31 [] (λA s=>amv A s) (kz (fc Tryz.func12 fz) sz) (λ_ _ _=>LT.bE (by kernel_rfl)))
def mM:List Int:=([2]:List Int)
def H5(A:aS):ax×Int×List Bool×List Int×List Int×List Int×List Int×List dL×List fO:=((4,(A.cB 76 (A.k Nu (4,0,38,16,0,1,(A.p (A.p (A.p [true] [true]) [true]) [true]),([((A.p (A.p (A.p (mM) (mM)) (mM)) (mM)),(A.p (A.p (A.p [true] [true]) [true]) [true]), [true])]:List Mode)))),38,16,0,1,(A.p (A.p (A.p [true] [true]) [true]) [true]),([((A.p (A.p (A.p (mM) (mM)) (mM)) (mM)),(A.p (A.p (A.p [true] [true]) [true]) [true]), [true])]:List Mode)),0,([]:List Bool),([]:List Int),([]:List Int),([]:List Int),([]:List Int),([]:List dL),([]:List fO))
def C8(A:aS):fj:=(A.n iv (A.k xd (H5 A)).1 3:fj)
def amu(A:aS):LT Bool Empty:=.ap (A.bU (A.l ([true]:List Bool)) 140737488355328) (.ap (A.bU (A.l (mM)) 17592186044416) (.ap (A.bU (A.l (A.p [true] [true])) 140737488355328) (.ap (A.bU (A.l (A.p (mM) (mM))) 17592186044416) (.ap (A.bU (A.l (A.p (A.p [true] [true]) [true])) 140737488355328) (.ap (A.bU (A.l (A.p (A.p (mM) (mM)) (mM))) 17592186044416) (.ap (A.bU (A.l (A.p (A.p (A.p [true] [true]) [true]) [true])) 140737488355328) (.ap (A.bU (A.l (A.p (A.p (A.p (mM) (mM)) (mM)) (mM))) 17592186044416) (.ap (A.k GQ (H5 A)) (.br (A.bK (A.k xd (H5 A)).2 0) (.br (A.bK (A.l (A.k xd (H5 A)).1) 4) (.gQ A 3 (A.k xd (H5 A)).1 (.br (A.bK (C8 A).1 1) (.ret (A.and (A.bK (C8 A).2.2.2.1.1 1) (A.and (A.bK (C8 A).2.2.2.1.2.1 0) (A.and (A.bK (C8 A).2.2.2.1.2.2.1 0) (A.and (A.bK (C8 A).2.2.2.1.2.2.2.1 0) (A.and (A.bK (C8 A).2.2.2.1.2.2.2.2 15) true)))))) (.ret false))) (.ret false)) (.ret false))))))))))
def F4:Unit->Bool:=λ_=>gS Empty.elim (amu af) (Ty.aR [.bool])
def LD:Unit->Bool:=λ_=>iq Empty.elim (amu af)
def asl:aM:=⟨[], [.bool],LD,F4,false⟩
theorem aqk:Sd 9 asl:=b_ ar dK (.kQ [0,0,2,0,0,2,0,0,2,0,0,2,0,0,0,0,0,2]) 343 [] (λA _=>amu A) (kz (fc Tryz.func9 (fc Tryz.func8 fz)) (sc agG (sc agY sz))) λ_ c h=>gb c
structure ahN where
 (a0 a2:List Int) (a3:Int) (a5:ax) (a6:ia)
inductive WS where
 | c0 (p:ahN) (a1:Int) (a4:Int)
noncomputable def aiS:WS->iH
 | .c0 p a1 a4=>⟨[⟨7,140,(en [(2,.sl yI p.a0),(4,.ptr 0 0),(5,.ptr 1 0),(11,vi a1),(100,.sl yI p.a2),(101,vi p.a3),(102,vi a4)]),sk Tryz.f7 [1,1,1,1,1,1,1,0,1,0,0],[],none⟩],[.ay false (dc bM p.a5),.ay false (dc oq p.a6),.aZ]⟩
abbrev abi(A:aS)(m:ax)(s:ia)(c:List Int):LT Bool WS:=(.br (A.bK (A.k JJ m) 0) (.br (A.cr (A.l c) m.1) (.ao (.c0 ⟨c,c,(A.l c),m,s⟩ 2 0)) (.ao (.c0 ⟨c,c,(A.l c),m,s⟩ (A.k JJ m) 0))) (.ao (.c0 ⟨c,c,(A.l c),m,s⟩ (A.k JJ m) 0)))
def Q9(A:aS)(m:ax)(s:ia)(c:List Int)(f:Int):LT Bool WS:=.ap (A.k CJ (([]:List fj),())) (.ap (A.k LD ()) (.br (A.not (A.k F4 ())) (.ret (A.k F4 ())) (.br (A.not (A.k Ye s)) (.ret (A.k F4 ())) (.br (A.jw (A.l c) 20) (.ret (A.k F4 ())) (.ap (A.k GQ (m,s)) (.br (A.cr (A.k xd (m,s)).2 (A.k JJ m)) (.ret false) (.br (A.cr (A.k xd (m,s)).2 0) (.br (A.cr (A.l (A.k xd (m,s)).1) 0) (.ret false) (abi A m s c)) (abi A m s c))))))))
def G7(A:aS):WS->LT Bool WS
 | .c0 p a1 a4=>.br (A.bD a4 p.a3) (.gQ A a4 p.a2 (.br (A.bK a1 0) (.br (A.bD (A.n yI p.a2 a4:Int) (-1)) (.ao (.c0 p 2 (A.cB a4 1))) (.br (A.jw (A.n yI p.a2 a4:Int) (A.b .mul .i64 p.a5.1 p.a5.2.1)) (.ao (.c0 p 2 (A.cB a4 1))) (.ao (.c0 p a1 (A.cB a4 1))))) (.ao (.c0 p a1 (A.cB a4 1))))) (.ap (A.k GR (p.a5,p.a6,p.a0)) (.br (A.bK (A.k qp (p.a5,p.a6,p.a0)).2 a1) (.ret (A.q (A.bK (A.k qp (p.a5,p.a6,p.a0)).2 0) (A.jw (A.l (A.k qp (p.a5,p.a6,p.a0)).1) 0))) (.ret false)))
def Si:(ax×ia×List Int×Int)->Bool:=λ(m,s,f,c)=>gS (G7 af) (Q9 af m s f c) (Ty.aR [.bool])
def LC:(ax×ia×List Int×Int)->Bool:=λ(m,s,f,c)=>iq (G7 af) (Q9 af m s f c)
theorem apb(x:ax×ia×List Int×Int)(c:LC x=true):aW (G7 af) (Q9 af x.1 x.2.1 x.2.2.1 x.2.2.2) (Si x):=@gb _ _ (G7 af) (Q9 af x.1 x.2.1 x.2.2.1 x.2.2.2) (Ty.aR [.bool]) c
def asj:aM:=⟨[bM,oq,BY,yI], [.bool],LC,Si,false⟩
theorem aqj:Sd 7 asj:=bp ar dK (.kQ [0,1,0,0,2,0,3,0,4]) 690 [⟨7,16, [[2,4,5,11,100,101,102]]⟩] [] (λA (m,s,f,c)=>Q9 A m s f c) G7 aiS ⟨(fc Tryz.func7 (fc Tryz.func19 (fc Tryz.func21 (fc Tryz.func22 (fc Tryz.func23 (fc Tryz.func24 (fc Tryz.func28 (fc Tryz.func45 fz)))))))),(sc apL (sc aqk (sc agY (sc aql (sc aqm sz))))),oz,(ic agd iz),mz,pz⟩ (λA y=>match y with |.c0 p a1 j=>⟨48,sl,by kernel_rfl⟩) λx g _=>apb x g
def WG(k:Nat->Int)(n i:Nat):Prop:=i<n/\(∀j,0<j->j<n->j≠i->k ((j-1)/2)<=k j)/\∀j,0<j->j<n->(j-1)/2=i->0<i->k ((i-1)/2)<=k j
def WH(k:Nat->Int)(n i:Nat):Prop:=(∀j,0<j->j<n->(j-1)/2≠i->k ((j-1)/2)<=k j)/\∀j,0<j->j<n->(j-1)/2=i->0<i->k ((i-1)/2)<=k j
def Hp(k:Nat->Int)(n:Nat):Prop:=∀j,0<j->j<n->k ((j-1)/2)<=k j
variable{i n:Nat}
theorem Z0{k f:Nat->Int}{u:Nat}(h:WG k n i)(z:0<i)(D:u=(i-1)/2)(A:k i<=k u)(r:f i=k u)(v:f u=k i)(g:∀j,j≠i->j≠u->f j=k j):WG f n u:=by
 obtain⟨a,b,c⟩:=h;refine⟨by omega,λj o p m=>?_,λj o p m q=>?_⟩
 ·by_cases l:j=i
  ·simp_all
  ·rw[g j l m]
   by_cases B:(j-1)/2=i
   ·simp_all
   ·by_cases C:(j-1)/2=u
    all_goals grind
 ·have y:=b u q (by omega) (by omega)
  rw[g ((u-1)/2) (by omega) (by omega)];by_cases l:j=i
  ·simp_all
  ·rw[g j l (by omega)]
   grind
theorem LS{k:Nat->Int}(h:WG k n i)(l:0<i->k ((i-1)/2)<=k i):Hp k n:=λj c f=>by
 by_cases g:j=i
 ·simp_all
 ·exact h.2.1 j c f g
theorem aay{k c:Nat->Int}{f:Nat}(h:WH k n i)(u:f<n)(l:0<f/\(f-1)/2=i)(z:k f<=k i)(A:∀j,0<j->j<n->(j-1)/2=i->k f<=k j)(m:c i=k f)(y:c f=k i)(g:∀j,j≠i->j≠f->c j=k j):WH c n f:=by
 obtain⟨a,b⟩:=h;refine⟨λj o r p=>?_,λj o r p _=>?_⟩
 ·by_cases v:j=f
  ·simp_all
  ·by_cases q:j=i
   ·subst q;rw[m,g _ (by omega) p];exact b f l.1 u l.2 o
   ·rw[g j q v]
    by_cases B:(j-1)/2=i
    all_goals simp_all
 ·rw[l.2,m,g j (by omega) (by omega)]
  grind
theorem Tz{k:Nat->Int}(h:WH k n i)(l:∀j,0<j->j<n->(j-1)/2=i->k i<=k j):Hp k n:=λj c f=>by
 by_cases g:(j-1)/2=i
 ·simp_all
 ·exact h.1 j c f g
theorem ajZ{k:Nat->Int}(h:Hp k n):∀j,j<n->k 0<=k j:=λj=>by
 induction j using Nat.strongRecOn with
 | _ j ih=>
   intro c;by_cases f:j=0
   ·simp_all
   ·exact dn (ih _ (by omega) (by omega)) (h j (by omega) c)
def Cq(l:List jc)(j:Nat):Int:=(l.getD j (0,0,0,0)).1
def Ku(l:List jc):Prop:=Hp (Cq l) l.length
theorem Xh(a b:Int):JW (a,b)=uQ a b:=by
 show(afD af a b).val _=_;simp[afD,bo,show ∀x,DK x=false from λx=>by show(x != x)=false;simp];rfl
theorem Ey{a b:jc}:(JS (a,b)=true->a.1<=b.1)/\(JS (a,b)=false->b.1<=a.1):=by
 have e:JS (a,b)=decide (Zz [uQ a.1 b.1,uQ a.2.1 b.2.1,uQ a.2.2.1 b.2.2.1,uQ a.2.2.2 b.2.2.2]<0):=by
  show decide (Sv (a,b)<0)=_;rw[show Sv (a,b)=Zz [JW (a.1,b.1),q8 (a.2.1,b.2.1),q8 (a.2.2.1,b.2.2.1),JW (a.2.2.2,b.2.2.2)] from rfl,Xh,Xh];rfl
 rw[e];rcases Int.lt_trichotomy a.1 b.1 with h|h|h
 ·have:uQ a.1 b.1 = -1:=by rw[uQ,da h];rfl
  rw[this,show Zz [-1,uQ a.2.1 b.2.1,uQ a.2.2.1 b.2.2.1,uQ a.2.2.2 b.2.2.2] = -1 from rfl]
  grind
 ·omega
 ·have:uQ a.1 b.1=1:=by rw[uQ,gI (by omega),da h];rfl
  rw[this,show Zz [1,uQ a.2.1 b.2.1,uQ a.2.2.1 b.2.2.1,uQ a.2.2.2 b.2.2.2]=1 from rfl]
  grind
variable{j:Nat}{l:List jc}
theorem yn:(af.n pn l (j:Int):jc)=l.getD j (0,0,0,0):=by rfl
def Jo(l:List jc)(i j:Nat):List jc:=(l.set i (l.getD j (0,0,0,0))).set j (l.getD i (0,0,0,0))
theorem Kq(c:i<l.length)(f:j<l.length):(Jo l i j).Perm l:=by
 have e:∀{k},(h:k<l.length)->l.getD k (0,0,0,0)=l[k]:=λh=>by simp_all
 rw[Jo,e c,e f]
 grind
theorem Ht:(Jo l i j).length=l.length:=by simp[Jo]
theorem OM(c:i<l.length)(f:j<l.length):Cq (Jo l i j) i=Cq l j/\Cq (Jo l i j) j=Cq l i/\∀k,k≠i->k≠j->Cq (Jo l i j) k=Cq l k:=by
 simp[Cq,Jo]
 grind
theorem TN:af.set (af.set l (i:Int) (af.n pn l (j:Int):jc)) (j:Int) (af.n pn l (i:Int):jc)=Jo l i j:=by rfl
theorem half{a:Nat}(h:0<a)(c:a<=1000000):af.b .quo .i64 (af.fF (a:Int) 1) 2=(((a-1)/2:Nat):Int):=by
 rw[yw,lC (by omega) (by omega),Ml,show((a:Int)-1)=((a-1:Nat):Int) from by omega];rw[show((a-1:Nat):Int).tdiv 2=(((a-1)/2:Nat):Int) from rfl,lC (by omega) (by omega)]
theorem SI{i j:Int}{v:jc}(h:0<=i/\i<(l.length:Int)):af.and (af.bU 0 i) (af.bD i (af.l (af.set l j v)))=true:=bW (by rw[gy];exact h)
theorem aeC{p:Ww}{q:List jc}(B:q.length<=1000000):∀(f i:Nat) (l:List jc),i<=f->l.Perm q->WG (Cq l) l.length i->Go (aae af) (.ao (.c0 p (i:Int) l)) λr=>∃o,r=((p.a1,o,p.a2),())/\o.Perm q/\Ku o:=by
 intro f
 induction f with
 | zero=>
   intro i l A g m;have:i=0:=by omega
   exact aY (pL (λh=>by omega) λ_=>aK ⟨l,rfl,g,LS m (by omega)⟩)
 | succ f ih=>
   intro i l A g m;refine aY (pL (λh=>?_) λh=>aK ⟨l,rfl,g,LS m (by omega)⟩);have u:0<i:=by omega
   have C:=g.length_eq;have n:i<l.length:=m.1;rw[show xT af (i:Int)=(((i-1)/2:Nat):Int) from half u (by omega)];refine ai (bW (by omega)) (ai (bW (by omega)) (fM (λh=>ai (SI (by omega)) ?_) λh=>?_))
   ·rw[TN]
    obtain⟨v,y,z⟩:=OM (l:=l) (i:=i) (j:=(i-1)/2) n (by omega);have c:=Ey.1 h;exact ih _ _ (by omega) ((Kq n (by omega)).trans g) (by rw[Ht];exact Z0 m u rfl c v y z)
   ·have c:=Ey.2 h
    exact aK ⟨l,rfl,g,LS m λ_=>c⟩
variable{q:qU}
theorem aeD(f:q.2.1.length<=1000000)(g:WG (Cq q.2.1) q.2.1.length i):QF (q,(i:Int))=true/\∃c,Yg (q,(i:Int))=((q.1,c,q.2.2),())/\c.Perm q.2.1/\Ku c:=
 im (s:=aae af) (t:=afu af q (i:Int)) (aeC (p:=⟨q.1,q.2.2⟩) f i i q.2.1 (ah _) (.refl _) g)
theorem dbl{a:Nat}{c:Int}(h:a<=1000000)(f:0<=c/\c<=2):af.cB (af.b .mul .i64 2 (a:Int)) c=2*(a:Int)+c:=by
 rw[Vn,jb,lC (a:=2*(a:Int)) (by omega) (by omega),lC (by omega) (by omega)]
variable{P:qU×Unit->Prop}{p:Kx}
theorem G_{f c:Nat}{a2 g k:Int}(j:0<=k/\k<2)(o:(af.n yI [a2,g] k:Int)=(c:Int))(q:c<l.length->f<l.length)(n:c<l.length->Cq l c<=Cq l f->Go (Jf af) (.ao (.c0 p (i:Int) (c:Int) a2 g (k+1) l)) P)(m:(c<l.length->Cq l f<=Cq l c)->Go (Jf af) (.ao (.c0 p (i:Int) (f:Int) a2 g (k+1) l)) P):
  Go (Jf af) (.ao (.c0 p (i:Int) (f:Int) a2 g k l)) P:=by
 refine aY (cJ (λ_=>?_) λh=>absurd j.2 (by omega));rw[o,dD (x:=k) (y:=1) (by omega)];refine ai (by rw[bl,aC,aV,da j.1,da j.2];rfl) (cJ (λh=>?_) λh=>m λk=>?_)
 ·have h:c<l.length:=by rw[d_] at h;omega
  refine ai (bW (by omega)) (ai (bW (by omega)) (fM (λe=>n h ?_) λe=>m λ_=>?_))
  ·have:=Ey.1 e;rwa [yn,yn] at this
  ·have:=Ey.2 e;rwa [yn,yn] at this
 ·rw[d_] at h;omega
theorem Ki(K:∀f:Nat,(f=i\/f<l.length/\(f=2*i+1\/f=2*i+2))->Cq l f<=Cq l i->(∀j,j<l.length->(j=2*i+1\/j=2*i+2)->Cq l f<=Cq l j)->Go (Jf af) (.ao (.c0 p (i:Int) (f:Int) ((2*i+1:Nat):Int) ((2*i+2:Nat):Int) 2 l)) P):
  Go (Jf af) (.ao (.c0 p (i:Int) (i:Int) ((2*i+1:Nat):Int) ((2*i+2:Nat):Int) 0 l)) P:=by
 refine G_ (c:=2*i+1) (by omega) rfl (by omega) (λa1 a2=>?_) λa1=>?_
 ·refine G_ (k:=0+1) (c:=2*i+2) (by omega) rfl (by omega) (λg o=>K _ (by omega) (by omega) λj m n=>?_) λg=>K _ (by omega) a2 λj m n=>?_
  all_goals grind
 ·refine G_ (k:=0+1) (c:=2*i+2) (by omega) rfl (by omega) (λg o=>K _ (by omega) o λj m n=>?_) λg=>K _ (by omega) (aj _) λj m n=>?_
  all_goals grind
theorem aeS{q:List jc}(E:q.length<=1000000):∀(f i:Nat) (l:List jc),l.length-i<=f->l.Perm q->WH (Cq l) l.length i->
  Go (Jf af) (.ao (.c0 p (i:Int) (i:Int) ((2*i+1:Nat):Int) ((2*i+2:Nat):Int) 0 l)) λr=>∃o,r=((p.a5,o,p.a6),())/\o.Perm q/\Ku o:=by
 intro f
 induction f with
 | zero=>
   intro i l D m n;refine Ki λc C v y=>aY (cJ (λh=>absurd h (by decide)) λ_=>dN (λh=>?_) λ_=>aK ⟨l,rfl,m,Tz n λj a1 a2 u=>absurd a2 (by omega)⟩);omega
 | succ f ih=>
   intro i l D m n;have G:=m.length_eq;refine Ki λc C v y=>aY (cJ (λh=>absurd h (by decide)) λ_=>dN (λh=>?_) λh=>aK ⟨l,rfl,m,Tz n λj a1 a2 u=>?_⟩)
   ·have g:c<l.length/\(c=2*i+1\/c=2*i+2):=by omega
    refine ai (bW (by omega)) (ai (bW (by omega)) (ai (SI (by omega)) ?_));rw[TN,dbl (by omega) (by omega),dbl (by omega) (by omega)];obtain⟨z,A,B⟩:=OM (l:=l) (i:=i) (j:=c) (by omega) g.1;have:=ih c (Jo l i c) (by rw[Ht];omega) ((Kq (by omega) g.1).trans m) (by
     rw[Ht];exact aay n g.1 (by omega) v (λj a1 a2 u=>y j a2 (by omega)) z A B)
    simp_all
   grind
theorem aeT(f:q.2.1.length<=1000000)(g:WH (Cq q.2.1) q.2.1.length 0):Qz (q,0)=true/\∃c,Sq (q,0)=((q.1,c,q.2.2),())/\c.Perm q.2.1/\Ku c:=
 im (s:=Jf af) (t:=afo af q 0) (aeS (p:=⟨q.1,q.2.2⟩) f _ 0 q.2.1 (ah _) (.refl _) g)
variable{e:jc}
theorem aex(y:q.1=true)(C:q.2.1.length<=16384)(z:Ku q.2.1):QG (q,e)=true/\((wD (q,e)).2≠0/\(wD (q,e)).1=q\/(wD (q,e)).2=0/\q.2.2<=e.1/\∃c,(wD (q,e)).1=(q.1,c,q.2.2)/\c.Perm (e::q.2.1)/\c.length<=16384/\Ku c):=by
 refine im (s:=Empty.elim) (t:=afv af q e) (d:=_) (P:=λr=>r.2≠0/\r.1=q\/r.2=0/\q.2.2<=e.1/\∃c,r.1=(q.1,c,q.2.2)/\c.Perm (e::q.2.1)/\c.length<=16384/\Ku c) ?_;refine dO (λk=>absurd (y.symm.trans k) (by decide)) λ_=>cJ (λ_=>aK (.inl ⟨(show ¬(140:Int)=0 by decide),rfl⟩)) λv=>pL (λ_=>aK (.inl ⟨(show ¬(140:Int)=0 by decide),rfl⟩)) λ_=>vE (λ_=>aK (.inl ⟨(show ¬(3:Int)=0 by decide),rfl⟩)) λg=>?_;have g:q.2.1.length<16384:=by rw[d_] at g;omega
 have u:af.fF (af.l (af.p q.2.1 ([e]:List jc))) 1=(q.2.1.length:Int):=by
  rw[show af.p q.2.1 [e]=q.2.1 ++ [e] from rfl,d_,ru,bw,yw,lC (by omega) (by omega)];omega
 rw[u];have l:∀j,j<q.2.1.length->Cq (q.2.1 ++ [e]) j=Cq q.2.1 j:=λj A=>by
  simp[Cq,yb,bQ A]
 obtain⟨a1,c,a2,m,n⟩:=aeD (q:=(q.1,q.2.1 ++ [e],q.2.2)) (i:=q.2.1.length) (by grind) (by
  rw[ru,bw];refine⟨Nat.lt_succ_self _,λj f o p=>?_,λj f o p B=>by omega⟩;rw[l _ (by omega),l _ (by omega)];exact z j f (by omega))
 refine ai ?_ (ai a1 (aK (.inr ⟨rfl,v,c,?_,?_,?_,n⟩)))
 ·rw[show af.p q.2.1 [e]=q.2.1 ++ [e] from rfl,d_,ru,bw,aC]
  grind
 ·exact congrArg Prod.fst a2
 ·grind
 ·have:=m.length_eq;grind
theorem abT{v:jc}(h:0<l.length):af.and (af.bU 0 0) (af.and (af.bU 0 ((l.length:Int)-1)) (af.bU ((l.length:Int)-1) (af.l (af.set l 0 v))))=true:=by
 rw[bl,bl,aC,aC,aC,d_,gy,da (by omega:(0:Int)<=(l.length:Int)-1),da (by omega:(l.length:Int)-1<=(l.length:Int))];rfl
theorem akJ(O:q.1=true)(W:q.2.1.length<=16384)(u:Ku q.2.1):Qt (q,())=true/\(q.2.1=[]/\(za (q,())).2.2≠0/\(za (q,())).1=q\/(za (q,())).2.2=0/\∃c,(za (q,())).1=(q.1,c,(za (q,())).2.1.1)/\((za (q,())).2.1::c).Perm q.2.1/\Ku c/\∀y∈q.2.1,(za (q,())).2.1.1<=y.1):=by
 refine im (s:=Empty.elim) (t:=abn af q) (d:=_) (P:=λr=>q.2.1=[]/\r.2.2≠0/\r.1=q\/r.2.2=0/\∃c,r.1=(q.1,c,r.2.1.1)/\(r.2.1::c).Perm q.2.1/\Ku c/\∀y∈q.2.1,r.2.1.1<=y.1) ?_;have p:xM af q=(q.2.1.length:Int)-1:=by
  show af.fF (af.l q.2.1) 1=_;rw[d_,yw,lC (by omega) (by omega)]
 unfold abn;rw[p];refine dO (λk=>absurd (O.symm.trans k) (by decide)) λ_=>cJ (λh=>aK (.inl ⟨cq.1 (by omega),(show ¬(4:Int)=0 by decide),rfl⟩)) λh=>?_;have A:0<q.2.1.length:=by omega
 have Q:((q.2.1.length:Int)-1)=((q.2.1.length-1:Nat):Int):=by omega
 have G:Mu af q=((q.1,(q.2.1.set 0 (q.2.1.getD (q.2.1.length-1) (0,0,0,0))).take (q.2.1.length-1),q.2.2),0):=by
  unfold Mu;rw[p,Q,yn,yw,lC (by omega) (by omega),jX,Int.sub_zero,rO];rfl
 rw[G];have n:((q.2.1.set 0 (q.2.1.getD (q.2.1.length-1) (0,0,0,0))).take (q.2.1.length-1)).length=q.2.1.length-1:=by simp_all
 have v:∀j,0<j->j<q.2.1.length-1->Cq ((q.2.1.set 0 (q.2.1.getD (q.2.1.length-1) (0,0,0,0))).take (q.2.1.length-1)) j=Cq q.2.1 j:=λj V m=>by
  simp only[Cq]
  grind
 obtain⟨a1,c,a2,B,C⟩:=aeT (q:=(q.1,(q.2.1.set 0 (q.2.1.getD (q.2.1.length-1) (0,0,0,0))).take (q.2.1.length-1),q.2.2)) (by grind) (by
  rw[n];refine⟨λj g o D=>?_,λj g o D E=>absurd E (dw 0)⟩;rw[v _ (by omega) (by omega),v _ g o];exact u j g (by omega))
 have H:(af.n pn q.2.1 0:jc)=q.2.1.getD 0 (0,0,0,0):=yn (j:=0);refine ai (bW (i:=0) (by omega)) (ai (bW (by omega)) (ai ?_ (ai a1 (aK (.inr ⟨rfl,c,?_,?_,C,λy S=>?_⟩)))))
 ·exact abT A
 ·show lp2 (af.k Sq _).1 _=_
  rw[bo,a2]
 ·refine(B.cons _).trans ?_
  generalize q.2.1=l at A;cases l with
  | nil=>simp_all
  | cons a t=>
    rcases List.eq_nil_or_concat t with rfl|⟨f,z,rfl⟩
    ·rfl
    ·have I:(a::(f ++ [z])).length-1=f.length+1:=by simp
     have J:(a::(f ++ [z])).getD (f.length+1) (0,0,0,0)=z:=by simp
     rw[List.concat_eq_append,I,J,mK,gZ,iK]
     ·show(a::z::f).Perm _
      exact(List.perm_append_comm (l₁:=[z])).cons a
     ·rfl
 ·rw[H]
  obtain⟨j,m⟩:=gP S;have:=ajZ u j (aT.1 m).1;simp only[Cq,m] at this
  simp_all
def Vy(b:Int)(l:List Int):Prop:=∀i:Nat, -b<=l.getD i 0/\l.getD i 0<=b
theorem Vy.set{v:Int}{l:List Int}{j:Int}(h:Vy b l)(c:-b<=v/\v<=b):Vy b (af.set l j v):=λi=>by
 show -b<=(l.set j.toNat v).getD i 0/\(l.set j.toNat v).getD i 0<=b;have:=h i
 grind
theorem Vy.of{l:List Int}(c:0<=b)(h:∀x∈l, -b<=x/\x<=b):Vy b l:=λi=>by
 rw[yb];cases k:l[i]? with
 | none=>simp_all
 | some x=>exact h x (i7 k)
theorem adZ{l:List Int}{i j:Int}{v:Int}(h:0<=i/\i<(l.length:Int)):af.and (af.bU 0 i) (af.bD i (af.l (af.set l j v)))=true:=bW (by rw[gy];exact h)
theorem aan{l:List Int}{i j v w:Int}:(af.set (af.set l i v) j w).length=l.length:=by rw[gy,gy]
theorem akn(x:Int):DK x=false:=by show(x != x)=false;simp
theorem ajD{l:List Int}(f:l.length<=1000000)(h:Vy 1099511627776 l):QL (l,1099511627776)=true/\Yn (l,1099511627776)=false:=by
 refine im (s:=U_ af) (t:=afE af l 1099511627776) (d:=_) (P:=λr=>r=false) (aY ?_);have:∀(j k:Nat),l.length-k<=j->Go (U_ af) (U_ af (.c0 ⟨l,af.l l,1099511627776⟩ (k:Int))) λr=>r=false:=by
  intro j
  induction j with
  | zero=>intro k c;exact cJ (λg=>absurd g (by show ¬(k:Int)<(l.length:Int);omega)) λ_=>aK rfl
  | succ j ih=>
    intro k c;refine cJ (λg=>?_) λ_=>aK rfl;have g:k<l.length:=by have g:(k:Int)<(l.length:Int):=g;omega
    have m:=h k;refine ai (bW (l:=l) (by omega)) (cJ (λe=>?_) λ_=>pL (λe=>?_) λ_=>aY ?_)
    ·exfalso
     have e:l.getD (k:Int).toNat 0 < -1099511627776:=e;rw[rO] at e;omega
    ·exfalso
     have e:1099511627776<l.getD (k:Int).toNat 0:=e;rw[rO] at e;omega
    ·rw[dD (by omega),show(k:Int)+1=((k+1:Nat):Int) from by omega]
     exact ih (k+1) (by omega)
 exact this _ 0 (ah _)
def M5(b:Int)(r:Int×Int×Int):Prop:=r.2.2=0/\(-b<=r.1/\r.1<=b)/\ -b<=r.2.1/\r.2.1<=b
theorem ad3(A:1<=n/\n<=9):∀(f i:Nat) (l:List Int),n-i<=f->l.length=n->Vy b l->Go (L8 af) (.ao (.c1 ⟨(n:Int),(i:Int),l⟩)) (M5 b):=by
 have r:∀(l:List Int) (i:Nat),¬i<n->l.length=n->Vy b l->Go (L8 af) (.ao (.c1 ⟨(n:Int),(i:Int),l⟩)) (M5 b):=by
  intro l i u j c;have q:Al af ⟨(n:Int),(i:Int),l⟩=(n:Int)-1:=by
   show af.fF (af.l l) 1=_;rw[d_,j,lN (by omega)]
  have v:Dg af ⟨(n:Int),(i:Int),l⟩=(n:Int)-2:=by
   show af.fF (Al af _) 1=_;rw[q,lN (by omega)];omega
  refine aY (cJ (λh=>absurd h (by grind)) λ_=>vE (λg=>?_) λg=>?_)
  ·have g:4<=n:=by have g:(4:Int)<=(l.length:Int):=g;omega
   refine ai ?_ (ai ?_ (ai ?_ (aK ⟨rfl,c _,c _⟩)))
   ·simp[bl,aC,d_,fQ,sK];omega
   ·simp[bl,aC,aV,fQ,sK];omega
   ·rw[lN (by omega)]
    simp[bl,aC,aV,fQ,sK];omega
  ·rw[q]
   exact ai (bW (l:=l) (by omega)) (ai (bW (l:=l) (by omega)) (aK ⟨rfl,c _,c _⟩))
 intro f
 induction f with
 | zero=>grind
 | succ f ih=>
   intro i l y j c;by_cases u:i<n
   ·refine aY (cJ (λ_=>aY ?_) λh=>absurd h (by grind))
    have p:∀(k:Nat) (l:List Int),k<=i->l.length=n->Vy b l->Go (L8 af) (L8 af (.c2 ⟨(n:Int),(i:Int)⟩ (k:Int) l)) (M5 b):=by
     have m:∀(l:List Int),l.length=n->Vy b l->Go (L8 af) (.ao (.c1 ⟨(n:Int),af.cB (i:Int) 1,l⟩)) (M5 b):=λl j c=>by
      rw[dD (by omega),show(i:Int)+1=((i+1:Nat):Int) from by omega];exact ih (i+1) l (by omega) j c
     intro k
     induction k with
     | zero=>intro l _ j c;exact pL (λh=>absurd h (by decide)) λ_=>m l j c
     | succ k o=>
       intro l z j c;refine pL (λ_=>?_) λh=>absurd h (by omega);have e:af.fF ((k+1:Nat):Int) 1=(k:Int):=by rw[lN (by omega)];omega
       refine ai (bW (by omega)) (ai (bW (by omega)) (fM (λg=>absurd (g.symm.trans (akn _)) (by decide)) λ_=>cJ (λ_=>ai ?_ (aY ?_)) λ_=>m l j c))
       ·unfold MS
        exact adZ (by omega)
       ·unfold MU
        rw[e];exact o _ (by omega) (aan.trans j) ((c.set (c _)).set (c _))
    simp_all
   grind
theorem akc(h:n<=9):LA (af.v .u64 (n:Int))=true:=by
 have:∀k:Fin 10,LA (af.v .u64 ((k.val:Nat):Int))=true:=by decide +kernel
 exact this ⟨n,by omega⟩
theorem Xl{l:List Int}:af.spl (af.r (af.l l) (0:Int)) 0 (af.s l 0 (af.mn (af.l l) (af.l (af.r (af.l l) (0:Int)))))=l:=by
 have e:af.r (af.l l) (0:Int)=List.replicate l.length 0:=by rfl
 rw[e,d_,d_,IZ,oR,if_neg (by omega),jX,oB,rO,eB];simp
variable{α:Type}
theorem aki{l:List α}{N:Int}(h:(l.length:Int)<=N):af.and (af.bK (af.l l) (af.l l)) (af.and (af.bU 0 (af.l l)) (af.bU (af.l l) N))=true:=by
 rw[bl,bl,bd,aC,aC,d_,da h,da (by omega:(0:Int)<=l.length)];simp
theorem ad4{l:List Int}(n:0<=b/\b<=1099511627776)(f:1<=l.length/\l.length<=9)(h:∀x∈l, -b<=x/\x<=b):QK l=true/\M5 b (A4 l):=by
 refine im (s:=L8 af) (t:=abJ af l) (d:=_) ?_;have c:=Vy.of n.1 h;obtain⟨j,m⟩:=ajD (l:=l) (by omega) λi=>by have:=c i;omega
 have e:Im af l=l:=Xl;unfold abJ;rw[e];refine dC (λg=>by rw[d_] at g;omega) λ_=>ai j (fM (λg=>absurd (m.symm.trans g) (by decide)) λ_=>ai ?_ (ai (akc f.2) (aY (Cu (λ_=>?_) λg=>?_))))
 ·exact aki (l:=l) (by omega)
 ·exact ad3 f _ 1 l (ah _) rfl c
 ·exfalso
  have g:12<af.fF (l.length:Int) 0:=g;rw[lN (by omega)] at g;omega
theorem au4{x:Int}:af.b .shr .i64 x 1=x/2:=by
 show Int.fdiv x (2^(min (1:Int).toNat 64))=_
 grind
theorem akh{l:List Int}(g:0<=b/\b<=1099511627776)(j:1<=l.length/\l.length<=9)(h:∀x∈l, -b<=x/\x<=b):QJ l=true/\(NI l).2=0/\ -b<=(NI l).1/\(NI l).1<=b:=by
 obtain⟨c,f,m,n⟩:=ad4 g j h;refine im (s:=Empty.elim) (t:=afB af l) (d:=_) (P:=λr=>r.2=0/\ -b<=r.1/\r.1<=b) (ai c (aK ⟨f,?_⟩));show -b<=af.b .shr .i64 (af.cB (A4 l).1 (A4 l).2.1) 1/\af.b .shr .i64 (af.cB (A4 l).1 (A4 l).2.1) 1<=b;rw[dD (by omega),au4];omega
theorem adB{w x:Int}(c:0<=w/\w<=1048576):Xq w x=true↔ -w<=x/\x<=w:=by
 simp[Xq,fQ,fu,aV,dh,decide_eq_false_iff_not];rw[show af.u .neg .i64 w = -w from by show IntKind.i64.wrap (0-w)=_;rw[lC (by omega) (by omega)];omega];omega
theorem Ax{w:Int}{c:qk}(f:0<=w/\w<=1048576):yK w c=true↔(0<=c.1/\c.1<=1099494850560)/\(0<=c.2.1/\c.2.1<=1048576)/\c.2.2.length<=8/\∀x∈c.2.2, -w<=x/\x<=w:=by
 simp[yK,fQ,bG,adB f]
 grind
variable{m:ax}
theorem Ug{c:qk}(h:Xf (m,c)=0):dq m=true/\yK m.2.2.2.1 c=true:=by
 unfold Xf at h
 grind
theorem wQ(h:dq m=true):(4<=m.1/\m.1<=8)/\(0<=m.2.2.2.2.1/\m.2.2.2.2.1<=64)/\(0<=m.2.2.2.2.2.1/\m.2.2.2.2.2.1<=64)/\(16*m.1*m.2.2.2.2.1+16<=m.2.2.2.1/\0<=m.2.2.2.1/\m.2.2.2.1<=1048576)/\(2*m.2.2.2.1+2*m.2.2.2.2.2.1+4<=m.2.2.1/\m.2.2.1<=1048576)/\2*m.2.2.1+iZ m<=m.2.1/\m.2.1<=16777216/\0<=iZ m:=by
 obtain⟨n,s,g,w,d,j,f,c⟩:=m;have:=Y_ h;have l:=vf (m:=(n,s,g,w,d,j,f,c));simp[dq,qB] at h
 grind
theorem ajm{c:qk}:QH (m,c)=true/\((wF (m,c)).2=0->dq m=true/\yK m.2.2.2.1 c=true/\ -m.2.2.2.1<=(wF (m,c)).1/\(wF (m,c)).1<=m.2.2.2.1):=by
 refine im (s:=Empty.elim) (t:=abH af m c) (d:=_) (P:=λr=>r.2=0->dq m=true/\yK m.2.2.2.1 c=true/\ -m.2.2.2.1<=r.1/\r.1<=m.2.2.2.1) ?_;unfold abH;rw[show af.k tQ (m,c)=Xf (m,c) from XV];refine dN (λg=>aK λh=>absurd h g) λg=>?_;obtain⟨f,j⟩:=Ug g;have q:=wQ f;obtain⟨_,_,o,p⟩:=(Ax (by omega)).1 j;have e:Il af c=c.2.2 ++ [0]:=by
  unfold Il;rw[Xl];rfl
 rw[e];obtain⟨a1,a2,n⟩:=akh (l:=c.2.2 ++ [0]) (b:=m.2.2.2.1) (by omega) (by simp_all) λx u=>by grind
 refine ai ?_ (ai ?_ (ai a1 (aK λ_=>⟨f,j,n⟩)))
 ·simp[bl,aC,d_,fQ,sK]
  rw[dD (by omega)];omega
 ·rw[aC,d_,ru,bw];grind
structure ER(m:ax)(c:qk)(d:Int)(r:qk):Prop where
 ml:dq m=true
 ck:yK m.2.2.2.1 c=true
 ck':yK m.2.2.2.1 r=true
 dr:-m.2.2.2.2.1<=d/\d<=m.2.2.2.2.1
 sl:r.2.1=c.2.1+1
 st:(c.2.1+1)%m.1=0/\(c.1+m.2.1+d-m.2.2.2.1<=r.1/\r.1<=c.1+m.2.1+d+m.2.2.2.1)\/(c.2.1+1)%m.1≠0/\r.1=c.1+m.2.1+d
theorem akt{c:qk}{d:Int}:QC (m,c,d)=true/\((JQ (m,c,d)).2=0->ER m c d (JQ (m,c,d)).1):=by
 refine im (s:=Empty.elim) (t:=afq af m c d) (d:=_) (P:=λr=>r.2=0->ER m c d r.1) ?_;obtain⟨y,z⟩:=ajm (m:=m) (c:=c);refine ai y (dN (λg=>aK λh=>absurd h g) λg=>?_);obtain⟨l,n,E⟩:=z g;have G:=wQ l;obtain⟨A,B,C,D⟩:=(Ax (by omega)).1 n;rw[show af.u .neg .i64 m.2.2.2.2.1 = -m.2.2.2.2.1 from by show IntKind.i64.wrap (0-_)=_;rw[lC (by omega) (by omega)];omega];refine cJ (λ_=>aK λh=>absurd h (by omega)) λo=>pL (λ_=>aK λh=>absurd h (by omega)) λp=>ai (by rw[bZ];grind) ?_;have q:af.b .rem .i64 (af.cB c.2.1 1) m.1=(c.2.1+1)%m.1:=by
  rw[dD (by omega),Mm,iX (by omega)]
 have u:af.cB c.1 (af.cB m.2.1 d)=c.1+m.2.1+d:=by rw[dD (x:=m.2.1) (by omega),dD (by omega)];omega
 rw[q,u];refine dC (λj=>dO (λ_=>aK λh=>absurd h (by omega)) λf=>aK λ_=>?_) λj=>ai ?_ (dO (λ_=>aK λh=>absurd h (by omega)) λf=>aK λ_=>?_)
 ·have v:af.cB (c.1+m.2.1+d) (af.k wF (m,c)).1=c.1+m.2.1+d+(wF (m,c)).1:=dD (by show _<=_+(wF (m,c)).1/\_+(wF (m,c)).1<_;omega)
  rw[v,dD (x:=c.2.1) (by omega)] at f ⊢;exact⟨l,n,f,⟨o,p⟩,rfl,.inl ⟨j,by grind⟩⟩
 ·refine(im (s:=Empty.elim) (t:=afy af c.2.2 0) (d:=[]) (P:=λ_=>True) (ai ?_ (aK trivial))).1
  simp[bl,aC,bd,d_];rw[dD (by omega)];grind
 ·rw[dD (x:=c.2.1) (by omega)] at f ⊢
  exact⟨l,n,f,⟨o,p⟩,rfl,.inr ⟨j,rfl⟩⟩
variable{t:Int}
theorem ak9{c:qk}(l:c.2.2.length<=1000000):GX (m,c,t)=true/\((wE (m,c,t)).2=0->(wE (m,c,t)).1.1=c.1/\(wE (m,c,t)).1.2.1=c.2.1/\(c.2.2.length<=8->(wE (m,c,t)).1.2.2.length<=8)):=by
 refine im (s:=Empty.elim) (t:=abG af m c t) (d:=_) (P:=λr=>r.2=0->r.1.1=c.1/\r.1.2.1=c.2.1/\(c.2.2.length<=8->r.1.2.2.length<=8)) ?_;have e:MP af m c t=c.2.2 ++ [af.fF t (af.k Nt (m,c))]:=by
  unfold MP;rw[Xl];rfl
 unfold abG;rw[e];refine dN (λg=>aK λh=>absurd h g) λ_=>dC (λ_=>aK λh=>absurd h (by omega)) λf=>cJ (λ_=>aK λh=>absurd h (by omega)) λ_=>vE (λ_=>aK λh=>absurd h (by omega)) λ_=>ai ?_ (ai ?_ (aK λ_=>⟨rfl,rfl,λj=>?_⟩))
 ·simp[bl,aC,d_,fQ,sK]
  rw[dD (by omega)];omega
 ·rw[aC,d_,ru,bw];grind
 ·have f:c.2.2.length≠8:=λe=>f (by rw[d_,e];rfl)
  grind
theorem Ks{R:Type}{P:R->Prop}{t:LT R Empty}{d:R}(h:Go Empty.elim t P)(e:t.Eqs)(f:t.pre=true):P (t.val d):=by
 obtain⟨r,a,b⟩:=h;rw[<-a.one (LT.runs (d:=d) e f)];exact b
theorem Xd{p:Int}(h:(q9 (m,t,p)).2=0):dq m=true/\(0<=t/\t<=1099511627776)/\(0<=p/\p<m.1)/\q9 (m,t,p)=((t-(m.2.2.1+m.2.2.2.2.2.1),p, []),0)/\yK m.2.2.2.1 (t-(m.2.2.1+m.2.2.2.2.2.1),p, [])=true:=by
 revert h;refine Ks (t:=afx af m t p) (P:=λr=>r.2=0->dq m=true/\(0<=t/\t<=1099511627776)/\(0<=p/\p<m.1)/\r=((t-(m.2.2.1+m.2.2.2.2.2.1),p, []),0)/\yK m.2.2.2.1 (t-(m.2.2.1+m.2.2.2.2.2.1),p, [])=true) ?_ (LT.kF (by rfl)) (LT.bE (by rfl));have j:∀x:qk,yK m.2.2.2.1 (-1,p,uM)=false:=λ_=>by rfl
 unfold afx abF;refine dN (λg=>aK λh=>absurd h g) λg=>cJ (λ_=>aK λh=>absurd h (by omega)) λl=>vE (λ_=>aK λh=>absurd h (by omega)) λn=>?_;have f:=qC.1 g;have u:=wQ f;refine vE (λo=>Cu (λq=>?_) λ_=>?_) λ_=>?_
 ·have e:af.fF t (af.cB m.2.2.1 m.2.2.2.2.2.1)=t-(m.2.2.1+m.2.2.2.2.2.1):=by rw[dD (by omega),lN (by omega)]
  rw[e];exact dO (λ_=>aK λh=>absurd h (by omega)) λc=>aK λ_=>⟨f,⟨o,q⟩,⟨l,n⟩,rfl,c⟩
 ·exact dO (λ_=>aK λh=>absurd h (by omega)) λc=>absurd (c.symm.trans (j (0,0, []))) (by decide)
 ·exact dO (λ_=>aK λh=>absurd h (by omega)) λc=>absurd (c.symm.trans (j (0,0, []))) (by decide)
theorem Cx{l:List α}(h:l.length≠0):af.cr (af.l l) 0=true:=by
 rw[bZ,d_];simp_all
theorem Xr{s:ia}{n k i d:Int}(o:0<=d)(h:∀x∈s.2.2.2.2.2.1, -d<=x/\x<=d)(v:s.2.2.2.2.2.1.length<=1000000):LJ (s,n,k,i)=true/\ -d<=zd (s,n,k,i)/\zd (s,n,k,i)<=d:=by
 refine im (s:=Empty.elim) (t:=afr af s n k i) (d:=_) (P:=λr=> -d<=r/\r<=d) ?_;have z:-d<=(0:Int)/\(0:Int)<=d:=by omega
 refine dC (λ_=>aK z) λg=>cJ (λ_=>aK z) λm=>cJ (λ_=>aK z) λp=>cJ (λ_=>aK z) λq=>pL (λ_=>aK z) λc=>?_;have g:s.2.2.2.2.2.1.length≠0:=λe=>g (by rw[d_,e];rfl);have c:k<=1048576/\i<=1048576/\n<=1048576:=by
  rw[v_,v_] at c;split at c<;>split at c<;>omega
 have u:0<=k*n/\k*n<=1048576*1048576:=⟨eO m (by omega),dn (cy c.1 (by omega)) (eH c.2.2 (by decide))⟩;have e:af.b .rem .i64 (af.cB (af.b .mul .i64 k n) i) (af.l s.2.2.2.2.2.1)=(k*n+i)%(s.2.2.2.2.2.1.length:Int):=by
  rw[jb,lC (by omega) (by omega),dD (by omega),Mm,d_,iX (by omega)]
 have j:=jU (k*n+i) (b:=(s.2.2.2.2.2.1.length:Int)) (by omega);have l:=mH (k*n+i) (b:=(s.2.2.2.2.2.1.length:Int)) (by omega);have f:∀X,X=(k*n+i)%(s.2.2.2.2.2.1.length:Int)->Go Empty.elim (.ap (af.cr (af.l s.2.2.2.2.2.1) 0) (.ap (af.and (af.bU 0 X) (af.bD X (af.l s.2.2.2.2.2.1))) (.ret (af.n yI s.2.2.2.2.2.1 X:Int)))) λr:Int=> -d<=r/\r<=d:=λX e=>by
  subst e;exact ai (Cx g) (ai (bW ⟨j,l⟩) (aK (Vy.of o h _)))
 exact f _ e
def dS:cm:=Ty.gD bO
def aD(x:Net)(i:Nat):cm:=x.2.2.2.2.2.2.1.getD i dS
def api(x:Net)(e:Int)(h:List jc):Net:=(x.1,x.2.1,x.2.2.1,x.2.2.2.1,e,(x.2.2.2.2.2.1.1,h,x.2.2.2.2.2.1.2.2),x.2.2.2.2.2.2)
def cu(x:Net)(l:List cm):Net:=(x.1,x.2.1,x.2.2.1,x.2.2.2.1,x.2.2.2.2.1,x.2.2.2.2.2.1,l,x.2.2.2.2.2.2.2)
variable{x y:Net}
theorem u9:VF.lens [fN] x=VF.lens [fN] y↔x.2.2.2.2.2.2.1.length=y.2.2.2.2.2.2.1.length:=by
 show[x.2.2.2.2.2.2.1.length]=[y.2.2.2.2.2.2.1.length]↔_;simp
theorem jP{R:Type}{s:Y->LT (Net×R) Y}{t:LT (Net×R) Y}{d:Net×R}{P:Net×R->Prop}(h:Go s t P)(g:∀r,P r->r.1.2.2.2.2.2.2.1.length=x.2.2.2.2.2.2.1.length):(iq s t&&decide (VF.lens [fN] (gS s t d).1=VF.lens [fN] x))=true/\P (gS s t d):=by
 obtain⟨f,c⟩:=im (d:=d) h;rw[f,da (u9.2 (g _ c))];exact⟨rfl,c⟩
theorem z7(h:q.1=true):rD (q,())=true/\gB (q,())=(q,q.2.2):=
 im (s:=Empty.elim) (t:=afn af q) (d:=_) (P:=λr=>r=(q,q.2.2)) (dO (λk=>absurd (h.symm.trans k) (by decide)) λ_=>aK rfl)
theorem aea(h:q.1=true):Qs (q,())=true/\NG (q,())=(q,(q.2.1.length:Int)):=
 im (s:=Empty.elim) (t:=afm af q) (d:=_) (P:=λr=>r=(q,(q.2.1.length:Int))) (dO (λk=>absurd (h.symm.trans k) (by decide)) λ_=>aK rfl)
structure yH(x:Net):Prop where
 made:x.2.2.2.2.2.1.1=true
 len:x.2.2.2.2.2.1.2.1.length<=16384
 heap:Ku x.2.2.2.2.2.1.2.1
def vh(x:Net)(t:Int):Int:=if x.2.2.2.2.2.1.2.2 > t then x.2.2.2.2.2.1.2.2 else t
def r8(x:Net)(e:jc)(g:Net):Prop:=∃f c,g=api x f c/\c.length<=16384/\Ku c/\((f=x.2.2.2.2.1/\e.1<=x.2.2.2.2.1/\c.Perm (e::x.2.2.2.2.2.1.2.1))\/(c=x.2.2.2.2.2.1.2.1/\f<=x.2.2.2.2.1/\f<=e.1))
theorem Tg{k nd n:Int}(h:yH x):qG (x,t,k,nd,n)=true/\r8 x (vh x t,k,nd,n) (tX (x,t,k,nd,n)).1:=by
 refine jP (s:=Empty.elim) (t:=abw af x t k nd n) (P:=λr=>r8 x (vh x t,k,nd,n) r.1) ?_ λr ⟨y,z,o,_⟩=>by rw[o];rfl
 obtain⟨j,v⟩:=z7 h.made;unfold abw;have f:af.k gB (x.2.2.2.2.2.1,())=(x.2.2.2.2.2.1,x.2.2.2.2.2.1.2.2):=v;have l:af.mx t x.2.2.2.2.2.1.2.2=vh x t:=rfl;rw[f,l];refine ai j (Cu (λg=>?_) λg=>aK ?_)
 ·have m:xR af x t k nd n=(x.2.2.2.2.2.1,(vh x t,k,nd,n)):=by
   unfold xR
   simp_all
  rw[m];obtain⟨p1,p2⟩:=aex (e:=(vh x t,k,nd,n)) h.made h.len h.heap;refine ai p1 (dN (λc=>?_) λc=>aK ?_)
  ·rcases p2 with ⟨_,p2⟩|⟨p2,_⟩
   ·rw[show(af.k wD (x.2.2.2.2.2.1,vh x t,k,nd,n)).1=x.2.2.2.2.2.1 from p2,f]
    refine ai j (aK ⟨af.mn x.2.2.2.2.1 x.2.2.2.2.2.1.2.2,x.2.2.2.2.2.1.2.1,rfl,h.len,h.heap,.inr ⟨rfl,?_,?_⟩⟩)
    ·rw[oR];omega
    ·show af.mn x.2.2.2.2.1 x.2.2.2.2.2.1.2.2<=vh x t
     rw[oR,vh];omega
   ·exact absurd p2 c
  ·rcases p2 with ⟨p2,_⟩|⟨_,p3,p,p4,p5,q,u⟩
   ·exact absurd c p2
   ·exact⟨x.2.2.2.2.1,p,by show(x.1,x.2.1,x.2.2.1,x.2.2.2.1,x.2.2.2.2.1,(wD (x.2.2.2.2.2.1,vh x t,k,nd,n)).1,x.2.2.2.2.2.2)=_;rw[p4];rfl,q,u,.inl ⟨rfl,g,p5⟩⟩
 ·exact⟨x.2.2.2.2.1,x.2.2.2.2.2.1.2.1,rfl,h.len,h.heap,.inr ⟨rfl,aj _,Int.le_of_lt g⟩⟩
theorem N8(h:x.2.2.2.2.2.2.1.length≠0):af.cr (af.l x.2.2.2.2.2.2.1) 0=true:=Cx h
theorem CO{k:Int}(h:yH x)(o:i<x.2.2.2.2.2.2.1.length)(f:k≠3):vO (x,t,k,(i:Int))=true/\r8 x (vh x t,k,(i:Int),(aD x i).2.2.2.2.1) (tW (x,t,k,(i:Int))).1:=by
 refine jP (s:=Empty.elim) (t:=abm af x t k (i:Int)) (P:=λr=>r8 x (vh x t,k,(i:Int),(aD x i).2.2.2.2.1) r.1) ?_ λr ⟨j,m,c,_⟩=>by rw[c];rfl
 unfold abm;obtain⟨p1,p2⟩:=Tg (t:=t) (k:=k) (nd:=(i:Int)) (n:=(aD x i).2.2.2.2.1) h;have en:(af.n bO x.2.2.2.2.2.2.1 (i:Int):cm)=aD x i:=by rfl
 refine dN (λ_=>cJ (λ_=>ai (bW (l:=x.2.2.2.2.2.2.1) (by omega)) ?_) λg=>absurd g (by show ¬(x.2.2.2.2.2.2.1.length:Int)<=(i:Int);omega)) λg=>absurd g f;exact ai p1 (ai (N8 (by omega)) (aK p2))
def bq(l:List cm)(i:Nat)(f:cm->cm):List cm:=l.set i (f (l.getD i dS))
variable{f:cm->cm}
theorem bJ{l:List cm}:(bq l i f).length=l.length:=cO ..
theorem ug{l:List cm}(c:i<l.length):(bq l i f).getD i dS=f (l.getD i dS):=by
 rw[bq,yb,List.getElem?_set_self c];rfl
theorem aee{l:List cm}(h:j≠i):(bq l i f).getD j dS=l.getD j dS:=by
 rw[bq,yb,List.getElem?_set_ne (g_ h),<-yb]
theorem pN{l:List cm}(h:i<l.length):af.cr (af.l (bq l i f)) 0=true:=Cx (by rw[bJ];omega)
theorem jR{l:List cm}:md af bO l (i:Int) f=bq l i f:=by rfl
theorem mod_mod{l:List cm}{g:cm->cm}(c:i<l.length):bq (bq l i f) i g=bq l i λy=>g (f y):=by
 unfold bq
 simp_all
theorem qQ:(af.n bO x.2.2.2.2.2.2.1 (i:Int):cm)=aD x i:=by rfl
theorem Bn{l:List cm}(c:i<l.length):(af.n bO (bq l i f) (i:Int):cm)=f (l.getD i dS):=by
 show(bq l i f).getD (i:Int).toNat _=_;rw[rO];exact ug c
theorem BA{l:List cm}{v:cm}:af.set l (i:Int) v=bq l i λ_=>v:=by rfl
def ovT(m:ax)(t:Int):Int:=t+(m.2.2.1+iZ m+m.2.2.2.2.2.1+2*m.2.2.2.1)+2
theorem ovI{s g l w:Int}(m:0<=s/\s<=2199023255552)(f:0<=g/\g<=1048576)(c:0<=a/\a<=2062)(j:0<=l/\l<=64)(n:0<=w/\w<=1048576):af.cB (af.cB s (af.cB (af.cB (af.cB g a) l) (af.b .mul .i64 2 w))) 2=s+(g+a+l+2*w)+2:=by
 rw[jb,lC (a:=2*w) (by omega) (by omega),dD (x:=g) (y:=a) (by omega),dD (x:=g+a) (y:=l) (by omega),dD (x:=g+a+l) (y:=2*w) (by omega),dD (x:=s) (by omega),dD (by omega)]
theorem EB(h:yH x)(f:i<x.2.2.2.2.2.2.1.length)(g:dq x.2.1=true)(j:0<=(aD x i).2.1.1/\(aD x i).2.1.1<=2199023255552):CL (x,(i:Int))=true/\r8 x (vh x (ovT x.2.1 (aD x i).2.1.1),1,(i:Int),(aD x i).2.2.2.2.1) (F6 (x,(i:Int))).1:=by
 refine jP (s:=Empty.elim) (t:=abz af x (i:Int)) (P:=λr=>r8 x (vh x (ovT x.2.1 (aD x i).2.1.1),1,(i:Int),(aD x i).2.2.2.2.1) r.1) ?_ λr ⟨o,p,c,_⟩=>by rw[c];rfl
 have q:=wQ g;have n:=vf (m:=x.2.1);have e:MG af x (i:Int)=(x,ovT x.2.1 (aD x i).2.1.1,1,(i:Int)):=by
  unfold MG;rw[qQ,show af.k Nv x.2.1=iZ x.2.1 from rfl,ovI j (by omega) n (by omega) (by omega)];rfl
 unfold abz;rw[e];obtain⟨p1,p2⟩:=CO (t:=ovT x.2.1 (aD x i).2.1.1) (k:=1) h f (by decide);exact ai (bW (l:=x.2.2.2.2.2.2.1) (by omega)) (ai p1 (ai (N8 (by omega)) (aK p2)))
def rc(w:Int)(y:cm):cm:=(y.1,y.2.1,y.2.2.1,w,y.2.2.2.2.1+1,y.2.2.2.2.2)
def Lst(x:Net)(i:Nat)(c:Net):Prop:=r8 (cu x (bq x.2.2.2.2.2.2.1 i (rc x.2.2.2.2.2.1.2.2))) (x.2.2.2.2.2.1.2.2+x.2.1.2.1,2,(i:Int),(aD x i).2.2.2.2.1+1) c
theorem Gn(h:yH x)(j:i<x.2.2.2.2.2.2.1.length)(z:dq x.2.1=true)(G:0<=(aD x i).2.2.2.2.1/\(aD x i).2.2.2.2.1<=1000000000000)(H:0<=x.2.2.2.2.2.1.2.2/\x.2.2.2.2.2.1.2.2<=2199023255552):LM (x,(i:Int))=true/\Lst x i (JV (x,(i:Int))).1:=by
 refine jP (s:=Empty.elim) (t:=abI af x (i:Int)) (P:=λr=>Lst x i r.1) ?_ λr ⟨B,C,v,_⟩=>by rw[v];exact bJ (f:=rc x.2.2.2.2.2.1.2.2)
 have D:=wQ z;obtain⟨n,o⟩:=z7 h.made;have c:af.k gB (x.2.2.2.2.2.1,())=(x.2.2.2.2.2.1,x.2.2.2.2.2.1.2.2):=o;have g:MQ af x (i:Int)=bq x.2.2.2.2.2.2.1 i λy=>TU y (af.cB y.2.2.2.2.1 1):=by rfl
 have m:md af bO (MQ af x (i:Int)) (i:Int) (λg:cm=>up3 g (af.k gB (x.2.2.2.2.2.1,())).2)=bq x.2.2.2.2.2.2.1 i (rc x.2.2.2.2.2.1.2.2):=by
  rw[c,g];refine jR.trans ((mod_mod j).trans ?_);unfold bq;congr 1;show up3 (TU (aD x i) (af.cB (aD x i).2.2.2.2.1 1)) x.2.2.2.2.2.1.2.2=rc x.2.2.2.2.2.1.2.2 (aD x i);rw[dD (by omega)];rfl
 have p:MR af x (i:Int)=(cu x (bq x.2.2.2.2.2.2.1 i (rc x.2.2.2.2.2.1.2.2)),x.2.2.2.2.2.1.2.2+x.2.1.2.1,2,(i:Int)):=by
  unfold MR;rw[m,c,show af.k gB (((x.2.2.2.2.2.1,x.2.2.2.2.2.1.2.2):qU×Int).1,())=(x.2.2.2.2.2.1,x.2.2.2.2.2.1.2.2) from o,dD (by omega)];rfl
 have A:yH (cu x (bq x.2.2.2.2.2.2.1 i (rc x.2.2.2.2.2.1.2.2))):=⟨h.made,h.len,h.heap⟩;have E:(bq x.2.2.2.2.2.2.1 i (rc x.2.2.2.2.2.1.2.2)).length=x.2.2.2.2.2.2.1.length:=bJ;obtain⟨p1,p2⟩:=CO (x:=cu x (bq x.2.2.2.2.2.2.1 i (rc x.2.2.2.2.2.1.2.2))) (t:=x.2.2.2.2.2.1.2.2+x.2.1.2.1) (k:=2) (i:=i) A (by show i<(bq _ _ _).length;omega) (by decide);unfold abI;rw[m,p];refine ai (bW (l:=x.2.2.2.2.2.2.1) (by omega)) (ai n (ai (by rw[c];exact n) (ai p1 (ai (pN j) (aK ?_)))));have q:(aD (cu x (bq x.2.2.2.2.2.2.1 i (rc x.2.2.2.2.2.1.2.2))) i).2.2.2.2.1=(aD x i).2.2.2.2.1+1:=by
  show((bq x.2.2.2.2.2.2.1 i (rc x.2.2.2.2.2.1.2.2)).getD i dS).2.2.2.2.1=_;rw[ug j];rfl
 have u:vh (cu x (bq x.2.2.2.2.2.2.1 i (rc x.2.2.2.2.2.1.2.2))) (x.2.2.2.2.2.1.2.2+x.2.1.2.1)=x.2.2.2.2.2.1.2.2+x.2.1.2.1:=by
  exact if_neg (by show ¬x.2.2.2.2.2.1.2.2 > _;omega)
 rw[q,u] at p2;exact p2
def oK(n:Node)(y:cm):cm:=(n,y.2.1,y.2.2.1,y.2.2.2.1,y.2.2.2.2.1+1,false,false,false)
def Pwr(x:Net)(i:Nat)(on:Bool)(c:Net):Prop:=
 ((jv x.2.1 (aD x i).1 on).2≠0/\c=x)\/((jv x.2.1 (aD x i).1 on).2=0/\(on=false/\c=cu x (bq x.2.2.2.2.2.2.1 i (oK (jv x.2.1 (aD x i).1 on).1))\/on=true/\Lst (cu x (bq x.2.2.2.2.2.2.1 i (oK (jv x.2.1 (aD x i).1 on).1))) i c))
theorem Lst.len{c:Net}(h:Lst x i c):(c.2.2.2.2.2.2.1).length=x.2.2.2.2.2.2.1.length:=by
 obtain⟨j,l,g,_⟩:=h;rw[g];exact bJ (f:=rc x.2.2.2.2.2.1.2.2)
theorem GK{on:Bool}(h:yH x)(c:i<x.2.2.2.2.2.2.1.length)(u:dq x.2.1=true)(A:0<=(aD x i).2.2.2.2.1/\(aD x i).2.2.2.2.1<=900000000000)(z:0<=x.2.2.2.2.2.1.2.2/\x.2.2.2.2.2.1.2.2<=2199023255552):uH (x,(i:Int),on)=true/\Pwr x i on (xf (x,(i:Int),on)).1:=by
 refine jP (s:=Empty.elim) (t:=abA af x (i:Int) on) (P:=λr=>Pwr x i on r.1) ?_ λr y=>?_
 ·have p:af.k R3 (x.2.1,(af.n bO x.2.2.2.2.2.2.1 (i:Int):cm).1,on)=jv x.2.1 (aD x i).1 on:=by rfl
  have f:De af x (i:Int) on=bq x.2.2.2.2.2.2.1 i (oK (jv x.2.1 (aD x i).1 on).1):=by
   unfold De ab7 ab6 ab5 ab4;refine(congrArg (λl=>md af bO l (i:Int) (λo:cm=>lp7 o false)) ((congrArg (λl=>md af bO l (i:Int) (λf:cm=>rv f false)) ((congrArg (λl=>md af bO l (i:Int) (λn:cm=>wu n false)) ((congrArg (λl=>md af bO l (i:Int) (λm:cm=>TU m (af.cB m.2.2.2.2.1 1))) (BA (l:=x.2.2.2.2.2.2.1) (i:=i) (v:=((jv x.2.1 (aD x i).1 on).1,(aD x i).2)))).trans (jR.trans (mod_mod c)))).trans (jR.trans (mod_mod c)))).trans (jR.trans (mod_mod c)))).trans (jR.trans ((mod_mod c).trans ?_));unfold bq;congr 1;show lp7 (rv (wu (TU ((jv x.2.1 (aD x i).1 on).1,(aD x i).2) (af.cB (aD x i).2.2.2.2.1 1)) false) false) false=oK _ (aD x i);rw[dD (by omega)];rfl
  unfold abA;rw[f,p];refine ai (bW (l:=x.2.2.2.2.2.2.1) (by omega)) (dN (λg=>aK (.inl ⟨g,rfl⟩)) λg=>fM (λj=>?_) λj=>aK (.inr ⟨g,.inl ⟨j,rfl⟩⟩));have q:(aD (cu x (bq x.2.2.2.2.2.2.1 i (oK (jv x.2.1 (aD x i).1 on).1))) i)=oK (jv x.2.1 (aD x i).1 on).1 (aD x i):=ug c;obtain⟨p1,p2⟩:=Gn (x:=cu x (bq x.2.2.2.2.2.2.1 i (oK (jv x.2.1 (aD x i).1 on).1))) (i:=i) ⟨h.made,h.len,h.heap⟩ (by show i<(bq _ _ _).length;rw[bJ];omega) u (by rw[q];show 0<=(aD x i).2.2.2.2.1+1/\(aD x i).2.2.2.2.1+1<=_;omega) z;exact ai p1 (ai (pN c) (aK (.inr ⟨g,.inr ⟨j,p2⟩⟩)))
 ·rcases y with ⟨_,e⟩|⟨_,⟨_,e⟩|⟨_,e⟩⟩
  ·rw[e]
  ·rw[e];exact bJ
  ·rw[e.len];exact bJ
def jnY(n:Node)(c:qk)(y:cm):cm:=(n,c,y.2.2.1,y.2.2.2.1,y.2.2.2.2.1+1,true,false,y.2.2.2.2.2.2.2)
def Jns(x:Net)(i:Nat)(n:Node)(t:Int)(c:Net):Prop:=
 c=x\/((q9 (x.2.1,t,n.2.2.1.2.1)).2=0/\r8 (cu x (bq x.2.2.2.2.2.2.1 i (jnY n (q9 (x.2.1,t,n.2.2.1.2.1)).1))) (vh x (ovT x.2.1 (q9 (x.2.1,t,n.2.2.1.2.1)).1.1),1,(i:Int),(aD x i).2.2.2.2.1+1) c)
theorem YU{n:Node}(h:yH x)(c:i<x.2.2.2.2.2.2.1.length)(I:0<=(aD x i).2.2.2.2.1/\(aD x i).2.2.2.2.1<=900000000000):QA (x,(i:Int),n,t)=true/\Jns x i n t (Sr (x,(i:Int),n,t)).1:=by
 refine jP (s:=Empty.elim) (t:=abx af x (i:Int) n t) (P:=λr=>Jns x i n t r.1) ?_ λr z=>?_
 ·have j:md af bO (Mz af x (i:Int) n t) (i:Int) (λm:cm=>rv m false)=bq x.2.2.2.2.2.2.1 i (jnY n (q9 (x.2.1,t,n.2.2.1.2.1)).1):=by
   refine(congrArg (λl=>md af bO l (i:Int) (λm:cm=>rv m false)) ((congrArg (λl=>md af bO l (i:Int) (λj:cm=>wu j true)) ((congrArg (λl=>md af bO l (i:Int) (λo:cm=>TU o (af.cB o.2.2.2.2.1 1))) ((congrArg (λl=>md af bO l (i:Int) (λv:cm=>zt v (af.k q9 (x.2.1,t,n.2.2.1.2.1)).1)) (jR (l:=x.2.2.2.2.2.2.1) (f:=λu:cm=>up0 u n))).trans (jR.trans (mod_mod c)))).trans (jR.trans (mod_mod c)))).trans (jR.trans (mod_mod c)))).trans (jR.trans ((mod_mod c).trans ?_));unfold bq;congr 1;show rv (wu (TU (zt (up0 (aD x i) n) (q9 (x.2.1,t,n.2.2.1.2.1)).1) (af.cB (aD x i).2.2.2.2.1 1)) true) false=jnY n _ (aD x i);rw[dD (by omega)];rfl
  unfold abx;rw[j];refine ai (bW (l:=x.2.2.2.2.2.2.1) (by omega)) (dN (λ_=>aK (.inl rfl)) λg=>dO (λ_=>aK (.inl rfl)) λ_=>?_);obtain⟨q,_,_,A,B⟩:=Xd g;have G:=wQ q;have H:=((Ax (by omega)).1 B).1;have p:(aD (cu x (bq x.2.2.2.2.2.2.1 i (jnY n (q9 (x.2.1,t,n.2.2.1.2.1)).1))) i)=jnY n (q9 (x.2.1,t,n.2.2.1.2.1)).1 (aD x i):=ug c;have D:(q9 (x.2.1,t,n.2.2.1.2.1)).1.1=t-(x.2.1.2.2.1+x.2.1.2.2.2.2.2.1):=by rw[A]
  obtain⟨p1,p2⟩:=EB (x:=cu x (bq x.2.2.2.2.2.2.1 i (jnY n (q9 (x.2.1,t,n.2.2.1.2.1)).1))) (i:=i) ⟨h.made,h.len,h.heap⟩ (by show i<(bq _ _ _).length;rw[bJ];omega) q (by rw[p];show 0<=(q9 (x.2.1,t,n.2.2.1.2.1)).1.1/\(q9 (x.2.1,t,n.2.2.1.2.1)).1.1<=_;omega);rw[p] at p2;exact ai p1 (ai (pN c) (aK (.inr ⟨g,p2⟩)))
 ·rcases z with e|⟨_,C,E,y,_⟩
  ·rw[e]
  ·rw[y];exact bJ
theorem goes_go{p:Ky}{l:List fO}{k n:Int}(q:p.a0=l)(y:p.a1=(l.length:Int))(z:p.O3=k)(B:p.a21=n)(A:l.length<=1000000):∀(f i:Nat),l.length-i<=f->Go (Ek af) (Ek af (.c0 p (i:Int))) λr=>r.2=true->r.1∈l/\r.1.1=k/\r.1.2.1=n:=by
 intro f
 induction f with
 | zero=>intro i u;exact cJ (λg=>absurd g (by omega)) λ_=>aK nofun
 | succ f ih=>
   intro i u;refine cJ (λg=>?_) λ_=>aK nofun
   have g:i<l.length:=by omega
   have c:Go (Ek af) (.ao (.c0 p (af.cB (i:Int) 1))) λr=>r.2=true->r.1∈l/\r.1.1=k/\r.1.2.1=n:=by
    rw[dD (by omega),show(i:Int)+1=((i+1:Nat):Int) from by omega];exact aY (ih (i+1) (by omega))
   have v:qd af p (i:Int)=l[i]:=by
    unfold qd;rw[q];exact fL g _
   have j:(qd af p (i:Int)).1=p.O3->(qd af p (i:Int)).2.1=p.a21->Go (Ek af) (.ret (qd af p (i:Int),true)) λr=>r.2=true->r.1∈l/\r.1.1=k/\r.1.2.1=n:=λm o=>aK λ_=>⟨by simp_all,by simp_all,by simp_all⟩;refine ai (by rw[q];exact bW (l:=l) (by omega)) (dC (λ_=>dC (λ_=>dC (λm=>dC (λo=>j m o) λ_=>c) λ_=>c) λ_=>dO (λ_=>dC (λm=>dC (λo=>j m o) λ_=>c) λ_=>c) λ_=>c) λ_=>c)
variable{v:(Bool×ax×ia×Unit)×(Int×Int×fB)}
theorem vD(f:v.1.2.2.1.2.2.2.2.2.2.2.length<=1000000):ji v=true/\((gU v).2=true->(gU v).1∈v.1.2.2.1.2.2.2.2.2.2.2/\(gU v).1.1=v.2.1/\(gU v).1.2.1=v.2.2.1):=by
 obtain⟨⟨j,m,g,⟨⟩⟩,k,n,c⟩:=v;have f:g.2.2.2.2.2.2.2.length<=1000000:=f;exact im (s:=Ek af) (t:=abB af j m g k n c) (d:=_) (ai (da (by omega)) (aY (goes_go (l:=g.2.2.2.2.2.2.2) rfl rfl rfl rfl f _ 0 (ah _))))
theorem aec{p:WB}{l:List fO}(j:p.a0=l)(n:p.a1=(l.length:Int))(o:l.length<=1000000):∀(f i:Nat),l.length-i<=f->Go (QT af) (QT af (.c0 p (i:Int))) λ_=>True:=by
 intro f
 induction f with
 | zero=>intro i m;exact cJ (λg=>absurd g (by omega)) λ_=>aK trivial
 | succ f ih=>
   intro i m;refine cJ (λg=>?_) λ_=>aK trivial;have c:Go (QT af) (.ao (.c0 p (af.cB (i:Int) 1))) λ_=>True:=by
    rw[dD (by omega),show(i:Int)+1=((i+1:Nat):Int) from by omega];exact aY (ih (i+1) (by omega))
   exact ai (by rw[j];exact bW (l:=l) (by omega)) (dC (λ_=>dC (λ_=>dC (λ_=>dC (λ_=>aK trivial) λ_=>c) λ_=>c) λ_=>dO (λ_=>dC (λ_=>dC (λ_=>aK trivial) λ_=>c) λ_=>c) λ_=>c) λ_=>c)
theorem SO{v:(Bool×ax×ia×Unit)×(Int×fB)}(f:v.1.2.2.1.2.2.2.2.2.2.2.length<=1000000):LL v=true:=by
 obtain⟨⟨j,m,g,⟨⟩⟩,k,c⟩:=v;have f:g.2.2.2.2.2.2.2.length<=1000000:=f;exact(im (s:=QT af) (t:=afz af j m g k c) (d:=false) (ai (da (by omega)) (aY (aec (l:=g.2.2.2.2.2.2.2) rfl rfl f _ 0 (ah _))))).1
def VH(l:List gm)(w:Span)(r:List gm×Seen):Prop:=r.1=l/\(r.2.1=2->w.1<=r.2.2.1/\r.2.2.1<w.2)
variable{s:gm}
theorem Xe{a b:Span}(h:Yj (s,a,b)=true):b.1<=s.2.1.1/\s.2.1.1<b.2:=by
 revert h;refine Ks (t:=amA af s a b) (P:=λr=>r=true->b.1<=s.2.1.1/\s.2.1.1<b.2) ?_ (LT.kF (by rfl)) (LT.bE (by rfl));exact fM (λ_=>fM (λ_=>dC (λ_=>vE (λg=>aK λh=>⟨g,of_decide_eq_true h⟩) λ_=>aK nofun) λ_=>aK nofun) λ_=>aK nofun) λ_=>aK nofun
theorem YV{p:WA}{l:List gm}{w:Span}(c:p.a2=l)(B:p.a0=(l.length:Int))(y:(p.a16,p.a17)=w)(D:l.length<=1000000):∀(f i:Nat) (n t:Int),l.length-i<=f->i<=l.length->0<=n/\n<=i->0<=t->(n=0\/t<l.length)->Go (Jg af) (Jg af (.c0 p (i:Int) n t)) (VH l w):=by
 have q:∀(i n t:Int),¬i<p.a0->0<=t->(n=0\/t<l.length)->Go (Jg af) (Jg af (.c0 p i n t)) (VH l w):=by
  intro i n t m j v;refine cJ (λg=>absurd g m) λ_=>dC (λ_=>aK ⟨c,nofun⟩) λz=>dC (λA=>ai (by rw[c];exact bW (l:=l) (by omega)) (fM (λg=>aK ⟨c,λ_=>?_⟩) λ_=>aK ⟨c,nofun⟩)) λ_=>aK ⟨c,nofun⟩;have:=Xe g;rw[<-y];omega
 intro f
 induction f with
 | zero=>grind
 | succ f ih=>
   intro i n t C m v j u;by_cases g:i<l.length
   ·refine cJ (λ_=>?_) λr=>absurd r (by omega)
    have o:Go (Jg af) (.ao (.c0 p (af.cB (i:Int) 1) n t)) (VH l w):=by
     rw[dD (by omega),show(i:Int)+1=((i+1:Nat):Int) from by omega];exact aY (ih (i+1) n t (by omega) (by omega) (by omega) j u)
    refine ai (by rw[c];exact bW (l:=l) (by omega)) (fM (λ_=>fM (λ_=>?_) λ_=>o) λ_=>o);rw[dD (x:=n) (by omega),dD (x:=(i:Int)) (by omega),show(i:Int)+1=((i+1:Nat):Int) from by omega];exact dC (λ_=>aY (ih (i+1) (n+1) i (by omega) (by omega) (by omega) (by omega) (.inr (by omega)))) λe=>aY (ih (i+1) (n+1) t (by omega) (by omega) (by omega) j (.inr (by omega)))
   simp_all
theorem A_{l:List gm}{a w:Span}{th:Int}(f:l.length<=1000000):CM (l,a,w,th)=true/\VH l w (mP (l,a,w,th)):=by
 obtain⟨g,c⟩:=im (s:=Jg af) (t:=abE af l a w th) (d:=([],Ty.aR [qe])) (P:=VH l w) (aY (YV rfl rfl rfl f _ 0 0 0 (ah _) (aX _) (by omega) (by omega) (.inl rfl)));have e:(mP (l,a,w,th)).1=l:=c.1;refine⟨?_,c⟩;show(iq (Jg af) (abE af l a w th)&&decide ((mP (l,a,w,th)).1.length=l.length))=true
 simp_all
def rU(x:Net)(a b:List gm)(s:List sH):Net:=(x.1,x.2.1,x.2.2.1,x.2.2.2.1,x.2.2.2.2.1,x.2.2.2.2.2.1,x.2.2.2.2.2.2.1,a,b,s,x.2.2.2.2.2.2.2.2.2.2)
variable{c:fB}
theorem uZ(y:i<x.2.2.2.2.2.2.1.length)(u:x.2.2.1.2.2.2.2.2.2.2.length<=1000000)(v:x.2.2.2.2.2.2.1.length<=x.2.2.1.2.2.2.2.1.length):mG (x,(i:Int),c,s)=true/\(jN (x,(i:Int),c,s)).1=x:=by
 refine jP (s:=Ox af) (t:=afC af x (i:Int) c s) (P:=λr=>r.1=x) (aY ?_) λr h=>by rw[h]
 have j:∀{p:Pe},p.a6=(i:Int)->p.a3=x->Go (Ox af) (.ap (af.and (af.bU 0 p.a6) (af.bD p.a6 (af.l p.a3.2.2.2.2.2.2.1))) (.ap (af.and (af.bU 0 p.a6) (af.bD p.a6 (af.l p.a3.2.2.1.2.2.2.2.1))) (.br (af.cr (Df af p).2 0) (.ret (p.a3,(0,(0,0),0,0,([]:List Int)),false)) (.ret (p.a3,af.k Sw ((Df af p).1,p.a8)))))) λr=>r.1=x:=λn o=>by
  rw[n,o];exact ai (bW (l:=x.2.2.2.2.2.2.1) (by omega)) (ai (bW (l:=x.2.2.1.2.2.2.2.1) (by omega)) (fM (λ_=>aK rfl) λ_=>aK rfl))
 have:∀(f k:Nat),x.2.2.1.2.2.2.2.2.2.2.length-k<=f->Go (Ox af) (Ox af (.c0 ⟨x.2.2.1.2.2.2.2.2.2.2,af.l x.2.2.1.2.2.2.2.2.2.2,x,c.1,(i:Int),c,s⟩ (k:Int))) λr=>r.1=x:=by
  intro f
  induction f with
  | zero=>intro k q;exact cJ (λg=>absurd g (by show ¬(k:Int)<(x.2.2.1.2.2.2.2.2.2.2.length:Int);omega)) λ_=>j rfl rfl
  | succ f ih=>
    intro k q;refine cJ (λg=>?_) λ_=>j rfl rfl;have g:k<x.2.2.1.2.2.2.2.2.2.2.length:=by have g:(k:Int)<(x.2.2.1.2.2.2.2.2.2.2.length:Int):=g;omega
    have m:Go (Ox af) (.ao (.c0 ⟨x.2.2.1.2.2.2.2.2.2.2,af.l x.2.2.1.2.2.2.2.2.2.2,x,c.1,(i:Int),c,s⟩ (af.cB (k:Int) 1))) λr=>r.1=x:=by
     rw[dD (by omega),show(k:Int)+1=((k+1:Nat):Int) from by omega];exact aY (ih (k+1) (by omega))
    refine ai (bW (l:=x.2.2.1.2.2.2.2.2.2.2) (by omega)) (dC (λ_=>Cu (λ_=>dC (λ_=>vE (λ_=>aK rfl) λ_=>j rfl rfl) λ_=>m) λ_=>m) λ_=>m)
 exact this _ 0 (ah _)
theorem OJ{l:List α}{v:α}(h:i<=l.length)(c:l.length<=1000000):(af.spl l (i:Int) (af.r (af.fF (af.l l) (i:Int)) v)).length=l.length:=by
 rw[d_,lN (by omega),yv,oB];simp only[ru,c_,IZ,cN];omega
theorem ajG(A:x.2.2.2.2.2.1.1=true)(D:n<=1000000):∀(f i j:Nat) (l:List gm),n-j<=f->i<=j->j<=n->l.length=n->Go (zl af) (zl af (.c1 (i:Int) (j:Int) (rU x l x.2.2.2.2.2.2.2.2.1 x.2.2.2.2.2.2.2.2.2.1))) λr=>∃a:List gm,a.length<=n/\r.1=rU x a x.2.2.2.2.2.2.2.2.1 x.2.2.2.2.2.2.2.2.2.1:=by
 have m:∀(i j:Nat) (l:List gm),¬j<n->i<=j->j<=n->l.length=n->Go (zl af) (zl af (.c1 (i:Int) (j:Int) (rU x l x.2.2.2.2.2.2.2.2.1 x.2.2.2.2.2.2.2.2.2.1))) λr=>∃a:List gm,a.length<=n/\r.1=rU x a x.2.2.2.2.2.2.2.2.1 x.2.2.2.2.2.2.2.2.2.1:=by
  intro i j l p o z c;have u:(af.spl l (i:Int) (af.r (af.fF (af.l l) (i:Int)) (Ty.gD jG:gm))).length=n:=(OJ (by omega) (by omega)).trans c;refine cJ (λg=>absurd g (by show ¬(j:Int)<(l.length:Int);omega)) λ_=>ai ?_ (ai ?_ (aK ⟨_,?_,rfl⟩))
  ·simp only[bl,aC,fQ,sK]
   exact⟨by omega,by show(i:Int)<=(l.length:Int);omega,aj _⟩
  ·simp only[bl,aC,fQ,sK]
   exact⟨by omega,by omega,by show(i:Int)<=((af.spl l (i:Int) (af.r (af.fF (af.l l) (i:Int)) (Ty.gD jG:gm))).length:Int);omega⟩
  ·show(af.s (af.spl l (i:Int) (af.r (af.fF (af.l l) (i:Int)) (Ty.gD jG:gm))) 0 (af.fF (i:Int) 0)).length<=_
   rw[jX,cN,c_];exact aU (Nat.sub_le _ _) (aU (nR _ _) (jj u))
 intro f
 induction f with
 | zero=>intro i j l y o p c;exact m i j l (by omega) o p c
 | succ f ih=>
   intro i j l y o p c;by_cases g:j<n
   ·obtain⟨B,C⟩:=z7 A
    have q:af.k gB ((rU x l x.2.2.2.2.2.2.2.2.1 x.2.2.2.2.2.2.2.2.2.1).2.2.2.2.2.1,())=(x.2.2.2.2.2.1,x.2.2.2.2.2.1.2.2):=C;refine cJ (λ_=>?_) λv=>absurd v (by show ¬(l.length:Int)<=(j:Int);omega);rw[q,dD (x:=(j:Int)) (by omega),dD (x:=(i:Int)) (by omega),show(i:Int)+1=((i+1:Nat):Int) from by omega,show(j:Int)+1=((j+1:Nat):Int) from by omega];exact ai (bW (l:=l) (by omega)) (ai B (dO (λ_=>ai (bW (l:=l) (by omega)) (aY (ih (i+1) (j+1) _ (by omega) (by omega) (by omega) (gy.trans c)))) λ_=>aY (ih i (j+1) l (by omega) (by omega) (by omega) c)))
   ·exact m i j l g o p c
theorem ajF{p:Ry}(j:x.2.2.2.2.2.1.1=true)(c:p.a0=(x.2.2.2.2.2.2.2.1.length:Int))(o:x.2.2.2.2.2.2.2.1.length<=1000000):∀(f i:Nat),x.2.2.2.2.2.2.2.1.length-i<=f->Go (zl af) (zl af (.c0 p (i:Int) x)) λr=>∃a:List gm,a.length<=x.2.2.2.2.2.2.2.1.length/\r.1=rU x a x.2.2.2.2.2.2.2.2.1 x.2.2.2.2.2.2.2.2.2.1:=by
 intro f
 induction f with
 | zero=>intro i n;exact cJ (λg=>absurd g (by rw[c];omega)) λ_=>aK ⟨_,ah _,rfl⟩
 | succ f ih=>
   intro i n;obtain⟨q,u⟩:=z7 j;have m:af.k gB (x.2.2.2.2.2.1,())=(x.2.2.2.2.2.1,x.2.2.2.2.2.1.2.2):=u;refine cJ (λg=>?_) λ_=>aK ⟨_,ah _,rfl⟩;have g:i<x.2.2.2.2.2.2.2.1.length:=by rw[c] at g;omega
   rw[m,dD (x:=(i:Int)) (by omega),show(i:Int)+1=((i+1:Nat):Int) from by omega];refine ai (bW (l:=x.2.2.2.2.2.2.2.1) (by omega)) (ai q (fM (λ_=>dC (λe=>by omega) λ_=>aY ?_) λ_=>aY (ih (i+1) (by omega))));exact ajG (x:=x) j o _ i (i+1) x.2.2.2.2.2.2.2.1 (ah _) (by omega) (by omega) rfl
theorem ajH(h:x.2.2.2.2.2.1.1=true)(g:x.2.2.2.2.2.2.2.1.length<=1000000):LN (x,0)=true/\∃a:List gm,a.length<=x.2.2.2.2.2.2.2.1.length/\(K6 (x,0)).1=rU x a x.2.2.2.2.2.2.2.2.1 x.2.2.2.2.2.2.2.2.2.1:=by
 obtain⟨c,f⟩:=jP (x:=x) (s:=zl af) (t:=TQ af x 0) (d:=(Ty.aR [lD],Ty.aR [])) (P:=λr=>∃a:List gm,a.length<=x.2.2.2.2.2.2.2.1.length/\r.1=rU x a x.2.2.2.2.2.2.2.2.1 x.2.2.2.2.2.2.2.2.2.1) (pL (λ_=>aY (ajF h rfl g _ 0 (ah _))) λ_=>aK ⟨_,ah _,rfl⟩) λr ⟨a,_,e⟩=>by rw[e];rfl
 rw[fQ] at c;refine⟨?_,f⟩;show(decide ((0:Int)=0)&&iq _ _&&_)=true;rw[c.1];exact c.2
theorem ajJ(A:x.2.2.2.2.2.1.1=true)(D:n<=1000000):∀(f i j:Nat) (l:List gm),n-j<=f->i<=j->j<=n->l.length=n->Go (zm af) (zm af (.c1 (i:Int) (j:Int) (rU x x.2.2.2.2.2.2.2.1 l x.2.2.2.2.2.2.2.2.2.1))) λr=>∃a:List gm,a.length<=n/\r.1=rU x x.2.2.2.2.2.2.2.1 a x.2.2.2.2.2.2.2.2.2.1:=by
 have m:∀(i j:Nat) (l:List gm),¬j<n->i<=j->j<=n->l.length=n->Go (zm af) (zm af (.c1 (i:Int) (j:Int) (rU x x.2.2.2.2.2.2.2.1 l x.2.2.2.2.2.2.2.2.2.1))) λr=>∃a:List gm,a.length<=n/\r.1=rU x x.2.2.2.2.2.2.2.1 a x.2.2.2.2.2.2.2.2.2.1:=by
  intro i j l p o z c;have u:(af.spl l (i:Int) (af.r (af.fF (af.l l) (i:Int)) (Ty.gD jG:gm))).length=n:=(OJ (by omega) (by omega)).trans c;refine cJ (λg=>absurd g (by show ¬(j:Int)<(l.length:Int);omega)) λ_=>ai ?_ (ai ?_ (aK ⟨_,?_,rfl⟩))
  ·simp only[bl,aC,fQ,sK]
   exact⟨by omega,by show(i:Int)<=(l.length:Int);omega,aj _⟩
  ·simp only[bl,aC,fQ,sK]
   exact⟨by omega,by omega,by show(i:Int)<=((af.spl l (i:Int) (af.r (af.fF (af.l l) (i:Int)) (Ty.gD jG:gm))).length:Int);omega⟩
  ·show(af.s (af.spl l (i:Int) (af.r (af.fF (af.l l) (i:Int)) (Ty.gD jG:gm))) 0 (af.fF (i:Int) 0)).length<=_
   rw[jX,cN,c_];exact aU (Nat.sub_le _ _) (aU (nR _ _) (jj u))
 intro f
 induction f with
 | zero=>intro i j l y o p c;exact m i j l (by omega) o p c
 | succ f ih=>
   intro i j l y o p c;by_cases g:j<n
   ·obtain⟨B,C⟩:=z7 A
    have q:af.k gB ((rU x x.2.2.2.2.2.2.2.1 l x.2.2.2.2.2.2.2.2.2.1).2.2.2.2.2.1,())=(x.2.2.2.2.2.1,x.2.2.2.2.2.1.2.2):=C;refine cJ (λ_=>?_) λv=>absurd v (by show ¬(l.length:Int)<=(j:Int);omega);rw[q,dD (x:=(j:Int)) (by omega),dD (x:=(i:Int)) (by omega),show(i:Int)+1=((i+1:Nat):Int) from by omega,show(j:Int)+1=((j+1:Nat):Int) from by omega];exact ai (bW (l:=l) (by omega)) (ai B (dO (λ_=>ai (bW (l:=l) (by omega)) (aY (ih (i+1) (j+1) _ (by omega) (by omega) (by omega) (gy.trans c)))) λ_=>aY (ih i (j+1) l (by omega) (by omega) (by omega) c)))
   ·exact m i j l g o p c
theorem ajI{p:Rz}(j:x.2.2.2.2.2.1.1=true)(c:p.a0=(x.2.2.2.2.2.2.2.2.1.length:Int))(o:x.2.2.2.2.2.2.2.2.1.length<=1000000):∀(f i:Nat),x.2.2.2.2.2.2.2.2.1.length-i<=f->Go (zm af) (zm af (.c0 p (i:Int) x)) λr=>∃a:List gm,a.length<=x.2.2.2.2.2.2.2.2.1.length/\r.1=rU x x.2.2.2.2.2.2.2.1 a x.2.2.2.2.2.2.2.2.2.1:=by
 intro f
 induction f with
 | zero=>intro i n;exact cJ (λg=>absurd g (by rw[c];omega)) λ_=>aK ⟨_,ah _,rfl⟩
 | succ f ih=>
   intro i n;obtain⟨q,u⟩:=z7 j;have m:af.k gB (x.2.2.2.2.2.1,())=(x.2.2.2.2.2.1,x.2.2.2.2.2.1.2.2):=u;refine cJ (λg=>?_) λ_=>aK ⟨_,ah _,rfl⟩;have g:i<x.2.2.2.2.2.2.2.2.1.length:=by rw[c] at g;omega
   rw[m,dD (x:=(i:Int)) (by omega),show(i:Int)+1=((i+1:Nat):Int) from by omega];refine ai (bW (l:=x.2.2.2.2.2.2.2.2.1) (by omega)) (ai q (fM (λ_=>dC (λe=>by omega) λ_=>aY ?_) λ_=>aY (ih (i+1) (by omega))));exact ajJ (x:=x) j o _ i (i+1) x.2.2.2.2.2.2.2.2.1 (ah _) (by omega) (by omega) rfl
theorem ajK(h:x.2.2.2.2.2.1.1=true)(g:x.2.2.2.2.2.2.2.2.1.length<=1000000):LO (x,1)=true/\∃a:List gm,a.length<=x.2.2.2.2.2.2.2.2.1.length/\(K7 (x,1)).1=rU x x.2.2.2.2.2.2.2.1 a x.2.2.2.2.2.2.2.2.2.1:=by
 obtain⟨c,f⟩:=jP (x:=x) (s:=zm af) (t:=TR af x 1) (d:=(Ty.aR [lD],Ty.aR [])) (P:=λr=>∃a:List gm,a.length<=x.2.2.2.2.2.2.2.2.1.length/\r.1=rU x x.2.2.2.2.2.2.2.1 a x.2.2.2.2.2.2.2.2.2.1) (pL (λ_=>aY (ajI h rfl g _ 0 (ah _))) λ_=>aK ⟨_,ah _,rfl⟩) λr ⟨a,_,e⟩=>by rw[e];rfl
 rw[fQ] at c;refine⟨?_,f⟩;show(decide ((1:Int)=1)&&iq _ _&&_)=true;rw[c.1];exact c.2
theorem adK(h:x.2.2.2.2.2.1.1=true)(c:x.2.2.2.2.2.2.2.1.length<=1000000):rE (x,0)=true/\∃a:List gm,a.length<=x.2.2.2.2.2.2.2.1.length/\(rJ (x,0)).1=rU x a x.2.2.2.2.2.2.2.2.1 x.2.2.2.2.2.2.2.2.2.1:=ajH h c
theorem adL(h:x.2.2.2.2.2.1.1=true)(c:x.2.2.2.2.2.2.2.2.1.length<=1000000):rE (x,1)=true/\∃a:List gm,a.length<=x.2.2.2.2.2.2.2.2.1.length/\(rJ (x,1)).1=rU x x.2.2.2.2.2.2.2.1 a x.2.2.2.2.2.2.2.2.2.1:=ajK h c
theorem ajP(h:x.2.2.2.2.2.1.1=true)(l:x.2.2.2.2.2.2.2.1.length<=900000):rE (Eo x (af.p x.2.2.2.2.2.2.2.1 ([s]:List gm)),0)=true/\∃a:List gm,a.length<=x.2.2.2.2.2.2.2.1.length+1/\(af.k rJ (Eo x (af.p x.2.2.2.2.2.2.2.1 ([s]:List gm)),0)).1=rU x a x.2.2.2.2.2.2.2.2.1 x.2.2.2.2.2.2.2.2.2.1:=by
 have j:(x.2.2.2.2.2.2.2.1 ++ [s]).length=x.2.2.2.2.2.2.2.1.length+1:=by rw[ru,bw]
 obtain⟨c,a,f,g⟩:=adK (x:=Eo x (af.p x.2.2.2.2.2.2.2.1 ([s]:List gm))) h (by show(x.2.2.2.2.2.2.2.1 ++ [s]).length<=_;omega);exact⟨c,a,by rw[<-j];exact f,g⟩
theorem auC(h:x.2.2.2.2.2.1.1=true)(l:x.2.2.2.2.2.2.2.2.1.length<=900000):rE (Am x (af.p x.2.2.2.2.2.2.2.2.1 ([s]:List gm)),1)=true/\∃a:List gm,a.length<=x.2.2.2.2.2.2.2.2.1.length+1/\(af.k rJ (Am x (af.p x.2.2.2.2.2.2.2.2.1 ([s]:List gm)),1)).1=rU x x.2.2.2.2.2.2.2.1 a x.2.2.2.2.2.2.2.2.2.1:=by
 have j:(x.2.2.2.2.2.2.2.2.1 ++ [s]).length=x.2.2.2.2.2.2.2.2.1.length+1:=by rw[ru,bw]
 obtain⟨c,a,f,g⟩:=adL (x:=Am x (af.p x.2.2.2.2.2.2.2.2.1 ([s]:List gm))) h (by show(x.2.2.2.2.2.2.2.2.1 ++ [s]).length<=_;omega);exact⟨c,a,by rw[<-j];exact f,g⟩
def o_(x l:Net)(k j:Nat):Prop:=∃(a b:List gm) (s:List sH) (g:Int) (f c:List jc),l=api (rU x a b s) g f/\a.length<=x.2.2.2.2.2.2.2.1.length+k/\b.length<=x.2.2.2.2.2.2.2.2.1.length+k/\(x.2.2.2.2.2.2.2.2.2.1.length<=s.length/\s.length<=x.2.2.2.2.2.2.2.2.2.1.length+k)/\
 f.length<=16384/\Ku f/\g<=x.2.2.2.2.1/\c.length<=j/\f.Perm (c++x.2.2.2.2.2.1.2.1)/\∀e∈c,e.2.1=3/\(x.2.2.2.2.2.1.2.2<=e.1/\e.1<=x.2.2.2.2.1)/\0<=e.2.2.2/\e.2.2.2<s.length
theorem o_.id(h:yH x):o_ x x 0 0:=⟨_,_,_,_,_, [],rfl,ah _,ah _,⟨ah _,ah _⟩,h.len,h.heap,aj _,ah _,.refl _,nofun⟩
theorem o_.chan{a b:List gm}(h:yH x)(c:a.length<=x.2.2.2.2.2.2.2.1.length+1)(f:b.length<=x.2.2.2.2.2.2.2.2.1.length+1):o_ x (rU x a b x.2.2.2.2.2.2.2.2.2.1) 1 0:=⟨a,b,_,_,_, [],rfl,c,f,⟨ah _,dP _⟩,h.len,h.heap,aj _,ah _,.refl _,nofun⟩
theorem o_.ok{c:Net}{k:Nat}(m:x.2.2.2.2.2.1.1=true)(h:o_ x c k j):yH c:=by
 obtain⟨a,b,s,n,o,f,rfl,_,_,_,g,l,_⟩:=h;exact⟨m,g,l⟩
theorem o_.trans{z:Net}{k c A:Nat}(h:o_ x y k j)(g:o_ y z c A):o_ x z (k+c) (j+A):=by
 obtain⟨a,b,s,V,X,q,rfl,Z,h2,h3,h4,h5,v,h7,Q,S⟩:=h;obtain⟨C,D,m,p,r,f,rfl,E,G,n,H,I,J,W,O,P⟩:=g;refine⟨C,D,m,p,r,f++q,rfl,?_,?_,?_,H,I,dn J v,?_,?_,λe l=>?_⟩
 ·exact aU E (by show a.length+c<=_;omega)
 ·exact aU G (by show b.length+c<=_;omega)
 ·have n:s.length<=m.length/\m.length<=s.length+c:=n
  omega
 ·rw[ru];omega
 ·rw[cX];exact O.trans (Q.append_left _)
 ·have n:s.length<=m.length/\m.length<=s.length+c:=n
  rcases oJ.1 l with l|l
  ·obtain⟨u,o,B⟩:=P e l
   exact⟨u,⟨o.1,dn o.2 v⟩,B⟩
  ·obtain⟨u,o,B⟩:=S e l
   exact⟨u,o,by omega⟩
theorem o_.mono{k g f:Nat}(h:o_ x y k j)(A:k<=g)(B:j<=f):o_ x y g f:=by
 obtain⟨a,b,s,l,q,c,e,r,u,v,m,n,o,z,p⟩:=h;exact⟨a,b,s,l,q,c,e,by omega,by omega,by omega,m,n,o,by omega,p⟩
theorem L9{v:sH}(h:yH x)(p:x.2.2.2.2.2.2.2.2.2.1.length<=900000):qG (TW x (af.p x.2.2.2.2.2.2.2.2.2.1 ([v]:List sH)),t,3,0,af.fF (af.l (af.p x.2.2.2.2.2.2.2.2.2.1 ([v]:List sH))) 1)=true/\o_ x (tX (TW x (af.p x.2.2.2.2.2.2.2.2.2.1 ([v]:List sH)),t,3,0,af.fF (af.l (af.p x.2.2.2.2.2.2.2.2.2.1 ([v]:List sH))) 1)).1 1 1:=by
 have l:af.fF (af.l (af.p x.2.2.2.2.2.2.2.2.2.1 ([v]:List sH))) 1=(x.2.2.2.2.2.2.2.2.2.1.length:Int):=by
  rw[show af.p x.2.2.2.2.2.2.2.2.2.1 ([v]:List sH)=x.2.2.2.2.2.2.2.2.2.1 ++ [v] from rfl,d_,ru,bw,lN (by omega)];omega
 rw[l];obtain⟨p1,g,j,p2,p3,p4,p5⟩:=Tg (x:=TW x (af.p x.2.2.2.2.2.2.2.2.2.1 ([v]:List sH))) (t:=t) (k:=3) (nd:=0) (n:=(x.2.2.2.2.2.2.2.2.2.1.length:Int)) ⟨h.made,h.len,h.heap⟩;refine⟨p1,?_⟩;rw[p2];have q:(x.2.2.2.2.2.2.2.2.2.1 ++ [v]).length=x.2.2.2.2.2.2.2.2.2.1.length+1:=by rw[ru,bw]
 rcases p5 with ⟨c,f,o⟩|⟨c,f,_⟩
 ·refine⟨x.2.2.2.2.2.2.2.1,x.2.2.2.2.2.2.2.2.1,x.2.2.2.2.2.2.2.2.2.1 ++ [v],g,j, [(vh x t,3,0,(x.2.2.2.2.2.2.2.2.2.1.length:Int))],rfl,dP _,dP _,by omega,p3,p4,Int.le_of_eq c,ah _,o,λe m=>?_⟩
  rw[aJ.1 m];refine⟨rfl,⟨?_,f⟩,by show 0<=(x.2.2.2.2.2.2.2.2.2.1.length:Int);omega,by show(x.2.2.2.2.2.2.2.2.2.1.length:Int)<_;omega⟩;show x.2.2.2.2.2.1.2.2<=vh x t;unfold vh;split<;>omega
 ·exact⟨x.2.2.2.2.2.2.2.1,x.2.2.2.2.2.2.2.2.1,x.2.2.2.2.2.2.2.2.2.1 ++ [v],g,j, [],rfl,dP _,dP _,by omega,p3,p4,f,aX _,by rw[c];exact .refl _,nofun⟩
structure Cb(x:Net)(i:Nat)(K:Nat):Prop where
 k:K<=800010
 q:yH x
 i:i<x.2.2.2.2.2.2.1.length
 f:x.2.2.1.2.2.2.2.2.2.2.length<=1000000
 g:x.2.2.2.2.2.2.1.length<=x.2.2.1.2.2.2.2.1.length
 c:x.2.2.2.2.2.2.2.1.length<=K/\x.2.2.2.2.2.2.2.2.1.length<=K/\x.2.2.2.2.2.2.2.2.2.1.length<=K
theorem jo{l:List α}{v:α}{N:Int}(h:(l.length:Int)+1<=N):af.bU (af.l (af.p l [v])) N=true:=by
 rw[aC,d_,show af.p l [v]=l ++ [v] from rfl,ru,bw];exact da (by omega)
theorem eG(h:i<x.2.2.2.2.2.2.1.length):af.cr (af.l x.2.2.2.2.2.2.1) 0=true:=Cx (by omega)
variable{K:Nat}
theorem Lj(h:Cb x i K){v:sH}:rE (Am x (af.p x.2.2.2.2.2.2.2.2.1 ([s]:List gm)),1)=true/\∃y:Net,(af.k rJ (Am x (af.p x.2.2.2.2.2.2.2.2.1 ([s]:List gm)),1)).1=y/\y.2.2.2.2.2.2.1.length=x.2.2.2.2.2.2.1.length/\y.2.2.2.2.2.2.2.2.2.1=x.2.2.2.2.2.2.2.2.2.1/\qG (TW y (af.p y.2.2.2.2.2.2.2.2.2.1 ([v]:List sH)),t,3,0,af.fF (af.l (af.p y.2.2.2.2.2.2.2.2.2.1 ([v]:List sH))) 1)=true/\o_ x (tX (TW y (af.p y.2.2.2.2.2.2.2.2.2.1 ([v]:List sH)),t,3,0,af.fF (af.l (af.p y.2.2.2.2.2.2.2.2.2.1 ([v]:List sH))) 1)).1 2 1:=by
 obtain⟨q,c,p,n,o,m⟩:=h;obtain⟨g,a,j,l⟩:=auC (x:=x) (s:=s) c.made (by omega);have f:=o_.chan (a:=x.2.2.2.2.2.2.2.1) (b:=a) c (dP _) j;obtain⟨p1,p2⟩:=L9 (v:=v) (t:=t) (f.ok c.made) (by show x.2.2.2.2.2.2.2.2.2.1.length<=_;omega);exact⟨g,_,l,rfl,rfl,p1,f.trans p2⟩
section
variable {x:Net} {i K:Nat} (h:Cb x i K)
include h
theorem alc{p:wR}(f:p.d3=x):Go (xI af) (xI af (.c3 p)) λr=>o_ x r.1 2 1:=by
 subst f;have g:=h.c;have j:=h.k;refine dO (λ_=>fM (λ_=>?_) λ_=>aK ((o_.id h.q).mono (by omega) (by omega))) λ_=>?_
 ·obtain⟨p1,p2⟩:=L9 (v:=((p.d12,p.RO),p.d14)) (t:=p.RO) h.q (by omega)
  exact ai (jo (by omega)) (ai p1 (ai (eG h.i) (aK (p2.mono (by omega) (by omega)))))
 ·obtain⟨c,y,e,l1,l2,p1,p2⟩:=Lj h (s:=zt p.Cg (Dd af p)) (v:=(Dd af p,p.d14)) (t:=af.cB p.Cg.2.1.2 p.d3.2.1.2.2.2.2.2.1)
  unfold xI MC EH EG;rw[e];exact ai (jo (by omega)) (ai c (ai (eG h.i) (ai (by rw[l2];exact jo (by omega)) (ai p1 (ai (by rw[show y.2.2.2.2.2.2.1=y.2.2.2.2.2.2.1 from rfl];exact eG (i:=i) (by have:=h.i;omega)) (aK p2))))))
theorem aav{p:EV}(g:p.c0=(i:Int))(j:p.c2=x):Go (xI af) (xI af (.c2 p)) λr=>o_ x r.1 2 1:=by
 subst j;have G:∀(s:gm),mG (p.c2,p.c0,p.c10,s)=true/\(jN (p.c2,p.c0,p.c10,s)).1=p.c2:=λs=>by rw[g];exact uZ h.i h.f h.g
 have c:∀(s:gm) (q:wR),q.d3=(jN (p.c2,p.c0,p.c10,s)).1->Go (xI af) (.ao (.c3 q)) λr=>o_ p.c2 r.1 2 1:=λs q l=>aY (alc h (l.trans (G s).2));have f:=SO (v:=(mY p.c2 (),1,p.c9)) h.f;exact fM (λ_=>ai (G _).1 (ai (eG h.i) (c _ _ rfl))) λ_=>ai f (fM (λ_=>ai (G _).1 (ai (eG h.i) (c _ _ rfl))) λ_=>ai (G _).1 (ai (eG h.i) (c _ _ rfl)))
theorem alb{p:EU}(m:K+1<=800010)(f:p.b0=(i:Int))(n:p.b3=x):Go (xI af) (xI af (.c1 p)) λr=>o_ x r.1 3 1:=by
 subst n;have q:=h.c;refine dO (λ_=>aY ((aav h f rfl).mono λ_ k=>k.mono (by omega) (by omega))) λ_=>?_;obtain⟨g,a,j,l⟩:=ajP (x:=p.b3) (s:=zt p.EZ (ab3 af p)) h.q.made (by have:=h.k;omega);have c:=o_.chan (a:=a) (b:=p.b3.2.2.2.2.2.2.2.2.1) h.q j (dP _);have o:Cb (rU p.b3 a p.b3.2.2.2.2.2.2.2.2.1 p.b3.2.2.2.2.2.2.2.2.2.1) i (K+1):=⟨m,c.ok h.q.made,h.i,h.f,h.g,by show a.length<=_/\p.b3.2.2.2.2.2.2.2.2.1.length<=_/\p.b3.2.2.2.2.2.2.2.2.2.1.length<=_;omega⟩;exact ai (jo (by have:=h.k;omega)) (ai g (ai (eG h.i) (aY ((aav o f l).mono λ_ k=>c.trans k))))
theorem ala{p:B9}(g:K+1<=800010)(f:p.a0=(i:Int))(l:p.a2=x):Go (xI af) (xI af (.c0 p)) λr=>o_ x r.1 3 1:=by
 subst l;have G:∀(s:gm),mG (p.a2,p.a0,p.jd,s)=true/\(jN (p.a2,p.a0,p.jd,s)).1=p.a2:=λs=>by rw[f];exact uZ h.i h.f h.g
 have c:∀(s:gm) (q:EU),q.b0=p.a0->q.b3=(jN (p.a2,p.a0,p.jd,s)).1->Go (xI af) (.ao (.c1 q)) λr=>o_ p.a2 r.1 3 1:=λs q e m=>aY (alb h g (e.trans f) (m.trans (G s).2));have j:=SO (v:=(mY p.a2 (),0,p.a9)) h.f;exact fM (λ_=>ai (G _).1 (ai (eG h.i) (c _ _ rfl rfl))) λ_=>ai j (fM (λ_=>ai (G _).1 (ai (eG h.i) (c _ _ rfl rfl))) λ_=>ai (G _).1 (ai (eG h.i) (c _ _ rfl rfl)))
theorem Mb{f:sF}(o:K+1<=800010):GV (x,(i:Int),f,c)=true/\o_ x (ze (x,(i:Int),f,c)).1 3 1:=by
 refine jP (s:=xI af) (t:=afs af x (i:Int) f c) (P:=λr=>o_ x r.1 3 1) ?_ λr ⟨_,_,_,_,_,_,q,_⟩=>by rw[q];rfl
 have g:∀k,af.k ji (mY x (),k,(i:Int),c)=true:=λk=>(vD (v:=(mY x (),k,(i:Int),c)) h.f).1;have id:Go (xI af) (.ret (x,())) λr=>o_ x r.1 3 1:=aK ((o_.id h.q).mono (by omega) (by omega));have j:∀(p:B9),p.a0=(i:Int)->p.a2=x->Go (xI af) (.ao (.c0 p)) λr=>o_ x r.1 3 1:=λp m n=>aY (ala h o m n);refine ai (g 3) (fM (λ_=>id) λ_=>ai (bW (l:=x.2.2.2.2.2.2.1) (by have:=h.i;omega)) (dN (λ_=>id) λ_=>dN (λ_=>id) λ_=>ai (g 7) (fM (λ_=>ai (g 8) (fM (λ_=>ai (g 4) (j _ rfl rfl)) λ_=>ai (g 4) (j _ rfl rfl))) λ_=>ai (g 8) (fM (λ_=>ai (g 4) (j _ rfl rfl)) λ_=>ai (g 4) (j _ rfl rfl)))))
end
section
variable {x:Net} {i K:Nat} (h:Cb x i K)
include h
theorem ajy{p:zx}(f:p.h4=x):Go (tf af) (tf af (.c7 p)) λr=>o_ x r.1 2 1:=by
 subst f;have g:=h.c;have j:=h.k;refine dO (λ_=>fM (λ_=>?_) λ_=>aK ((o_.id h.q).mono (by omega) (by omega))) λ_=>?_
 ·obtain⟨p1,p2⟩:=L9 (v:=((p.h10,p.h11),p.h12)) (t:=p.h11) h.q (by omega)
  exact ai (jo (by omega)) (ai p1 (ai (eG h.i) (aK (p2.mono (by omega) (by omega)))))
 ·obtain⟨c,y,e,l1,l2,p1,p2⟩:=Lj h (s:=zt p.SE (yA af p)) (v:=(yA af p,p.h12)) (t:=af.cB p.SE.2.1.2 p.h4.2.1.2.2.2.2.2.1)
  unfold tf MM EK EJ;rw[e];exact ai (jo (by omega)) (ai c (ai (eG h.i) (ai (by rw[l2];exact jo (by omega)) (ai p1 (ai (by rw[show y.2.2.2.2.2.2.1=y.2.2.2.2.2.2.1 from rfl];exact eG (i:=i) (by have:=h.i;omega)) (aK p2))))))
theorem Xv{p:Pd}(c:p.f0=(i:Int))(f:p.f3=x):Go (tf af) (tf af (.c5 p)) λr=>o_ x r.1 2 1:=by
 subst f;have G:∀(s:gm),mG (p.f3,p.f0,p.f8,s)=true/\(jN (p.f3,p.f0,p.f8,s)).1=p.f3:=λs=>by rw[c];exact uZ h.i h.f h.g
 exact ai (G _).1 (ai (eG h.i) (aY (ajy h (G _).2)))
theorem ajw{p:KB}(m:K+1<=800010)(f:p.d0=(i:Int))(n:p.d4=x):Go (tf af) (tf af (.c3 p)) λr=>o_ x r.1 3 1:=by
 subst n;have q:=h.c;refine dO (λ_=>aY ((Xv h f rfl).mono λ_ k=>k.mono (by omega) (by omega))) λ_=>?_;obtain⟨g,a,j,l⟩:=ajP (x:=p.d4) (s:=zt p.RO (ab9 af p)) h.q.made (by have:=h.k;omega);have c:=o_.chan (a:=a) (b:=p.d4.2.2.2.2.2.2.2.2.1) h.q j (dP _);have o:Cb (rU p.d4 a p.d4.2.2.2.2.2.2.2.2.1 p.d4.2.2.2.2.2.2.2.2.2.1) i (K+1):=⟨m,c.ok h.q.made,h.i,h.f,h.g,by show a.length<=_/\p.d4.2.2.2.2.2.2.2.2.1.length<=_/\p.d4.2.2.2.2.2.2.2.2.2.1.length<=_;omega⟩;exact ai (jo (by have:=h.k;omega)) (ai g (ai (eG h.i) (aY ((Xv o f l).mono λ_ k=>c.trans k))))
theorem Xt{p:Kz}(f:K+1<=800010)(c:p.b0=(i:Int))(g:p.b3=x):Go (tf af) (tf af (.c1 p)) λr=>o_ x r.1 3 1:=by
 subst g;have G:∀(s:gm),mG (p.b3,p.b0,p.b8,s)=true/\(jN (p.b3,p.b0,p.b8,s)).1=p.b3:=λs=>by rw[c];exact uZ h.i h.f h.g
 exact ai (G _).1 (ai (eG h.i) (aY (ajw h f c (G _).2)))
end
def EN(x:Net)(i:Nat)(c:fB)(r:Net×Unit):Prop:=o_ x r.1 6 2/\((gU (mY x (),10,(i:Int),c)).2=false->o_ x r.1 6 1)
theorem FC{l m:Bool}{q:Kz}{j:Int}(p:j=(i:Int))(h:Cb y i K)(o:K+1<=800010)(f:o_ x y 3 1)(A:mY y ()=mY x ())(u:q.b0=(i:Int))(z:q.b3=y):
  Go (tf af) (.ap (af.k ji (mY y (),10,j,c)) (.br (af.not (af.k gU (mY y (),10,j,c)).2) (.ret (y,())) (.br l (.ret (y,())) (.br m (.ret (y,())) (.ao (.c1 q)))))) (EN x i c):=by
 subst p;have one:EN x i c (y,()):=⟨f.mono (by omega) (by omega),λ_=>f.mono (by omega) (by omega)⟩;refine ai (vD (v:=(mY y (),10,(i:Int),c)) h.f).1 (dO (λ_=>aK one) λg=>fM (λ_=>aK one) λ_=>fM (λ_=>aK one) λ_=>aY ((Xt h o u z).mono λr k=>⟨(f.trans k).mono (by omega) (by omega),λn=>?_⟩));rw[A] at g;exact absurd (g.symm.trans n) (by decide)
theorem Cb.emi{k:Nat}(h:Cb x i K)(e:o_ x y k j)(f:K+k<=800010):Cb y i (K+k):=by
 have n:=e.ok h.q.made;obtain⟨a,b,s,o,u,c,rfl,p,q,r,_⟩:=e;obtain⟨_,_,m,g,l,v⟩:=h;exact⟨f,n,m,g,l,by show a.length<=_/\b.length<=_/\s.length<=_;omega⟩
theorem o_.lp{k:Nat}(e:o_ x y k j):mY y ()=mY x ():=by
 obtain⟨a,b,s,f,g,c,rfl,_⟩:=e;rfl
theorem ajx{l:Net}{p:qt}(h:Cb x i K)(o:K+3<=800010)(f:o_ l x 1 0)(c:p.g5=(i:Int))(n:p.g4=x):Go (tf af) (tf af (.c6 p)) (EN l i p.g13):=by
 subst n;have q:=h.c;refine dO (λ_=>fM (λ_=>?_) λ_=>FC c h (by omega) (f.mono (by omega) (by omega)) f.lp c rfl) λ_=>?_
 ·obtain⟨p1,p2⟩:=L9 (v:=((p.g9,p.g10),p.g11)) (t:=p.g10) h.q (by omega)
  have g:=f.trans p2;exact ai (jo (by omega)) (ai p1 (ai (eG h.i) (FC c (h.emi p2 (by omega)) (by omega) (g.mono (by omega) (by omega)) g.lp c rfl)))
 ·obtain⟨m,y,e,l1,l2,p1,p2⟩:=Lj h (s:=zt p.g12 (yz af p)) (v:=(yz af p,p.g11)) (t:=af.cB p.g12.2.1.2 p.g4.2.1.2.2.2.2.2.1)
  have j:=f.trans p2;unfold tf MK EI qR Rm uq;rw[e];exact ai (jo (by omega)) (ai m (ai (eG h.i) (ai (by rw[l2];exact jo (by omega)) (ai p1 (ai (by rw[show y.2.2.2.2.2.2.1=y.2.2.2.2.2.2.1 from rfl];exact eG (i:=i) (by have:=h.i;omega)) (FC c (h.emi p2 (by omega)) (by omega) (j.mono (by omega) (by omega)) j.lp c rfl))))))
theorem Xu{f:Net}{p:Pb}(h:Cb x i K)(g:K+3<=800010)(j:o_ f x 1 0)(l:p.e0=(i:Int))(c:p.e4=(i:Int))(m:p.e3=x):Go (tf af) (tf af (.c4 p)) (EN f i p.e11):=by
 subst m;have G:∀(s:gm),mG (p.e3,p.e0,p.e7,s)=true/\(jN (p.e3,p.e0,p.e7,s)).1=p.e3:=λs=>by rw[l];exact uZ h.i h.f h.g
 exact ai (G _).1 (ai (eG h.i) (aY (ajx h g j c (G _).2)))
theorem ajv{p:KA}(h:Cb x i K)(o:K+4<=800010)(g:p.c0=(i:Int))(c:p.c5=(i:Int))(n:p.c4=x):Go (tf af) (tf af (.c2 p)) (EN x i p.c13):=by
 subst n;have q:=h.c;refine dO (λ_=>aY (Xu h (by omega) ((o_.id h.q).mono (by omega) (by omega)) g c rfl)) λ_=>?_;obtain⟨j,a,l,m⟩:=ajP (x:=p.c4) (s:=zt p.c12 (ab8 af p)) h.q.made (by have:=h.k;omega);have f:=o_.chan (a:=a) (b:=p.c4.2.2.2.2.2.2.2.2.1) h.q l (dP _);exact ai (jo (by have:=h.k;omega)) (ai j (ai (eG h.i) (aY (Xu (h.emi f (by omega)) (by omega) f g c m))))
theorem aju{p:O_}(h:Cb x i K)(g:K+4<=800010)(f:p.a0=(i:Int))(c:p.a4=(i:Int))(j:p.a3=x):Go (tf af) (tf af (.c0 p)) (EN x i p.kU):=by
 subst j;have G:∀(s:gm),mG (p.a3,p.a0,p.a7,s)=true/\(jN (p.a3,p.a0,p.a7,s)).1=p.a3:=λs=>by rw[f];exact uZ h.i h.f h.g
 exact ai (G _).1 (ai (eG h.i) (aY (ajv h g f c (G _).2)))
theorem Pr(h:Cb x i K)(j:K+4<=800010):QD (x,(i:Int),c)=true/\EN x i c (zf (x,(i:Int),c)):=by
 refine jP (s:=tf af) (t:=aft af x (i:Int) c) (P:=EN x i c) ?_ λr ⟨⟨_,_,_,_,_,_,m,_⟩,_⟩=>by rw[m];rfl
 have id:EN x i c (x,()):=⟨(o_.id h.q).mono (by omega) (by omega),λ_=>(o_.id h.q).mono (by omega) (by omega)⟩;have g:∀k,af.k ji (mY x (),k,(i:Int),c)=true:=λk=>(vD (v:=(mY x (),k,(i:Int),c)) h.f).1;refine ai (bW (l:=x.2.2.2.2.2.2.1) (by have:=h.i;omega)) (ai (g 9) (fM (λ_=>aY (aju h j rfl rfl rfl)) λ_=>ai (g 10) (dO (λ_=>aK id) λf=>dN (λ_=>aK id) λ_=>dN (λ_=>aK id) λ_=>aY ((Xt h (by omega) rfl rfl).mono λr k=>⟨k.mono (by omega) (by omega),λn=>absurd (f.symm.trans n) (by decide)⟩))))
def gv(n:Node)(y:cm):cm:=(n,y.2)
theorem r8.snd{c:Net}(h:Cb x i K)(p:r8 x e c):Cb c i K:=by
 obtain⟨f,g,rfl,a1,a2,_⟩:=p;exact⟨h.k,⟨h.q.made,a1,a2⟩,h.i,h.f,h.g,h.c⟩
theorem Cb.mod(h:Cb x i K):Cb (cu x (bq x.2.2.2.2.2.2.1 j f)) i K:=
 ⟨h.k,⟨h.q.made,h.q.len,h.q.heap⟩,by show i<(bq _ _ _).length;rw[bJ];exact h.i,h.f,by show(bq _ _ _).length<=_;rw[bJ];exact h.g,h.c⟩
def Spk(x:Net)(i:Nat)(r:Net×Bool):Prop:=
 let o:=re x.2.1 (aD x i).1
 (o.2.2.2≠0/\r=(x,true))\/(o.2.2.2=0/\∃y,(o.1.2.1=1/\Lst (cu x (bq x.2.2.2.2.2.2.1 i (gv o.1))) i y\/o.1.2.1≠1/\y=cu x (bq x.2.2.2.2.2.2.1 i (gv o.1)))/\(o.2.2.1=false/\r=(y,kM o.1)\/o.2.2.1=true/\r.2=true/\o_ y r.1 3 1))
theorem o_.len{k:Nat}(e:o_ x y k j):y.2.2.2.2.2.2.1.length=x.2.2.2.2.2.2.1.length:=by
 obtain⟨a,b,s,f,g,c,rfl,_⟩:=e;rfl
variable{r:Net×Bool}
theorem Spk.len(h:Spk x i r):r.1.2.2.2.2.2.2.1.length=x.2.2.2.2.2.2.1.length:=by
 rcases h with ⟨_,rfl⟩|⟨_,y,f,c⟩
 ·rfl
 ·have e:y.2.2.2.2.2.2.1.length=x.2.2.2.2.2.2.1.length:=by
   rcases f with ⟨_,f⟩|⟨_,rfl⟩
   ·rw[f.len];exact bJ
   ·exact bJ
  rcases c with ⟨_,rfl⟩|⟨_,_,c⟩
  ·exact e
  ·rw[c.len];exact e
theorem aaN(h:Cb x i K)(v:K+1<=800010)(D:dq x.2.1=true)(H:0<=(aD x i).2.2.2.2.1/\(aD x i).2.2.2.2.1<=900000000000)(G:0<=x.2.2.2.2.2.1.2.2/\x.2.2.2.2.2.1.2.2<=2199023255552):QE (x,(i:Int),c)=true/\Spk x i (xg (x,(i:Int),c)):=by
 have p:=h.i;refine jP (s:=Empty.elim) (t:=abC af x (i:Int) c) (P:=Spk x i) ?_ λr E=>E.len;have A:rH af x (i:Int)=re x.2.1 (aD x i).1:=by rfl
 have z:xS af x (i:Int)=bq x.2.2.2.2.2.2.1 i (gv (re x.2.1 (aD x i).1).1):=by rfl
 have B:aD (cu x (bq x.2.2.2.2.2.2.1 i (gv (re x.2.1 (aD x i).1).1))) i=gv (re x.2.1 (aD x i).1).1 (aD x i):=ug p;have o:=h.mod (j:=i) (f:=gv (re x.2.1 (aD x i).1).1);unfold abC;rw[A,z];refine ai (bW (l:=x.2.2.2.2.2.2.1) (by omega)) (dN (λg=>aK (.inl ⟨g,rfl⟩)) λg=>dC (λn=>?_) λn=>dO (λm=>aK (.inr ⟨g,_,.inr ⟨n,rfl⟩,.inl ⟨m,rfl⟩⟩)) λm=>?_)
 ·obtain⟨p1,p2⟩:=Gn (x:=cu x (bq x.2.2.2.2.2.2.1 i (gv (re x.2.1 (aD x i).1).1))) o.q o.i D (by rw[B];show 0<=(aD x i).2.2.2.2.1/\(aD x i).2.2.2.2.1<=_;omega) G
  have C:Ak af x (i:Int)=(JV (cu x (bq x.2.2.2.2.2.2.1 i (gv (re x.2.1 (aD x i).1).1)),(i:Int))).1:=by rfl
  have y:Cb (Ak af x (i:Int)) i K:=by rw[C];exact p2.snd (o.mod)
  have p3:Lst (cu x (bq x.2.2.2.2.2.2.1 i (gv (re x.2.1 (aD x i).1).1))) i (Ak af x (i:Int)):=by simp_all
  obtain⟨q,u⟩:=Mb (f:=(re x.2.1 (aD x i).1).2.1) (c:=c) y v;exact ai p1 (ai (pN p) (dO (λm=>aK (.inr ⟨g,_,.inl ⟨n,p3⟩,.inl ⟨m,rfl⟩⟩)) λm=>ai q (ai (eG y.i) (aK (.inr ⟨g,_,.inl ⟨n,p3⟩,.inr ⟨m,rfl,u⟩⟩)))))
 ·obtain⟨q,u⟩:=Mb (f:=(re x.2.1 (aD x i).1).2.1) (c:=c) o v
  exact ai q (ai (pN p) (aK (.inr ⟨g,_,.inr ⟨n,rfl⟩,.inr ⟨m,rfl,u⟩⟩)))
def ajT(n:Node)(c:qk)(y:cm):cm:=(n,c,y.2.2)
def ahj(c f:qk):Prop:=f.1=c.1/\f.2.1=c.2.1/\(c.2.2.length<=8->f.2.2.length<=8)
theorem ahj.id{c:qk}:ahj c c:=⟨rfl,rfl,λh=>h⟩
def VG(x:Net)(i:Nat)(f:Net):Prop:=f=x\/∃l c,(oh x.2.1 (aD x i).1 l).2.2=0/\ahj (aD x i).2.1 c/\f=cu x (bq x.2.2.2.2.2.2.1 i (ajT (oh x.2.1 (aD x i).1 l).1 c))
theorem VG.len{c:Net}(h:VG x i c):(c.2.2.2.2.2.2.1).length=x.2.2.2.2.2.2.1.length:=by
 rcases h with rfl|⟨_,_,_,_,rfl⟩
 ·rfl
 ·exact bJ
theorem YI{l:List Seen}{L:List cm}{a b:List gm}{o:qf×Int}(j:i<x.2.2.2.2.2.2.1.length)(q:a=x.2.2.2.2.2.2.2.1)(u:b=x.2.2.2.2.2.2.2.2.1)(p:L=bq x.2.2.2.2.2.2.1 i (gv (oh x.2.1 (aD x i).1 l).1))(v:o=(oh x.2.1 (aD x i).1 l).2)(A:(aD x i).2.1.2.2.length<=8):
  Go Empty.elim (.br (af.cr o.2 0) (.ret (Am (Eo x a) b,())) (.br (af.cr o.1.1 3) (.ret (Am (Eo (rv x L) a) b,())) (.ap (af.k GX (x.2.1,(af.n bO L (i:Int):cm).2.1,t)) (.br (af.bK (af.k wE (x.2.1,(af.n bO L (i:Int):cm).2.1,t)).2 0) (.ret (Am (Eo (rv x (md af bO L (i:Int) λ(f:cm)=>zt f (af.k wE (x.2.1,(af.n bO L (i:Int):cm).2.1,t)).1)) a) b,())) (.ret (Am (Eo (rv x L) a) b,()))))):LT (Net×Unit) Empty) λr=>VG x i r.1:=by
 subst q u p v;have en:(af.n bO (bq x.2.2.2.2.2.2.1 i (gv (oh x.2.1 (aD x i).1 l).1)) (i:Int):cm).2.1=(aD x i).2.1:=by rw[Bn j];rfl
 rw[en];obtain⟨y,z⟩:=ak9 (m:=x.2.1) (c:=(aD x i).2.1) (t:=t) (by omega);have same:(oh x.2.1 (aD x i).1 l).2.2=0->VG x i (cu x (bq x.2.2.2.2.2.2.1 i (gv (oh x.2.1 (aD x i).1 l).1))):=λg=>.inr ⟨l,(aD x i).2.1,g,.id,rfl⟩;refine dN (λ_=>aK (.inl rfl)) λg=>dN (λ_=>aK (same g)) λ_=>ai y (dC (λn=>aK (.inr ⟨l,_,g,z n,?_⟩)) λ_=>aK (same g));show cu x (md af bO (bq x.2.2.2.2.2.2.1 i (gv (oh x.2.1 (aD x i).1 l).1)) (i:Int) λ(f:cm)=>zt f (af.k wE (x.2.1,(aD x i).2.1,t)).1)=_;exact congrArg (cu x) (jR.trans (mod_mod j))
theorem vc{l:List α}{N:Int}(h:(l.length:Int)<=N):af.bU (af.l l) N=true:=by
 rw[aC,d_];simp_all
theorem adU(h:Cb x i K)(D:x.2.2.2.2.2.2.1.length<=x.2.2.1.2.2.2.1.length)(j:(aD x i).2.1.2.2.length<=8):QB (x,(i:Int))=true/\VG x i (sR (x,(i:Int))).1:=by
 have m:=h.i;have E:=h.k;have C:=h.c;refine jP (s:=Empty.elim) (t:=afp af x (i:Int)) (P:=λr=>VG x i r.1) ?_ λr u=>u.len;obtain⟨y,z,_⟩:=A_ (l:=x.2.2.2.2.2.2.2.1) (a:=(af.k JU (x.2.1,(af.n bO x.2.2.2.2.2.2.1 (i:Int):cm).2.1)).1) (w:=(af.k y9 (x.2.1,(af.n bO x.2.2.2.2.2.2.1 (i:Int):cm).2.1)).1) (th:=(af.n yI x.2.2.1.2.2.2.1 (i:Int):Int)) (by omega);obtain⟨A,B,_⟩:=A_ (l:=x.2.2.2.2.2.2.2.2.1) (a:=(af.k JU (x.2.1,(af.n bO x.2.2.2.2.2.2.1 (i:Int):cm).2.1)).1) (w:=(af.k y9 (x.2.1,(af.n bO x.2.2.2.2.2.2.1 (i:Int):cm).2.1)).1) (th:=(af.n yI x.2.2.1.2.2.2.1 (i:Int):Int)) (by omega);have g:=(vD (v:=(mY x (),6,(i:Int),(af.n bO x.2.2.2.2.2.2.1 (i:Int):cm).1.2.2.1)) h.f).1;have c:(qc af x (i:Int)).1=x.2.2.2.2.2.2.2.1:=z;have f:(qN af x (i:Int)).1=x.2.2.2.2.2.2.2.2.1:=B;have n:Ig af x (i:Int)=bq x.2.2.2.2.2.2.1 i (gv (oh x.2.1 (aD x i).1 (af.r 2 (Ty.gD qe:Seen))).1):=by rfl
 have o:Ih af x (i:Int)=bq x.2.2.2.2.2.2.1 i (gv (oh x.2.1 (aD x i).1 (af.p ([(qc af x (i:Int)).2]:List Seen) ([(qN af x (i:Int)).2]:List Seen))).1):=by rfl
 have p:MB af x (i:Int)=(oh x.2.1 (aD x i).1 (af.r 2 (Ty.gD qe:Seen))).2:=by rfl
 have q:(Ie af x (i:Int)).2=(oh x.2.1 (aD x i).1 (af.p ([(qc af x (i:Int)).2]:List Seen) ([(qN af x (i:Int)).2]:List Seen))).2:=by rfl
 refine ai (bW (l:=x.2.2.2.2.2.2.1) (by omega)) (dN (λ_=>aK (.inl rfl)) λ_=>dN (λ_=>aK (.inl rfl)) λ_=>ai (bW (l:=x.2.2.1.2.2.2.1) (by omega)) (ai y (ai ?_ (ai A (ai ?_ (ai g (fM (λ_=>ai (by decide) (YI m c f n p j)) λ_=>YI m c f o q j)))))))
 ·rfl
 ·exact vc (by show(2:Int)<=_;omega)
def Sw1(k:Nat)(x y:Net):Prop:=y=x\/∃on,kM (aD x k).1=false/\(on=true↔(aD x k).1.2.1=0)/\Pwr x k on y
def Vz:Nat->Nat->Net->Net->Prop
 | 0,_,x,x'=>x'=x
 | f+1,k,x,x'=>∃y,Sw1 k x y/\Vz f (k+1) y x'
def Swt(x:Net)(i:Nat)(c:Net):Prop:=c=x\/((aD x i).2.2.2.2.2.2.1=true/\(aD x i).1.2.1=4/\Vz x.2.2.2.2.2.2.1.length 0 x c)
structure Swo(x:Net)(k:Nat):Prop where
 q:yH x
 m:dq x.2.1=true
 f:x.2.2.1.2.2.2.2.2.2.2.length<=1000000
 w:0<=x.2.2.2.2.2.1.2.2/\x.2.2.2.2.2.1.2.2<=2199023255552
 t:∀j,k<=j->j<x.2.2.2.2.2.2.1.length->0<=(aD x j).2.2.2.2.1/\(aD x j).2.2.2.2.1<=900000000000
theorem h_(h:j≠i):aD (cu x (bq x.2.2.2.2.2.2.1 i f)) j=aD x j:=aee h
theorem fE(h:i<x.2.2.2.2.2.2.1.length):aD (cu x (bq x.2.2.2.2.2.2.1 i f)) i=f (aD x i):=ug h
theorem r8.same{c:Net}(h:r8 x e c):c.2.2.2.2.2.2.1=x.2.2.2.2.2.2.1/\c.2.1=x.2.1/\c.2.2.1=x.2.2.1/\c.2.2.2.2.2.1.2.2=x.2.2.2.2.2.1.2.2/\(c.2.2.2.2.2.1).1=x.2.2.2.2.2.1.1/\c.1=x.1/\c.2.2.2.2.2.2.2=x.2.2.2.2.2.2.2/\(c.2.2.2.2.2.1.2.1).length<=16384/\Ku (c.2.2.2.2.2.1.2.1):=by
 obtain⟨f,g,rfl,a,b,_⟩:=h;exact⟨rfl,rfl,rfl,rfl,rfl,rfl,rfl,a,b⟩
theorem r8.aD{c:Net}(h:r8 x e c)(j:Nat):aD c j=aD x j:=by
 show(c.2.2.2.2.2.2.1).getD j dS=_;rw[h.same.1];rfl
theorem Swo.sw1{k:Nat}(h:Swo x k)(u:k<x.2.2.2.2.2.2.1.length)(s:Sw1 k x y):Swo y (k+1)/\y.2.2.2.2.2.2.1.length=x.2.2.2.2.2.2.1.length:=by
 have up:Swo x (k+1):=⟨h.q,h.m,h.f,h.w,λj f c=>h.t j (by omega) c⟩;rcases s with rfl|⟨on,_,_,p⟩
 ·exact⟨up,rfl⟩
 ·rcases p with ⟨_,rfl⟩|⟨_,⟨_,rfl⟩|⟨_,p⟩⟩
  ·exact⟨up,rfl⟩
  ·refine⟨⟨⟨h.q.made,h.q.len,h.q.heap⟩,h.m,h.f,h.w,λj f c=>?_⟩,bJ⟩
   rw[h_ (by omega)];exact h.t j (by omega) (by have c:j<(bq _ _ _).length:=c;rwa [bJ] at c)
  ·have e:=p.len
   have g:y.2.2.2.2.2.2.1.length=x.2.2.2.2.2.2.1.length:=e.trans bJ;obtain⟨v,l,m,n,o,_,_,q,r⟩:=r8.same p;refine⟨⟨⟨o.trans h.q.made,q,r⟩,by rw[l];exact h.m,by rw[m];exact h.f,by rw[n];exact h.w,λj f c=>?_⟩,g⟩;rw[r8.aD p,h_ (by omega),h_ (by omega)];exact h.t j (by omega) (by omega)
theorem aly:∀(f k:Nat) (x:Net),n-k<=f->k<=n->x.2.2.2.2.2.2.1.length=n->1<=n->n<=1000->Swo x k->Go (Ad af) (Ad af (.c1 ⟨(n:Int),c⟩ (k:Int) x)) λr=>Vz (n-k) k x r.1:=by
 have p:∀(k:Nat) (x:Net),¬k<n->k<=n->Go (Ad af) (Ad af (.c1 ⟨(n:Int),c⟩ (k:Int) x)) λr=>Vz (n-k) k x r.1:=λk x q S=>by
  refine cJ (λg=>absurd g (by show ¬(k:Int)<(n:Int);omega)) λ_=>aK ?_;rw[show n-k=0 from by omega];rfl
 intro f
 induction f with
 | zero=>intro k x J q _ _ _ _;exact p k x (by omega) q
 | succ f ih=>
   intro k x J q Q H I h;by_cases g:k<n
   ·have o:k<x.2.2.2.2.2.2.1.length:=by omega
    have A:∀y,Sw1 k x y->Go (Ad af) (.ao (.c1 ⟨(n:Int),c⟩ (nU af (k:Int)) y)) λr=>Vz (n-k) k x r.1:=λy s=>by
     obtain⟨P,V⟩:=h.sw1 o s;rw[show nU af (k:Int)=((k+1:Nat):Int) from by unfold nU;rw[dD (by omega)];omega,show n-k=(n-(k+1))+1 from by omega];exact aY ((ih (k+1) y (by omega) (by omega) (by omega) H I P).mono λr O=>⟨y,s,O⟩)
    have z:∀m,af.k ji (mY x (),m,(k:Int),c)=true:=λm=>(vD (v:=(mY x (),m,(k:Int),c)) h.f).1;have u:(af.n bO x.2.2.2.2.2.2.1 (k:Int):cm)=aD x k:=qQ;have j:=A x (.inl rfl);have B:∀on,kM (aD x k).1=false->(on=true↔(aD x k).1.2.1=0)->Go (Ad af) (.ap (af.k uH (x,(k:Int),on)) (.ap (af.cr (af.l x.2.2.2.2.2.2.1) 0) (.ao (.c1 ⟨(n:Int),c⟩ (nU af (k:Int)) (xf (x,(k:Int),on)).1)))) λr=>Vz (n-k) k x r.1:=λon a b=>by
     obtain⟨p1,p2⟩:=GK (on:=on) h.q o h.m (h.t k (ah _) o) h.w;exact ai p1 (ai (eG o) (A _ (.inr ⟨on,a,b,p2⟩)))
    have off:Go (Ad af) (.br (af.cr (af.n bO x.2.2.2.2.2.2.1 (k:Int):cm).1.2.1 0) (.br (af.not (af.k lY (af.n bO x.2.2.2.2.2.2.1 (k:Int):cm).1)) (.ap (af.k uH (x,(k:Int),false)) (.ap (af.cr (af.l x.2.2.2.2.2.2.1) 0) (.ao (.c1 ⟨(n:Int),c⟩ (nU af (k:Int)) (xf (x,(k:Int),false)).1)))) (.ao (.c1 ⟨(n:Int),c⟩ (nU af (k:Int)) x))) (.ao (.c1 ⟨(n:Int),c⟩ (nU af (k:Int)) x))) λr=>Vz (n-k) k x r.1:=by
     rw[u];exact dN (λe=>dO (λD=>B false D ⟨nofun,λE=>absurd E e⟩) λ_=>j) λ_=>j
    refine cJ (λ_=>ai (bW (l:=x.2.2.2.2.2.2.1) (by omega)) (ai (z 2) (ai (z 1) (fM (λ_=>dC (λe=>?_) λ_=>fM (λ_=>off) λ_=>j) λ_=>fM (λ_=>off) λ_=>j)))) λG=>absurd G (by show ¬(n:Int)<=(k:Int);omega);have e:(aD x k).1.2.1=0:=by rw[<-u];exact e
    have C:kM (aD x k).1=false:=by unfold kM;rw[e];rfl
    exact B true C ⟨λ_=>e,λ_=>rfl⟩
   ·exact p k x g q
theorem Vz.len:∀{f k:Nat} {x y:Net},Vz f k x y->Swo x k->k+f<=x.2.2.2.2.2.2.1.length->y.2.2.2.2.2.2.1.length=x.2.2.2.2.2.2.1.length
 | 0,_,_,_,h,_,_=>by rw[h]
 | f+1,k,x,_,h,hs,hk=>by
   obtain⟨z,c,g⟩:=h;obtain⟨j,l⟩:=hs.sw1 (by omega) c;rw[Vz.len g j (by omega)];exact l
theorem OL(h:Swo x 0)(y:i<x.2.2.2.2.2.2.1.length)(v:x.2.2.2.2.2.2.1.length<=1000):CK (x,(i:Int),c)=true/\Swt x i (F5 (x,(i:Int),c)).1:=by
 refine jP (s:=Ad af) (t:=aby af x (i:Int) c) (P:=λr=>Swt x i r.1) ?_ λr m=>?_
 ·have p:(af.n bO x.2.2.2.2.2.2.1 (i:Int):cm)=aD x i:=qQ
  unfold aby;rw[p];refine ai (bW (l:=x.2.2.2.2.2.2.1) (by omega)) (dO (λ_=>aK (.inl rfl)) λa=>dN (λ_=>aK (.inl rfl)) λb=>aY ?_);have lp:∀(f k:Nat),i-k<=f->k<=i->Go (Ad af) (Ad af (.c0 ⟨(i:Int),x,c⟩ (k:Int))) λr=>Swt x i r.1:=by
   have j:∀k,¬k<i->Go (Ad af) (Ad af (.c0 ⟨(i:Int),x,c⟩ ((k:Nat):Int))) λr=>Swt x i r.1:=λk o=>
    cJ (λg=>absurd g (by show ¬(k:Int)<(i:Int);omega)) λ_=>aY ((aly (n:=x.2.2.2.2.2.2.1.length) (c:=c) _ 0 x (ah _) (aX _) rfl (by omega) v h).mono λr m=>.inr ⟨a,b,m⟩)
   intro f
   induction f with
   | zero=>intro k u o;exact j k (by omega)
   | succ f ih=>
     intro k u o;by_cases g:k<i
     ·refine cJ (λ_=>ai (bW (l:=x.2.2.2.2.2.2.1) (by omega)) (dC (λ_=>aK (.inl rfl)) λ_=>?_)) λq=>absurd q (by show ¬(i:Int)<=(k:Int);omega)
      rw[dD (by omega),show(k:Int)+1=((k+1:Nat):Int) from by omega];exact aY (ih (k+1) (by omega) (by omega))
     ·exact j k g
  exact lp i 0 (ah _) (aX _)
 ·rcases m with e|⟨_,_,e⟩
  ·rw[e]
  ·exact e.len h (by omega)
def yL(y:cm):cm:=(y.1,y.2.1,y.2.2.1,y.2.2.2.1,y.2.2.2.2.1,false,y.2.2.2.2.2.2)
def edY(n:Node)(y:cm):cm:=(n,y.2.1,y.2.2.1,y.2.2.2.1,y.2.2.2.2.1,y.2.2.2.2.2.1,y.2.2.2.2.2.2.1,true)
def Zu(n:Node)(c:qk)(y:cm):cm:=(n,c,IntKind.i64.wrap (y.2.2.1+1),y.2.2.2)
def Vd(x:Net)(s:List fj):Net:=(x.1,x.2.1,x.2.2.1,x.2.2.2.1,x.2.2.2.2.1,x.2.2.2.2.2.1,x.2.2.2.2.2.2.1,x.2.2.2.2.2.2.2.1,x.2.2.2.2.2.2.2.2.1,x.2.2.2.2.2.2.2.2.2.1,s)
def Ev2(x:Net)(i:Nat)(f:Net):Prop:=
 f=x/\(kM (aD x i).1=false\/(jq x.2.1 (aD x i).1).2≠0)\/
 kM (aD x i).1=true/\(jq x.2.1 (aD x i).1).2=0/\(f=cu x (bq x.2.2.2.2.2.2.1 i (edY (jq x.2.1 (aD x i).1).1))\/
  ∃d c s,ER x.2.1 (aD x i).2.1 d c/\s.length<=x.2.2.2.2.2.2.2.2.2.2.length+1/\(∀z∈s,z∈x.2.2.2.2.2.2.2.2.2.2\/z.2=(jq x.2.1 (aD x i).1).1)/\
   r8 (Vd (cu x (bq x.2.2.2.2.2.2.1 i (Zu (jq x.2.1 (aD x i).1).1 c))) s) (vh x c.1,4,(i:Int),(aD x i).2.2.2.2.1) f)
structure Evo(x:Net)(i:Nat):Prop where
 q:yH x
 m:dq x.2.1=true
 lt:i<x.2.2.2.2.2.2.1.length
 d:∀v∈x.2.2.1.2.2.2.2.2.1, -x.2.1.2.2.2.2.1<=v/\v<=x.2.1.2.2.2.2.1
 l:x.2.2.1.2.2.2.2.2.1.length<=1000000
 s:x.2.2.2.2.2.2.2.2.2.2.length<=800000
 b:∀n,(jq x.2.1 (aD x i).1).2=0->n=(jq x.2.1 (aD x i).1).1->ads n=true
def nxC(x:Net)(i:Nat):qk×Int:=JQ (x.2.1,(aD x i).2.1,zd (x.2.2.1,x.2.1.1,(aD x i).2.2.1,(i:Int)))
theorem ajA(h:Evo x i):Go (Ow af) (Ow af (.c0 ⟨(i:Int),(i:Int),x⟩)) λr=>Ev2 x i r.1:=by
 obtain⟨v,S,f,O,Q,hs,I⟩:=h;have p:(af.n bO x.2.2.2.2.2.2.1 (i:Int):cm)=aD x i:=qQ;have u:Ai af ⟨(i:Int),(i:Int),x⟩=jq x.2.1 (aD x i).1:=by
  show X2 (x.2.1,(af.n bO x.2.2.2.2.2.2.1 (i:Int):cm).1)=_;rw[p];rfl
 have q:wq af ⟨(i:Int),(i:Int),x⟩=bq x.2.2.2.2.2.2.1 i (gv (jq x.2.1 (aD x i).1).1):=by
  unfold wq;rw[u];show af.set x.2.2.2.2.2.2.1 (i:Int) ((jq x.2.1 (aD x i).1).1,(af.n bO x.2.2.2.2.2.2.1 (i:Int):cm).2)=_;rw[p];exact BA
 have en:(af.n bO (bq x.2.2.2.2.2.2.1 i (gv (jq x.2.1 (aD x i).1).1)) (i:Int):cm)=gv (jq x.2.1 (aD x i).1).1 (aD x i):=Bn f;have A:xN af ⟨(i:Int),(i:Int),x⟩=nxC x i:=by
  unfold xN;rw[q];show JQ (x.2.1,(af.n bO (bq x.2.2.2.2.2.2.1 i (gv (jq x.2.1 (aD x i).1).1)) (i:Int):cm).2.1,zd (x.2.2.1,x.2.1.1,(af.n bO (bq x.2.2.2.2.2.2.1 i (gv (jq x.2.1 (aD x i).1).1)) (i:Int):cm).2.2.1,(i:Int)))=_;rw[en];rfl
 have G:xO af ⟨(i:Int),(i:Int),x⟩=bq x.2.2.2.2.2.2.1 i (Zu (jq x.2.1 (aD x i).1).1 (nxC x i).1):=by
  unfold xO ab0;rw[q,A];exact(congrArg (λl=>md af bO l (i:Int) λ(y:cm)=>up2 y (af.cB y.2.2.1 1)) (jR.trans (mod_mod f))).trans (jR.trans (mod_mod f))
 have H:Ia af ⟨(i:Int),(i:Int),x⟩=x.2.2.2.2.2.2.2.2.2.2 ++ [((jq x.2.1 (aD x i).1).1.2.2.1.1,(jq x.2.1 (aD x i).1).1)]:=by
  unfold Ia;rw[u];rfl
 have J:=wQ S;obtain⟨E,X,Z⟩:=Xr (s:=x.2.2.1) (n:=x.2.1.1) (k:=(aD x i).2.2.1) (i:=(i:Int)) (d:=x.2.1.2.2.2.2.1) (by omega) O Q;obtain⟨n1,W⟩:=akt (m:=x.2.1) (c:=(aD x i).2.1) (d:=zd (x.2.2.1,x.2.1.1,(aD x i).2.2.1,(i:Int)));have V:(x.2.2.2.2.2.2.2.2.2.2.length:Int)+1<=651562446089:=by omega
 have D:af.cr (af.l (bq x.2.2.2.2.2.2.1 i (Zu (jq x.2.1 (aD x i).1).1 (nxC x i).1))) 0=true:=pN f;have P:=λs=>CO (x:=Vd (cu x (bq x.2.2.2.2.2.2.1 i (Zu (jq x.2.1 (aD x i).1).1 (nxC x i).1))) s) (t:=(nxC x i).1.1) (k:=4) (i:=i) ⟨v.made,v.len,v.heap⟩ (by show i<(bq _ _ _).length;rw[bJ];exact f) (by decide);have B:∀s,(aD (Vd (cu x (bq x.2.2.2.2.2.2.1 i (Zu (jq x.2.1 (aD x i).1).1 (nxC x i).1))) s) i).2.2.2.2.1=(aD x i).2.2.2.2.1:=λs=>by
  show((bq x.2.2.2.2.2.2.1 i _).getD i dS).2.2.2.2.1=_;rw[ug f];rfl
 refine dO (λg=>aK (.inl ⟨rfl,.inl ?_⟩)) λg=>?_
 ·rw[<-p];exact g
 have g:kM (aD x i).1=true:=by rw[<-p];exact g
 dsimp only;rw[u,q,en,A,G,H];refine dN (λo=>aK (.inl ⟨rfl,.inr o⟩)) λo=>ai E (ai n1 (dN (λC=>aK (.inr ⟨g,o,.inl ?_⟩)) λC=>?_))
 ·exact congrArg (cu x) (jR.trans (mod_mod f))
 ·have N:=W C
  refine dC (λ_=>ai (I _ o rfl) (ai (jo V) (ai (P _).1 (ai D (aK (.inr ⟨g,o,.inr ⟨_,_,x.2.2.2.2.2.2.2.2.2.2 ++ [((jq x.2.1 (aD x i).1).1.2.2.1.1,(jq x.2.1 (aD x i).1).1)],N,?_,λz j=>?_,?_⟩⟩)))))) λ_=>ai (P x.2.2.2.2.2.2.2.2.2.2).1 (ai D (aK (.inr ⟨g,o,.inr ⟨_,_,x.2.2.2.2.2.2.2.2.2.2,N,dP _,λz j=>.inl j,?_⟩⟩)))
  ·rw[ru,bw];exact ah _
  ·rcases oJ.1 j with j|j
   ·exact .inl j
   ·rw[aJ.1 j];exact .inr rfl
  ·have:=(P (x.2.2.2.2.2.2.2.2.2.2 ++ [((jq x.2.1 (aD x i).1).1.2.2.1.1,(jq x.2.1 (aD x i).1).1)])).2
   rw[B] at this;exact this
  ·have:=(P x.2.2.2.2.2.2.2.2.2.2).2
   rw[B] at this;exact this
def Evl(x:Net)(i:Nat)(c:Net):Prop:=
 (kM (aD x i).1=false/\c=x)\/(kM (aD x i).1=true/\∃y z,VG x i y/\((aD x i).2.2.2.2.2.1=true\/(aD x i).1.2.2.1.2.1=(i:Int)->y=x)/\Swt (cu y (bq y.2.2.2.2.2.2.1 i yL)) i z/\Ev2 z i c)
theorem Ev2.len{c:Net}(h:Ev2 x i c):(c.2.2.2.2.2.2.1).length=x.2.2.2.2.2.2.1.length:=by
 rcases h with ⟨rfl,_⟩|⟨_,_,rfl|⟨_,_,_,_,_,_,p⟩⟩
 ·rfl
 ·exact bJ
 ·rw[(r8.same p).1];exact bJ
structure Evi(x:Net)(i K:Nat):Prop where
 s:Cb x i K
 m:dq x.2.1=true
 w:0<=x.2.2.2.2.2.1.2.2/\x.2.2.2.2.2.1.2.2<=2199023255552
 n:x.2.2.2.2.2.2.1.length<=1000
 g:x.2.2.2.2.2.2.1.length<=x.2.2.1.2.2.2.1.length
 c:(aD x i).2.1.2.2.length<=8
 t:∀j,j<x.2.2.2.2.2.2.1.length->0<=(aD x j).2.2.2.2.1/\(aD x j).2.2.2.2.1<=900000000000
 e:∀y z,VG x i y->Swt (cu y (bq y.2.2.2.2.2.2.1 i yL)) i z->Evo z i
theorem adC(h:Evi x i K):Qv (x,(i:Int))=true/\Evl x i (Sl (x,(i:Int))).1:=by
 have o:=h.s.i;have C:Ah af x (i:Int)=aD x i:=by
  unfold Ah;exact qQ
 have u:∀y,VG x i y->Swo (cu y (bq y.2.2.2.2.2.2.1 i yL)) 0/\i<(cu y (bq y.2.2.2.2.2.2.1 i yL)).2.2.2.2.2.2.1.length/\(cu y (bq y.2.2.2.2.2.2.1 i yL)).2.2.2.2.2.2.1.length=x.2.2.2.2.2.2.1.length:=λy f=>by
  have m:y.2.2.2.2.2.2.1.length=x.2.2.2.2.2.2.1.length:=f.len;have A:(cu y (bq y.2.2.2.2.2.2.1 i yL)).2.2.2.2.2.2.1.length=x.2.2.2.2.2.2.1.length:=bJ.trans m;have J:∀j,j<x.2.2.2.2.2.2.1.length->0<=(aD y j).2.2.2.2.1/\(aD y j).2.2.2.2.1<=900000000000:=λj p=>by
   rcases f with rfl|⟨l,c,_,_,rfl⟩
   ·exact h.t j p
   ·by_cases e:j=i
    ·rw[e,fE o];exact h.t i o
    ·rw[h_ e];exact h.t j p
  have q:∀j,j<x.2.2.2.2.2.2.1.length->0<=(aD (cu y (bq y.2.2.2.2.2.2.1 i yL)) j).2.2.2.2.1/\(aD (cu y (bq y.2.2.2.2.2.2.1 i yL)) j).2.2.2.2.1<=900000000000:=λj p=>by
   by_cases e:j=i
   ·rw[e,fE (by omega)];exact J i o
   ·rw[h_ e];exact J j p
  refine⟨?_,by omega,A⟩;rcases f with rfl|⟨l,c,_,_,rfl⟩
  ·exact⟨⟨h.s.q.made,h.s.q.len,h.s.q.heap⟩,h.m,h.s.f,h.w,λj _ p=>q j (by omega)⟩
  ·exact⟨⟨h.s.q.made,h.s.q.len,h.s.q.heap⟩,h.m,h.s.f,h.w,λj _ p=>q j (by omega)⟩
 refine jP (s:=Ow af) (t:=abp af x (i:Int)) (P:=λr=>Evl x i r.1) ?_ λr D=>?_
 ·unfold abp abq
  rw[C];have n:∀y:Net,i<y.2.2.2.2.2.2.1.length->md af bO y.2.2.2.2.2.2.1 (i:Int) (λ(m:cm)=>wu m false)=bq y.2.2.2.2.2.2.1 i yL:=λy f=>jR;have tail:∀(y:Net) (c:fB),kM (aD x i).1=true->VG x i y->((aD x i).2.2.2.2.2.1=true\/(aD x i).1.2.2.1.2.1=(i:Int)->y=x)->CK (cu y (bq y.2.2.2.2.2.2.1 i yL),(i:Int),c)=true/\Go (Ow af) (.ao (.c0 ⟨(i:Int),(i:Int),(F5 (cu y (bq y.2.2.2.2.2.2.1 i yL),(i:Int),c)).1⟩)) λr=>Evl x i r.1:=λy c g f X=>by
   obtain⟨I,Q,v⟩:=u y f;obtain⟨p1,p2⟩:=OL (c:=c) I Q (by rw[v];exact h.n);exact⟨p1,aY ((ajA (h.e y _ f p2)).mono λr D=>.inr ⟨g,y,_,f,X,p2,D⟩)⟩
  obtain⟨Z,O⟩:=adU h.s h.g h.c;have hY:x.2.2.2.2.2.2.1.length=(sR (x,(i:Int))).1.2.2.2.2.2.2.1.length:=O.len.symm;have A:Mw af x (i:Int)=(cu (sR (x,(i:Int))).1 (bq (sR (x,(i:Int))).1.2.2.2.2.2.2.1 i yL),(i:Int),(aD x i).1.2.2.1):=by
   unfold Mw;rw[C];exact congrArg (λl=>(cu (sR (x,(i:Int))).1 l,(i:Int),(aD x i).1.2.2.1)) (n (sR (x,(i:Int))).1 (by omega))
  have m:Mv af x (i:Int)=(cu x (bq x.2.2.2.2.2.2.1 i yL),(i:Int),(aD x i).1.2.2.1):=by
   unfold Mv;rw[C];exact congrArg (λl=>(cu x l,(i:Int),(aD x i).1.2.2.1)) (n x o)
  rw[m,A];have B:kM (aD x i).1=true->Go (Ow af) (.ap (af.k CK (cu x (bq x.2.2.2.2.2.2.1 i yL),(i:Int),(aD x i).1.2.2.1)) (.ap (af.cr (af.l (md af bO x.2.2.2.2.2.2.1 (i:Int) λ(m:cm)=>wu m false)) 0) (.ao (.c0 ⟨(i:Int),(i:Int),(F5 (cu x (bq x.2.2.2.2.2.2.1 i yL),(i:Int),(aD x i).1.2.2.1)).1⟩)))) λr=>Evl x i r.1:=λg=>by
   obtain⟨G,H⟩:=tail x (aD x i).1.2.2.1 g (.inl rfl) λ_=>rfl;exact ai G (ai (by rw[n x o];exact pN o) H)
  refine ai (bW (l:=x.2.2.2.2.2.2.1) (by omega)) (dO (λg=>aK (.inl ⟨g,rfl⟩)) λg=>dO (λS=>dN (λV=>?_) λ_=>B g) λ_=>B g);obtain⟨G,H⟩:=tail (sR (x,(i:Int))).1 (aD x i).1.2.2.1 g O λk=>k.elim (λk=>absurd (S.symm.trans k) (by decide)) λk=>absurd k V;refine ai Z (ai (eG o) (ai G (ai ?_ H)));rw[show md af bO (af.k sR (x,(i:Int))).1.2.2.2.2.2.2.1 (i:Int) (λ(m:cm)=>wu m false)=bq (sR (x,(i:Int))).1.2.2.2.2.2.2.1 i yL from n (sR (x,(i:Int))).1 (by omega)];exact pN (by omega)
 ·rcases D with ⟨_,e⟩|⟨_,y,z,f,_,E,W⟩
  ·rw[e]
  ·obtain⟨I,Q,v⟩:=u y f
   rw[W.len];rcases E with rfl|⟨_,_,E⟩
   ·exact v
   ·rw[E.len I (by omega)];exact v
inductive T3 (m:ax) (n:Node):Node->Prop where
 | rfl:T3 m n n
 | step {k:Node} {o:dL}:T3 m n k->(yM m k o).2=0->T3 m n (yM m k o).1
def Bg2(x:Net)(i:Nat)(c:Net):Prop:=∃y,EN x i (aD x i).1.2.2.1 (y,())/\
 ((aD x i).1.2.2.1.2.1=(i:Int)/\(∃r:Net×Bool,Spk y i r/\(r.2=false/\c=r.1\/r.2=true/\r8 r.1 (vh r.1 (ovT x.2.1 (aD r.1 i).2.1.1),1,(i:Int),(aD r.1 i).2.2.2.2.1) c))\/
   (aD x i).1.2.2.1.2.1≠(i:Int)/\r8 y (vh y (ovT x.2.1 (aD y i).2.1.1),1,(i:Int),(aD y i).2.2.2.2.1) c)
structure Bgo(x:Net)(i K:Nat):Prop where
 s:Cb x i K
 k:K+8<=800010
 m:dq x.2.1=true
 w:0<=x.2.2.2.2.2.1.2.2/\x.2.2.2.2.2.1.2.2<=2199023255552
 t:0<=(aD x i).2.2.2.2.1/\(aD x i).2.2.2.2.1<=900000000000
 c:0<=(aD x i).2.1.1/\(aD x i).2.1.1<=2199023255552
 o:x.2.2.1.2.2.2.2.2.2.1.length<=1000000
theorem o_.aD{k:Nat}(e:o_ x y k j)(n:Nat):aD y n=aD x n:=by
 obtain⟨a,b,s,f,g,c,rfl,_⟩:=e;rfl
theorem o_.same{k:Nat}(e:o_ x y k j):y.2.1=x.2.1/\y.2.2.2.2.2.1.2.2=x.2.2.2.2.2.1.2.2:=by
 obtain⟨a,b,s,f,g,c,rfl,_⟩:=e;exact⟨rfl,rfl⟩
theorem Spk.clk(h:Spk x i r)(g:i<x.2.2.2.2.2.2.1.length):(aD r.1 i).2.1=(aD x i).2.1/\r.1.2.1=x.2.1:=by
 rcases h with ⟨_,rfl⟩|⟨_,y,f,c⟩
 ·exact⟨rfl,rfl⟩
 ·have e:(aD y i).2.1=(aD x i).2.1/\y.2.1=x.2.1:=by
   rcases f with ⟨_,f⟩|⟨_,rfl⟩
   ·refine⟨?_,(r8.same f).2.1⟩
    have j:i<(cu x (bq x.2.2.2.2.2.2.1 i (gv (re x.2.1 (aD x i).1).1))).2.2.2.2.2.2.1.length:=by show i<(bq _ _ _).length;rw[bJ];exact g
    rw[r8.aD f,fE j,fE g];rfl
   ·exact⟨by rw[fE g];rfl,rfl⟩
  rcases c with ⟨_,rfl⟩|⟨_,_,c⟩
  ·exact e
  ·exact⟨by rw[c.aD];exact e.1,by rw[c.same.1];exact e.2⟩
theorem Spk.qok(h:Spk x i r)(c:yH x):yH r.1:=by
 rcases h with ⟨_,rfl⟩|⟨_,y,g,f⟩
 ·exact c
 ·have e:yH y:=by
   rcases g with ⟨_,g⟩|⟨_,rfl⟩
   ·obtain⟨_,_,_,_,j,_,_,l,m⟩:=r8.same g
    exact⟨j.trans c.made,l,m⟩
   ·exact⟨c.made,c.len,c.heap⟩
  rcases f with ⟨_,rfl⟩|⟨_,_,f⟩
  ·exact e
  ·exact f.ok e.made
theorem aib{k:Nat}{p:B8}(h:Bgo x i K)(I:p.b1<=(k:Int))(q:p.b3=(i:Int)):Go (Bz af) (Bz af (.c1 p (k:Int) x)) λr=>Bg2 x i r.1:=by
 have G:=h.s.i;have J:=h.k;have o:tx af p x=aD x i:=by
  unfold tx;rw[q];exact qQ
 have D:xQ af p x=(zf (x,(i:Int),(aD x i).1.2.2.1)).1:=by
  unfold xQ;rw[o,q];rfl
 have C:xP af p x=(xQ af p x,(i:Int),(aD x i).1.2.2.1):=by
  unfold xP;rw[o,q]
 refine cJ (λg=>absurd g (by omega)) λ_=>?_;rw[C,o,D,q,show af.k xg ((zf (x,(i:Int),(aD x i).1.2.2.1)).1,(i:Int),(aD x i).1.2.2.1)=xg ((zf (x,(i:Int),(aD x i).1.2.2.1)).1,(i:Int),(aD x i).1.2.2.1) from rfl];clear C o D;obtain⟨E,l⟩:=Pr (c:=(aD x i).1.2.2.1) h.s (by omega);have f:Cb (zf (x,(i:Int),(aD x i).1.2.2.1)).1 i (K+6):=h.s.emi l.1 (by omega);have v:=l.1.aD;have j:=l.1.same;have u:EN x i (aD x i).1.2.2.1 ((zf (x,(i:Int),(aD x i).1.2.2.1)).1,()):=l;clear l;generalize (zf (x,(i:Int),(aD x i).1.2.2.1)).1=y at *;refine ai E (ai (eG G) (dC (λg=>?_) λg=>?_))
 ·obtain⟨H,n⟩:=aaN (c:=(aD x i).1.2.2.1) f (by omega) (by rw[j.1];exact h.m) (by rw[v];exact h.t) (by rw[j.2];exact h.w)
  generalize xg (y,(i:Int),(aD x i).1.2.2.1)=r at *;have O:r.1.2.2.2.2.2.2.1.length=y.2.2.2.2.2.2.1.length:=n.len;have A:=n.clk f.i;obtain⟨B,m⟩:=EB (x:=r.1) (i:=i) (n.qok f.q) (by have:=f.i;omega) (by rw[A.2,j.1];exact h.m) (by rw[A.1,v];exact h.c);have e:r.1.2.1=x.2.1:=by rw[A.2,j.1]
  rw[e] at m;exact ai H (ai (eG f.i) (dO (λz=>aK ⟨y,u,.inl ⟨g,r,n,.inl ⟨z,rfl⟩⟩⟩) λz=>ai B (ai (eG (i:=i) (by have:=f.i;omega)) (aK ⟨y,u,.inl ⟨g,r,n,.inr ⟨z,m⟩⟩⟩))))
 ·obtain⟨B,m⟩:=EB (x:=y) f.q f.i (by rw[j.1];exact h.m) (by rw[v];exact h.c)
  rw[j.1] at m;exact ai B (ai (eG f.i) (aK ⟨y,u,.inr ⟨g,m⟩⟩))
theorem UD{l:List cm}(h:i<l.length):bq l i (gv (l.getD i dS).1)=l:=by
 have e:gv (l.getD i dS).1 (l.getD i dS)=l.getD i dS:=rfl;unfold bq;rw[e,yb,Gd h];exact List.set_getElem_self h
theorem W1{l:List dL}{p:B8}{j:Node}(y:i<x.2.2.2.2.2.2.1.length)(C:p.b0=l)(v:p.b1=(l.length:Int))(u:p.b3=(i:Int))(I:l.length<=1000000)(D:∀n,T3 x.2.1 j n->Bgo (cu x (bq x.2.2.2.2.2.2.1 i (gv n))) i K):∀(f k:Nat) (n:Node),l.length-k<=f->T3 x.2.1 j n->Go (Bz af) (Bz af (.c1 p (k:Int) (cu x (bq x.2.2.2.2.2.2.1 i (gv n))))) λr=>∃n,T3 x.2.1 j n/\Bg2 (cu x (bq x.2.2.2.2.2.2.1 i (gv n))) i r.1:=by
 have m:∀(k:Nat) (n:Node),¬k<l.length->T3 x.2.1 j n->Go (Bz af) (Bz af (.c1 p (k:Int) (cu x (bq x.2.2.2.2.2.2.1 i (gv n))))) λr=>∃n,T3 x.2.1 j n/\Bg2 (cu x (bq x.2.2.2.2.2.2.1 i (gv n))) i r.1:=λk n H c=>(aib (D n c) (by rw[v];omega) u).mono λr G=>⟨n,c,G⟩;intro f
 induction f with
 | zero=>intro k n E c;exact m k n (by omega) c
 | succ f ih=>
   intro k n E c;by_cases g:k<l.length
   ·have en:tx af p (cu x (bq x.2.2.2.2.2.2.1 i (gv n)))=gv n (aD x i):=by
     unfold tx;rw[u];exact Bn y
    have o:Go (Bz af) (.ao (.c1 p (af.cB (k:Int) 1) (cu x (bq x.2.2.2.2.2.2.1 i (gv n))))) λr=>∃n,T3 x.2.1 j n/\Bg2 (cu x (bq x.2.2.2.2.2.2.1 i (gv n))) i r.1:=by
     rw[dD (by omega),show(k:Int)+1=((k+1:Nat):Int) from by omega];exact aY (ih (k+1) n (by omega) c)
    refine cJ (λ_=>ai (by rw[C];exact bW (l:=l) (by omega)) (dC (λ_=>dC (λ_=>dC (λ_=>?_) λ_=>o) λ_=>o) λ_=>o)) λA=>absurd A (by rw[v];omega);rw[en];refine dC (λB=>?_) λ_=>o;have z:af.set (bq x.2.2.2.2.2.2.1 i (gv n)) p.b3 ((af.k R4 (x.2.1,(gv n (aD x i)).1,(af.n eZ p.b0 (k:Int):dL))).1,(gv n (aD x i)).2)=bq x.2.2.2.2.2.2.1 i (gv (yM x.2.1 n (af.n eZ p.b0 (k:Int):dL)).1):=by
     rw[u];exact BA.trans (mod_mod y)
    rw[dD (by omega),show(k:Int)+1=((k+1:Nat):Int) from by omega];have q:=ih (k+1) _ (by omega) (.step c B);rw[<-z] at q;exact aY q
   ·exact m k n g c
def OW(y:cm):cm:=(y.1,y.2.1,y.2.2.1,y.2.2.2.1,y.2.2.2.2.1,y.2.2.2.2.2.1,y.1.2.1==4,y.2.2.2.2.2.2.2)
def ovY(y:cm):cm:=(y.1,y.2.1,y.2.2.1,y.2.2.2.1,y.2.2.2.2.1,y.2.2.2.2.2.1,y.2.2.2.2.2.2.1,true)
def xU(x:Net)(i:Nat):Net:=cu x (bq x.2.2.2.2.2.2.1 i OW)
def NP(x:Net)(i:Nat)(n:Node):Net:=cu (xU x i) (bq (xU x i).2.2.2.2.2.2.1 i (gv n))
def Bgn(x:Net)(i:Nat)(c:Net):Prop:=
 (kM (aD x i).1=false/\c=x)\/(kM (aD x i).1=true/\(c=cu x (bq x.2.2.2.2.2.2.1 i ovY)\/Pwr x i false c\/∃n,T3 x.2.1 (aD x i).1 n/\Bg2 (NP x i n) i c))
structure Bgi(x:Net)(i K:Nat):Prop where
 q:yH x
 lt:i<x.2.2.2.2.2.2.1.length
 f:x.2.2.1.2.2.2.2.2.2.2.length<=1000000
 o:x.2.2.1.2.2.2.2.2.2.1.length<=1000000
 m:dq x.2.1=true
 w:0<=x.2.2.2.2.2.1.2.2/\x.2.2.2.2.2.1.2.2<=2199023255552
 t:0<=(aD x i).2.2.2.2.1/\(aD x i).2.2.2.2.1<=900000000000
 b:∀n,T3 x.2.1 (aD x i).1 n->Bgo (NP x i n) i K
theorem Bg2.len{c:Net}(h:Bg2 x i c):(c.2.2.2.2.2.2.1).length=x.2.2.2.2.2.2.1.length:=by
 obtain⟨y,⟨d,_⟩,⟨_,r,s,⟨_,rfl⟩|⟨_,p⟩⟩|⟨_,p⟩⟩:=h
 ·rw[s.len,d.len]
 ·rw[(r8.same p).1,s.len,d.len]
 ·rw[(r8.same p).1,d.len]
theorem W0(h:Bgi x i K):Qy (x,(i:Int))=true/\Bgn x i (Sp (x,(i:Int))).1:=by
 have j:=h.lt;have y:Aj af x (i:Int)=aD x i:=by
  unfold Aj;exact qQ
 refine jP (s:=Bz af) (t:=abu af x (i:Int)) (P:=λr=>Bgn x i r.1) ?_ λr B=>?_
 ·unfold abu abv
  rw[y];have A:af.k ji (mY x (),1,(i:Int),(aD x i).1.2.2.1)=true:=(vD (v:=(mY x (),1,(i:Int),(aD x i).1.2.2.1)) h.f).1;obtain⟨p1,p2⟩:=GK (on:=false) h.q j h.m h.t h.w;have u:af.k Qo x.2.2.1.2.2.2.2.2.2.1=true:=da (by have:=h.o;omega);have o:i<(xU x i).2.2.2.2.2.2.1.length:=by show i<(bq _ _ _).length;rw[bJ];exact j
  have b:(aD x i).1=((xU x i).2.2.2.2.2.2.1.getD i dS).1:=by
   show _=((bq x.2.2.2.2.2.2.1 i OW).getD i dS).1;rw[ug j];rfl
  have z:xU x i=cu (xU x i) (bq (xU x i).2.2.2.2.2.2.1 i (gv (aD x i).1)):=by
   rw[b];exact congrArg (cu (xU x i)) (UD o).symm
  have L:∀(s:ia) (c d:Int),Go (Bz af) (Bz af (.c1 ⟨x.2.2.1.2.2.2.2.2.2.1,(x.2.2.1.2.2.2.2.2.2.1.length:Int),(i:Int),s,c,d⟩ ((0:Nat):Int) (xU x i))) λr=>∃n,T3 x.2.1 (aD x i).1 n/\Bg2 (NP x i n) i r.1:=λs c d=>by
   have q:=W1 (x:=xU x i) (l:=x.2.2.1.2.2.2.2.2.2.1) (p:=⟨x.2.2.1.2.2.2.2.2.2.1,(x.2.2.1.2.2.2.2.2.2.1.length:Int),(i:Int),s,c,d⟩) o rfl rfl rfl h.o h.b _ 0 _ (ah _) .rfl;rw[<-z] at q;exact q
  have f:kM (aD x i).1=true->Go (Bz af) (.ap (af.k ji (mY x (),1,(i:Int),(aD x i).1.2.2.1)) (.br (af.k gU (mY x (),1,(i:Int),(aD x i).1.2.2.1)).2 (.ap (af.k uH (x,(i:Int),false)) (.ap (af.cr (af.l x.2.2.2.2.2.2.1) 0) (.ret ((af.k xf (x,(i:Int),false)).1,())))) (.ao (.c0 ⟨(i:Int),xU x i⟩)))) (λr=>Bgn x i r.1):=λg=>ai A (fM (λ_=>ai p1 (ai (eG j) (aK (.inr ⟨g,.inr (.inl p2)⟩)))) λ_=>aY (ai u (aY ((L _ _ _).mono λr ⟨n,a,b⟩=>.inr ⟨g,.inr (.inr ⟨n,a,b⟩)⟩))));rw[show rv x (md af bO x.2.2.2.2.2.2.1 (i:Int) λ(m:cm)=>rv m (af.bK m.1.2.1 4))=xU x i from congrArg (cu x) jR];exact ai (bW (l:=x.2.2.2.2.2.2.1) (by omega)) (dO (λg=>aK (.inl ⟨g,rfl⟩)) λg=>dC (λ_=>dC (λ_=>aK (.inr ⟨g,.inl (congrArg (cu x) jR)⟩)) λ_=>f g) λ_=>f g)
 ·rcases B with ⟨_,e⟩|⟨_,e|p|⟨n,_,p⟩⟩
  ·rw[e]
  ·rw[e];exact bJ
  ·rcases p with ⟨_,e⟩|⟨_,⟨_,e⟩|⟨k,_⟩⟩
   ·rw[e]
   ·rw[e];exact bJ
   ·cases k
  ·rw[p.len]
   show(bq (bq _ _ _) _ _).length=_;rw[bJ,bJ]
end
end Go.Ev.M
