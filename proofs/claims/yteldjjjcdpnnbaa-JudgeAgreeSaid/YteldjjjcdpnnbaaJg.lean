/-
  PROVED: the statement JudgeAgree of its function. Conditions: none.
-/
import Derived.Test.YteldjjjcdpnnbaaJa
import Derived.Test.YteldjjjcdpnnbaaLb
import Derived.Test.YteldjjjcdpnnbaaDa
namespace Go.Ev.M
open Go.Proofs
set_option maxRecDepth 100000
set_option linter.unusedVariables false
set_option linter.unusedSimpArgs false
open Go.Ev.Pl
abbrev fV:Ty:=(.struct [yI,yI,yI,yI,yI])
abbrev fX:Type:=Int×Int×Int×Int×Int
abbrev dI:Ty:=(.struct [yI,yI,yI,yI,yI,yI,yI])
abbrev fx:Type:=Int×Int×Int×Int×Int×Int×Int
abbrev Jl:Ty:=(.struct [yI,yB])
abbrev Bits:Type:=Int×List Int
abbrev p9:Ty:=(.struct [yI,yI,fV,yI,yB])
abbrev i_:Type:=Int×Int×fX×Int×List Int
abbrev bo:Ty:=(.struct [yI,yI,Jl])
abbrev Seen:Type:=Int×Int×Bits
abbrev DN(b:Bool):Prop:=b=b
section
variable {R Y:Type} {step:Y→LT R Y} {t:LT R Y} {r:R}
end
theorem gw{R Y:Type}{step:Y→LT R Y}{t e:LT R Y}{r:R}{p:Prop}[Decidable p]{b:Bool}(hb:b=decide p)(ht:p→aA step t r)(he:¬p→aA step e r):aA step (.br b t e) r:=by
 by_cases h:p
 ·exact(aj (by rw[hb];simpa using h)).2 (ht h)
 ·exact(ah (by rw[hb];simpa using h)).2 (he h)
theorem kY{a b:Int}:ai.c .eql a b=decide (a=b):=by rw[aM,Bool.eq_iff_iff];simp
theorem iv{a b:Int}:ai.c .neq a b=decide (¬a=b):=by rw[aI,Bool.eq_iff_iff];simp
theorem uL{x:Int}(h:x=0):ai.c .neq x 0=false:=by rw[h];rfl
theorem Ad{x:Int}:ai.c .eql x x=true:=by rw[kY];simp
theorem tP{x:Int}:ai.c .neq x x=false:=by rw[iv];simp
def vh(c:fX)(w:Int):fX:=(c.1,c.2.1,c.2.2.1,c.2.2.2.1,w)
def qw(f:i_)(c:fX)(w:Int):Bool:=f.2.2.1==vh c w
theorem vu{f:i_}{c:fX}{w:Int}(h:eB f=true)(hd:aT f.2.2.2.2)(hk:¬f.1=1):(fI (aU (aS f),vh c w)).2=qw f c w:=by
 obtain⟨k,r,⟨t,p,m,n,s⟩,fr,d⟩:=f
 show(fI (aU (aS (k,r,(t,p,m,n,s),fr,d)),(c.1,c.2.1,c.2.2.1,c.2.2.2.1,w))).2=_
 rw[u9,BN h hd]
 have:(k==1)=false:=by simpa using hk
 rw[this];rfl
theorem wm{f:i_}{c:fX}{w:Int}(h:eB f=true)(hd:aT f.2.2.2.2)(hk:¬f.1=1)(hg:qw f c w=true):fI (aU (aS f),vh c w)=(f,true):=by
 have e:f.2.2.1=vh c w:=by simpa [qw] using hg
 rw[←e]
 obtain⟨k,r,⟨t,p,m,n,s⟩,fr,d⟩:=f
 show fI (aU (aS (k,r,(t,p,m,n,s),fr,d)),(t,p,m,n,s))=_
 rw[u9]
 have hl:=(lI h).2
 have hs:cO (t,p,m,n,s)=true:=by
  rw[eB] at h;simp only[Bool.and_eq_true] at h;exact h.1.1.1
 have e:l7 (aU (aS (k,r,(t,p,m,n,s),fr,d)),(t,p,m,n,s))=((k,r,(t,p,m,n,s),fr,d),0):=by
  rw[l7,fC (by omega),hs,d_,pO h hd];rfl
 rw[mQ,e]
 have hk:(k==1)=false:=by simpa using hk
 simp[hk]
structure Hy(c:fX)(v:fx)(s:Int)(f:i_):Prop where
 v0:su v=0
 c0:tH (c,v.2.1)=0
 s0:0≤s
 s1:s<v.2.1
 s2:¬s=v.1
 f0:eB f=true
 f1:aT f.2.2.2.2
 f2:¬f.1=1
theorem Hy.v1{c:fX}{v:fx}{s:Int}{f:i_}(h:Hy c v s f):jo v=0:=O2.trans h.v0
theorem Hy.s3{c:fX}{v:fx}{s:Int}{f:i_}(h:Hy c v s f):sV (v,s)=true:=by
 have h0:=h.v0;have h1:=h.s0;have h2:=h.s1;have h3:=h.s2
 obtain⟨a,b,x,d,e,g,i⟩:=v
 have hm:=jm.1 h0
 unfold DR at hm
 exact(wJ hm.1 hm.2.1).2 ⟨h1,h2,h3⟩
structure zm where
 (a0 a1:Int) (a2:Bool) (a4:List Int) (a5:Int) (a7:fX) (a8:fx) (a9:i_) (lu mg a12:Int) (sU:List Int) (lf:Int) (lz:List Int)
structure E9 where
 (b0 b1 b2:Int) (b3 b4:Bool) (b7:fX) (b8:fx) (sO:fX) (ij:fx) (i6:i_) (iN je lN:Int) (lM:List Int) (pF pN:Int) (pj:List Int)
structure FD where
 (c0 c1 c2:Int) (c3 c4:Bool) (c7:fX) (c8:fx) (v_:fX) (c19:fx) (c20:i_) (c21 zP c23:Int) (c24:List Int) (DU DV:Int) (c28:List Int)
structure Fg where
 (d4 d5:Int) (d6 d7:Bool) (EL DO:Int) (DT:List Int) (Ef:fX) (tp:fx) (yk:i_) (FW E7 FQ:Int) (Fh:List Int)
structure Fz where
 (e0 e1 e2 e3 e4 e5:Int) (e6 e7:Bool) (e10:Int) (e11:fx) (e12 e13 e14:Int) (e24:fX) (e25:fx) (e26:i_) (e27 e28 e29:Int) (e30:List Int) (e35 e36:Int) (e37:List Int) (e38:fx) (e39:Int) (e40:fx) (e41:fX)
structure E8 where
 (f4 f5:Int) (f6 f7:Bool) (f11 f12:Int) (f13:List Int) (f24:fX) (f25:fx) (f26:i_) (f27 f28 f29:Int) (f30:List Int)
structure Fe where
 (g0 g1 g2 g3 g4 g5:Int) (g6 g7:Bool) (g10:Int) (g11:fx) (g12 g13 g14:Int) (g24:fX) (J9:fx) (Kk:i_) (Lf Ma KM:Int) (M2:List Int) (Kn J_:Int) (Kr:List Int) (Ob:fx) (NH:Int) (Nm:fx) (H5:fX)
structure FG where
 (h0:Int) (h1 h2:Bool) (h5:fX) (h6:fx) (h7 h8 h9:Int) (h10:List Int) (vQ h16:Int) (sN:List Int)
structure FH where
 (z80 z85 z86 z87 Ld z89 zM:Int) (xq lZ:Bool) (qa:fX) (mq jX:Int) (jY:List Int) (G2:Int) (Gc:fx) (F5 Hq Hg:Int) (vR:fX) (wW:fx) (xn:i_) (yw yh yy:Int) (ya:List Int) (Gy:fx) (Hz:Int) (GV:fx)
structure Fc where
 (Ke:Int) (z91 Kl:Bool) (Kg:fX) (Kb:fx) (wE w7 w5:Int) (kK:List Int) (kl jZ:Int) (j6:List Int)
structure AY where
 (L_ z105 Ha z107 Gs z109 tX:Int) (pG im:Bool) (jV:fX) (iJ fZ:Int) (f_:List Int) (BJ:Int) (BU:fx) (DF Be AT:Int) (oU:fX) (pM:fx) (pT:i_) (sH qO rE:Int) (rD:List Int) (Cs:fx) (B8:Int) (Bw:fx)
structure CS where
 (yn:Int) (GY:Bool) (Ax:fX) (s_:fx) (z116 z117 GF:Int) (z119:List Int) (Ca Fy BV:Int) (Bp:List Int)
structure Cx where
 (jk Ez:Int) (Bf:Bool) (EC:fX) (iK:fx) (y7:fX) (yV:fx) (wy yP v7:Int) (wM:List Int) (wL zr xx:Int) (xg:List Int)
structure Dp where
 (Mm:Int) (Bt:Bool) (z138 z139 Fw:Int) (F3:List Int) (FY E6 Fq:Int) (Fv:List Int) (I6:fX) (H_:fx)
structure CO where
 (EE z141 EV z143 Gh:Int) (z145:Bool) (z148:Int) (J4:fx) (FE zu y8:Int) (Cf:fX) (C3:fx) (yZ BI yL:Int) (zh:List Int) (yS Df yM:Int) (zj:List Int) (FF:fx) (FT:Int) (FN:fx) (uj:fX)
structure CL where
 (Nb GZ z156 z157 Gd z159:Int) (y9:Bool) (oQ:fX) (mE pQ ny:Int) (mC:List Int) (nK pz nE:Int) (nz:List Int) (Dz:Int) (AU:fx) (B4 CZ CY:Int) (Dq:fX) (AX Dk:fx) (A7:Int) (CX:fx)
inductive Kd where
 | c0 (p:zm) (a3:Bool) (a6:Int)
 | c1 (p:E9)
 | c2 (p:FD)
 | c3 (p:Fg) (d3:Int)
 | c4 (p:Fz)
 | c5 (p:E8) (f3:Int)
 | c6 (p:Fe)
 | c7 (p:FG)
 | c8 (p:FH) (z84:Int)
 | c9 (p:Fc)
 | c10 (p:AY) (z104:Int)
 | c11 (p:CS)
 | c12 (p:Cx)
 | c13 (p:Dp) (z133:Int)
 | c14 (p:CO)
 | gY (p:CL) (z154:Int)
noncomputable def J8:Kd→iH
 | .c0 p a3 a6=>⟨[⟨3,165,(en [(2,vi p.a0),(4,vi p.a1),(5,vb p.a2),(7,.ptr 0 0),(8,.ptr 1 0),(10,.ptr 2 0),(13,.ptr 3 0),(15,.ptr 4 0),(17,vb a3),(72,.sl yI p.a4),(73,vi p.a5),(74,vi a6)]),[.inLoop (cw Try.f3 [1,1,1,1,0,1,0,0]),.inBlock 0,.code (cw Try.f3 [1,1,1,1,1])],[],none⟩],[.flat false (dc fV p.a7),.flat false (dc dI p.a8),.flat false (dc p9 p.a9),.flat false [vi p.lu,vi p.mg,vi p.a12,.sl yU p.sU],.flat false [vi p.lf,.sl yU p.lz],.dead]⟩
 | .c1 p=>⟨[⟨9,85,(en [(2,vi p.b0),(4,.ptr 0 0),(5,.ptr 1 0),(7,.ptr 2 0),(8,.ptr 3 0),(9,.ptr 4 0)]),[.code (cw Try.f9 [1,1,0,0]),.code (cw Try.f9 [1,1,0,1]),.code (cw Try.f9 [1,1,1])],[],none⟩,⟨3,165,(en [(2,vi p.b1),(4,vi p.b2),(5,vb p.b3),(7,.ptr 5 0),(8,.ptr 6 0),(10,.ptr 7 0),(13,.ptr 8 0),(17,vb p.b4),(22,.dU 9 4 false 0 2)]),[.ops (ow Try.f3 [1,1,1,1,1,1,1,1,0]) ((ow Try.f3 [1,1,1,1,1,1,1,1,0]).toList.drop 4),.code (cw Try.f3 [1,1,1,1,1,1,1,1,1])],[],none⟩],[.flat false (dc fV p.b7),.flat false (dc dI p.b8),.flat false [.dU 9 4 false 0 2],.flat false [vi 0,vi 0,vi 0,vi 0,vi 0,vi 0,vi 0,vi 0,vi 0,vi 0,vi 0,.du true,vi 0],.flat false [vi 0],.flat false (dc fV p.sO),.flat false (dc dI p.ij),.flat false (dc p9 p.i6),.flat false [vi p.iN,vi p.je,vi p.lN,.sl yU p.lM],.flat false [vi 0,vi 0,vi 0,.du true,vi 2,vi p.pF,vi p.pN,.sl yU p.pj],.dead]⟩
 | .c2 p=>⟨[⟨9,85,(en [(2,vi p.c0),(4,.ptr 0 0),(5,.ptr 1 0),(7,.ptr 2 0),(8,.ptr 3 0),(9,.ptr 4 0)]),[.code (cw Try.f9 [1,1,0,0]),.code (cw Try.f9 [1,1,0,1]),.code (cw Try.f9 [1,1,1])],[],none⟩,⟨3,165,(en [(2,vi p.c1),(4,vi p.c2),(5,vb p.c3),(7,.ptr 5 0),(8,.ptr 6 0),(10,.ptr 7 0),(13,.ptr 8 0),(17,vb p.c4),(22,.dU 9 4 false 0 2)]),[.ops (ow Try.f3 [1,1,1,1,1,1,1,1,0]) ((ow Try.f3 [1,1,1,1,1,1,1,1,0]).toList.drop 4),.code (cw Try.f3 [1,1,1,1,1,1,1,1,1])],[],none⟩],[.flat false (dc fV p.c7),.flat false (dc dI p.c8),.flat false [.dU 9 4 false 0 2],.flat false [vi 0,vi 0,vi 0,vi 0,vi 0,vi 0,vi 0,vi 0,vi 0,vi 0,vi 0,.du true,vi 0],.flat false [vi 0],.flat false (dc fV p.v_),.flat false (dc dI p.c19),.flat false (dc p9 p.c20),.flat false [vi p.c21,vi p.zP,vi p.c23,.sl yU p.c24],.flat false [vi 2,vi p.DU,vi p.DV,.sl yU p.c28,vi 0,vi 0,vi 0,.du true],.dead]⟩
 | .c3 p d3=>⟨[⟨37,19,(en [(0,.dU 0 4 false 0 2),(1,.fn 25 [] []),(7,vi 2),(8,vi d3)]),[.inLoop (cw Try.f37 [1,0,1,0,0]),.inBlock 0,.code (cw Try.f37 [1,1])],[],none⟩,⟨24,9,.leaf,[.ops (ow Try.f24 [1,0]) ((ow Try.f24 [1,0]).toList.drop 2),.code .ret],[],none⟩,⟨9,85,(en [(8,.ptr 1 0),(9,.ptr 2 0)]),[.ops (ow Try.f9 [1,1,1,0,0]) ((ow Try.f9 [1,1,1,0,0]).toList.drop 1),.code (cw Try.f9 [1,1,1,0,1]),.code (cw Try.f9 [1,1,1,1])],[3],none⟩,⟨3,165,(en [(2,vi p.d4),(4,vi p.d5),(5,vb p.d6),(7,.ptr 4 0),(8,.ptr 5 0),(10,.ptr 6 0),(13,.ptr 7 0),(17,vb p.d7),(22,.dU 0 4 false 0 2)]),[.ops (ow Try.f3 [1,1,1,1,1,1,1,1,0]) ((ow Try.f3 [1,1,1,1,1,1,1,1,0]).toList.drop 4),.code (cw Try.f3 [1,1,1,1,1,1,1,1,1])],[],none⟩],[.flat false [vi 0,vi 0,vi 0,.du true,vi 2,vi p.EL,vi p.DO,.sl yU p.DT],.flat false [vi 0,vi 0,vi 0,vi 0,vi 0,vi 0,vi 0,vi 0,vi 0,vi 0,vi 0,.du true,vi 0],.flat false [vi 0],.qe,.flat false (dc fV p.Ef),.flat false (dc dI p.tp),.flat false (dc p9 p.yk),.flat false [vi p.FW,vi p.E7,vi p.FQ,.sl yU p.Fh],.dead]⟩
 | .c4 p=>⟨[⟨33,37,(en [(0,.yield 0),(24,.dU 1 1 false p.e0 p.e1),(25,vi p.e2),(26,vi p.e3)]),[.inLoop (cw Try.f33 [1,1,1,0,0]),.inBlock 0],[],none⟩,⟨9,85,(en [(7,.ptr 2 0),(8,.ptr 3 0),(9,.ptr 4 0)]),[.fy 0,.inBlock 1,.code (cw Try.f9 [1,1,1])],[5],none⟩,⟨3,165,(en [(2,vi p.e4),(4,vi p.e5),(5,vb p.e6),(7,.ptr 6 0),(8,.ptr 7 0),(10,.ptr 8 0),(13,.ptr 9 0),(17,vb p.e7),(22,.dU 10 4 false 0 2)]),[.ops (ow Try.f3 [1,1,1,1,1,1,1,1,0]) ((ow Try.f3 [1,1,1,1,1,1,1,1,0]).toList.drop 4),.code (cw Try.f3 [1,1,1,1,1,1,1,1,1])],[],none⟩],[.loop ⟨9,85,(en [(2,vi p.e10),(4,.ptr 14 0),(5,.ptr 13 0),(7,.ptr 2 0),(8,.ptr 3 0),(9,.ptr 4 0),(49,.agg (dc dI p.e11)),(50,vi p.e12),(51,.fn 33 [] [.ptr 11 0,.ptr 12 0])]),[52,53],(cw Try.f9 [1,1,0,1,0,0]),(cw Try.f9 [1,1,0,1,0,1]),0,none⟩,.flat false [vi p.e13,vi p.e14],.flat false [.dU 10 4 false 0 2],.flat false [vi 0,vi 0,vi 0,vi 0,vi 0,vi 0,vi 0,vi 0,vi 0,vi 0,vi 0,.du true,vi 0],.flat false [vi 0],.qe,.flat false (dc fV p.e24),.flat false (dc dI p.e25),.flat false (dc p9 p.e26),.flat false [vi p.e27,vi p.e28,vi p.e29,.sl yU p.e30],.flat false [vi 0,vi 0,vi 0,.du true,vi 2,vi p.e35,vi p.e36,.sl yU p.e37],.flat false (dc dI p.e38),.flat false [vi p.e39],.flat false (dc dI p.e40),.flat false (dc fV p.e41),.dead]⟩
 | .c5 p f3=>⟨[⟨37,19,(en [(0,.dU 0 4 false 0 2),(1,.fn 25 [] []),(7,vi 2),(8,vi f3)]),[.inLoop (cw Try.f37 [1,0,1,0,0]),.inBlock 0,.code (cw Try.f37 [1,1])],[],none⟩,⟨24,9,.leaf,[.ops (ow Try.f24 [1,0]) ((ow Try.f24 [1,0]).toList.drop 2),.code .ret],[],none⟩,⟨9,85,(en [(8,.ptr 1 0),(9,.ptr 2 0)]),[.ops (ow Try.f9 [1,1,1,0,0]) ((ow Try.f9 [1,1,1,0,0]).toList.drop 1),.code (cw Try.f9 [1,1,1,0,1]),.code (cw Try.f9 [1,1,1,1])],[3],none⟩,⟨3,165,(en [(2,vi p.f4),(4,vi p.f5),(5,vb p.f6),(7,.ptr 4 0),(8,.ptr 5 0),(10,.ptr 6 0),(13,.ptr 7 0),(17,vb p.f7),(22,.dU 0 4 false 0 2)]),[.ops (ow Try.f3 [1,1,1,1,1,1,1,1,0]) ((ow Try.f3 [1,1,1,1,1,1,1,1,0]).toList.drop 4),.code (cw Try.f3 [1,1,1,1,1,1,1,1,1])],[],none⟩],[.flat false [vi 2,vi p.f11,vi p.f12,.sl yU p.f13,vi 0,vi 0,vi 0,.du true],.flat false [vi 0,vi 0,vi 0,vi 0,vi 0,vi 0,vi 0,vi 0,vi 0,vi 0,vi 0,.du true,vi 0],.flat false [vi 0],.qe,.flat false (dc fV p.f24),.flat false (dc dI p.f25),.flat false (dc p9 p.f26),.flat false [vi p.f27,vi p.f28,vi p.f29,.sl yU p.f30],.dead]⟩
 | .c6 p=>⟨[⟨33,37,(en [(0,.yield 0),(24,.dU 1 1 false p.g0 p.g1),(25,vi p.g2),(26,vi p.g3)]),[.inLoop (cw Try.f33 [1,1,1,0,0]),.inBlock 0],[],none⟩,⟨9,85,(en [(7,.ptr 2 0),(8,.ptr 3 0),(9,.ptr 4 0)]),[.fy 0,.inBlock 1,.code (cw Try.f9 [1,1,1])],[5],none⟩,⟨3,165,(en [(2,vi p.g4),(4,vi p.g5),(5,vb p.g6),(7,.ptr 6 0),(8,.ptr 7 0),(10,.ptr 8 0),(13,.ptr 9 0),(17,vb p.g7),(22,.dU 10 4 false 0 2)]),[.ops (ow Try.f3 [1,1,1,1,1,1,1,1,0]) ((ow Try.f3 [1,1,1,1,1,1,1,1,0]).toList.drop 4),.code (cw Try.f3 [1,1,1,1,1,1,1,1,1])],[],none⟩],[.loop ⟨9,85,(en [(2,vi p.g10),(4,.ptr 14 0),(5,.ptr 13 0),(7,.ptr 2 0),(8,.ptr 3 0),(9,.ptr 4 0),(49,.agg (dc dI p.g11)),(50,vi p.g12),(51,.fn 33 [] [.ptr 11 0,.ptr 12 0])]),[52,53],(cw Try.f9 [1,1,0,1,0,0]),(cw Try.f9 [1,1,0,1,0,1]),0,none⟩,.flat false [vi p.g13,vi p.g14],.flat false [.dU 10 4 false 0 2],.flat false [vi 0,vi 0,vi 0,vi 0,vi 0,vi 0,vi 0,vi 0,vi 0,vi 0,vi 0,.du true,vi 0],.flat false [vi 0],.qe,.flat false (dc fV p.g24),.flat false (dc dI p.J9),.flat false (dc p9 p.Kk),.flat false [vi p.Lf,vi p.Ma,vi p.KM,.sl yU p.M2],.flat false [vi 2,vi p.Kn,vi p.J_,.sl yU p.Kr,vi 0,vi 0,vi 0,.du true],.flat false (dc dI p.Ob),.flat false [vi p.NH],.flat false (dc dI p.Nm),.flat false (dc fV p.H5),.dead]⟩
 | .c7 p=>⟨[⟨3,165,(en [(2,vi p.h0),(5,vb p.h1),(7,.ptr 0 0),(8,.ptr 1 0),(13,.ptr 2 0),(17,vb p.h2),(22,.dU 3 4 false 0 2)]),[.code (cw Try.f3 [1,1,1,1,1,1,1,1,1,1,0,0]),.code (cw Try.f3 [1,1,1,1,1,1,1,1,1,1,0,1]),.code (cw Try.f3 [1,1,1,1,1,1,1,1,1,1,1])],[],none⟩],[.flat false (dc fV p.h5),.flat false (dc dI p.h6),.flat false [vi p.h7,vi p.h8,vi p.h9,.sl yU p.h10],.flat false [vi 0,vi 0,vi 0,.du true,vi 2,vi p.vQ,vi p.h16,.sl yU p.sN],.dead]⟩
 | .c8 p z84=>⟨[⟨9,85,(en [(4,.ptr 0 0),(8,.ptr 1 0),(9,.ptr 2 0),(10,vi p.z80),(56,.dU 3 4 false 0 2),(57,vi 2),(58,vi z84)]),[.inLoop (cw Try.f9 [1,1,0,1,0,1,0,1,1,0,0]),.inBlock 3,.inBlock 2],[],some 4⟩,⟨33,37,(en [(0,.yield 4),(24,.dU 5 1 false p.z85 p.z86),(25,vi p.z87),(26,vi p.Ld)]),[.ops (ow Try.f33 [1,1,1,0,0,1,1,0,0,1,0]) ((ow Try.f33 [1,1,1,0,0,1,1,0,0,1,0]).toList.drop 3),.code (cw Try.f33 [1,1,1,0,0,1,1,0,0,1,1]),.inBlock 1,.code (cw Try.f33 [1,1,1,0,0,1,1,1]),.inLoop (cw Try.f33 [1,1,1,0,0]),.inBlock 0],[],none⟩,⟨9,85,(en [(7,.ptr 6 0),(8,.ptr 1 0),(9,.ptr 2 0)]),[.fy 4,.inBlock 1,.code (cw Try.f9 [1,1,1])],[7],none⟩,⟨3,165,(en [(2,vi p.z89),(4,vi p.zM),(5,vb p.xq),(7,.ptr 8 0),(8,.ptr 9 0),(10,.ptr 10 0),(13,.ptr 11 0),(17,vb p.lZ),(22,.dU 3 4 false 0 2)]),[.ops (ow Try.f3 [1,1,1,1,1,1,1,1,0]) ((ow Try.f3 [1,1,1,1,1,1,1,1,0]).toList.drop 4),.code (cw Try.f3 [1,1,1,1,1,1,1,1,1])],[],none⟩],[.flat false (dc fV p.qa),.flat false [vi 0,vi 0,vi 0,vi 0,vi 0,vi 0,vi 0,vi 0,vi 0,vi 0,vi 0,.du true,vi 0],.flat false [vi 0],.flat false [vi 0,vi 0,vi 0,.du true,vi 2,vi p.mq,vi p.jX,.sl yU p.jY],.loop ⟨9,85,(en [(2,vi p.G2),(4,.ptr 0 0),(5,.ptr 14 0),(7,.ptr 6 0),(8,.ptr 1 0),(9,.ptr 2 0),(49,.agg (dc dI p.Gc)),(50,vi p.F5),(51,.fn 33 [] [.ptr 12 0,.ptr 13 0])]),[52,53],(cw Try.f9 [1,1,0,1,0,0]),(cw Try.f9 [1,1,0,1,0,1]),1,none⟩,.flat false [vi p.Hq,vi p.Hg],.flat false [.dU 3 4 false 0 2],.qe,.flat false (dc fV p.vR),.flat false (dc dI p.wW),.flat false (dc p9 p.xn),.flat false [vi p.yw,vi p.yh,vi p.yy,.sl yU p.ya],.flat false (dc dI p.Gy),.flat false [vi p.Hz],.flat false (dc dI p.GV),.dead]⟩
 | .c9 p=>⟨[⟨3,165,(en [(2,vi p.Ke),(5,vb p.z91),(7,.ptr 0 0),(8,.ptr 1 0),(13,.ptr 2 0),(17,vb p.Kl),(22,.dU 3 4 false 0 2)]),[.code (cw Try.f3 [1,1,1,1,1,1,1,1,1,1,0,0]),.code (cw Try.f3 [1,1,1,1,1,1,1,1,1,1,0,1]),.code (cw Try.f3 [1,1,1,1,1,1,1,1,1,1,1])],[],none⟩],[.flat false (dc fV p.Kg),.flat false (dc dI p.Kb),.flat false [vi p.wE,vi p.w7,vi p.w5,.sl yU p.kK],.flat false [vi 2,vi p.kl,vi p.jZ,.sl yU p.j6,vi 0,vi 0,vi 0,.du true],.dead]⟩
 | .c10 p z104=>⟨[⟨9,85,(en [(4,.ptr 0 0),(8,.ptr 1 0),(9,.ptr 2 0),(10,vi p.L_),(56,.dU 3 4 false 0 2),(57,vi 2),(58,vi z104)]),[.inLoop (cw Try.f9 [1,1,0,1,0,1,0,1,1,0,0]),.inBlock 3,.inBlock 2],[],some 4⟩,⟨33,37,(en [(0,.yield 4),(24,.dU 5 1 false p.z105 p.Ha),(25,vi p.z107),(26,vi p.Gs)]),[.ops (ow Try.f33 [1,1,1,0,0,1,1,0,0,1,0]) ((ow Try.f33 [1,1,1,0,0,1,1,0,0,1,0]).toList.drop 3),.code (cw Try.f33 [1,1,1,0,0,1,1,0,0,1,1]),.inBlock 1,.code (cw Try.f33 [1,1,1,0,0,1,1,1]),.inLoop (cw Try.f33 [1,1,1,0,0]),.inBlock 0],[],none⟩,⟨9,85,(en [(7,.ptr 6 0),(8,.ptr 1 0),(9,.ptr 2 0)]),[.fy 4,.inBlock 1,.code (cw Try.f9 [1,1,1])],[7],none⟩,⟨3,165,(en [(2,vi p.z109),(4,vi p.tX),(5,vb p.pG),(7,.ptr 8 0),(8,.ptr 9 0),(10,.ptr 10 0),(13,.ptr 11 0),(17,vb p.im),(22,.dU 3 4 false 0 2)]),[.ops (ow Try.f3 [1,1,1,1,1,1,1,1,0]) ((ow Try.f3 [1,1,1,1,1,1,1,1,0]).toList.drop 4),.code (cw Try.f3 [1,1,1,1,1,1,1,1,1])],[],none⟩],[.flat false (dc fV p.jV),.flat false [vi 0,vi 0,vi 0,vi 0,vi 0,vi 0,vi 0,vi 0,vi 0,vi 0,vi 0,.du true,vi 0],.flat false [vi 0],.flat false [vi 2,vi p.iJ,vi p.fZ,.sl yU p.f_,vi 0,vi 0,vi 0,.du true],.loop ⟨9,85,(en [(2,vi p.BJ),(4,.ptr 0 0),(5,.ptr 14 0),(7,.ptr 6 0),(8,.ptr 1 0),(9,.ptr 2 0),(49,.agg (dc dI p.BU)),(50,vi p.DF),(51,.fn 33 [] [.ptr 12 0,.ptr 13 0])]),[52,53],(cw Try.f9 [1,1,0,1,0,0]),(cw Try.f9 [1,1,0,1,0,1]),1,none⟩,.flat false [vi p.Be,vi p.AT],.flat false [.dU 3 4 false 0 2],.qe,.flat false (dc fV p.oU),.flat false (dc dI p.pM),.flat false (dc p9 p.pT),.flat false [vi p.sH,vi p.qO,vi p.rE,.sl yU p.rD],.flat false (dc dI p.Cs),.flat false [vi p.B8],.flat false (dc dI p.Bw),.dead]⟩
 | .c11 p=>⟨[⟨3,165,(en [(2,vi p.yn),(7,.ptr 0 0),(8,.ptr 1 0),(17,vb p.GY),(22,.dU 2 4 false 0 2)]),[.code (cw Try.f3 [1,1,1,1,1,1,1,1,1,1,1,0]),.code (cw Try.f3 [1,1,1,1,1,1,1,1,1,1,1,1])],[],none⟩],[.flat false (dc fV p.Ax),.flat false (dc dI p.s_),.flat false [vi p.z116,vi p.z117,vi p.GF,.sl yU p.z119,vi p.Ca,vi p.Fy,vi p.BV,.sl yU p.Bp],.dead]⟩
 | .c12 p=>⟨[⟨9,85,(en [(2,vi p.jk),(4,.ptr 0 0),(5,.ptr 1 0),(7,.ptr 2 0),(8,.ptr 3 0),(9,.ptr 4 0)]),[.code (cw Try.f9 [1,1,0,0]),.code (cw Try.f9 [1,1,0,1]),.code (cw Try.f9 [1,1,1])],[],none⟩,⟨3,165,(en [(2,vi p.Ez),(4,.undef),(5,.undef),(7,.ptr 5 0),(8,.ptr 6 0),(10,.undef),(13,.undef),(17,vb p.Bf),(22,.dU 7 4 false 0 2)]),[.ops (ow Try.f3 [1,1,1,1,1,1,1,1,1,1,1,0]) ((ow Try.f3 [1,1,1,1,1,1,1,1,1,1,1,0]).toList.drop 4),.code (cw Try.f3 [1,1,1,1,1,1,1,1,1,1,1,1])],[],none⟩],[.flat false (dc fV p.EC),.flat false (dc dI p.iK),.flat false [.dU 7 4 false 0 2],.flat false [vi 0,vi 0,vi 0,vi 0,vi 0,vi 0,vi 0,vi 0,vi 0,vi 0,vi 0,.du true,vi 0],.flat false [vi 0],.flat false (dc fV p.y7),.flat false (dc dI p.yV),.flat false [vi p.wy,vi p.yP,vi p.v7,.sl yU p.wM,vi p.wL,vi p.zr,vi p.xx,.sl yU p.xg],.dead]⟩
 | .c13 p z133=>⟨[⟨37,19,(en [(0,.dU 0 4 false 0 2),(1,.fn 25 [] []),(7,vi 2),(8,vi z133)]),[.inLoop (cw Try.f37 [1,0,1,0,0]),.inBlock 0,.code (cw Try.f37 [1,1])],[],none⟩,⟨24,9,.leaf,[.ops (ow Try.f24 [1,0]) ((ow Try.f24 [1,0]).toList.drop 2),.code .ret],[],none⟩,⟨9,85,(en [(8,.ptr 1 0),(9,.ptr 2 0)]),[.ops (ow Try.f9 [1,1,1,0,0]) ((ow Try.f9 [1,1,1,0,0]).toList.drop 1),.code (cw Try.f9 [1,1,1,0,1]),.code (cw Try.f9 [1,1,1,1])],[3],none⟩,⟨3,165,(en [(2,vi p.Mm),(4,.undef),(5,.undef),(7,.ptr 4 0),(8,.ptr 5 0),(10,.undef),(13,.undef),(17,vb p.Bt),(22,.dU 0 4 false 0 2)]),[.ops (ow Try.f3 [1,1,1,1,1,1,1,1,1,1,1,0]) ((ow Try.f3 [1,1,1,1,1,1,1,1,1,1,1,0]).toList.drop 4),.code (cw Try.f3 [1,1,1,1,1,1,1,1,1,1,1,1])],[],none⟩],[.flat false [vi p.z138,vi p.z139,vi p.Fw,.sl yU p.F3,vi p.FY,vi p.E6,vi p.Fq,.sl yU p.Fv],.flat false [vi 0,vi 0,vi 0,vi 0,vi 0,vi 0,vi 0,vi 0,vi 0,vi 0,vi 0,.du true,vi 0],.flat false [vi 0],.qe,.flat false (dc fV p.I6),.flat false (dc dI p.H_),.dead]⟩
 | .c14 p=>⟨[⟨33,37,(en [(0,.yield 0),(24,.dU 1 1 false p.EE p.z141),(25,vi p.EV),(26,vi p.z143)]),[.inLoop (cw Try.f33 [1,1,1,0,0]),.inBlock 0],[],none⟩,⟨9,85,(en [(7,.ptr 2 0),(8,.ptr 3 0),(9,.ptr 4 0)]),[.fy 0,.inBlock 1,.code (cw Try.f9 [1,1,1])],[5],none⟩,⟨3,165,(en [(2,vi p.Gh),(4,.undef),(5,.undef),(7,.ptr 6 0),(8,.ptr 7 0),(10,.undef),(13,.undef),(17,vb p.z145),(22,.dU 8 4 false 0 2)]),[.ops (ow Try.f3 [1,1,1,1,1,1,1,1,1,1,1,0]) ((ow Try.f3 [1,1,1,1,1,1,1,1,1,1,1,0]).toList.drop 4),.code (cw Try.f3 [1,1,1,1,1,1,1,1,1,1,1,1])],[],none⟩],[.loop ⟨9,85,(en [(2,vi p.z148),(4,.ptr 12 0),(5,.ptr 11 0),(7,.ptr 2 0),(8,.ptr 3 0),(9,.ptr 4 0),(49,.agg (dc dI p.J4)),(50,vi p.FE),(51,.fn 33 [] [.ptr 9 0,.ptr 10 0])]),[52,53],(cw Try.f9 [1,1,0,1,0,0]),(cw Try.f9 [1,1,0,1,0,1]),0,none⟩,.flat false [vi p.zu,vi p.y8],.flat false [.dU 8 4 false 0 2],.flat false [vi 0,vi 0,vi 0,vi 0,vi 0,vi 0,vi 0,vi 0,vi 0,vi 0,vi 0,.du true,vi 0],.flat false [vi 0],.qe,.flat false (dc fV p.Cf),.flat false (dc dI p.C3),.flat false [vi p.yZ,vi p.BI,vi p.yL,.sl yU p.zh,vi p.yS,vi p.Df,vi p.yM,.sl yU p.zj],.flat false (dc dI p.FF),.flat false [vi p.FT],.flat false (dc dI p.FN),.flat false (dc fV p.uj),.dead]⟩
 | .gY p z154=>⟨[⟨9,85,(en [(4,.ptr 0 0),(8,.ptr 1 0),(9,.ptr 2 0),(10,vi p.Nb),(56,.dU 3 4 false 0 2),(57,vi 2),(58,vi z154)]),[.inLoop (cw Try.f9 [1,1,0,1,0,1,0,1,1,0,0]),.inBlock 3,.inBlock 2],[],some 4⟩,⟨33,37,(en [(0,.yield 4),(24,.dU 5 1 false p.GZ p.z156),(25,vi p.z157),(26,vi p.Gd)]),[.ops (ow Try.f33 [1,1,1,0,0,1,1,0,0,1,0]) ((ow Try.f33 [1,1,1,0,0,1,1,0,0,1,0]).toList.drop 3),.code (cw Try.f33 [1,1,1,0,0,1,1,0,0,1,1]),.inBlock 1,.code (cw Try.f33 [1,1,1,0,0,1,1,1]),.inLoop (cw Try.f33 [1,1,1,0,0]),.inBlock 0],[],none⟩,⟨9,85,(en [(7,.ptr 6 0),(8,.ptr 1 0),(9,.ptr 2 0)]),[.fy 4,.inBlock 1,.code (cw Try.f9 [1,1,1])],[7],none⟩,⟨3,165,(en [(2,vi p.z159),(4,.undef),(5,.undef),(7,.ptr 8 0),(8,.ptr 9 0),(10,.undef),(13,.undef),(17,vb p.y9),(22,.dU 3 4 false 0 2)]),[.ops (ow Try.f3 [1,1,1,1,1,1,1,1,1,1,1,0]) ((ow Try.f3 [1,1,1,1,1,1,1,1,1,1,1,0]).toList.drop 4),.code (cw Try.f3 [1,1,1,1,1,1,1,1,1,1,1,1])],[],none⟩],[.flat false (dc fV p.oQ),.flat false [vi 0,vi 0,vi 0,vi 0,vi 0,vi 0,vi 0,vi 0,vi 0,vi 0,vi 0,.du true,vi 0],.flat false [vi 0],.flat false [vi p.mE,vi p.pQ,vi p.ny,.sl yU p.mC,vi p.nK,vi p.pz,vi p.nE,.sl yU p.nz],.loop ⟨9,85,(en [(2,vi p.Dz),(4,.ptr 0 0),(5,.ptr 12 0),(7,.ptr 6 0),(8,.ptr 1 0),(9,.ptr 2 0),(49,.agg (dc dI p.AU)),(50,vi p.B4),(51,.fn 33 [] [.ptr 10 0,.ptr 11 0])]),[52,53],(cw Try.f9 [1,1,0,1,0,0]),(cw Try.f9 [1,1,0,1,0,1]),1,none⟩,.flat false [vi p.CZ,vi p.CY],.flat false [.dU 3 4 false 0 2],.qe,.flat false (dc fV p.Dq),.flat false (dc dI p.AX),.flat false (dc dI p.Dk),.flat false [vi p.A7],.flat false (dc dI p.CX),.dead]⟩
def J7(A:cH)(c:fX)(v:fx)(sender:Int)(f:i_)(at1:Int)(second:Bool)(other:Seen):LT Bool Kd:=.need (A.k (@tt ((Int×Int×(Int×Int×Int×Int×Int)×Int×List Int))) f) (.need (A.k (@tt Unit) ()) (.br (A.not (A.k qc ())) (.need (A.k (@tt Unit) ()) (.ret (A.k qc ()))) (.br (A.c .neq (A.k Ac f).2 0) (.need (A.k (@tt Unit) ()) (.ret (A.k qc ()))) (.br (A.c .eql f.1 1) (.need (A.k (@tt Unit) ()) (.ret (A.k qc ()))) (.need (A.k (@tt ((Int×Int×Int×Int×Int×Int×Int))) v) (.br (A.c .neq (A.k su v) 0) (.need (A.k (@tt Unit) ()) (.ret (A.k qc ()))) (.need (A.k (@tt ((Int×Int×Int×Int×Int)×Int)) (c,v.2.1)) (.br (A.c .neq (A.k xb (c,v.2.1)) 0) (.need (A.k (@tt Unit) ()) (.ret (A.k qc ()))) (.br (A.c .lss sender 0) (.need (A.k (@tt Unit) ()) (.ret (A.k qc ()))) (.br (A.c .geq sender v.2.1) (.need (A.k (@tt Unit) ()) (.ret (A.k qc ()))) (.br (A.c .eql sender v.1) (.need (A.k (@tt Unit) ()) (.ret (A.k qc ()))) (.need (A.k (@tt ((Int×Int×Int×Int×Int×Int×Int)×Int)) (v,sender)) (.more (.c0 ⟨sender,at1,second,(A.k Ak (v,sender)),(A.l (A.k Ak (v,sender))),c,v,f,other.1,other.2.1,other.2.2.1,other.2.2.2,(A.k Ac f).1.1,(A.k Ac f).1.2⟩ false 0))))))))))))))
def eX(A:cH):Kd→LT Bool Kd
 | .c0 p a3 a6=>.br (A.c .lss a6 p.a5) (.need (A.and (A.c .leq 0 a6) (A.c .lss a6 (A.l p.a4))) (.br a3 (.more (.c0 p true (A.b .add .i64 a6 1))) (.more (.c0 p (A.and (A.c .eql p.a9.2.2.1.1 p.a7.1) (A.and (A.c .eql p.a9.2.2.1.2.1 p.a7.2.1) (A.and (A.c .eql p.a9.2.2.1.2.2.1 p.a7.2.2.1) (A.and (A.c .eql p.a9.2.2.1.2.2.2.1 p.a7.2.2.2.1) (A.and (A.c .eql p.a9.2.2.1.2.2.2.2 (A.n yI p.a4 a6:Int)) true))))) (A.b .add .i64 a6 1))))) (.br p.a2 (.need (A.k (@tt ((Int×Int×Int×Int×Int×Int×Int))) p.a8) (.br (A.c .neq (A.k jo p.a8) 0) (.ret false) (.need (A.k (@tt ((Int×Int×Int×Int×Int)×Int)) (p.a7,p.a8.2.1)) (.br (A.c .neq (A.k j4 (p.a7,p.a8.2.1)) 0) (.ret false) (.br (A.c .lss p.a0 0) (.ret false) (.br (A.c .geq p.a0 p.a8.2.1) (.ret false) (.br (A.c .eql p.a0 p.a8.1) (.ret false) (.more (.c1 ⟨p.a0,p.a0,p.a1,p.a2,a3,p.a7,p.a8,p.a7,p.a8,p.a9,p.lu,p.mg,p.a12,p.sU,p.a1,p.lf,p.lz⟩))))))))) (.need (A.k (@tt ((Int×Int×Int×Int×Int×Int×Int))) p.a8) (.br (A.c .neq (A.k jo p.a8) 0) (.ret false) (.need (A.k (@tt ((Int×Int×Int×Int×Int)×Int)) (p.a7,p.a8.2.1)) (.br (A.c .neq (A.k j4 (p.a7,p.a8.2.1)) 0) (.ret false) (.br (A.c .lss p.a0 0) (.ret false) (.br (A.c .geq p.a0 p.a8.2.1) (.ret false) (.br (A.c .eql p.a0 p.a8.1) (.ret false) (.more (.c2 ⟨p.a0,p.a0,p.a1,p.a2,a3,p.a7,p.a8,p.a7,p.a8,p.a9,p.lu,p.mg,p.a12,p.sU,p.a1,p.lf,p.lz⟩))))))))))
 | .c1 p=>.need (A.k (@tt ((Int×Int×Int×Int×Int×Int×Int))) p.b8) (.br (A.c .neq (A.k jo p.b8) 0) (.more (.c3 ⟨p.b1,p.b2,p.b3,p.b4,p.pF,p.pN,p.pj,p.sO,p.ij,p.i6,p.iN,p.je,p.lN,p.lM⟩ 0)) (.need (A.k (@tt ((Int×Int×Int×Int×Int×Int×Int)×Int)) (p.b8,p.b0)) (.br (A.not (A.k sV (p.b8,p.b0))) (.more (.c3 ⟨p.b1,p.b2,p.b3,p.b4,p.pF,p.pN,p.pj,p.sO,p.ij,p.i6,p.iN,p.je,p.lN,p.lM⟩ 0)) (.need (A.k pE (p.b8,p.b0)) (.need (A.and (A.c .leq 0 0) (A.and (A.c .leq 0 (A.k bq (p.b8,p.b0)).2) (A.c .leq (A.k bq (p.b8,p.b0)).2 2))) (.more (.c4 ⟨(A.b .add .i64 0 0),(A.b .sub .i64 (A.k bq (p.b8,p.b0)).2 0),(A.b .sub .i64 (A.k bq (p.b8,p.b0)).2 0),0,p.b1,p.b2,p.b3,p.b4,p.b0,p.b8,p.b0,(A.n yI (A.k bq (p.b8,p.b0)).1 0:Int),(A.n yI (A.k bq (p.b8,p.b0)).1 1:Int),p.sO,p.ij,p.i6,p.iN,p.je,p.lN,p.lM,p.pF,p.pN,p.pj,p.b8,p.b0,p.b8,p.b7⟩)))))))
 | .c2 p=>.need (A.k (@tt ((Int×Int×Int×Int×Int×Int×Int))) p.c8) (.br (A.c .neq (A.k jo p.c8) 0) (.more (.c5 ⟨p.c1,p.c2,p.c3,p.c4,p.DU,p.DV,p.c28,p.v_,p.c19,p.c20,p.c21,p.zP,p.c23,p.c24⟩ 0)) (.need (A.k (@tt ((Int×Int×Int×Int×Int×Int×Int)×Int)) (p.c8,p.c0)) (.br (A.not (A.k sV (p.c8,p.c0))) (.more (.c5 ⟨p.c1,p.c2,p.c3,p.c4,p.DU,p.DV,p.c28,p.v_,p.c19,p.c20,p.c21,p.zP,p.c23,p.c24⟩ 0)) (.need (A.k pE (p.c8,p.c0)) (.need (A.and (A.c .leq 0 0) (A.and (A.c .leq 0 (A.k bq (p.c8,p.c0)).2) (A.c .leq (A.k bq (p.c8,p.c0)).2 2))) (.more (.c6 ⟨(A.b .add .i64 0 0),(A.b .sub .i64 (A.k bq (p.c8,p.c0)).2 0),(A.b .sub .i64 (A.k bq (p.c8,p.c0)).2 0),0,p.c1,p.c2,p.c3,p.c4,p.c0,p.c8,p.c0,(A.n yI (A.k bq (p.c8,p.c0)).1 0:Int),(A.n yI (A.k bq (p.c8,p.c0)).1 1:Int),p.v_,p.c19,p.c20,p.c21,p.zP,p.c23,p.c24,p.DU,p.DV,p.c28,p.c8,p.c0,p.c8,p.c7⟩)))))))
 | .c3 p d3=>.br (A.c .lss d3 2) (.need (A.and (A.c .leq 0 d3) (A.c .lss d3 2)) (.br (A.c .neq (A.n bo ([(0,0,0,([]:List Int)),(2,p.EL,p.DO,p.DT)]:List Seen) (A.b .add .i64 0 d3):Seen).1 0) (.br (A.c .geq d3 0) (.br p.d7 (.ret false) (.br (A.not p.d7) (.more (.c7 ⟨p.d4,p.d6,p.d7,p.Ef,p.tp,p.FW,p.E7,p.FQ,p.Fh,p.EL,p.DO,p.DT⟩)) (.more (.c7 ⟨p.d4,p.d6,p.d7,p.Ef,p.tp,p.FW,p.E7,p.FQ,p.Fh,p.EL,p.DO,p.DT⟩)))) (.br p.d7 (.ret false) (.br (A.not p.d7) (.ret false) (.more (.c7 ⟨p.d4,p.d6,p.d7,p.Ef,p.tp,p.FW,p.E7,p.FQ,p.Fh,p.EL,p.DO,p.DT⟩))))) (.more (.c3 p (A.b .add .i64 d3 1))))) (.br p.d7 (.ret false) (.br (A.not p.d7) (.ret false) (.more (.c7 ⟨p.d4,p.d6,p.d7,p.Ef,p.tp,p.FW,p.E7,p.FQ,p.Fh,p.EL,p.DO,p.DT⟩))))
 | .c4 p=>.br (A.c .lss p.e3 p.e2) (.need (A.and (A.c .leq 0 p.e3) (A.c .lss p.e3 p.e1)) (.more (.c8 ⟨p.e3,p.e0,p.e1,p.e2,p.e3,p.e4,p.e5,p.e6,p.e7,(p.e41.1,p.e41.2.1,p.e41.2.2.1,p.e41.2.2.2.1,(A.n yI [p.e13,p.e14] (A.b .add .i64 p.e0 p.e3):Int)),p.e35,p.e36,p.e37,p.e10,p.e11,p.e12,p.e13,p.e14,p.e24,p.e25,p.e26,p.e27,p.e28,p.e29,p.e30,p.e38,p.e39,p.e40⟩ 0))) (.more (.c3 ⟨p.e4,p.e5,p.e6,p.e7,p.e35,p.e36,p.e37,p.e24,p.e25,p.e26,p.e27,p.e28,p.e29,p.e30⟩ 0))
 | .c5 p f3=>.br (A.c .lss f3 2) (.need (A.and (A.c .leq 0 f3) (A.c .lss f3 2)) (.br (A.c .neq (A.n bo ([(2,p.f11,p.f12,p.f13),(0,0,0,([]:List Int))]:List Seen) (A.b .add .i64 0 f3):Seen).1 0) (.br (A.c .geq f3 0) (.br p.f7 (.ret false) (.br (A.not p.f7) (.more (.c9 ⟨p.f4,p.f6,p.f7,p.f24,p.f25,p.f27,p.f28,p.f29,p.f30,p.f11,p.f12,p.f13⟩)) (.more (.c9 ⟨p.f4,p.f6,p.f7,p.f24,p.f25,p.f27,p.f28,p.f29,p.f30,p.f11,p.f12,p.f13⟩)))) (.br p.f7 (.ret false) (.br (A.not p.f7) (.ret false) (.more (.c9 ⟨p.f4,p.f6,p.f7,p.f24,p.f25,p.f27,p.f28,p.f29,p.f30,p.f11,p.f12,p.f13⟩))))) (.more (.c5 p (A.b .add .i64 f3 1))))) (.br p.f7 (.ret false) (.br (A.not p.f7) (.ret false) (.more (.c9 ⟨p.f4,p.f6,p.f7,p.f24,p.f25,p.f27,p.f28,p.f29,p.f30,p.f11,p.f12,p.f13⟩))))
 | .c6 p=>.br (A.c .lss p.g3 p.g2) (.need (A.and (A.c .leq 0 p.g3) (A.c .lss p.g3 p.g1)) (.more (.c10 ⟨p.g3,p.g0,p.g1,p.g2,p.g3,p.g4,p.g5,p.g6,p.g7,(p.H5.1,p.H5.2.1,p.H5.2.2.1,p.H5.2.2.2.1,(A.n yI [p.g13,p.g14] (A.b .add .i64 p.g0 p.g3):Int)),p.Kn,p.J_,p.Kr,p.g10,p.g11,p.g12,p.g13,p.g14,p.g24,p.J9,p.Kk,p.Lf,p.Ma,p.KM,p.M2,p.Ob,p.NH,p.Nm⟩ 0))) (.more (.c5 ⟨p.g4,p.g5,p.g6,p.g7,p.Kn,p.J_,p.Kr,p.g24,p.J9,p.Kk,p.Lf,p.Ma,p.KM,p.M2⟩ 0))
 | .c7 p=>.br p.h1 (.need (A.and (A.c .leq 0 0) (A.c .lss 0 2)) (.more (.c11 ⟨p.h0,p.h2,p.h5,p.h6,(A.n bo (A.set ([(0,0,0,([]:List Int)),(2,p.vQ,p.h16,p.sN)]:List Seen) (A.b .add .i64 0 0) (p.h7,p.h8,p.h9,p.h10)) 0:Seen).1,(A.n bo (A.set ([(0,0,0,([]:List Int)),(2,p.vQ,p.h16,p.sN)]:List Seen) (A.b .add .i64 0 0) (p.h7,p.h8,p.h9,p.h10)) 0:Seen).2.1,(A.n bo (A.set ([(0,0,0,([]:List Int)),(2,p.vQ,p.h16,p.sN)]:List Seen) (A.b .add .i64 0 0) (p.h7,p.h8,p.h9,p.h10)) 0:Seen).2.2.1,(A.n bo (A.set ([(0,0,0,([]:List Int)),(2,p.vQ,p.h16,p.sN)]:List Seen) (A.b .add .i64 0 0) (p.h7,p.h8,p.h9,p.h10)) 0:Seen).2.2.2,(A.n bo (A.set ([(0,0,0,([]:List Int)),(2,p.vQ,p.h16,p.sN)]:List Seen) (A.b .add .i64 0 0) (p.h7,p.h8,p.h9,p.h10)) 1:Seen).1,(A.n bo (A.set ([(0,0,0,([]:List Int)),(2,p.vQ,p.h16,p.sN)]:List Seen) (A.b .add .i64 0 0) (p.h7,p.h8,p.h9,p.h10)) 1:Seen).2.1,(A.n bo (A.set ([(0,0,0,([]:List Int)),(2,p.vQ,p.h16,p.sN)]:List Seen) (A.b .add .i64 0 0) (p.h7,p.h8,p.h9,p.h10)) 1:Seen).2.2.1,(A.n bo (A.set ([(0,0,0,([]:List Int)),(2,p.vQ,p.h16,p.sN)]:List Seen) (A.b .add .i64 0 0) (p.h7,p.h8,p.h9,p.h10)) 1:Seen).2.2.2⟩))) (.need (A.and (A.c .leq 0 1) (A.c .lss 1 2)) (.more (.c11 ⟨p.h0,p.h2,p.h5,p.h6,(A.n bo (A.set ([(0,0,0,([]:List Int)),(2,p.vQ,p.h16,p.sN)]:List Seen) (A.b .add .i64 0 1) (p.h7,p.h8,p.h9,p.h10)) 0:Seen).1,(A.n bo (A.set ([(0,0,0,([]:List Int)),(2,p.vQ,p.h16,p.sN)]:List Seen) (A.b .add .i64 0 1) (p.h7,p.h8,p.h9,p.h10)) 0:Seen).2.1,(A.n bo (A.set ([(0,0,0,([]:List Int)),(2,p.vQ,p.h16,p.sN)]:List Seen) (A.b .add .i64 0 1) (p.h7,p.h8,p.h9,p.h10)) 0:Seen).2.2.1,(A.n bo (A.set ([(0,0,0,([]:List Int)),(2,p.vQ,p.h16,p.sN)]:List Seen) (A.b .add .i64 0 1) (p.h7,p.h8,p.h9,p.h10)) 0:Seen).2.2.2,(A.n bo (A.set ([(0,0,0,([]:List Int)),(2,p.vQ,p.h16,p.sN)]:List Seen) (A.b .add .i64 0 1) (p.h7,p.h8,p.h9,p.h10)) 1:Seen).1,(A.n bo (A.set ([(0,0,0,([]:List Int)),(2,p.vQ,p.h16,p.sN)]:List Seen) (A.b .add .i64 0 1) (p.h7,p.h8,p.h9,p.h10)) 1:Seen).2.1,(A.n bo (A.set ([(0,0,0,([]:List Int)),(2,p.vQ,p.h16,p.sN)]:List Seen) (A.b .add .i64 0 1) (p.h7,p.h8,p.h9,p.h10)) 1:Seen).2.2.1,(A.n bo (A.set ([(0,0,0,([]:List Int)),(2,p.vQ,p.h16,p.sN)]:List Seen) (A.b .add .i64 0 1) (p.h7,p.h8,p.h9,p.h10)) 1:Seen).2.2.2⟩)))
 | .c8 p z84=>.br (A.c .lss z84 2) (.need (A.and (A.c .leq 0 z84) (A.c .lss z84 2)) (.br (A.c .neq (A.n bo ([(0,0,0,([]:List Int)),(2,p.mq,p.jX,p.jY)]:List Seen) (A.b .add .i64 0 z84):Seen).1 2) (.more (.c8 p (A.b .add .i64 z84 1))) (.need (A.k (@tt ((Int×List Int)×(Int×Int×Int×Int×Int))) ((A.n bo ([(0,0,0,([]:List Int)),(2,p.mq,p.jX,p.jY)]:List Seen) (A.b .add .i64 0 z84):Seen).2.2,p.qa)) (.br (A.k fI ((A.n bo ([(0,0,0,([]:List Int)),(2,p.mq,p.jX,p.jY)]:List Seen) (A.b .add .i64 0 z84):Seen).2.2,p.qa)).2 (.br p.lZ (.br (A.c .neq (A.n bo ([(0,0,0,([]:List Int)),(2,p.mq,p.jX,p.jY)]:List Seen) (A.b .add .i64 0 z84):Seen).2.1 p.zM) (.ret false) (.need (A.k (@tt ((Int×Int×(Int×Int×Int×Int×Int)×Int×List Int)×(Int×Int×(Int×Int×Int×Int×Int)×Int×List Int))) ((A.k fI ((A.n bo ([(0,0,0,([]:List Int)),(2,p.mq,p.jX,p.jY)]:List Seen) (A.b .add .i64 0 z84):Seen).2.2,p.qa)).1,p.xn)) (.br (A.not (A.k yc ((A.k fI ((A.n bo ([(0,0,0,([]:List Int)),(2,p.mq,p.jX,p.jY)]:List Seen) (A.b .add .i64 0 z84):Seen).2.2,p.qa)).1,p.xn))) (.ret false) (.br (A.not p.lZ) (.ret false) (.more (.c7 ⟨p.z89,p.xq,p.lZ,p.vR,p.wW,p.yw,p.yh,p.yy,p.ya,p.mq,p.jX,p.jY⟩)))))) (.br (A.not p.lZ) (.ret false) (.more (.c7 ⟨p.z89,p.xq,p.lZ,p.vR,p.wW,p.yw,p.yh,p.yy,p.ya,p.mq,p.jX,p.jY⟩)))) (.more (.c8 p (A.b .add .i64 z84 1))))))) (.more (.c4 ⟨p.z85,p.z86,p.z87,(A.b .add .i64 p.Ld 1),p.z89,p.zM,p.xq,p.lZ,p.G2,p.Gc,p.F5,p.Hq,p.Hg,p.vR,p.wW,p.xn,p.yw,p.yh,p.yy,p.ya,p.mq,p.jX,p.jY,p.Gy,p.Hz,p.GV,p.qa⟩))
 | .c9 p=>.br p.z91 (.need (A.and (A.c .leq 0 0) (A.c .lss 0 2)) (.more (.c11 ⟨p.Ke,p.Kl,p.Kg,p.Kb,(A.n bo (A.set ([(2,p.kl,p.jZ,p.j6),(0,0,0,([]:List Int))]:List Seen) (A.b .add .i64 0 0) (p.wE,p.w7,p.w5,p.kK)) 0:Seen).1,(A.n bo (A.set ([(2,p.kl,p.jZ,p.j6),(0,0,0,([]:List Int))]:List Seen) (A.b .add .i64 0 0) (p.wE,p.w7,p.w5,p.kK)) 0:Seen).2.1,(A.n bo (A.set ([(2,p.kl,p.jZ,p.j6),(0,0,0,([]:List Int))]:List Seen) (A.b .add .i64 0 0) (p.wE,p.w7,p.w5,p.kK)) 0:Seen).2.2.1,(A.n bo (A.set ([(2,p.kl,p.jZ,p.j6),(0,0,0,([]:List Int))]:List Seen) (A.b .add .i64 0 0) (p.wE,p.w7,p.w5,p.kK)) 0:Seen).2.2.2,(A.n bo (A.set ([(2,p.kl,p.jZ,p.j6),(0,0,0,([]:List Int))]:List Seen) (A.b .add .i64 0 0) (p.wE,p.w7,p.w5,p.kK)) 1:Seen).1,(A.n bo (A.set ([(2,p.kl,p.jZ,p.j6),(0,0,0,([]:List Int))]:List Seen) (A.b .add .i64 0 0) (p.wE,p.w7,p.w5,p.kK)) 1:Seen).2.1,(A.n bo (A.set ([(2,p.kl,p.jZ,p.j6),(0,0,0,([]:List Int))]:List Seen) (A.b .add .i64 0 0) (p.wE,p.w7,p.w5,p.kK)) 1:Seen).2.2.1,(A.n bo (A.set ([(2,p.kl,p.jZ,p.j6),(0,0,0,([]:List Int))]:List Seen) (A.b .add .i64 0 0) (p.wE,p.w7,p.w5,p.kK)) 1:Seen).2.2.2⟩))) (.need (A.and (A.c .leq 0 1) (A.c .lss 1 2)) (.more (.c11 ⟨p.Ke,p.Kl,p.Kg,p.Kb,(A.n bo (A.set ([(2,p.kl,p.jZ,p.j6),(0,0,0,([]:List Int))]:List Seen) (A.b .add .i64 0 1) (p.wE,p.w7,p.w5,p.kK)) 0:Seen).1,(A.n bo (A.set ([(2,p.kl,p.jZ,p.j6),(0,0,0,([]:List Int))]:List Seen) (A.b .add .i64 0 1) (p.wE,p.w7,p.w5,p.kK)) 0:Seen).2.1,(A.n bo (A.set ([(2,p.kl,p.jZ,p.j6),(0,0,0,([]:List Int))]:List Seen) (A.b .add .i64 0 1) (p.wE,p.w7,p.w5,p.kK)) 0:Seen).2.2.1,(A.n bo (A.set ([(2,p.kl,p.jZ,p.j6),(0,0,0,([]:List Int))]:List Seen) (A.b .add .i64 0 1) (p.wE,p.w7,p.w5,p.kK)) 0:Seen).2.2.2,(A.n bo (A.set ([(2,p.kl,p.jZ,p.j6),(0,0,0,([]:List Int))]:List Seen) (A.b .add .i64 0 1) (p.wE,p.w7,p.w5,p.kK)) 1:Seen).1,(A.n bo (A.set ([(2,p.kl,p.jZ,p.j6),(0,0,0,([]:List Int))]:List Seen) (A.b .add .i64 0 1) (p.wE,p.w7,p.w5,p.kK)) 1:Seen).2.1,(A.n bo (A.set ([(2,p.kl,p.jZ,p.j6),(0,0,0,([]:List Int))]:List Seen) (A.b .add .i64 0 1) (p.wE,p.w7,p.w5,p.kK)) 1:Seen).2.2.1,(A.n bo (A.set ([(2,p.kl,p.jZ,p.j6),(0,0,0,([]:List Int))]:List Seen) (A.b .add .i64 0 1) (p.wE,p.w7,p.w5,p.kK)) 1:Seen).2.2.2⟩)))
 | .c10 p z104=>.br (A.c .lss z104 2) (.need (A.and (A.c .leq 0 z104) (A.c .lss z104 2)) (.br (A.c .neq (A.n bo ([(2,p.iJ,p.fZ,p.f_),(0,0,0,([]:List Int))]:List Seen) (A.b .add .i64 0 z104):Seen).1 2) (.more (.c10 p (A.b .add .i64 z104 1))) (.need (A.k (@tt ((Int×List Int)×(Int×Int×Int×Int×Int))) ((A.n bo ([(2,p.iJ,p.fZ,p.f_),(0,0,0,([]:List Int))]:List Seen) (A.b .add .i64 0 z104):Seen).2.2,p.jV)) (.br (A.k fI ((A.n bo ([(2,p.iJ,p.fZ,p.f_),(0,0,0,([]:List Int))]:List Seen) (A.b .add .i64 0 z104):Seen).2.2,p.jV)).2 (.br p.im (.br (A.c .neq (A.n bo ([(2,p.iJ,p.fZ,p.f_),(0,0,0,([]:List Int))]:List Seen) (A.b .add .i64 0 z104):Seen).2.1 p.tX) (.ret false) (.need (A.k (@tt ((Int×Int×(Int×Int×Int×Int×Int)×Int×List Int)×(Int×Int×(Int×Int×Int×Int×Int)×Int×List Int))) ((A.k fI ((A.n bo ([(2,p.iJ,p.fZ,p.f_),(0,0,0,([]:List Int))]:List Seen) (A.b .add .i64 0 z104):Seen).2.2,p.jV)).1,p.pT)) (.br (A.not (A.k yc ((A.k fI ((A.n bo ([(2,p.iJ,p.fZ,p.f_),(0,0,0,([]:List Int))]:List Seen) (A.b .add .i64 0 z104):Seen).2.2,p.jV)).1,p.pT))) (.ret false) (.br (A.not p.im) (.ret false) (.more (.c9 ⟨p.z109,p.pG,p.im,p.oU,p.pM,p.sH,p.qO,p.rE,p.rD,p.iJ,p.fZ,p.f_⟩)))))) (.br (A.not p.im) (.ret false) (.more (.c9 ⟨p.z109,p.pG,p.im,p.oU,p.pM,p.sH,p.qO,p.rE,p.rD,p.iJ,p.fZ,p.f_⟩)))) (.more (.c10 p (A.b .add .i64 z104 1))))))) (.more (.c6 ⟨p.z105,p.Ha,p.z107,(A.b .add .i64 p.Gs 1),p.z109,p.tX,p.pG,p.im,p.BJ,p.BU,p.DF,p.Be,p.AT,p.oU,p.pM,p.pT,p.sH,p.qO,p.rE,p.rD,p.iJ,p.fZ,p.f_,p.Cs,p.B8,p.Bw,p.jV⟩))
 | .c11 p=>.need (A.k (@tt ((Int×Int×Int×Int×Int×Int×Int))) p.s_) (.br (A.c .neq (A.k jo p.s_) 0) (.ret false) (.need (A.k (@tt ((Int×Int×Int×Int×Int)×Int)) (p.Ax,p.s_.2.1)) (.br (A.c .neq (A.k j4 (p.Ax,p.s_.2.1)) 0) (.ret false) (.br (A.c .lss p.yn 0) (.ret false) (.br (A.c .geq p.yn p.s_.2.1) (.ret false) (.br (A.c .eql p.yn p.s_.1) (.ret false) (.br (A.c .neq 2 2) (.ret false) (.more (.c12 ⟨p.yn,p.yn,p.GY,p.Ax,p.s_,p.Ax,p.s_,p.z116,p.z117,p.GF,p.z119,p.Ca,p.Fy,p.BV,p.Bp⟩)))))))))
 | .c12 p=>.need (A.k (@tt ((Int×Int×Int×Int×Int×Int×Int))) p.iK) (.br (A.c .neq (A.k jo p.iK) 0) (.more (.c13 ⟨p.Ez,p.Bf,p.wy,p.yP,p.v7,p.wM,p.wL,p.zr,p.xx,p.xg,p.y7,p.yV⟩ 0)) (.need (A.k (@tt ((Int×Int×Int×Int×Int×Int×Int)×Int)) (p.iK,p.jk)) (.br (A.not (A.k sV (p.iK,p.jk))) (.more (.c13 ⟨p.Ez,p.Bf,p.wy,p.yP,p.v7,p.wM,p.wL,p.zr,p.xx,p.xg,p.y7,p.yV⟩ 0)) (.need (A.k pE (p.iK,p.jk)) (.need (A.and (A.c .leq 0 0) (A.and (A.c .leq 0 (A.k bq (p.iK,p.jk)).2) (A.c .leq (A.k bq (p.iK,p.jk)).2 2))) (.more (.c14 ⟨(A.b .add .i64 0 0),(A.b .sub .i64 (A.k bq (p.iK,p.jk)).2 0),(A.b .sub .i64 (A.k bq (p.iK,p.jk)).2 0),0,p.Ez,p.Bf,p.jk,p.iK,p.jk,(A.n yI (A.k bq (p.iK,p.jk)).1 0:Int),(A.n yI (A.k bq (p.iK,p.jk)).1 1:Int),p.y7,p.yV,p.wy,p.yP,p.v7,p.wM,p.wL,p.zr,p.xx,p.xg,p.iK,p.jk,p.iK,p.EC⟩)))))))
 | .c13 p z133=>.br (A.c .lss z133 2) (.need (A.and (A.c .leq 0 z133) (A.c .lss z133 2)) (.br (A.c .neq (A.n bo ([(p.z138,p.z139,p.Fw,p.F3),(p.FY,p.E6,p.Fq,p.Fv)]:List Seen) (A.b .add .i64 0 z133):Seen).1 0) (.br (A.c .geq z133 0) (.br (A.not p.Bt) (.ret true) (.ret false)) (.br (A.not p.Bt) (.ret true) (.ret false))) (.more (.c13 p (A.b .add .i64 z133 1))))) (.br (A.not p.Bt) (.ret true) (.ret false))
 | .c14 p=>.br (A.c .lss p.z143 p.EV) (.need (A.and (A.c .leq 0 p.z143) (A.c .lss p.z143 p.z141)) (.more (.gY ⟨p.z143,p.EE,p.z141,p.EV,p.z143,p.Gh,p.z145,(p.uj.1,p.uj.2.1,p.uj.2.2.1,p.uj.2.2.2.1,(A.n yI [p.zu,p.y8] (A.b .add .i64 p.EE p.z143):Int)),p.yZ,p.BI,p.yL,p.zh,p.yS,p.Df,p.yM,p.zj,p.z148,p.J4,p.FE,p.zu,p.y8,p.Cf,p.C3,p.FF,p.FT,p.FN⟩ 0))) (.more (.c13 ⟨p.Gh,p.z145,p.yZ,p.BI,p.yL,p.zh,p.yS,p.Df,p.yM,p.zj,p.Cf,p.C3⟩ 0))
 | .gY p z154=>.br (A.c .lss z154 2) (.need (A.and (A.c .leq 0 z154) (A.c .lss z154 2)) (.br (A.c .neq (A.n bo ([(p.mE,p.pQ,p.ny,p.mC),(p.nK,p.pz,p.nE,p.nz)]:List Seen) (A.b .add .i64 0 z154):Seen).1 2) (.more (.gY p (A.b .add .i64 z154 1))) (.need (A.k (@tt ((Int×List Int)×(Int×Int×Int×Int×Int))) ((A.n bo ([(p.mE,p.pQ,p.ny,p.mC),(p.nK,p.pz,p.nE,p.nz)]:List Seen) (A.b .add .i64 0 z154):Seen).2.2,p.oQ)) (.br (A.k fI ((A.n bo ([(p.mE,p.pQ,p.ny,p.mC),(p.nK,p.pz,p.nE,p.nz)]:List Seen) (A.b .add .i64 0 z154):Seen).2.2,p.oQ)).2 (.br (A.not p.y9) (.ret true) (.ret true)) (.more (.gY p (A.b .add .i64 z154 1))))))) (.more (.c14 ⟨p.GZ,p.z156,p.z157,(A.b .add .i64 p.Gd 1),p.z159,p.y9,p.Dz,p.AU,p.B4,p.CZ,p.CY,p.Dq,p.AX,p.mE,p.pQ,p.ny,p.mC,p.nK,p.pz,p.nE,p.nz,p.Dk,p.A7,p.CX,p.oQ⟩))
theorem sU{p:Dp}(h:p.Bt=false):aA (eX ai) (.more (.c13 p 0)) true:=by
 have e2:aA (eX ai) (.more (.c13 p 2)) true:=by
  rw[ao,eX,h];exact(ah rfl).2 ((aj rfl).2 (.ret _))
 have st:∀z:Int,z=0∨z=1→aA (eX ai) (.more (.c13 p (ai.b .add .i64 z 1))) true→aA (eX ai) (.more (.c13 p z)) true:=fun z hz hn=>by
  rw[ao,eX,h]
  have tl:∀b,aA (eX ai) (.br b (.br (ai.not false) (.ret true) (.ret false)) (.br (ai.not false) (.ret true) (.ret false))) true:=fun b=>by
   cases b
   ·exact(ah rfl).2 ((aj rfl).2 (.ret _))
   ·exact(aj rfl).2 ((aj rfl).2 (.ret _))
  rcases hz with rfl|rfl
  ·exact(aj rfl).2 (af.2 ⟨rfl,gw (p:=¬_=(0:Int)) iv (fun _=>tl _) fun _=>hn⟩)
  ·exact(aj rfl).2 (af.2 ⟨rfl,gw (p:=¬_=(0:Int)) iv (fun _=>tl _) fun _=>hn⟩)
 exact st 0 (.inl rfl) (st 1 (.inr rfl) e2)
theorem lz{p:CL}{f:i_}{c:fX}{w:Int}(hf:eB f=true)(hb:aT f.2.2.2.2)(hk:¬f.1=1)(h0:p.oQ=vh c w)(hx:p.mE=2∧(p.ny,p.mC)=aU (aS f)∨p.nK=2∧(p.nE,p.nz)=aU (aS f))
  (hn:qw f c w=false→aA (eX ai) (.more (.c14 ⟨p.GZ,p.z156,p.z157,ai.b .add .i64 p.Gd 1,p.z159,p.y9,p.Dz,p.AU,p.B4,p.CZ,p.CY,p.Dq,p.AX,p.mE,p.pQ,p.ny,p.mC,p.nK,p.pz,p.nE,p.nz,p.Dk,p.A7,p.CX,p.oQ⟩)) true):aA (eX ai) (.more (.gY p 0)) true:=by
 have tl:∀b,aA (eX ai) (.br b (.ret true) (.ret true)) true:=fun b=>by
  cases b
  ·exact(ah rfl).2 (.ret _)
  ·exact(aj rfl).2 (.ret _)
 have st:∀(z:Int) (x:Seen),z=0∧x=(p.mE,p.pQ,p.ny,p.mC)∨z=1∧x=(p.nK,p.pz,p.nE,p.nz)→((x.1=2→(fI (x.2.2,p.oQ)).2=false)→aA (eX ai) (.more (.gY p (ai.b .add .i64 z 1))) true)→aA (eX ai) (.more (.gY p z)) true:=fun z x hz hs=>by
  have ex:(ai.n bo ([(p.mE,p.pQ,p.ny,p.mC),(p.nK,p.pz,p.nE,p.nz)]:List Seen) (ai.b .add .i64 0 z):Seen)=x:=by rcases hz with ⟨rfl,rfl⟩|⟨rfl,rfl⟩<;>rfl
  have ez:z=0∨z=1:=hz.imp And.left And.left
  rw[ao,eX,ex]
  refine(aj (by rcases ez with rfl|rfl<;>rfl)).2 (af.2 ⟨by rcases ez with rfl|rfl<;>rfl,gw (p:=¬x.1=2) iv (fun k=>hs fun k2=>absurd k2 k) fun k=>af.2 ⟨rfl,?_⟩⟩)
  rw[ap]
  cases hg:(fI (x.2.2,p.oQ)).2
  ·exact(ah rfl).2 (hs fun _=>hg)
  ·exact(aj rfl).2 (tl _)
 refine st 0 _ (.inl ⟨rfl,rfl⟩) fun g0=>st 1 _ (.inr ⟨rfl,rfl⟩) fun g1=>?_
 show aA (eX ai) (.more (.gY p 2)) true
 rw[ao,eX]
 refine(ah rfl).2 (hn ?_)
 rw[←vu hf hb hk]
 rcases hx with ⟨x1,x2⟩|⟨x1,x2⟩
 ·have:=g0 x1;rw[h0] at this;rw[←x2];exact this
 ·have:=g1 x1;rw[h0] at this;rw[←x2];exact this
theorem nj{i:Int}(h0:0≤i)(h1:i≤2):ai.b .add .i64 i 1=i+1:=by rw[cu,ji (by omega) (by omega)]
theorem CQ{w0 w1 o i:Int}(ho:o=0)(hi:i=0∨i=1):(ai.n yI [w0,w1] (ai.b .add .i64 o i):Int)=if i=0 then w0 else w1:=by
 subst ho
 rcases hi with rfl|rfl<;>rfl
theorem Dm{c d:fX}{w:Int}(h:∀w,vh d w=vh c w):(d.1,d.2.1,d.2.2.1,d.2.2.2.1,w)=vh c w:=h w
theorem lf{f:i_}{c:fX}{cnt w0 w1:Int}(hf:eB f=true)(hb:aT f.2.2.2.2)(hk:¬f.1=1)(hc:cnt≤2):∀(k:Nat) (p:CO),p.EE=0→p.z141=cnt→p.EV=cnt→0≤p.z143→p.z143+k=cnt→(∀w,vh p.uj w=vh c w)→(p.yZ=2∧(p.yL,p.zh)=aU (aS f)∨p.yS=2∧(p.yM,p.zj)=aU (aS f))→p.zu=w0→p.y8=w1→
  (p.z145=true→(p.z143≤0∧0<cnt∧qw f c w0=true)∨(p.z143≤1∧1<cnt∧qw f c w1=true))→aA (eX ai) (.more (.c14 p)) true:=by
 intro k
 induction k with
 | zero=>
   intro p h0 h1 h2 h3 h4 h5 h6 h7 h8 h9
   have hR:p.z145=false:=by
    cases hr:p.z145
    ·rfl
    ·have:=h9 hr;omega
   rw[ao,eX]
   exact(ah (by rw[al];exact decide_eq_false (by omega))).2 (sU hR)
 | succ k ih=>
   intro p h0 h1 h2 h3 h4 h5 h6 h7 h8 h9
   have hi:p.z143=0∨p.z143=1:=by omega
   rw[ao,eX]
   refine(aj (by rw[al];exact decide_eq_true (by omega))).2 (af.2 ⟨by rw[aD,ax,al,h1,decide_eq_true h3,decide_eq_true (show p.z143<cnt by omega)];rfl,?_⟩)
   rw[CQ h0 hi,h7,h8]
   refine lz (f:=f) (c:=c) (w:=if p.z143=0 then w0 else w1) hf hb hk (Dm h5) h6 fun hg=>?_
   refine ih _ h0 h1 h2 ?_ ?_ (fun w=>h5 w) h6 (by first|exact h7|rfl) (by first|exact h8|rfl) ?_
   ·show 0≤ai.b .add .i64 p.z143 1;rw[nj h3 (by omega)];omega
   ·show ai.b .add .i64 p.z143 1+k=cnt;rw[nj h3 (by omega)];omega
   ·intro hr
    show(ai.b .add .i64 p.z143 1≤0∧_)∨(ai.b .add .i64 p.z143 1≤1∧_)
    rw[nj h3 (by omega)]
    rcases hi with e|e
    ·rw[if_pos e] at hg
     rcases h9 hr with ⟨_,_,g⟩|⟨a,b,g⟩
     ·rw[hg] at g;cases g
     ·exact .inr ⟨by omega,b,g⟩
    ·rw[if_neg (by omega)] at hg
     rcases h9 hr with ⟨a,_,g⟩|⟨_,_,g⟩
     ·omega
     ·rw[hg] at g;cases g
def vA(v:fx)(s:Int):Int:=ai.n yI (bq (v,s)).1 0
def vB(v:fx)(s:Int):Int:=ai.n yI (bq (v,s)).1 1
def qW(f:i_)(c:fX)(v:fx)(s:Int):Prop:=(0<(bq (v,s)).2∧qw f c (vA v s)=true)∨(1<(bq (v,s)).2∧qw f c (vB v s)=true)
theorem lq{x:fx×Int}:ai.b .sub .i64 (bq x).2 0=(bq x).2:=by
 have:=fP (x:=x)
 rw[bC,ji (by omega) (by omega)];omega
theorem yx{x:fx×Int}:ai.and (ai.c .leq 0 0) (ai.and (ai.c .leq 0 (bq x).2) (ai.c .leq (bq x).2 2))=true:=by
 have:=fP (x:=x)
 rw[aD,aD,ax,ax,ax,decide_eq_true this.1,decide_eq_true this.2];rfl
theorem qJ{c:fX}{v:fx}{s:Int}{f:i_}(h:Hy c v s f):pE (v,s)=true:=by
 have h0:=h.v0;have h1:=h.s0
 obtain⟨a,b,x,d,e,g,i⟩:=v
 have hm:=jm.1 h0
 unfold DR at hm
 show(decide (0≤a)&&(decide (0≤i)&&decide (0≤s)))=true
 rw[decide_eq_true hm.2.2.1,decide_eq_true hm.2.2.2.2.1,decide_eq_true h1];rfl
theorem a12{p:Cx}{f:i_}{c:fX}{v:fx}{s:Int}(h:Hy c v s f)(h0:p.jk=s)(h5:p.EC=c)(h6:p.iK=v)(hx:p.wy=2∧(p.v7,p.wM)=aU (aS f)∨p.wL=2∧(p.xx,p.xg)=aU (aS f))(hR:p.Bf=true→qW f c v s):aA (eX ai) (.more (.c12 p)) true:=by
 subst h0 h5 h6
 rw[ao,eX]
 refine af.2 ⟨rfl,(ah (uL h.v1)).2 (af.2 ⟨rfl,(ah (by rw[ap,h.s3];rfl)).2 (af.2 ⟨qJ h,af.2 ⟨yx,?_⟩⟩)⟩)⟩
 have hl:=fP (x:=(p.iK,p.jk))
 refine lf (f:=f) (c:=p.EC) (cnt:=(bq (p.iK,p.jk)).2) (w0:=vA p.iK p.jk) (w1:=vB p.iK p.jk) h.f0 h.f1 h.f2 hl.2 (bq (p.iK,p.jk)).2.toNat _ rfl lq lq (Int.le_refl 0) ?_ (fun _=>rfl) hx rfl rfl ?_
 ·show(0:Int)+((bq (p.iK,p.jk)).2.toNat:Int)=_;omega
 ·intro hr
  rcases hR hr with ⟨a,b⟩|⟨a,b⟩
  ·exact .inl ⟨Int.le_refl 0,a,b⟩
  ·exact .inr ⟨(by omega:(0:Int)≤1),a,b⟩
theorem mg{p:CS}{f:i_}{c:fX}{v:fx}{s:Int}(h:Hy c v s f)(h0:p.yn=s)(h5:p.Ax=c)(h6:p.s_=v)(hx:p.z116=2∧(p.GF,p.z119)=aU (aS f)∨p.Ca=2∧(p.BV,p.Bp)=aU (aS f))(hR:p.GY=true→qW f c v s):aA (eX ai) (.more (.c11 p)) true:=by
 subst h0 h5 h6
 rw[ao,eX]
 refine af.2 ⟨rfl,(ah (uL h.v1)).2 (af.2 ⟨rfl,(ah (uL h.c0)).2 ((ah (by rw[al];exact decide_eq_false (Int.not_lt.2 h.s0))).2 ((ah (by rw[ay];exact decide_eq_false (Int.not_le.2 h.s1))).2 ((ah (by rw[kY];exact decide_eq_false h.s2)).2 ((ah rfl).2 (a12 h rfl rfl rfl hx hR)))))⟩)⟩
theorem zk{x:i_}:yc (x,x)=true:=by
 obtain⟨k,r,⟨t,p,m,n,s⟩,f,d⟩:=x
 have e:ai.z .eql (ai.bytes d) (ai.bytes d)=true:=by show((_:List UInt8)==_)=true;simp
 simp only[yc,t44,LT.val,Ad,e,cond_true]
 rfl
theorem a7{p:FG}{f:i_}{c:fX}{v:fx}{s:Int}(h:Hy c v s f)(h0:p.h0=s)(h1:p.h1=true)(h5:p.h5=c)(h6:p.h6=v)(hx:(p.h16,p.sN)=aU (aS f))(hR:p.h2=true→qW f c v s):aA (eX ai) (.more (.c7 p)) true:=by
 rw[ao,eX,h1]
 exact(aj rfl).2 (af.2 ⟨rfl,mg h h0 h5 h6 (.inr ⟨rfl,hx⟩) hR⟩)
theorem a3{p:Fg}{f:i_}{c:fX}{v:fx}{s:Int}(h:Hy c v s f)(h0:p.d4=s)(h1:p.d6=true)(h5:p.Ef=c)(h6:p.tp=v)(hx:(p.DO,p.DT)=aU (aS f))(hR:p.d7=false):aA (eX ai) (.more (.c3 p 0)) true:=by
 have hn:=a7 (p:=⟨p.d4,p.d6,p.d7,p.Ef,p.tp,p.FW,p.E7,p.FQ,p.Fh,p.EL,p.DO,p.DT⟩) h h0 h1 h5 h6 hx (fun k=>by rw[show p.d7=true from k] at hR;cases hR)
 rw[ao,eX]
 refine(aj rfl).2 (af.2 ⟨rfl,(ah rfl).2 ?_⟩)
 show aA (eX ai) (.more (.c3 p 1)) true
 rw[ao,eX]
 exact(aj rfl).2 (af.2 ⟨rfl,(aj rfl).2 ((aj rfl).2 ((ah hR).2 ((aj (by rw[hR];rfl)).2 hn)))⟩)
theorem a8{p:FH}{f:i_}{c:fX}{v:fx}{s w:Int}(h:Hy c v s f)(h0:p.z89=s)(h1:p.xq=true)(h5:p.vR=c)(h6:p.wW=v)(h7:p.xn=f)(hst:p.qa=vh c w)(hx:(p.jX,p.jY)=aU (aS f))(ha:p.mq=p.zM)(hR:p.lZ=true→qW f c v s)(hg:qw f c w=true→p.lZ=true)
  (hn:qw f c w=false→aA (eX ai) (.more (.c4 ⟨p.z85,p.z86,p.z87,ai.b .add .i64 p.Ld 1,p.z89,p.zM,p.xq,p.lZ,p.G2,p.Gc,p.F5,p.Hq,p.Hg,p.vR,p.wW,p.xn,p.yw,p.yh,p.yy,p.ya,p.mq,p.jX,p.jY,p.Gy,p.Hz,p.GV,p.qa⟩)) true):aA (eX ai) (.more (.c8 p 0)) true:=by
 have e2:qw f c w=false→aA (eX ai) (.more (.c8 p 2)) true:=fun g=>by
  rw[ao,eX];exact(ah rfl).2 (hn g)
 rw[ao,eX]
 refine(aj rfl).2 (af.2 ⟨rfl,(aj rfl).2 ?_⟩)
 show aA (eX ai) (.more (.c8 p 1)) true
 ·rw[ao,eX]
  have e53:ai.k fI ((p.jX,p.jY),p.qa)=fI (aU (aS f),vh c w):=by rw[ap,hx,hst]
  refine(aj rfl).2 (af.2 ⟨rfl,(ah rfl).2 (af.2 ⟨rfl,?_⟩)⟩)
  show aA (eX ai) (.br (ai.k fI ((p.jX,p.jY),p.qa)).2 (.br p.lZ (.br (ai.c .neq p.mq p.zM) (.ret false) (.need (ai.k (@tt (i_×i_)) ((ai.k fI ((p.jX,p.jY),p.qa)).1,p.xn)) (.br (ai.not (ai.k yc ((ai.k fI ((p.jX,p.jY),p.qa)).1,p.xn))) (.ret false) (.br (ai.not p.lZ) (.ret false) (.more (.c7 ⟨p.z89,p.xq,p.lZ,p.vR,p.wW,p.yw,p.yh,p.yy,p.ya,p.mq,p.jX,p.jY⟩)))))) (.br (ai.not p.lZ) (.ret false) (.more (.c7 ⟨p.z89,p.xq,p.lZ,p.vR,p.wW,p.yw,p.yh,p.yy,p.ya,p.mq,p.jX,p.jY⟩)))) (.more (.c8 p 2))) true
  rw[e53]
  cases g:qw f c w
  ·rw[vu h.f0 h.f1 h.f2,g]
   exact(ah rfl).2 (e2 g)
  ·have hr:=hg g
   rw[wm h.f0 h.f1 h.f2 g,hr,ha,h7]
   refine(aj rfl).2 ((aj rfl).2 ((ah tP).2 (af.2 ⟨rfl,(ah (by rw[ap,zk];rfl)).2 ((ah rfl).2 ?_)⟩)))
   exact a7 h h0 h1 h5 h6 hx (fun _=>hR hr)
theorem a4{f:i_}{c:fX}{v:fx}{s:Int}(h:Hy c v s f):∀(k:Nat) (p:Fz),p.e0=0→p.e1=(bq (v,s)).2→p.e2=(bq (v,s)).2→0≤p.e3→p.e3+k=(bq (v,s)).2→(∀w,vh p.e41 w=vh c w)→p.e4=s→p.e6=true→p.e24=c→p.e25=v→p.e26=f→(p.e36,p.e37)=aU (aS f)→p.e35=p.e5→p.e13=vA v s→p.e14=vB v s→
  (p.e7=true→(p.e3≤0∧0<(bq (v,s)).2∧qw f c (vA v s)=true)∨(p.e3≤1∧1<(bq (v,s)).2∧qw f c (vB v s)=true))→(qW f c v s→p.e7=true)→aA (eX ai) (.more (.c4 p)) true:=by
 have hc:=(fP (x:=(v,s))).2
 intro k
 induction k with
 | zero=>
   intro p h0 h1 h2 h3 h4 h5 a b d e g x y w0 w1 r1 r2
   have hR:p.e7=false:=by
    cases hr:p.e7
    ·rfl
    ·have:=r1 hr;omega
   rw[ao,eX]
   exact(ah (by rw[al];exact decide_eq_false (by omega))).2 (a3 h a b d e x hR)
 | succ k ih=>
   intro p h0 h1 h2 h3 h4 h5 a b d e g x y w0 w1 r1 r2
   have hi:p.e3=0∨p.e3=1:=by omega
   rw[ao,eX]
   refine(aj (by rw[al];exact decide_eq_true (by omega))).2 (af.2 ⟨by rw[aD,ax,al,h1,decide_eq_true h3,decide_eq_true (show p.e3<(bq (v,s)).2 by omega)];rfl,?_⟩)
   rw[CQ h0 hi,w0,w1]
   refine a8 (f:=f) (c:=c) (v:=v) (s:=s) (w:=if p.e3=0 then vA v s else vB v s) h a b d e g (Dm h5) x y (fun hr=>(r1 hr).imp (fun q=>q.2) (fun q=>q.2)) (fun hg=>r2 ?_) fun hg=>?_
   ·rcases hi with q|q
    ·rw[if_pos q] at hg;exact .inl ⟨by omega,hg⟩
    ·rw[if_neg (by omega)] at hg;exact .inr ⟨by omega,hg⟩
   refine ih _ h0 h1 h2 ?_ ?_ (fun w=>h5 w) a b d e g x y (by first|exact w0|rfl) (by first|exact w1|rfl) ?_ r2
   ·show 0≤ai.b .add .i64 p.e3 1;rw[nj h3 (by omega)];omega
   ·show ai.b .add .i64 p.e3 1+k=_;rw[nj h3 (by omega)];omega
   ·intro hr
    show(ai.b .add .i64 p.e3 1≤0∧_)∨(ai.b .add .i64 p.e3 1≤1∧_)
    rw[nj h3 (by omega)]
    rcases hi with q|q
    ·rw[if_pos q] at hg
     rcases r1 hr with ⟨_,_,g⟩|⟨_,b,g⟩
     ·rw[hg] at g;cases g
     ·exact .inr ⟨by omega,b,g⟩
    ·rw[if_neg (by omega)] at hg
     rcases r1 hr with ⟨a,_,g⟩|⟨_,_,g⟩
     ·omega
     ·rw[hg] at g;cases g
theorem a1{p:E9}{f:i_}{c:fX}{v:fx}{s:Int}(h:Hy c v s f)(h0:p.b0=s)(h1:p.b1=s)(h3:p.b3=true)(h7:p.b7=c)(h8:p.b8=v)(h18:p.sO=c)(h19:p.ij=v)(h20:p.i6=f)(ha:p.pF=p.b2)(hx:(p.pN,p.pj)=aU (aS f))(hR:p.b4=true↔qW f c v s):aA (eX ai) (.more (.c1 p)) true:=by
 rw[ao,eX,h8,h0]
 refine af.2 ⟨rfl,(ah (uL h.v1)).2 (af.2 ⟨rfl,(ah (by rw[ap,h.s3];rfl)).2 (af.2 ⟨qJ h,af.2 ⟨yx,?_⟩⟩)⟩)⟩
 have hl:=fP (x:=(v,s))
 refine a4 h (bq (v,s)).2.toNat _ rfl lq lq (Int.le_refl 0) ?_ (fun _=>by rw[h7]) h1 h3 h18 h19 h20 hx ha rfl rfl ?_ hR.2
 ·show(0:Int)+((bq (v,s)).2.toNat:Int)=_;omega
 ·intro hr
  rcases hR.1 hr with ⟨a,b⟩|⟨a,b⟩
  ·exact .inl ⟨Int.le_refl 0,a,b⟩
  ·exact .inr ⟨(by omega:(0:Int)≤1),a,b⟩
theorem a9{p:Fc}{f:i_}{c:fX}{v:fx}{s:Int}(h:Hy c v s f)(h0:p.Ke=s)(h1:p.z91=false)(h5:p.Kg=c)(h6:p.Kb=v)(hx:(p.jZ,p.j6)=aU (aS f))(hR:p.Kl=true→qW f c v s):aA (eX ai) (.more (.c9 p)) true:=by
 rw[ao,eX,h1]
 exact(ah rfl).2 (af.2 ⟨rfl,mg h h0 h5 h6 (.inl ⟨rfl,hx⟩) hR⟩)
theorem a5{p:E8}{f:i_}{c:fX}{v:fx}{s:Int}(h:Hy c v s f)(h0:p.f4=s)(h1:p.f6=false)(h5:p.f24=c)(h6:p.f25=v)(hx:(p.f12,p.f13)=aU (aS f))(hR:p.f7=false):aA (eX ai) (.more (.c5 p 0)) true:=by
 have hn:=a9 (p:=⟨p.f4,p.f6,p.f7,p.f24,p.f25,p.f27,p.f28,p.f29,p.f30,p.f11,p.f12,p.f13⟩) h h0 h1 h5 h6 hx (fun k=>by rw[show p.f7=true from k] at hR;cases hR)
 rw[ao,eX]
 exact(aj rfl).2 (af.2 ⟨rfl,(aj rfl).2 ((aj rfl).2 ((ah hR).2 ((aj (by rw[hR];rfl)).2 hn)))⟩)
theorem lu{p:AY}{f:i_}{c:fX}{v:fx}{s w:Int}(h:Hy c v s f)(h0:p.z109=s)(h1:p.pG=false)(h5:p.oU=c)(h6:p.pM=v)(h7:p.pT=f)(hst:p.jV=vh c w)(hx:(p.fZ,p.f_)=aU (aS f))(ha:p.iJ=p.tX)(hR:p.im=true→qW f c v s)(hg:qw f c w=true→p.im=true)
  (hn:qw f c w=false→aA (eX ai) (.more (.c6 ⟨p.z105,p.Ha,p.z107,ai.b .add .i64 p.Gs 1,p.z109,p.tX,p.pG,p.im,p.BJ,p.BU,p.DF,p.Be,p.AT,p.oU,p.pM,p.pT,p.sH,p.qO,p.rE,p.rD,p.iJ,p.fZ,p.f_,p.Cs,p.B8,p.Bw,p.jV⟩)) true):aA (eX ai) (.more (.c10 p 0)) true:=by
 have e2:qw f c w=false→aA (eX ai) (.more (.c10 p 2)) true:=fun g=>by
  rw[ao,eX];exact(ah rfl).2 (hn g)
 have e1:qw f c w=false→aA (eX ai) (.more (.c10 p 1)) true:=fun g=>by
  rw[ao,eX];exact(aj rfl).2 (af.2 ⟨rfl,(aj rfl).2 (e2 g)⟩)
 ·rw[ao,eX]
  have e53:ai.k fI ((p.fZ,p.f_),p.jV)=fI (aU (aS f),vh c w):=by rw[ap,hx,hst]
  refine(aj rfl).2 (af.2 ⟨rfl,(ah rfl).2 (af.2 ⟨rfl,?_⟩)⟩)
  show aA (eX ai) (.br (ai.k fI ((p.fZ,p.f_),p.jV)).2 (.br p.im (.br (ai.c .neq p.iJ p.tX) (.ret false) (.need (ai.k (@tt (i_×i_)) ((ai.k fI ((p.fZ,p.f_),p.jV)).1,p.pT)) (.br (ai.not (ai.k yc ((ai.k fI ((p.fZ,p.f_),p.jV)).1,p.pT))) (.ret false) (.br (ai.not p.im) (.ret false) (.more (.c9 ⟨p.z109,p.pG,p.im,p.oU,p.pM,p.sH,p.qO,p.rE,p.rD,p.iJ,p.fZ,p.f_⟩)))))) (.br (ai.not p.im) (.ret false) (.more (.c9 ⟨p.z109,p.pG,p.im,p.oU,p.pM,p.sH,p.qO,p.rE,p.rD,p.iJ,p.fZ,p.f_⟩)))) (.more (.c10 p 1))) true
  rw[e53]
  cases g:qw f c w
  ·rw[vu h.f0 h.f1 h.f2,g]
   exact(ah rfl).2 (e1 g)
  ·have hr:=hg g
   rw[wm h.f0 h.f1 h.f2 g,hr,ha,h7]
   refine(aj rfl).2 ((aj rfl).2 ((ah tP).2 (af.2 ⟨rfl,(ah (by rw[ap,zk];rfl)).2 ((ah rfl).2 ?_)⟩)))
   exact a9 h h0 h1 h5 h6 hx (fun _=>hR hr)
theorem a6{f:i_}{c:fX}{v:fx}{s:Int}(h:Hy c v s f):∀(k:Nat) (p:Fe),p.g0=0→p.g1=(bq (v,s)).2→p.g2=(bq (v,s)).2→0≤p.g3→p.g3+k=(bq (v,s)).2→(∀w,vh p.H5 w=vh c w)→p.g4=s→p.g6=false→p.g24=c→p.J9=v→p.Kk=f→(p.J_,p.Kr)=aU (aS f)→p.Kn=p.g5→p.g13=vA v s→p.g14=vB v s→
  (p.g7=true→(p.g3≤0∧0<(bq (v,s)).2∧qw f c (vA v s)=true)∨(p.g3≤1∧1<(bq (v,s)).2∧qw f c (vB v s)=true))→(qW f c v s→p.g7=true)→aA (eX ai) (.more (.c6 p)) true:=by
 have hc:=(fP (x:=(v,s))).2
 intro k
 induction k with
 | zero=>
   intro p h0 h1 h2 h3 h4 h5 a b d e g x y w0 w1 r1 r2
   have hR:p.g7=false:=by
    cases hr:p.g7
    ·rfl
    ·have:=r1 hr;omega
   rw[ao,eX]
   exact(ah (by rw[al];exact decide_eq_false (by omega))).2 (a5 h a b d e x hR)
 | succ k ih=>
   intro p h0 h1 h2 h3 h4 h5 a b d e g x y w0 w1 r1 r2
   have hi:p.g3=0∨p.g3=1:=by omega
   rw[ao,eX]
   refine(aj (by rw[al];exact decide_eq_true (by omega))).2 (af.2 ⟨by rw[aD,ax,al,h1,decide_eq_true h3,decide_eq_true (show p.g3<(bq (v,s)).2 by omega)];rfl,?_⟩)
   rw[CQ h0 hi,w0,w1]
   refine lu (f:=f) (c:=c) (v:=v) (s:=s) (w:=if p.g3=0 then vA v s else vB v s) h a b d e g (Dm h5) x y (fun hr=>(r1 hr).imp (fun q=>q.2) (fun q=>q.2)) (fun hg=>r2 ?_) fun hg=>?_
   ·rcases hi with q|q
    ·rw[if_pos q] at hg;exact .inl ⟨by omega,hg⟩
    ·rw[if_neg (by omega)] at hg;exact .inr ⟨by omega,hg⟩
   refine ih _ h0 h1 h2 ?_ ?_ (fun w=>h5 w) a b d e g x y (by first|exact w0|rfl) (by first|exact w1|rfl) ?_ r2
   ·show 0≤ai.b .add .i64 p.g3 1;rw[nj h3 (by omega)];omega
   ·show ai.b .add .i64 p.g3 1+k=_;rw[nj h3 (by omega)];omega
   ·intro hr
    show(ai.b .add .i64 p.g3 1≤0∧_)∨(ai.b .add .i64 p.g3 1≤1∧_)
    rw[nj h3 (by omega)]
    rcases hi with q|q
    ·rw[if_pos q] at hg
     rcases r1 hr with ⟨_,_,g⟩|⟨_,b,g⟩
     ·rw[hg] at g;cases g
     ·exact .inr ⟨by omega,b,g⟩
    ·rw[if_neg (by omega)] at hg
     rcases r1 hr with ⟨a,_,g⟩|⟨_,_,g⟩
     ·omega
     ·rw[hg] at g;cases g
theorem a2{p:FD}{f:i_}{c:fX}{v:fx}{s:Int}(h:Hy c v s f)(h0:p.c0=s)(h1:p.c1=s)(h3:p.c3=false)(h7:p.c7=c)(h8:p.c8=v)(h18:p.v_=c)(h19:p.c19=v)(h20:p.c20=f)(ha:p.DU=p.c2)(hx:(p.DV,p.c28)=aU (aS f))(hR:p.c4=true↔qW f c v s):aA (eX ai) (.more (.c2 p)) true:=by
 rw[ao,eX,h8,h0]
 refine af.2 ⟨rfl,(ah (uL h.v1)).2 (af.2 ⟨rfl,(ah (by rw[ap,h.s3];rfl)).2 (af.2 ⟨qJ h,af.2 ⟨yx,?_⟩⟩)⟩)⟩
 have hl:=fP (x:=(v,s))
 refine a6 h (bq (v,s)).2.toNat _ rfl lq lq (Int.le_refl 0) ?_ (fun _=>by rw[h7]) h1 h3 h18 h19 h20 hx ha rfl rfl ?_ hR.2
 ·show(0:Int)+((bq (v,s)).2.toNat:Int)=_;omega
 ·intro hr
  rcases hR.1 hr with ⟨a,b⟩|⟨a,b⟩
  ·exact .inl ⟨Int.le_refl 0,a,b⟩
  ·exact .inr ⟨(by omega:(0:Int)≤1),a,b⟩
theorem GX{f:i_}{c:fX}{w:Int}:ai.and (ai.c .eql f.2.2.1.1 c.1) (ai.and (ai.c .eql f.2.2.1.2.1 c.2.1) (ai.and (ai.c .eql f.2.2.1.2.2.1 c.2.2.1) (ai.and (ai.c .eql f.2.2.1.2.2.2.1 c.2.2.2.1) (ai.and (ai.c .eql f.2.2.1.2.2.2.2 w) true))))=qw f c w:=by
 rw[qw,Bool.eq_iff_iff]
 simp only[aD,kY,Bool.and_eq_true,decide_eq_true_eq,beq_iff_eq,and_true]
 generalize f.2.2.1=x
 obtain⟨a,b,d,e,g⟩:=x
 simp only[vh,Prod.mk.injEq]
theorem Le{p:zm}{f:i_}{c:fX}{v:fx}{s:Int}{r:Bool}{i:Int}(h:Hy c v s f)(h0:p.a0=s)(h7:p.a7=c)(h8:p.a8=v)(h9:p.a9=f)(hx:(p.lf,p.lz)=aU (aS f))(hi:i=p.a5)(hR:r=true↔qW f c v s):aA (eX ai) (.more (.c0 p r i)) true:=by
 subst h0 h7 h8 hi
 rw[ao,eX]
 refine(ah (by rw[al];exact decide_eq_false (Int.lt_irrefl _))).2 ?_
 have k1:ai.c .lss p.a0 0=false:=by rw[al];exact decide_eq_false (Int.not_lt.2 h.s0)
 have k2:ai.c .geq p.a0 p.a8.2.1=false:=by rw[ay];exact decide_eq_false (Int.not_le.2 h.s1)
 have k3:ai.c .eql p.a0 p.a8.1=false:=by rw[kY];exact decide_eq_false h.s2
 cases hs:p.a2
 ·refine(ah rfl).2 (af.2 ⟨rfl,(ah (uL h.v1)).2 (af.2 ⟨rfl,(ah (uL h.c0)).2 ((ah k1).2 ((ah k2).2 ((ah k3).2 ?_)))⟩)⟩)
  exact a2 h rfl rfl rfl rfl rfl rfl rfl h9 rfl hx hR
 ·refine(aj rfl).2 (af.2 ⟨rfl,(ah (uL h.v1)).2 (af.2 ⟨rfl,(ah (uL h.c0)).2 ((ah k1).2 ((ah k2).2 ((ah k3).2 ?_)))⟩)⟩)
  exact a1 h rfl rfl rfl rfl rfl rfl rfl h9 rfl hx hR
theorem Mp{p:zm}{r:Bool}{i w:Int}(hl:ai.c .lss i p.a5=true)(hn:ai.and (ai.c .leq 0 i) (ai.c .lss i (ai.l p.a4))=true)(hw:(ai.n yI p.a4 i:Int)=w)(h:aA (eX ai) (.more (.c0 p (r||qw p.a9 p.a7 w) (ai.b .add .i64 i 1))) true):aA (eX ai) (.more (.c0 p r i)) true:=by
 rw[ao,eX,hw,GX]
 refine(aj hl).2 (af.2 ⟨hn,?_⟩)
 cases r
 ·exact(ah rfl).2 h
 ·exact(aj rfl).2 h
theorem a0{p:zm}{f:i_}{c:fX}{v:fx}{s:Int}(h:Hy c v s f)(h0:p.a0=s)(h4:p.a4=(bq (v,s)).1.take (bq (v,s)).2.toNat)(h5:p.a5=ai.l p.a4)(h7:p.a7=c)(h8:p.a8=v)(h9:p.a9=f)(hx:(p.lf,p.lz)=aU (aS f)):aA (eX ai) (.more (.c0 p false 0)) true:=by
 have h2:=wh (x:=(v,s))
 have hl:=fP (x:=(v,s))
 obtain⟨x,y,hxy⟩:∃x y,(bq (v,s)).1=[x,y]:=by
  match (bq (v,s)).1,h2 with
  | [x,y],_=>exact⟨x,y,rfl⟩
 have hA:vA v s=x:=by rw[vA,hxy];rfl
 have hB:vB v s=y:=by rw[vB,hxy];rfl
 rw[hxy] at h4
 have hc:(bq (v,s)).2=0∨(bq (v,s)).2=1∨(bq (v,s)).2=2:=by omega
 rcases hc with hc|hc|hc
 ·rw[hc] at h4
  have h4:p.a4=[]:=h4
  refine Le h h0 h7 h8 h9 hx (by rw[h5,h4];rfl) ⟨fun k=>(by cases k),fun k=>?_⟩
  rcases k with ⟨k,_⟩|⟨k,_⟩<;>omega
 ·rw[hc] at h4
  have h4:p.a4=[x]:=h4
  refine Mp (w:=x) (by rw[h5,h4];rfl) (by rw[h4];rfl) (by rw[h4];rfl) (Le h h0 h7 h8 h9 hx (by rw[h5,h4];rfl) ?_)
  rw[h9,h7,Bool.false_or]
  refine⟨fun k=>.inl ⟨by omega,by rw[hA];exact k⟩,fun k=>?_⟩
  rcases k with ⟨_,k⟩|⟨k,_⟩
  ·rw[hA] at k;exact k
  ·omega
 ·rw[hc] at h4
  have h4:p.a4=[x,y]:=h4
  refine Mp (w:=x) (by rw[h5,h4];rfl) (by rw[h4];rfl) (by rw[h4];rfl) (Mp (w:=y) (by rw[h5,h4];rfl) (by rw[h4];rfl) (by rw[h4];rfl) (Le h h0 h7 h8 h9 hx (by rw[h5,h4];rfl) ?_))
  rw[h9,h7,Bool.false_or,Bool.or_eq_true]
  refine⟨fun k=>k.elim (fun k=>.inl ⟨by omega,by rw[hA];exact k⟩) (fun k=>.inr ⟨by omega,by rw[hB];exact k⟩),fun k=>?_⟩
  rcases k with ⟨_,k⟩|⟨_,k⟩
  ·rw[hA] at k;exact .inl k
  ·rw[hB] at k;exact .inr k
theorem GA{c:fX}{v:fx}{sender:Int}{f:i_}{at1:Int}{second:Bool}{other:Seen}(hh:Ty.cr [fV,dI,yI,p9,yI,.bool,bo] (c,v,sender,f,at1,second,other)):aA (eX ai) (J7 ai c v sender f at1 second other) true:=by
 unfold J7
 have no:aA (eX ai) (.need true (.ret (ai.k qc ()))) true:=af.2 ⟨rfl,oJ zx (.ret _)⟩
 refine af.2 ⟨rfl,af.2 ⟨rfl,(ah (by rw[ap,zx];rfl)).2 (gw (p:=¬(Ac f).2=0) iv (fun _=>no) fun g0=>gw (p:=f.1=1) kY (fun _=>no) fun g1=>af.2 ⟨rfl,gw (p:=¬su v=0) iv (fun _=>no) fun g2=>af.2 ⟨rfl,gw (p:=¬xb (c,v.2.1)=0) iv (fun _=>no) fun g3=>gw (p:=sender<0) rfl (fun _=>no) fun g4=>gw (p:=v.2.1≤sender) rfl (fun _=>no) fun g5=>gw (p:=sender=v.1) kY (fun _=>no) fun g6=>?_⟩⟩)⟩⟩
 have g0:=Decidable.not_not.1 g0
 have hfr:eB f=true:=by
  cases k:eB f
  ·have g0:(encS f).2=0:=g0
   rw[encS,k] at g0;exact absurd (show(50:Int)=0 from g0) (by decide)
  ·rfl
 have he:(Ac f).1=aU (aS f):=by show(encS f).1=_;rw[encS,hfr];rfl
 have h:Hy c v sender f:=⟨Decidable.not_not.1 g2,Decidable.not_not.1 g3,Int.not_lt.1 g4,Int.not_le.1 g5,g6,hfr,fun x hx=>xm.1 (hh.2.2.2.1.2.2.2.2.2 x hx),g1⟩
 have hv:Ak (v,sender)=(bq (v,sender)).1.take (bq (v,sender)).2.toNat:=by
  have h0:=h.v0;have h1:=h.s0;have h2:=h.s1;have h3:=h.s2
  obtain⟨a,b,x,d,e,g,i⟩:=v
  exact Ex (jm.1 h0) h1 h2 h3
 refine af.2 ⟨?_,a0 h rfl hv rfl rfl rfl rfl he⟩
 first|rfl|skip
def JD:(fX×fx×Int×i_×Int×Bool×Seen)→Bool:=fun _=>true
def Nc:aH:=⟨[fV,dI,yI,p9,yI,.bool,bo], [.bool],(@tt (fX×fx×Int×i_×Int×Bool×Seen)),JD⟩
theorem Mn:Sd 3 Nc:=aX aJ iC true 85 [⟨3,6, [[2,4,5,7,8,10,13,15,17,72,73,74]]⟩,⟨9,10, [[4,8,9,10,56,57,58], [0,24,25,26], [7,8,9], [2,4,5,7,8,10,13,17,22]]⟩,⟨33,3, [[0,24,25,26], [7,8,9], [2,4,5,7,8,10,13,17,22]]⟩,⟨37,2, [[0,1,7,8], [], [8,9], [2,4,5,7,8,10,13,17,22]]⟩] [⟨3,19, [[2,5,7,8,13,17,22]]⟩,⟨3,22, [[2,7,8,17,22]]⟩,⟨9,5, [[2,4,5,7,8,9], [2,4,5,7,8,10,13,17,22]]⟩] (fun A (c,v,sender,f,at1,second,other)=>J7 A c v sender f at1 second other) eX J8 (fc Try.func3 (fc Try.func9 (fc Try.func22 (fc Try.func24 (fc Try.func25 (fc Try.func33 (fc Try.func37 fz))))))) (sc Mx (sc JI (sc Gj (sc LW (sc L9 (sc Gi (sc Mh (sc Jt (sc Jm (sc IR (sc Aj sz))))))))))) (fun A y=>match y with |.c0 p a3 a6=>⟨151,by kernel_rfl,by kernel_rfl⟩|.c1 p=>⟨68,by kernel_rfl,by kernel_rfl⟩|.c2 p=>⟨68,by kernel_rfl,by kernel_rfl⟩|.c3 p d3=>⟨111,by kernel_rfl,by kernel_rfl⟩|.c4 p=>⟨52,by kernel_rfl,by kernel_rfl⟩|.c5 p f3=>⟨111,by kernel_rfl,by kernel_rfl⟩|.c6 p=>⟨52,by kernel_rfl,by kernel_rfl⟩|.c7 p=>⟨16,by kernel_rfl,by kernel_rfl⟩|.c8 p z84=>⟨117,by kernel_rfl,by kernel_rfl⟩|.c9 p=>⟨16,by kernel_rfl,by kernel_rfl⟩|.c10 p z104=>⟨117,by kernel_rfl,by kernel_rfl⟩|.c11 p=>⟨89,by kernel_rfl,by kernel_rfl⟩|.c12 p=>⟨68,by kernel_rfl,by kernel_rfl⟩|.c13 p z133=>⟨85,by kernel_rfl,by kernel_rfl⟩|.c14 p=>⟨52,by kernel_rfl,by kernel_rfl⟩|.gY p z154=>⟨91,by kernel_rfl,by kernel_rfl⟩) fun(c,v,sender,f,at1,second,other) hp h=>GA h
theorem Ju(x:fX×fx×Int×i_×Int×Bool×Seen)(h:Ty.cr [fV,dI,yI,p9,yI,.bool,bo] x):JD x=true:=rfl
end Go.Ev.M
