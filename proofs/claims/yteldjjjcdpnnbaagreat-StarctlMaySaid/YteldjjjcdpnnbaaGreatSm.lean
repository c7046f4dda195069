/-
  PROVED: StarctlMay, in plain Lean. Conditions: none.
-/
import Derived.Test.YteldjjjcdpnnbaaGreatCh
namespace Go.Ev.M
open Go.Proofs
set_option maxRecDepth 100000
set_option linter.unusedVariables false
set_option linter.unusedSimpArgs false
open Go.Ev.Pl
structure Jc where
 (a0:List Seen) (a1 a2 a3:Int) (a4:ak) (a5 a6 a7 a8:Node)
structure I8 where
 (b0:List Seen) (b1:ak) (b2 b3 b4 b5:Node)
structure LL where
 (c0:List Seen) (c1 c2 c3:Int) (c4:ak) (c5 c6 c7 c8:Node)
structure I_ where
 (d0:List Seen) (d1:ak) (d2 d3 d4:Node)
inductive Mw where
 | c0 (p:Jc)
 | c1 (p:I8)
 | c2 (p:LL)
 | c3 (p:I_)
noncomputable def PN:Mw→gB
 | .c0 p=>⟨[⟨12,145,(en [(5,.sl dA p.a0),(6,.ptr 0 0),(7,.ptr 1 0),(13,.fn 58 [] [.ptr 0 0]),(14,.ptr 2 0),(15,vi p.a1),(16,.ptr 3 0),(17,vi p.a2),(18,.ptr 4 0),(19,vi p.a3)]),[.code (cw Tryz.f12 [1,1,1,1,1,1,1,0,0]),.code (cw Tryz.f12 [1,1,1,1,1,1,1,0,1]),.code (cw Tryz.f12 [1,1,1,1,1,1,1,1])],[],none⟩],[.flat false (dc bd p.a4),.flat false (dc aQ p.a5),.flat false (dc aQ p.a6),.flat false (dc aQ p.a7),.flat false (dc aQ p.a8),.dead]⟩
 | .c1 p=>⟨[⟨12,145,(en [(5,.sl dA p.b0),(6,.ptr 0 0),(7,.ptr 1 0),(13,.fn 58 [] [.ptr 0 0]),(14,.ptr 2 0),(16,.ptr 3 0),(18,.ptr 4 0)]),[.code (cw Tryz.f12 [1,1,1,1,1,1,1,1,0]),.code (cw Tryz.f12 [1,1,1,1,1,1,1,1,1])],[],none⟩],[.flat false (dc bd p.b1),.flat false (dc aQ p.b2),.flat false (dc aQ p.b3),.flat false (dc aQ p.b4),.flat false (dc aQ p.b5),.dead]⟩
 | .c2 p=>⟨[⟨12,145,(en [(5,.sl dA p.c0),(6,.ptr 0 0),(7,.ptr 1 0),(13,.fn 58 [] [.ptr 0 0]),(14,.ptr 2 0),(15,vi p.c1),(16,.ptr 3 0),(17,vi p.c2),(18,.ptr 4 0),(19,vi p.c3)]),[.code (cw Tryz.f12 [1,1,1,1,1,1,1,1,1,1,1,0,0]),.code (cw Tryz.f12 [1,1,1,1,1,1,1,1,1,1,1,0,1]),.code (cw Tryz.f12 [1,1,1,1,1,1,1,1,1,1,1,1])],[],none⟩],[.flat false (dc bd p.c4),.flat false (dc aQ p.c5),.flat false (dc aQ p.c6),.flat false (dc aQ p.c7),.flat false (dc aQ p.c8),.dead]⟩
 | .c3 p=>⟨[⟨12,145,(en [(5,.sl dA p.d0),(6,.ptr 0 0),(7,.ptr 1 0),(13,.fn 58 [] [.ptr 0 0]),(14,.ptr 2 0),(16,.ptr 3 0)]),[.code (cw Tryz.f12 [1,1,1,1,1,1,1,1,1,1,1,1,0]),.code (cw Tryz.f12 [1,1,1,1,1,1,1,1,1,1,1,1,1])],[],none⟩],[.flat false (dc bd p.d1),.flat false (dc aQ p.d2),.flat false (dc aQ p.d3),.flat false (dc aQ p.d4),.dead]⟩
def Rc(A:bi)(m:ak)(n:Node)(set1:Int)(on:Bool)(o:xL)(seen:List Seen):LT Bool Mw:=.need (A.k (@tt Unit) ()) (.br (A.not (A.k C_ ())) (.need (A.k (@tt Unit) ()) (.ret (A.k C_ ()))) (.need (A.k (@tt Node) n) (.br (A.not (A.k Fp n)) (.need (A.k (@tt Unit) ()) (.ret (A.k C_ ()))) (.need (A.k (@tt (ak×Node)) (m,n)) (.br (A.c .neq (A.k bL (m,n)) 0) (.need (A.k (@tt Unit) ()) (.ret (A.k C_ ()))) (.need (A.k (@tt (List Seen)) seen) (.need (A.k (@tt (ak×Node×Int)) (m,n,set1)) (.need (A.k (@tt (ak×Node×Bool)) (m,n,on)) (.need (A.k (@tt (ak×Node×xL)) (m,n,o)) (.more (.c0 ⟨(A.k HV seen),(A.k F7 (m,n,set1)).2,(A.k mM (m,n,on)).2,(A.k FI (m,n,o)).2,m,n,(A.k F7 (m,n,set1)).1,(A.k mM (m,n,on)).1,(A.k FI (m,n,o)).1⟩)))))))))))
def uu(A:bi):Mw→LT Bool Mw
 | .c0 p=>.br (A.c .neq p.a1 0) (.br (A.c .neq p.a2 0) (.br (A.c .neq p.a3 0) (.more (.c1 ⟨p.a0,p.a4,p.a5,p.a6,p.a7,p.a8⟩)) (.need (A.k (@tt (ak×Node)) (p.a4,p.a8)) (.br (A.not (A.c .eql (A.k bL (p.a4,p.a8)) 0)) (.ret false) (.more (.c1 ⟨p.a0,p.a4,p.a5,p.a6,p.a7,p.a8⟩))))) (.need (A.k (@tt (ak×Node)) (p.a4,p.a7)) (.br (A.not (A.c .eql (A.k bL (p.a4,p.a7)) 0)) (.ret false) (.br (A.c .neq p.a3 0) (.more (.c1 ⟨p.a0,p.a4,p.a5,p.a6,p.a7,p.a8⟩)) (.need (A.k (@tt (ak×Node)) (p.a4,p.a8)) (.br (A.not (A.c .eql (A.k bL (p.a4,p.a8)) 0)) (.ret false) (.more (.c1 ⟨p.a0,p.a4,p.a5,p.a6,p.a7,p.a8⟩)))))))) (.need (A.k (@tt (ak×Node)) (p.a4,p.a6)) (.br (A.not (A.c .eql (A.k bL (p.a4,p.a6)) 0)) (.ret false) (.br (A.c .neq p.a2 0) (.br (A.c .neq p.a3 0) (.more (.c1 ⟨p.a0,p.a4,p.a5,p.a6,p.a7,p.a8⟩)) (.need (A.k (@tt (ak×Node)) (p.a4,p.a8)) (.br (A.not (A.c .eql (A.k bL (p.a4,p.a8)) 0)) (.ret false) (.more (.c1 ⟨p.a0,p.a4,p.a5,p.a6,p.a7,p.a8⟩))))) (.need (A.k (@tt (ak×Node)) (p.a4,p.a7)) (.br (A.not (A.c .eql (A.k bL (p.a4,p.a7)) 0)) (.ret false) (.br (A.c .neq p.a3 0) (.more (.c1 ⟨p.a0,p.a4,p.a5,p.a6,p.a7,p.a8⟩)) (.need (A.k (@tt (ak×Node)) (p.a4,p.a8)) (.br (A.not (A.c .eql (A.k bL (p.a4,p.a8)) 0)) (.ret false) (.more (.c1 ⟨p.a0,p.a4,p.a5,p.a6,p.a7,p.a8⟩))))))))))
 | .c1 p=>.need (A.k (@tt (ak×Node)) (p.b1,p.b2)) (.need (A.k (@tt (ak×Node×List Seen)) (p.b1,p.b2,p.b0)) (.need (A.k (@tt (ak×Node)) (p.b1,p.b2)) (.more (.c2 ⟨p.b0,(A.k ER (p.b1,p.b2)).2.2.2,(A.k F5 (p.b1,p.b2,p.b0)).2.2,(A.k FM (p.b1,p.b2)).2,p.b1,p.b2,(A.k ER (p.b1,p.b2)).1,(A.k F5 (p.b1,p.b2,p.b0)).1,(A.k FM (p.b1,p.b2)).1⟩))))
 | .c2 p=>.br (A.c .neq p.c1 0) (.br (A.c .neq p.c2 0) (.br (A.c .neq p.c3 0) (.more (.c3 ⟨p.c0,p.c4,p.c5,p.c6,p.c7⟩)) (.need (A.k (@tt (ak×Node)) (p.c4,p.c8)) (.br (A.not (A.c .eql (A.k bL (p.c4,p.c8)) 0)) (.ret false) (.more (.c3 ⟨p.c0,p.c4,p.c5,p.c6,p.c7⟩))))) (.need (A.k (@tt (ak×Node)) (p.c4,p.c7)) (.br (A.not (A.c .eql (A.k bL (p.c4,p.c7)) 0)) (.ret false) (.br (A.c .neq p.c3 0) (.more (.c3 ⟨p.c0,p.c4,p.c5,p.c6,p.c7⟩)) (.need (A.k (@tt (ak×Node)) (p.c4,p.c8)) (.br (A.not (A.c .eql (A.k bL (p.c4,p.c8)) 0)) (.ret false) (.more (.c3 ⟨p.c0,p.c4,p.c5,p.c6,p.c7⟩)))))))) (.need (A.k (@tt (ak×Node)) (p.c4,p.c6)) (.br (A.not (A.c .eql (A.k bL (p.c4,p.c6)) 0)) (.ret false) (.br (A.c .neq p.c2 0) (.br (A.c .neq p.c3 0) (.more (.c3 ⟨p.c0,p.c4,p.c5,p.c6,p.c7⟩)) (.need (A.k (@tt (ak×Node)) (p.c4,p.c8)) (.br (A.not (A.c .eql (A.k bL (p.c4,p.c8)) 0)) (.ret false) (.more (.c3 ⟨p.c0,p.c4,p.c5,p.c6,p.c7⟩))))) (.need (A.k (@tt (ak×Node)) (p.c4,p.c7)) (.br (A.not (A.c .eql (A.k bL (p.c4,p.c7)) 0)) (.ret false) (.br (A.c .neq p.c3 0) (.more (.c3 ⟨p.c0,p.c4,p.c5,p.c6,p.c7⟩)) (.need (A.k (@tt (ak×Node)) (p.c4,p.c8)) (.br (A.not (A.c .eql (A.k bL (p.c4,p.c8)) 0)) (.ret false) (.more (.c3 ⟨p.c0,p.c4,p.c5,p.c6,p.c7⟩))))))))))
 | .c3 p=>.need (A.k (@tt (ak×Node)) (p.d1,p.d2)) (.need (A.k (@tt (ak×Node×List Seen)) (p.d1,p.d2,p.d0)) (.br (A.c .neq (A.k Dp (p.d1,p.d2)).2.2.2 0) (.br (A.c .neq (A.k kV (p.d1,p.d2,p.d0)).2.2.2 0) (.ret true) (.need (A.k (@tt (ak×Node)) (p.d1,(A.k kV (p.d1,p.d2,p.d0)).1)) (.ret (A.c .eql (A.k bL (p.d1,(A.k kV (p.d1,p.d2,p.d0)).1)) 0)))) (.need (A.k (@tt (ak×Node)) (p.d1,(A.k Dp (p.d1,p.d2)).1)) (.br (A.c .eql (A.k bL (p.d1,(A.k Dp (p.d1,p.d2)).1)) 0) (.br (A.c .neq (A.k kV (p.d1,p.d2,p.d0)).2.2.2 0) (.ret true) (.need (A.k (@tt (ak×Node)) (p.d1,(A.k kV (p.d1,p.d2,p.d0)).1)) (.ret (A.c .eql (A.k bL (p.d1,(A.k kV (p.d1,p.d2,p.d0)).1)) 0)))) (.ret false)))))
theorem L1{p:I_}{m:ak}{n:Node}(h1:p.d1=m)(h2:p.d2=n)(h:aS m n=0):aA (uu aj) (.more (.c3 p)) true:=by
 subst h1 h2
 rw[al,uu]
 rw[show ∀x,aj.k bL x=aS x.1 x.2 from fun _=>rfl,show aj.k Dp (p.d1,p.d2)=rI p.d1 p.d2 from rfl,show aj.k kV (p.d1,p.d2,p.d0)=nH p.d1 p.d2 p.d0 false from rfl]
 have tl:aA (uu aj) (.br (aj.c .neq (nH p.d1 p.d2 p.d0 false).2.2.2 0) (.ret true) (.need true (.ret (aj.c .eql (aS p.d1 (nH p.d1 p.d2 p.d0 false).1) 0)))) true:=
  ax (p:=¬(nH p.d1 p.d2 p.d0 false).2.2.2=0) aT (fun _=>.ret _) fun g=>af.2 ⟨rfl,ay (ug (EV h (Decidable.not_not.1 g))) (.ret _)⟩
 exact af.2 ⟨rfl,af.2 ⟨rfl,ax (p:=¬(rI p.d1 p.d2).2.2.2=0) aT (fun _=>tl) fun g=>af.2 ⟨rfl,(ai (ug (FB h (Decidable.not_not.1 g)))).2 tl⟩⟩⟩
theorem L9{p:LL}{m:ak}{n:Node}(h1:p.c4=m)(h2:p.c5=n)(h:aS m n=0)(ha:p.c1=0→aS m p.c6=0)(hb:p.c2=0→aS m p.c7=0)(hc:p.c3=0→aS m p.c8=0):aA (uu aj) (.more (.c2 p)) true:=by
 subst h1 h2
 rw[al,uu]
 rw[show ∀x,aj.k bL x=aS x.1 x.2 from fun _=>rfl]
 have k:=L1 (p:=⟨p.c0,p.c4,p.c5,p.c6,p.c7⟩) rfl rfl h
 have k1:=dX (x:=p.c8) hc k k
 exact dX ha (dX hb k1 k1) (dX hb k1 k1)
theorem My{p:I8}{m:ak}{n:Node}(h1:p.b1=m)(h2:p.b2=n)(h:aS m n=0):aA (uu aj) (.more (.c1 p)) true:=by
 subst h1 h2
 rw[al,uu]
 refine af.2 ⟨rfl,af.2 ⟨rfl,af.2 ⟨rfl,?_⟩⟩⟩
 rw[show aj.k ER (p.b1,p.b2)=oS p.b1 p.b2 from rfl,show aj.k F5 (p.b1,p.b2,p.b0)=nR p.b1 p.b2 p.b0 from rfl,show aj.k FM (p.b1,p.b2)=pP p.b1 p.b2 from rfl]
 exact L9 (p:=⟨p.b0,(oS p.b1 p.b2).2.2.2,(nR p.b1 p.b2 p.b0).2.2,(pP p.b1 p.b2).2,p.b1,p.b2,(oS p.b1 p.b2).1,(nR p.b1 p.b2 p.b0).1,(pP p.b1 p.b2).1⟩) rfl rfl h (LU h) (EX h) (FL h)
theorem NT{p:Jc}{m:ak}{n:Node}(h1:p.a4=m)(h2:p.a5=n)(h:aS m n=0)(ha:p.a1=0→aS m p.a6=0)(hb:p.a2=0→aS m p.a7=0)(hc:p.a3=0→aS m p.a8=0):aA (uu aj) (.more (.c0 p)) true:=by
 subst h1 h2
 rw[al,uu]
 rw[show ∀x,aj.k bL x=aS x.1 x.2 from fun _=>rfl]
 have k:=My (p:=⟨p.a0,p.a4,p.a5,p.a6,p.a7,p.a8⟩) rfl rfl h
 have k1:=dX (x:=p.a8) hc k k
 exact dX ha (dX hb k1 k1) (dX hb k1 k1)
theorem RL{m:ak}{n:Node}{set1:Int}{on:Bool}{o:xL}{seen:List Seen}:aA (uu aj) (Rc aj m n set1 on o seen) true:=by
 unfold Rc
 refine af.2 ⟨rfl,(ah rfl).2 (af.2 ⟨rfl,?_⟩)⟩
 show aA (uu aj) (.br (aj.not (Fp n)) _ _) true
 cases Fp n
 ·exact(ai rfl).2 (af.2 ⟨rfl,.ret _⟩)
 refine(ah rfl).2 (af.2 ⟨rfl,ax (p:=¬aS m n=0) aT (fun _=>af.2 ⟨rfl,.ret _⟩) fun h=>af.2 ⟨rfl,af.2 ⟨rfl,af.2 ⟨rfl,af.2 ⟨rfl,?_⟩⟩⟩⟩⟩)
 have h:=Decidable.not_not.1 h
 rw[show aj.k F7 (m,n,set1)=DL m n set1 from rfl,show aj.k mM (m,n,on)=p9 m n on from rfl,show aj.k FI (m,n,o)=pK m n o from rfl]
 exact NT (p:=⟨HV seen,(DL m n set1).2,(p9 m n on).2,(pK m n o).2,m,n,(DL m n set1).1,(p9 m n on).1,(pK m n o).1⟩) rfl rfl h (K6 h) (EN h) (E2 h)
def Pk:(ak×Node×Int×Bool×xL×List Seen)→Bool:=fun _=>true
def VS:aD:=⟨[bd,aQ,yI,.bool,GY,(.slice dA)], [.bool],(@tt (ak×Node×Int×Bool×xL×List Seen)),Pk⟩
theorem ZW:Sd 12 VS:=aL au cK true 84 [] [⟨12,8, [[5,6,7,13,14,15,16,17,18,19]]⟩,⟨12,10, [[5,6,7,13,14,16,18]]⟩,⟨12,13, [[5,6,7,13,14,15,16,17,18,19]]⟩,⟨12,15, [[5,6,7,13,14,16]]⟩] (fun A (m,n,set1,on,o,seen)=>Rc A m n set1 on o seen) uu PN (fc Tryz.func12 (fc Tryz.func58 fz)) (sc aaw (sc W1 (sc Wi (sc Ph (sc rm (sc XZ (sc Ou (sc Ww (sc ZL (sc X4 (sc ZN (sc YW sz)))))))))))) (fun A y=>match y with |.c0 p=>⟨85,by kernel_rfl,by kernel_rfl⟩|.c1 p=>⟨43,by kernel_rfl,by kernel_rfl⟩|.c2 p=>⟨85,by kernel_rfl,by kernel_rfl⟩|.c3 p=>⟨81,by kernel_rfl,by kernel_rfl⟩) fun(m,n,set1,on,o,seen) hp h=>RL
theorem SL(x:ak×Node×Int×Bool×xL×List Seen)(h:Ty.dK [bd,aQ,yI,.bool,GY,.slice dA] x):Pk x=true:=rfl
end Go.Ev.M
