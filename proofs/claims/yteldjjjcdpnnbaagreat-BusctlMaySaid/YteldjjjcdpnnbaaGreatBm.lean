/-
  PROVED: BusctlMay, in plain Lean. Conditions: none.
-/
import Derived.Test.YteldjjjcdpnnbaaGreatCh
namespace Go.Ev.M
open Go.Proofs
set_option maxRecDepth 100000
set_option linter.unusedVariables false
set_option linter.unusedSimpArgs false
open Go.Ev.Pl
structure Ld where
 (a0:List Seen) (a1 a2 a3:Int) (a4:ak) (a5 a6 a7 a8:Node)
structure J8 where
 (b0:List Seen) (b1:ak) (b2 b3 b4 b5:Node)
structure Ih where
 (c0:List Seen) (c1 c2 c3:Int) (c4:ak) (c5 c6 c7 c8:Node)
structure Ln where
 (d0:List Seen) (d1:ak) (d2 d3 d4:Node)
inductive ML where
 | c0 (p:Ld)
 | c1 (p:J8)
 | c2 (p:Ih)
 | c3 (p:Ln)
noncomputable def Rz:ML→gB
 | .c0 p=>⟨[⟨11,145,(en [(5,.sl dA p.a0),(6,.ptr 0 0),(7,.ptr 1 0),(13,.fn 56 [] [.ptr 0 0]),(14,.ptr 2 0),(15,vi p.a1),(16,.ptr 3 0),(17,vi p.a2),(18,.ptr 4 0),(19,vi p.a3)]),[.code (cw Tryz.f11 [1,1,1,1,1,1,1,0,0]),.code (cw Tryz.f11 [1,1,1,1,1,1,1,0,1]),.code (cw Tryz.f11 [1,1,1,1,1,1,1,1])],[],none⟩],[.flat false (dc bd p.a4),.flat false (dc aQ p.a5),.flat false (dc aQ p.a6),.flat false (dc aQ p.a7),.flat false (dc aQ p.a8),.dead]⟩
 | .c1 p=>⟨[⟨11,145,(en [(5,.sl dA p.b0),(6,.ptr 0 0),(7,.ptr 1 0),(13,.fn 56 [] [.ptr 0 0]),(14,.ptr 2 0),(16,.ptr 3 0),(18,.ptr 4 0)]),[.code (cw Tryz.f11 [1,1,1,1,1,1,1,1,0]),.code (cw Tryz.f11 [1,1,1,1,1,1,1,1,1])],[],none⟩],[.flat false (dc bd p.b1),.flat false (dc aQ p.b2),.flat false (dc aQ p.b3),.flat false (dc aQ p.b4),.flat false (dc aQ p.b5),.dead]⟩
 | .c2 p=>⟨[⟨11,145,(en [(5,.sl dA p.c0),(6,.ptr 0 0),(7,.ptr 1 0),(13,.fn 56 [] [.ptr 0 0]),(14,.ptr 2 0),(15,vi p.c1),(16,.ptr 3 0),(17,vi p.c2),(18,.ptr 4 0),(19,vi p.c3)]),[.code (cw Tryz.f11 [1,1,1,1,1,1,1,1,1,1,1,0,0]),.code (cw Tryz.f11 [1,1,1,1,1,1,1,1,1,1,1,0,1]),.code (cw Tryz.f11 [1,1,1,1,1,1,1,1,1,1,1,1])],[],none⟩],[.flat false (dc bd p.c4),.flat false (dc aQ p.c5),.flat false (dc aQ p.c6),.flat false (dc aQ p.c7),.flat false (dc aQ p.c8),.dead]⟩
 | .c3 p=>⟨[⟨11,145,(en [(5,.sl dA p.d0),(6,.ptr 0 0),(7,.ptr 1 0),(13,.fn 56 [] [.ptr 0 0]),(14,.ptr 2 0),(16,.ptr 3 0)]),[.code (cw Tryz.f11 [1,1,1,1,1,1,1,1,1,1,1,1,0]),.code (cw Tryz.f11 [1,1,1,1,1,1,1,1,1,1,1,1,1])],[],none⟩],[.flat false (dc bd p.d1),.flat false (dc aQ p.d2),.flat false (dc aQ p.d3),.flat false (dc aQ p.d4),.dead]⟩
def Tz(A:bi)(m:ak)(n:Node)(set1:Int)(on:Bool)(o:xL)(seen:List Seen):LT Bool ML:=.need (A.k (@tt Unit) ()) (.br (A.not (A.k ny ())) (.need (A.k (@tt Unit) ()) (.ret (A.k ny ()))) (.need (A.k (@tt Node) n) (.br (A.not (A.k pg n)) (.need (A.k (@tt Unit) ()) (.ret (A.k ny ()))) (.need (A.k (@tt (ak×Node)) (m,n)) (.br (A.c .neq (A.k fG (m,n)) 0) (.need (A.k (@tt Unit) ()) (.ret (A.k ny ()))) (.need (A.k (@tt (List Seen)) seen) (.need (A.k (@tt (ak×Node×Int)) (m,n,set1)) (.need (A.k (@tt (ak×Node×Bool)) (m,n,on)) (.need (A.k (@tt (ak×Node×xL)) (m,n,o)) (.more (.c0 ⟨(A.k Jy seen),(A.k Fe (m,n,set1)).2,(A.k ou (m,n,on)).2,(A.k Fz (m,n,o)).2,m,n,(A.k Fe (m,n,set1)).1,(A.k ou (m,n,on)).1,(A.k Fz (m,n,o)).1⟩)))))))))))
def ui(A:bi):ML→LT Bool ML
 | .c0 p=>.br (A.c .neq p.a1 0) (.br (A.c .neq p.a2 0) (.br (A.c .neq p.a3 0) (.more (.c1 ⟨p.a0,p.a4,p.a5,p.a6,p.a7,p.a8⟩)) (.need (A.k (@tt (ak×Node)) (p.a4,p.a8)) (.br (A.not (A.c .eql (A.k fG (p.a4,p.a8)) 0)) (.ret false) (.more (.c1 ⟨p.a0,p.a4,p.a5,p.a6,p.a7,p.a8⟩))))) (.need (A.k (@tt (ak×Node)) (p.a4,p.a7)) (.br (A.not (A.c .eql (A.k fG (p.a4,p.a7)) 0)) (.ret false) (.br (A.c .neq p.a3 0) (.more (.c1 ⟨p.a0,p.a4,p.a5,p.a6,p.a7,p.a8⟩)) (.need (A.k (@tt (ak×Node)) (p.a4,p.a8)) (.br (A.not (A.c .eql (A.k fG (p.a4,p.a8)) 0)) (.ret false) (.more (.c1 ⟨p.a0,p.a4,p.a5,p.a6,p.a7,p.a8⟩)))))))) (.need (A.k (@tt (ak×Node)) (p.a4,p.a6)) (.br (A.not (A.c .eql (A.k fG (p.a4,p.a6)) 0)) (.ret false) (.br (A.c .neq p.a2 0) (.br (A.c .neq p.a3 0) (.more (.c1 ⟨p.a0,p.a4,p.a5,p.a6,p.a7,p.a8⟩)) (.need (A.k (@tt (ak×Node)) (p.a4,p.a8)) (.br (A.not (A.c .eql (A.k fG (p.a4,p.a8)) 0)) (.ret false) (.more (.c1 ⟨p.a0,p.a4,p.a5,p.a6,p.a7,p.a8⟩))))) (.need (A.k (@tt (ak×Node)) (p.a4,p.a7)) (.br (A.not (A.c .eql (A.k fG (p.a4,p.a7)) 0)) (.ret false) (.br (A.c .neq p.a3 0) (.more (.c1 ⟨p.a0,p.a4,p.a5,p.a6,p.a7,p.a8⟩)) (.need (A.k (@tt (ak×Node)) (p.a4,p.a8)) (.br (A.not (A.c .eql (A.k fG (p.a4,p.a8)) 0)) (.ret false) (.more (.c1 ⟨p.a0,p.a4,p.a5,p.a6,p.a7,p.a8⟩))))))))))
 | .c1 p=>.need (A.k (@tt (ak×Node)) (p.b1,p.b2)) (.need (A.k (@tt (ak×Node×List Seen)) (p.b1,p.b2,p.b0)) (.need (A.k (@tt (ak×Node)) (p.b1,p.b2)) (.more (.c2 ⟨p.b0,(A.k b_ (p.b1,p.b2)).2.2.2,(A.k kw (p.b1,p.b2,p.b0)).2.2,(A.k ES (p.b1,p.b2)).2,p.b1,p.b2,(A.k b_ (p.b1,p.b2)).1,(A.k kw (p.b1,p.b2,p.b0)).1,(A.k ES (p.b1,p.b2)).1⟩))))
 | .c2 p=>.br (A.c .neq p.c1 0) (.br (A.c .neq p.c2 0) (.br (A.c .neq p.c3 0) (.more (.c3 ⟨p.c0,p.c4,p.c5,p.c6,p.c7⟩)) (.need (A.k (@tt (ak×Node)) (p.c4,p.c8)) (.br (A.not (A.c .eql (A.k fG (p.c4,p.c8)) 0)) (.ret false) (.more (.c3 ⟨p.c0,p.c4,p.c5,p.c6,p.c7⟩))))) (.need (A.k (@tt (ak×Node)) (p.c4,p.c7)) (.br (A.not (A.c .eql (A.k fG (p.c4,p.c7)) 0)) (.ret false) (.br (A.c .neq p.c3 0) (.more (.c3 ⟨p.c0,p.c4,p.c5,p.c6,p.c7⟩)) (.need (A.k (@tt (ak×Node)) (p.c4,p.c8)) (.br (A.not (A.c .eql (A.k fG (p.c4,p.c8)) 0)) (.ret false) (.more (.c3 ⟨p.c0,p.c4,p.c5,p.c6,p.c7⟩)))))))) (.need (A.k (@tt (ak×Node)) (p.c4,p.c6)) (.br (A.not (A.c .eql (A.k fG (p.c4,p.c6)) 0)) (.ret false) (.br (A.c .neq p.c2 0) (.br (A.c .neq p.c3 0) (.more (.c3 ⟨p.c0,p.c4,p.c5,p.c6,p.c7⟩)) (.need (A.k (@tt (ak×Node)) (p.c4,p.c8)) (.br (A.not (A.c .eql (A.k fG (p.c4,p.c8)) 0)) (.ret false) (.more (.c3 ⟨p.c0,p.c4,p.c5,p.c6,p.c7⟩))))) (.need (A.k (@tt (ak×Node)) (p.c4,p.c7)) (.br (A.not (A.c .eql (A.k fG (p.c4,p.c7)) 0)) (.ret false) (.br (A.c .neq p.c3 0) (.more (.c3 ⟨p.c0,p.c4,p.c5,p.c6,p.c7⟩)) (.need (A.k (@tt (ak×Node)) (p.c4,p.c8)) (.br (A.not (A.c .eql (A.k fG (p.c4,p.c8)) 0)) (.ret false) (.more (.c3 ⟨p.c0,p.c4,p.c5,p.c6,p.c7⟩))))))))))
 | .c3 p=>.need (A.k (@tt (ak×Node)) (p.d1,p.d2)) (.need (A.k (@tt (ak×Node×List Seen)) (p.d1,p.d2,p.d0)) (.br (A.c .neq (A.k Cv (p.d1,p.d2)).2.2.2 0) (.br (A.c .neq (A.k lM (p.d1,p.d2,p.d0)).2.2.2 0) (.ret true) (.need (A.k (@tt (ak×Node)) (p.d1,(A.k lM (p.d1,p.d2,p.d0)).1)) (.ret (A.c .eql (A.k fG (p.d1,(A.k lM (p.d1,p.d2,p.d0)).1)) 0)))) (.need (A.k (@tt (ak×Node)) (p.d1,(A.k Cv (p.d1,p.d2)).1)) (.br (A.c .eql (A.k fG (p.d1,(A.k Cv (p.d1,p.d2)).1)) 0) (.br (A.c .neq (A.k lM (p.d1,p.d2,p.d0)).2.2.2 0) (.ret true) (.need (A.k (@tt (ak×Node)) (p.d1,(A.k lM (p.d1,p.d2,p.d0)).1)) (.ret (A.c .eql (A.k fG (p.d1,(A.k lM (p.d1,p.d2,p.d0)).1)) 0)))) (.ret false)))))
theorem NM{p:Ln}{m:ak}{n:Node}(h1:p.d1=m)(h2:p.d2=n)(h:aS m n=0):aA (ui aj) (.more (.c3 p)) true:=by
 subst h1 h2
 rw[al,ui]
 rw[show ∀x,aj.k fG x=aS x.1 x.2 from fun _=>rfl,show aj.k Cv (p.d1,p.d2)=rI p.d1 p.d2 from rfl,show aj.k lM (p.d1,p.d2,p.d0)=nH p.d1 p.d2 p.d0 true from rfl]
 have tl:aA (ui aj) (.br (aj.c .neq (nH p.d1 p.d2 p.d0 true).2.2.2 0) (.ret true) (.need true (.ret (aj.c .eql (aS p.d1 (nH p.d1 p.d2 p.d0 true).1) 0)))) true:=
  ax (p:=¬(nH p.d1 p.d2 p.d0 true).2.2.2=0) aT (fun _=>.ret _) fun g=>af.2 ⟨rfl,ay (ug (EV h (Decidable.not_not.1 g))) (.ret _)⟩
 exact af.2 ⟨rfl,af.2 ⟨rfl,ax (p:=¬(rI p.d1 p.d2).2.2.2=0) aT (fun _=>tl) fun g=>af.2 ⟨rfl,(ai (ug (FB h (Decidable.not_not.1 g)))).2 tl⟩⟩⟩
theorem Nw{p:Ih}{m:ak}{n:Node}(h1:p.c4=m)(h2:p.c5=n)(h:aS m n=0)(ha:p.c1=0→aS m p.c6=0)(hb:p.c2=0→aS m p.c7=0)(hc:p.c3=0→aS m p.c8=0):aA (ui aj) (.more (.c2 p)) true:=by
 subst h1 h2
 rw[al,ui]
 rw[show ∀x,aj.k fG x=aS x.1 x.2 from fun _=>rfl]
 have k:=NM (p:=⟨p.c0,p.c4,p.c5,p.c6,p.c7⟩) rfl rfl h
 have k1:=dX (x:=p.c8) hc k k
 exact dX ha (dX hb k1 k1) (dX hb k1 k1)
theorem Md{p:J8}{m:ak}{n:Node}(h1:p.b1=m)(h2:p.b2=n)(h:aS m n=0):aA (ui aj) (.more (.c1 p)) true:=by
 subst h1 h2
 rw[al,ui]
 refine af.2 ⟨rfl,af.2 ⟨rfl,af.2 ⟨rfl,?_⟩⟩⟩
 rw[show aj.k b_ (p.b1,p.b2)=oS p.b1 p.b2 from rfl,show aj.k kw (p.b1,p.b2,p.b0)=nR p.b1 p.b2 p.b0 from rfl,show aj.k ES (p.b1,p.b2)=pP p.b1 p.b2 from rfl]
 exact Nw (p:=⟨p.b0,(oS p.b1 p.b2).2.2.2,(nR p.b1 p.b2 p.b0).2.2,(pP p.b1 p.b2).2,p.b1,p.b2,(oS p.b1 p.b2).1,(nR p.b1 p.b2 p.b0).1,(pP p.b1 p.b2).1⟩) rfl rfl h (LU h) (EX h) (FL h)
theorem Mz{p:Ld}{m:ak}{n:Node}(h1:p.a4=m)(h2:p.a5=n)(h:aS m n=0)(ha:p.a1=0→aS m p.a6=0)(hb:p.a2=0→aS m p.a7=0)(hc:p.a3=0→aS m p.a8=0):aA (ui aj) (.more (.c0 p)) true:=by
 subst h1 h2
 rw[al,ui]
 rw[show ∀x,aj.k fG x=aS x.1 x.2 from fun _=>rfl]
 have k:=Md (p:=⟨p.a0,p.a4,p.a5,p.a6,p.a7,p.a8⟩) rfl rfl h
 have k1:=dX (x:=p.a8) hc k k
 exact dX ha (dX hb k1 k1) (dX hb k1 k1)
theorem Rq{m:ak}{n:Node}{set1:Int}{on:Bool}{o:xL}{seen:List Seen}:aA (ui aj) (Tz aj m n set1 on o seen) true:=by
 unfold Tz
 refine af.2 ⟨rfl,(ah rfl).2 (af.2 ⟨rfl,?_⟩)⟩
 show aA (ui aj) (.br (aj.not (pg n)) _ _) true
 cases pg n
 ·exact(ai rfl).2 (af.2 ⟨rfl,.ret _⟩)
 refine(ah rfl).2 (af.2 ⟨rfl,ax (p:=¬aS m n=0) aT (fun _=>af.2 ⟨rfl,.ret _⟩) fun h=>af.2 ⟨rfl,af.2 ⟨rfl,af.2 ⟨rfl,af.2 ⟨rfl,?_⟩⟩⟩⟩⟩)
 have h:=Decidable.not_not.1 h
 rw[show aj.k Fe (m,n,set1)=DL m n set1 from rfl,show aj.k ou (m,n,on)=p9 m n on from rfl,show aj.k Fz (m,n,o)=pK m n o from rfl]
 exact Mz (p:=⟨Jy seen,(DL m n set1).2,(p9 m n on).2,(pK m n o).2,m,n,(DL m n set1).1,(p9 m n on).1,(pK m n o).1⟩) rfl rfl h (K6 h) (EN h) (E2 h)
def OC:(ak×Node×Int×Bool×xL×List Seen)→Bool:=fun _=>true
def UC:aD:=⟨[bd,aQ,yI,.bool,GY,(.slice dA)], [.bool],(@tt (ak×Node×Int×Bool×xL×List Seen)),OC⟩
theorem XE:Sd 11 UC:=aL au cK true 84 [] [⟨11,8, [[5,6,7,13,14,15,16,17,18,19]]⟩,⟨11,10, [[5,6,7,13,14,16,18]]⟩,⟨11,13, [[5,6,7,13,14,15,16,17,18,19]]⟩,⟨11,15, [[5,6,7,13,14,16]]⟩] (fun A (m,n,set1,on,o,seen)=>Tz A m n set1 on o seen) ui Rz (fc Tryz.func11 (fc Tryz.func56 fz)) (sc O8 (sc Ox (sc Ui (sc Pe (sc IW (sc ZU (sc O0 (sc V0 (sc OE (sc Oz (sc WX (sc T8 sz)))))))))))) (fun A y=>match y with |.c0 p=>⟨85,by kernel_rfl,by kernel_rfl⟩|.c1 p=>⟨43,by kernel_rfl,by kernel_rfl⟩|.c2 p=>⟨85,by kernel_rfl,by kernel_rfl⟩|.c3 p=>⟨81,by kernel_rfl,by kernel_rfl⟩) fun(m,n,set1,on,o,seen) hp h=>Rq
theorem RI(x:ak×Node×Int×Bool×xL×List Seen)(h:Ty.dK [bd,aQ,yI,.bool,GY,.slice dA] x):OC x=true:=rfl
end Go.Ev.M
