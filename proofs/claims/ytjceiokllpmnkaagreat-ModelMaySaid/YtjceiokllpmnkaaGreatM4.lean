/-
  PROVED: what functions of the program compute, part 4. Conditions: none.
-/
import Derived.Test.YtjceiokllpmnkaaGreatM3
set_option linter.unusedVariables false
set_option linter.unusedSimpArgs false
namespace Go.Ev.M
open Go.Proofs
set_option maxRecDepth 100000
open Go.Ev.Pl
noncomputable section
def K1(A:aI)(m:ak):LT (Int×Int) Empty:=.need (A.k (@tt ak) m) (.br (A.c .neq (A.k iJ m) 0) (.ret (0,(A.k iJ m))) (.ret ((A.b .add .i64 (A.b .mul .i64 (A.b .mul .i64 14 m.1) m.2.2.2.2.1) 8),0)))
def jE:ak→(Int×Int):=fun m=>(K1 ah m).val (Ty.bi [yI,yI])
def adJ:aA:=⟨[aN], [yI,yI],(@tt ak),jE⟩
theorem aeu:Sd 129 adJ:=aH ar bR true 38 [] (fun A m=>K1 A m) (fc Tryz.func129 fz) (sc BR sz) (fun(m:ak) hp h=>by
 show(K1 ah m).pre=true
 simp only[K1,LT.pre,D6,bne_iff_ne,beq_iff_eq,bne_eq_false_iff_eq,beq_eq_false_iff_ne]
 simp only[Ty.cv,Ty.has,ky,vV] at h
 (repeat' (first|intro _|constructor))<;>(try omega))
theorem M7{m:ak}(h:¬iJ m=0):(jE m).2=iJ m:=by
 show(LT.val (Ty.bi [yI,yI]) (K1 ah m)).2=_
 simp only[K1,LT.val,aB,aR,bne_iff_ne.2 h];rfl
theorem Cb{m:ak}(h:(jE m).2=0):iJ m=0:=Decidable.not_not.1 fun k=>k ((M7 k).symm.trans h)
def Sr(l:List Bool)(N:Nat):List Bool:=ah.spl (List.replicate N true) 0 (ah.s l 0 (ah.mn (ah.l l) (ah.l (List.replicate N true))))
def opC(o:bg):bg:=(o.1,o.2.1,o.2.2.1,o.2.2.2.1,o.2.2.2.2.1,jv o.2.2.2.2.2)
def Na(m:ak)(l:List bg):List bg:=((l.filter fun o=>lL (m,o)).map opC).take 256
def gl(m:ak)(s:gG):gG:=
 (ah.mn (ah.mx s.1 1) 16,Sr s.2.1 m.1.toNat,rowP s.2.2.1 m.1.toNat 0 (jE m).1 0,rowP s.2.2.2.1 m.1.toNat 40 60 50,rowP s.2.2.2.2.1 m.1.toNat (ah.u .neg .i64 (ah.b .quo .i64 m.2.2.2.1 2)) (ah.b .quo .i64 m.2.2.2.1 2) 0,
   rowP s.2.2.2.2.2.1 (min s.2.2.2.2.2.1.length 1024) (ah.u .neg .i64 m.2.2.2.2.1) m.2.2.2.2.1 0,K9 (Na m s.2.2.2.2.2.2.1),(pq m s.2.2.2.2.2.2.2).take 256)
def aeo:gG:=(0, [], [], [], [], [], [], [])
def gH(m:ak)(s:gG):gG×Int:=bif decide ((jE m).2=0) then(gl m s,0) else(aeo,(jE m).2)
structure OX where
 (a0:List bg) (a1:Int) (a3:ak) (a5:Int) (a6 a7 a8 a9:List Int) (cN:List bJ) (dF:List Bool)
structure M4 where
 (b0:List bg) (b1:Int) (b3:ak) (b5:Int) (b6 b7 b8 b9:List Int) (b10:List bJ) (b11:List Bool)
inductive KP where
 | c0 (p:OX) (a2:Int)
 | c1 (p:M4) (b2:Int) (b12:List bg)
noncomputable def ZA:KP→eT
 | .c0 p a2=>⟨[⟨65,112,(en [(2,.ptr 0 0),(4,.ptr 1 0),(9,.ptr 2 0),(82,.sl bC p.a0),(83,vi p.a1),(84,vi a2)]),[.inLoop (cw Tryz.f65 [1,1,1,1,1,1,1,0,1,0,0]),.inBlock 0,.code (cw Tryz.f65 [1,1,1,1,1,1,1,1])],[],none⟩],[.flat false (dc aN p.a3),.flat false [vi 0,.dn true,.dn true,.dn true,.dn true,.dn true,.dn true,.dn true],.flat false [vi p.a5,.own 3,.sl yI p.a6,.sl yI p.a7,.sl yI p.a8,.sl yI p.a9,.dn true,.sl bu p.cN],.arr false .bool p.dF,.dead]⟩
 | .c1 p b2 b12=>⟨[⟨65,112,(en [(2,.ptr 0 0),(4,.ptr 1 0),(9,.ptr 2 0),(82,.sl bC p.b0),(83,vi p.b1),(84,vi b2)]),[.inLoop (cw Tryz.f65 [1,1,1,1,1,1,1,0,1,0,0]),.inBlock 0,.code (cw Tryz.f65 [1,1,1,1,1,1,1,1])],[],none⟩],[.flat false (dc aN p.b3),.flat false [vi 0,.dn true,.dn true,.dn true,.dn true,.dn true,.dn true,.dn true],.flat false [vi p.b5,.own 3,.sl yI p.b6,.sl yI p.b7,.sl yI p.b8,.sl yI p.b9,.own 4,.sl bu p.b10],.arr false .bool p.b11,.arr false bC b12,.dead]⟩
abbrev LH(A:aI)(m:ak)(s:gG):LT (gG×Int) KP:=(.need (A.and (A.c .leq 0 0) (A.and (A.c .leq 0 (A.mn (A.l (A.k o4 (m,s.2.2.2.2.2.2.2))) 256)) (A.c .leq (A.mn (A.l (A.k o4 (m,s.2.2.2.2.2.2.2))) 256) (A.l (A.k o4 (m,s.2.2.2.2.2.2.2)))))) (.more (.c0 ⟨s.2.2.2.2.2.2.1,(A.l s.2.2.2.2.2.2.1),m,(A.mn (A.mx s.1 1) 16),(A.k Ep (s.2.2.1,m.1,0,(A.k jE m).1,0)),(A.k Ep (s.2.2.2.1,m.1,40,60,50)),(A.k Ep (s.2.2.2.2.1,m.1,(A.u .neg .i64 (A.b .quo .i64 m.2.2.2.1 2)),(A.b .quo .i64 m.2.2.2.1 2),0)),(A.k Ep (s.2.2.2.2.2.1,(A.mn (A.l s.2.2.2.2.2.1) 1024),(A.u .neg .i64 m.2.2.2.2.1),m.2.2.2.2.1,0)),(A.s (A.k o4 (m,s.2.2.2.2.2.2.2)) 0 (A.mn (A.l (A.k o4 (m,s.2.2.2.2.2.2.2))) 256)),(A.spl (A.k LJ ([true],m.1)).2.1 0 (A.s s.2.1 0 (A.mn (A.l s.2.1) (A.l (A.k LJ ([true],m.1)).2.1))))⟩ 0)))
abbrev I7(A:aI)(m:ak)(s:gG):=(A.k ml (s.2.2.2.2.1,m.1,(A.u .neg .i64 (A.b .quo .i64 m.2.2.2.1 2)),(A.b .quo .i64 m.2.2.2.1 2),0))
abbrev IP(A:aI)(m:ak)(s:gG):=(A.k ml (s.2.2.2.2.2.1,(A.mn (A.l s.2.2.2.2.2.1) 1024),(A.u .neg .i64 m.2.2.2.2.1),m.2.2.2.2.1,0))
abbrev Ox(A:aI)(m:ak)(s:gG):LT (gG×Int) KP:=(.need (A.k yc ([true],m.1)) (.need (A.k ml (s.2.2.1,m.1,0,(A.k jE m).1,0)) (.need (A.k ml (s.2.2.2.1,m.1,40,60,50)) (.need (I7 A m s) (.need (IP A m s) (.need (A.k yr (m,s.2.2.2.2.2.2.2)) (LH A m s)))))))
def Wb(A:aI)(m:ak)(s:gG):LT (gG×Int) KP:=.need (A.k (@tt ak) m) (.br (A.c .neq (A.k jE m).2 0) (.ret ((0,([]:List Bool),([]:List Int),([]:List Int),([]:List Int),([]:List Int),([]:List bg),([]:List bJ)),(A.k jE m).2)) (.and (.and (.need (A.k yc ([true],m.1)) (.need (A.k ml (s.2.2.1,m.1,0,(A.k jE m).1,0)) (.need (A.k ml (s.2.2.2.1,m.1,40,60,50)) (.need (I7 A m s) (.need (IP A m s) (.need (A.k yr (m,s.2.2.2.2.2.2.2)) (.need (A.k yr (m,s.2.2.2.2.2.2.2)) (.need (IP A m s) (.need (I7 A m s) (.need (A.k ml (s.2.2.2.1,m.1,40,60,50)) (.need (A.k ml (s.2.2.1,m.1,0,(A.k jE m).1,0)) (LH A m s)))))))))))) (Ox A m s)) (Ox A m s)))
def OL(A:aI):KP→LT (gG×Int) KP
 | .c0 p a2=>.br (A.c .lss a2 p.a1) (.need (A.and (A.c .leq 0 a2) (A.c .lss a2 (A.l p.a0))) (.need (A.k (@tt (ak×bg)) (p.a3,(A.n bC p.a0 a2:bg))) (.br (A.k lL (p.a3,(A.n bC p.a0 a2:bg))) (.need (A.k (@tt (List Int)) (A.n bC p.a0 a2:bg).2.2.2.2.2) (.need (A.c .leq (A.l (([((A.n bC p.a0 a2:bg).1,(A.n bC p.a0 a2:bg).2.1,(A.n bC p.a0 a2:bg).2.2.1,(A.n bC p.a0 a2:bg).2.2.2.1,(A.n bC p.a0 a2:bg).2.2.2.2.1,(A.k jv (A.n bC p.a0 a2:bg).2.2.2.2.2))]:List bg):List bg)) 2199023255552) (.more (.c1 ⟨p.a0,p.a1,p.a3,p.a5,p.a6,p.a7,p.a8,p.a9,p.cN,p.dF⟩ (A.b .add .i64 a2 1) ([((A.n bC p.a0 a2:bg).1,(A.n bC p.a0 a2:bg).2.1,(A.n bC p.a0 a2:bg).2.2.1,(A.n bC p.a0 a2:bg).2.2.2.1,(A.n bC p.a0 a2:bg).2.2.2.2.1,(A.k jv (A.n bC p.a0 a2:bg).2.2.2.2.2))]:List bg))))) (.more (.c0 p (A.b .add .i64 a2 1)))))) (.need (A.k D_ (([]:List bg),())) (.ret ((p.a5,p.dF,p.a6,p.a7,p.a8,p.a9,([]:List bg),p.cN),0)))
 | .c1 p b2 b12=>.br (A.c .lss b2 p.b1) (.need (A.and (A.c .leq 0 b2) (A.c .lss b2 (A.l p.b0))) (.need (A.k (@tt (ak×bg)) (p.b3,(A.n bC p.b0 b2:bg))) (.br (A.k lL (p.b3,(A.n bC p.b0 b2:bg))) (.br (A.c .lss (A.l b12) 256) (.need (A.k (@tt (List Int)) (A.n bC p.b0 b2:bg).2.2.2.2.2) (.need (A.c .leq (A.l (A.p b12 ([((A.n bC p.b0 b2:bg).1,(A.n bC p.b0 b2:bg).2.1,(A.n bC p.b0 b2:bg).2.2.1,(A.n bC p.b0 b2:bg).2.2.2.1,(A.n bC p.b0 b2:bg).2.2.2.2.1,(A.k jv (A.n bC p.b0 b2:bg).2.2.2.2.2))]:List bg))) 2199023255552) (.more (.c1 p (A.b .add .i64 b2 1) (A.p b12 ([((A.n bC p.b0 b2:bg).1,(A.n bC p.b0 b2:bg).2.1,(A.n bC p.b0 b2:bg).2.2.1,(A.n bC p.b0 b2:bg).2.2.2.1,(A.n bC p.b0 b2:bg).2.2.2.2.1,(A.k jv (A.n bC p.b0 b2:bg).2.2.2.2.2))]:List bg)))))) (.more (.c1 p (A.b .add .i64 b2 1) b12))) (.more (.c1 p (A.b .add .i64 b2 1) b12))))) (.need (A.k D_ (b12,())) (.ret ((p.b5,p.b11,p.b6,p.b7,p.b8,p.b9,(A.k OM (b12,())).1,p.b10),0)))
theorem adh{L:List bg}{i:Nat}(h:i<L.length):(ah.n bC L (i:Int):bg)=L[i]:=getD_in h _
theorem Rx{d:List bg}(h:d.length≤1000000):ah.k D_ (d,())=true:=aL h
theorem MQ{p:M4}{m:ak}{L:List bg}(h0:p.b0=L)(h1:p.b1=(L.length:Int))(h3:p.b3=m)(hL:L.length≤1000000):∀(j i:Nat) (acc:List bg),L.length-i=j→i≤L.length→acc.length≤256→
  ay (OL ah) (.more (.c1 p (i:Int) acc)) ((p.b5,p.b11,p.b6,p.b7,p.b8,p.b9,K9 ((acc++((L.drop i).filter fun o=>lL (m,o)).map opC).take 256),p.b10),0):=by
 intro j
 induction j with
 | zero=>
   intro i acc hj hi ha
   have:i=L.length:=by omega
   subst this
   refine al.2 ((ai ?_).2 (af.2 ⟨Rx (by omega),au ?_ (.ret _)⟩))
   ·rw[h1,aG];simp
   ·rw[List.drop_length,List.filter_nil,List.map_nil,List.append_nil,List.take_of_length_le ha];rfl
 | succ j ih=>
   intro i acc hj hi ha
   have hlt:i<L.length:=by omega
   refine al.2 ((aj ?_).2 (af.2 ⟨by rw[h0];exact aP hlt,af.2 ⟨rfl,?_⟩⟩))
   ·rw[h1,aG];exact aL hlt
   rw[h0,h3,adh hlt,cm (by omega),ry hlt]
   cases hf:lL (m,L[i])
   ·refine(ai (show ah.k lL (m,L[i])=false from hf)).2 ?_
    rw[List.filter_cons_of_neg (p:=fun o=>lL (m,o)) (by rw[hf];simp)]
    exact ih (i+1) acc (by omega) (by omega) ha
   ·refine(aj (show ah.k lL (m,L[i])=true from hf)).2 ?_
    rw[List.filter_cons_of_pos (p:=fun o=>lL (m,o)) hf,List.map_cons]
    by_cases hc:acc.length<256
    ·refine(aj (by rw[bK,ao];exact aL (by omega))).2 (af.2 ⟨rfl,af.2 ⟨?_,?_⟩⟩)
     ·rw[bK,iA,fY,List.length_singleton,ap];exact aL (by omega)
     ·have nx:=ih (i+1) (acc ++ [opC L[i]]) (by omega) (by omega) (by rw[fY,List.length_singleton];omega)
      rw[List.append_assoc,List.singleton_append] at nx
      exact nx
    ·refine(ai (by rw[bK,ao];exact aX (by omega))).2 ?_
     have nx:=ih (i+1) acc (by omega) (by omega) ha
     rw[List.take_left' (by omega)] at nx ⊢
     exact nx
theorem Kd{p:OX}{m:ak}{L:List bg}(h0:p.a0=L)(h1:p.a1=(L.length:Int))(h3:p.a3=m)(hL:L.length≤1000000):∀(j i:Nat),L.length-i=j→i≤L.length→
  ay (OL ah) (.more (.c0 p (i:Int))) ((p.a5,p.dF,p.a6,p.a7,p.a8,p.a9,K9 ((((L.drop i).filter fun o=>lL (m,o)).map opC).take 256),p.cN),0):=by
 intro j
 induction j with
 | zero=>
   intro i hj hi
   have:i=L.length:=by omega
   subst this
   refine al.2 ((ai ?_).2 (af.2 ⟨rfl,au ?_ (.ret _)⟩))
   ·rw[h1,aG];simp
   ·rw[List.drop_length,List.filter_nil,List.map_nil,List.take_nil,show K9 ([]:List bg)=[] from rfl]
 | succ j ih=>
   intro i hj hi
   have hlt:i<L.length:=by omega
   refine al.2 ((aj ?_).2 (af.2 ⟨by rw[h0];exact aP hlt,af.2 ⟨rfl,?_⟩⟩))
   ·rw[h1,aG];exact aL hlt
   rw[h0,h3,adh hlt,cm (by omega),ry hlt]
   cases hf:lL (m,L[i])
   ·refine(ai (show ah.k lL (m,L[i])=false from hf)).2 ?_
    rw[List.filter_cons_of_neg (p:=fun o=>lL (m,o)) (by rw[hf];simp)]
    exact ih (i+1) (by omega) (by omega)
   ·refine(aj (show ah.k lL (m,L[i])=true from hf)).2 (af.2 ⟨rfl,af.2 ⟨rfl,?_⟩⟩)
    rw[List.filter_cons_of_pos (p:=fun o=>lL (m,o)) hf,List.map_cons]
    exact MQ (p:=⟨L,p.a1,m,p.a5,p.a6,p.a7,p.a8,p.a9,p.cN,p.dF⟩) (m:=m) (L:=L) rfl h1 rfl hL _ (i+1) [opC L[i]] rfl (by omega) (by simp)
theorem Sx{N:Nat}(h:N≤1024):ah.k yc ([true],(N:Int))=true:=aL ⟨rfl,by omega,by omega⟩
theorem Ym{m:ak}{s:gG}(hf:s.2.2.2.2.2.2.2.length≤1000000)(ho:s.2.2.2.2.2.2.1.length≤1000000)(hd:s.2.2.2.2.2.1.length≤140737488355328):ay (OL ah) (Wb ah m s) (gH m s):=by
 unfold Wb Ox IP I7 LH gH
 refine af.2 ⟨rfl,?_⟩
 by_cases h:(jE m).2=0
 ·rw[aL h]
  refine(ai (by show ah.c .neq (jE m).2 0=false;rw[aQ];exact aX fun k=>k h)).2 ?_
  have hb:=(cX (sW.1 (zP.symm.trans (Cb h)))).1
  obtain⟨N,hm⟩:=Int.eq_ofNat_of_zero_le (show 0≤m.1 by omega)
  have hN:N≤8:=by omega
  have w:∀(l:List Int) (a b c:Int),ah.k ml (l,m.1,a,b,c)=true:=fun l a b c=>aL (by omega)
  have ed:ah.mn (ah.l s.2.2.2.2.2.1) 1024=((min s.2.2.2.2.2.1.length 1024:Nat):Int):=oy (i:=s.2.2.2.2.2.1.length) (j:=1024)
  have w2:∀(l:List Int) (a b c:Int),ah.k ml (l,ah.mn (ah.l s.2.2.2.2.2.1) 1024,a,b,c)=true:=fun l a b c=>aL (by rw[ed];omega)
  have w3:ah.k yr (m,s.2.2.2.2.2.2.2)=true:=aL hf
  have w4:ah.and (ah.c .leq 0 0) (ah.and (ah.c .leq 0 (ah.mn (ah.l (ah.k o4 (m,s.2.2.2.2.2.2.2))) 256)) (ah.c .leq (ah.mn (ah.l (ah.k o4 (m,s.2.2.2.2.2.2.2))) 256) (ah.l (ah.k o4 (m,s.2.2.2.2.2.2.2)))))=true:=by
   have e:ah.mn (ah.l (ah.k o4 (m,s.2.2.2.2.2.2.2))) 256=((min (ah.k o4 (m,s.2.2.2.2.2.2.2)).length 256:Nat):Int):=oy (i:=(ah.k o4 (m,s.2.2.2.2.2.2.2)).length) (j:=256)
   rw[e,bK,aK,aK,ap,ap,ap];simp;omega
  have w5:ah.k yc ([true],m.1)=true:=by rw[hm];exact Sx (by omega)
  have key:=Kd (p:=⟨s.2.2.2.2.2.2.1,(s.2.2.2.2.2.2.1.length:Int),m,ah.mn (ah.mx s.1 1) 16,rowP s.2.2.1 m.1.toNat 0 (jE m).1 0,rowP s.2.2.2.1 m.1.toNat 40 60 50,rowP s.2.2.2.2.1 m.1.toNat (ah.u .neg .i64 (ah.b .quo .i64 m.2.2.2.1 2)) (ah.b .quo .i64 m.2.2.2.1 2) 0,rowP s.2.2.2.2.2.1 (ah.mn (ah.l s.2.2.2.2.2.1) 1024).toNat (ah.u .neg .i64 m.2.2.2.2.1) m.2.2.2.2.1 0,ah.s (pq m s.2.2.2.2.2.2.2) 0 (ah.mn (ah.l (pq m s.2.2.2.2.2.2.2)) 256),Sr s.2.1 m.1.toNat⟩) (m:=m) (L:=s.2.2.2.2.2.2.1) rfl rfl rfl ho _ 0 rfl (Nat.zero_le _)
  have ef:ah.s (pq m s.2.2.2.2.2.2.2) 0 (ah.mn (ah.l (pq m s.2.2.2.2.2.2.2)) 256)=(pq m s.2.2.2.2.2.2.2).take 256:=by
   rw[show ah.mn (ah.l (pq m s.2.2.2.2.2.2.2)) 256=((min (pq m s.2.2.2.2.2.2.2).length 256:Nat):Int) from oy (i:=(pq m s.2.2.2.2.2.2.2).length) (j:=256),fS,gF]
   show List.drop 0 _=_
   rw[List.drop_zero,Nat.min_comm,←List.take_eq_take_min]
  have key:ay (OL ah) _ (gl m s,0):=au (by unfold gl;rw[ef,ed,gF];rfl) key
  repeat' first
   | exact key
   | refine .and ?_ ?_
   | refine af.2 ⟨w5,?_⟩
   | refine af.2 ⟨w _ _ _ _,?_⟩
   | refine af.2 ⟨w2 _ _ _ _,?_⟩
   | refine af.2 ⟨w3,?_⟩
   | refine af.2 ⟨w4,?_⟩
 ·rw[aX h]
  exact(aj (by show ah.c .neq (jE m).2 0=true;rw[aQ];exact aL h)).2 (.ret _)
def wm:(ak×gG)→(gG×Int):=fun(m,s)=>gH m s
def Da:(ak×gG)→Bool:=fun(_,s)=>decide (s.2.2.2.2.2.2.2.length≤1000000∧s.2.2.2.2.2.2.1.length≤1000000∧s.2.2.2.2.2.1.length≤140737488355328)
def adb:aA:=⟨[aN,fV], [fV,yI],Da,wm⟩
theorem aa0:Sd 65 adb:=zY ar bR true 119 (oc acU oz) (ic acQ iz) mz pz [⟨65,9, [[2,4,9,82,83,84]]⟩] [] (fun A (m,s)=>Wb A m s) OL ZA (fc Tryz.func65 fz) (sc BX (sc aeu (sc aeq (sc afk (sc afF sz))))) (fun A y=>match y with |.c0 p a2=>⟨57,by kernel_rfl,by kernel_rfl⟩|.c1 p b2 b12=>⟨57,by kernel_rfl,by kernel_rfl⟩) fun((m,s):ak×gG) hp h=>Ym (of_decide_eq_true hp).1 (of_decide_eq_true hp).2.1 (of_decide_eq_true hp).2.2
theorem QK{m:ak}{id:Int}(h:(jA m id).2=0):(jA m id).1.1=id:=by
 unfold jA at h ⊢
 cases h0:c_ m
 ·rw[h0] at h;exact(G1 (n:=70) h).elim
 rw[h0,cond_true] at h
 rw[cond_true]
 cases h1:decide (0≤id∧id≤m.1-1)
 ·rw[h1] at h;exact(G1 (n:=2) h).elim
 ·rfl
theorem aeZ{m:ak}{n:Node}{s:Int}(h:(LF m n s).2=0):(LF m n s).1.1=n.1:=by
 unfold LF at h ⊢
 by_cases h0:bf m n=0
 ·rw[aL h0,cond_true] at h ⊢
  cases h1:decide (n.2.1=0)
  ·rw[h1] at h;exact(G1 (n:=181) h).elim
  rw[h1,cond_true] at h
  rw[cond_true]
  cases h2:decide (0≤s∧s≤ah.b .shl .i64 1 m.1-1)
  ·rw[h2] at h;exact(G1 (n:=2) h).elim
  rw[h2,cond_true] at h
  rw[cond_true]
  cases h3:lh s n.1
  ·rw[h3] at h;exact(G1 (n:=2) h).elim
  ·rfl
 ·rw[aX h0] at h;exact absurd h h0
def Az:List Bool→Nat→Int→Int
 | [],_,s=>s
 | u::l,i,s=>Az l (i+1) (bif u then ah.b .or .i64 s (ah.b .shl .i64 1 (i:Int)) else s)
def Bu(m:ak)(set i:Int)(u:Bool):Node×Int:=bif decide ((jA m i).2=0)&&u then LF m (jA m i).1 set else jA m i
def rz(m:ak)(set:Int):List Bool→Nat→List Node→List Node×Int
 | [],_,acc=>(acc,0)
 | u::l,i,acc=>bif decide ((Bu m set (i:Int) u).2=0) then rz m set l (i+1) (acc ++ [(Bu m set (i:Int) u).1]) else([],(Bu m set (i:Int) u).2)
theorem WQ{m:ak}{set i:Int}{u:Bool}(h:(Bu m set i u).2=0):bf m (Bu m set i u).1=0∧(Bu m set i u).1.1=i:=by
 unfold Bu at h ⊢
 by_cases h0:(jA m i).2=0
 ·rw[aL h0,Bool.true_and] at h ⊢
  cases u
  ·exact⟨CG h0,QK h0⟩
  ·exact⟨Wq (CG h0) h,(aeZ h).trans (QK h0)⟩
 ·rw[aX h0] at h;exact absurd h h0
theorem Sc{m:ak}{set:Int}:∀(l:List Bool) (i:Nat) (acc:List Node),(rz m set l i acc).2=0→acc.length=i→jX m acc→jX m (rz m set l i acc).1∧(rz m set l i acc).1.length=i+l.length:=by
 intro l
 induction l with
 | nil=>intro i acc _ hl h;exact⟨h,hl⟩
 | cons u l ih=>
   intro i acc h hl hn
   rw[rz] at h ⊢
   by_cases h0:(Bu m set (i:Int) u).2=0
   ·rw[aL h0,cond_true] at h ⊢
    obtain⟨a,b⟩:=WQ h0
    obtain⟨c,d⟩:=ih (i+1) _ h (by rw[fY,hl];rfl) fun j n hj=>by
     rw[List.getElem?_append] at hj
     split at hj
     ·exact hn j n hj
     ·rename_i hlt
      have:j-acc.length=0:=by
       by_cases h:j-acc.length=0
       ·exact h
       ·rw[List.getElem?_eq_none (by simp;omega)] at hj;cases hj
      rw[this] at hj
      cases hj
      exact⟨a,by rw[b];omega⟩
    exact⟨c,by rw[d,List.length_cons];omega⟩
   ·rw[aX h0] at h;exact absurd h h0
def agR(m:ak)(c:gG)(l:List Node):bd:=(true,m,c,l,List.replicate m.1.toNat false,0, [])
def Ww(m:ak)(c:gG):Bool×bd×Int:=
 bif decide ((rz m (Az c.2.1 0 0) c.2.1 0 []).2=0) then(true,agR m c (rz m (Az c.2.1 0 0) c.2.1 0 []).1,0) else(false,Ty.dW ol,(rz m (Az c.2.1 0 0) c.2.1 0 []).2)
def oM(m:ak)(s:gG):Bool×bd×Int:=bif decide ((gH m s).2=0) then Ww m (gH m s).1 else(false,Ty.dW ol,(gH m s).2)
theorem Jc{l:List Bool}{N:Nat}:(Sr l N).length=N:=by
 unfold Sr
 rw[jf,bK,bK,oy,fS,gF,pg]
 show((List.replicate N true).take 0++(l.take (min l.length N)).drop 0++(List.replicate N true).drop (0+((l.take (min l.length N)).drop 0).length)).length=N
 rw[List.take_zero,List.nil_append,List.drop_zero,fY,List.length_drop,pg,List.length_take]
 omega
structure Mid(x:bd)(k:Nat):Prop where
 inv:Rt x
 made:x.1=true
 slot:x.2.2.2.2.2.1=(k:Int)
 len:(x.2.2.2.1.length:Int)=x.2.1.1
 num:1≤x.2.1.1∧x.2.1.1≤8
 cJ:1≤x.2.2.1.1∧x.2.2.1.1≤16
 uu:x.2.2.2.2.2.2.length≤k*8
 snp:Bh x
theorem Jx{m:ak}{s:gG}(h:(oM m s).1=false):¬(oM m s).2.2=0:=by
 unfold oM at h ⊢
 by_cases h0:(gH m s).2=0
 ·rw[aL h0,cond_true] at h ⊢
  unfold Ww at h ⊢
  by_cases h1:(rz m (Az (gH m s).1.2.1 0 0) (gH m s).1.2.1 0 []).2=0
  ·rw[aL h1] at h;cases h
  ·rw[aX h1];exact h1
 ·rw[aX h0];exact h0
theorem IX{m:ak}{s:gG}(h:(oM m s).1=true):(oM m s).2.2=0∧(oM m s).2.1.2.1=m∧Mid (oM m s).2.1 0:=by
 unfold oM at h ⊢
 by_cases h0:(gH m s).2=0
 ·rw[aL h0,cond_true] at h ⊢
  have hc:(jE m).2=0:=by
   unfold gH at h0
   by_cases hq:(jE m).2=0
   ·exact hq
   ·rw[aX hq] at h0;exact h0
  have e:(gH m s).1=gl m s:=by unfold gH;rw[aL hc];rfl
  rw[e] at h ⊢
  have hm:=(cX (sW.1 (zP.symm.trans (Cb hc)))).1
  unfold Ww at h ⊢
  by_cases h1:(rz m (Az (gl m s).2.1 0 0) (gl m s).2.1 0 []).2=0
  ·rw[aL h1,cond_true]
   obtain⟨a,b⟩:=Sc _ 0 [] h1 rfl fun i n hi=>by cases hi
   have hl:(gl m s).2.1.length=m.1.toNat:=Jc
   rw[hl,Nat.zero_add] at b
   generalize (rz m (Az (gl m s).2.1 0 0) (gl m s).2.1 0 []).1=l at a b
   refine⟨rfl,rfl,⟨a,?_⟩,rfl,rfl,?_,?_,?_,Nat.zero_le _,fun s hs=>by cases hs⟩
   ·refine⟨by show(List.replicate _ _).length=l.length;rw[pg,b],by show 1≤l.length;omega,by show l.length≤1000;omega,?_,?_,by show 0+l.length≤_;omega⟩
    ·show(List.take 256 _).length≤_;rw[List.length_take];omega
    ·show(K9 (Na m s.2.2.2.2.2.2.1)).length≤_
     rw[show(K9 (Na m s.2.2.2.2.2.2.1)).length=(Na m s.2.2.2.2.2.2.1).length from kB,Na,List.length_take];omega
   ·show(l.length:Int)=m.1;omega
   ·show 1≤m.1∧m.1≤8;omega
   ·show 1≤ah.mn (ah.mx s.1 1) 16∧ah.mn (ah.mx s.1 1) 16≤16
    rw[nL,Ig]
    split<;>split<;>omega
  ·rw[aX h1] at h;cases h
 ·rw[aX h0] at h;cases h
theorem mid_step{x:bd}{k:Nat}(h:Mid x k)(hk:k≤1000):Mid (ni x) (k+1):=by
 have st:=sH h.inv
 obtain⟨a,b,c,d,e,f⟩:=h.inv.rest
 have h1:=st.len
 have h2:=st.aW
 have h3:=st.uu
 have h4:=h.uu
 have h5:=h.len
 have h6:=h.num
 refine⟨⟨by rw[st.m];exact st.Ht,by omega,by omega,by omega,by rw[st.s];exact d,by rw[st.s];exact e,by omega⟩,st.made.trans h.made,?_,by rw[h1,st.m];exact h.len,by rw[st.m];exact h.num,by rw[st.s];exact h.cJ,by omega,st.Qw h.snp⟩
 rw[st.slot,h.slot,cm (by omega)]
def itX:Nat→bd→bd
 | 0,x=>x
 | k+1,x=>itX k (ni x)
structure Pp where
 (a1:List Bool) (a2:Int) (a4:ak) (a5:gG) (a7:ak) (a8:gG) (cN:List Bool)
structure Q6 where
 (b0:Int) (b1:List Bool) (b2:Int) (b4 b6:ak) (b7:gG) (b9:List Bool)
structure N7 where
 (c0:Int) (c1:List Bool) (c2:Int) (c4 c6:ak) (c7:gG) (c10:List Bool)
inductive NY where
 | c0 (p:Pp) (a0:Int) (a3:Int)
 | c1 (p:Q6)
 | c2 (p:N7) (c3:Int) (c9:List Node)
noncomputable def YR:NY→eT
 | .c0 p a0 a3=>⟨[⟨25,87,(en [(2,.ptr 0 0),(6,.ptr 1 0),(8,.ptr 2 0),(9,vi a0),(33,.sl .bool p.a1),(34,vi p.a2),(35,vi a3)]),[.inLoop (cw Tryz.f25 [1,1,1,1,1,0,1,0,0]),.inBlock 0,.code (cw Tryz.f25 [1,1,1,1,1,1])],[],none⟩],[.flat false (dc aN p.a4),.flat false (dc fV p.a5),.flat false ([vb true]++dc aN p.a7++dc fV p.a8 ++ [.dn true,.own 3,vi 0,.dn true]),.arr false .bool p.cN,.dead]⟩
 | .c1 p=>⟨[⟨25,87,(en [(2,.ptr 0 0),(8,.ptr 1 0),(9,vi p.b0),(47,.sl .bool p.b1),(48,vi p.b2),(49,vi 0)]),[.inLoop (cw Tryz.f25 [1,1,1,1,1,1,0,1,0,0]),.inBlock 2,.code (cw Tryz.f25 [1,1,1,1,1,1,1])],[],none⟩],[.flat false (dc aN p.b4),.flat false ([vb true]++dc aN p.b6++dc fV p.b7 ++ [.dn true,.own 2,vi 0,.dn true]),.arr false .bool p.b9,.dead]⟩
 | .c2 p c3 c9=>⟨[⟨25,87,(en [(2,.ptr 0 0),(8,.ptr 1 0),(9,vi p.c0),(47,.sl .bool p.c1),(48,vi p.c2),(49,vi c3)]),[.inLoop (cw Tryz.f25 [1,1,1,1,1,1,0,1,0,0]),.inBlock 2,.code (cw Tryz.f25 [1,1,1,1,1,1,1])],[],none⟩],[.flat false (dc aN p.c4),.flat false ([vb true]++dc aN p.c6++dc fV p.c7 ++ [.own 2,.own 3,vi 0,.dn true]),.arr false aC c9,.arr false .bool p.c10,.dead]⟩
def YA(A:aI)(m:ak)(s:gG):LT (Bool×bd×Int) NY:=.need (A.k Da (m,s)) (.br (A.c .neq (A.k wm (m,s)).2 0) (.ret (false,(Ty.dW ol:bd),(A.k wm (m,s)).2)) (.need (A.and (A.c .eql m.1 m.1) (A.and (A.c .leq 0 m.1) (A.c .leq m.1 140737488355328))) (.more (.c0 ⟨(A.k wm (m,s)).1.2.1,(A.l (A.k wm (m,s)).1.2.1),m,(A.k wm (m,s)).1,m,(A.k wm (m,s)).1,(A.r m.1 false)⟩ 0 0))))
def vH(A:aI):NY→LT (Bool×bd×Int) NY
 | .c0 p a0 a3=>.br (A.c .lss a3 p.a2) (.need (A.and (A.c .leq 0 a3) (A.c .lss a3 (A.l p.a1))) (.br (A.n .bool p.a1 a3:Bool) (.need (A.c .leq 0 a3) (.more (.c0 p (A.b .or .i64 a0 (A.b .shl .i64 1 a3)) (A.b .add .i64 a3 1)))) (.more (.c0 p a0 (A.b .add .i64 a3 1))))) (.more (.c1 ⟨a0,p.a5.2.1,(A.l p.a5.2.1),p.a4,p.a7,p.a8,p.cN⟩))
 | .c1 p=>.br (A.c .lss 0 p.b2) (.need (A.and (A.c .leq 0 0) (A.c .lss 0 (A.l p.b1))) (.need (A.k (@tt (ak×Int)) (p.b4,0)) (.br (A.c .eql (A.k cO (p.b4,0)).2 0) (.br (A.n .bool p.b1 0:Bool) (.need (A.k (@tt (ak×Node×Int)) (p.b4,(A.k cO (p.b4,0)).1,p.b0)) (.br (A.c .neq (A.k oh (p.b4,(A.k cO (p.b4,0)).1,p.b0)).2 0) (.ret (false,(Ty.dW ol:bd),(A.k oh (p.b4,(A.k cO (p.b4,0)).1,p.b0)).2)) (.need (A.c .leq (A.l (([(A.k oh (p.b4,(A.k cO (p.b4,0)).1,p.b0)).1]:List Node):List Node)) 676622540169) (.more (.c2 ⟨p.b0,p.b1,p.b2,p.b4,p.b6,p.b7,p.b9⟩ (A.b .add .i64 0 1) ([(A.k oh (p.b4,(A.k cO (p.b4,0)).1,p.b0)).1]:List Node)))))) (.br (A.c .neq (A.k cO (p.b4,0)).2 0) (.ret (false,(Ty.dW ol:bd),(A.k cO (p.b4,0)).2)) (.need (A.c .leq (A.l (([(A.k cO (p.b4,0)).1]:List Node):List Node)) 676622540169) (.more (.c2 ⟨p.b0,p.b1,p.b2,p.b4,p.b6,p.b7,p.b9⟩ (A.b .add .i64 0 1) ([(A.k cO (p.b4,0)).1]:List Node)))))) (.br (A.c .neq (A.k cO (p.b4,0)).2 0) (.ret (false,(Ty.dW ol:bd),(A.k cO (p.b4,0)).2)) (.need (A.c .leq (A.l (([(A.k cO (p.b4,0)).1]:List Node):List Node)) 676622540169) (.more (.c2 ⟨p.b0,p.b1,p.b2,p.b4,p.b6,p.b7,p.b9⟩ (A.b .add .i64 0 1) ([(A.k cO (p.b4,0)).1]:List Node)))))))) (.ret (true,(true,p.b6,p.b7,([]:List Node),p.b9,0,([]:List iT)),0))
 | .c2 p c3 c9=>.br (A.c .lss c3 p.c2) (.need (A.and (A.c .leq 0 c3) (A.c .lss c3 (A.l p.c1))) (.need (A.k (@tt (ak×Int)) (p.c4,c3)) (.br (A.c .eql (A.k cO (p.c4,c3)).2 0) (.br (A.n .bool p.c1 c3:Bool) (.need (A.k (@tt (ak×Node×Int)) (p.c4,(A.k cO (p.c4,c3)).1,p.c0)) (.br (A.c .neq (A.k oh (p.c4,(A.k cO (p.c4,c3)).1,p.c0)).2 0) (.ret (false,(Ty.dW ol:bd),(A.k oh (p.c4,(A.k cO (p.c4,c3)).1,p.c0)).2)) (.need (A.c .leq (A.l (A.p c9 ([(A.k oh (p.c4,(A.k cO (p.c4,c3)).1,p.c0)).1]:List Node))) 676622540169) (.more (.c2 p (A.b .add .i64 c3 1) (A.p c9 ([(A.k oh (p.c4,(A.k cO (p.c4,c3)).1,p.c0)).1]:List Node))))))) (.br (A.c .neq (A.k cO (p.c4,c3)).2 0) (.ret (false,(Ty.dW ol:bd),(A.k cO (p.c4,c3)).2)) (.need (A.c .leq (A.l (A.p c9 ([(A.k cO (p.c4,c3)).1]:List Node))) 676622540169) (.more (.c2 p (A.b .add .i64 c3 1) (A.p c9 ([(A.k cO (p.c4,c3)).1]:List Node))))))) (.br (A.c .neq (A.k cO (p.c4,c3)).2 0) (.ret (false,(Ty.dW ol:bd),(A.k cO (p.c4,c3)).2)) (.need (A.c .leq (A.l (A.p c9 ([(A.k cO (p.c4,c3)).1]:List Node))) 676622540169) (.more (.c2 p (A.b .add .i64 c3 1) (A.p c9 ([(A.k cO (p.c4,c3)).1]:List Node))))))))) (.ret (true,(true,p.c6,p.c7,c9,p.c10,0,([]:List iT)),0))
theorem Mz{l:List Bool}{i:Nat}(h:l.length≤i){s:Int}:Az (l.drop i) i s=s:=by rw[List.drop_eq_nil_of_le h];rfl
theorem Qs{p:Pp}{l:List Bool}{q:Int→Bool×bd×Int}(h1:p.a1=l)(h2:p.a2=(l.length:Int))(hl:l.length≤1000)
  (T:∀z,ay (vH ah) (.more (.c1 ⟨z,p.a5.2.1,ah.l p.a5.2.1,p.a4,p.a7,p.a8,p.cN⟩)) (q z)) :
  ∀(j i:Nat) (z:Int),l.length-i=j→i≤l.length→ay (vH ah) (.more (.c0 p z (i:Int))) (q (Az (l.drop i) i z)):=by
 intro j
 induction j with
 | zero=>
   intro i z hj hi
   rw[Mz (by omega),al,vH,h2]
   exact(ai (by rw[ao];exact aX (by omega))).2 (T z)
 | succ j ih=>
   intro i z hj hi
   have hi':i<l.length:=by omega
   rw[al,vH,h1,h2]
   refine(aj (by rw[ao];exact aL (by omega))).2 (af.2 ⟨aP hi',?_⟩)
   rw[show(ah.n .bool l (i:Int):Bool)=l[i] from getD_in hi' _,ry hi',Az,cm (i:=i) (by omega)]
   cases l[i]
   ·exact(ai rfl).2 (ih (i+1) z (by omega) (by omega))
   ·exact(aj rfl).2 (af.2 ⟨by rw[ap];exact aL (by omega),ih (i+1) _ (by omega) (by omega)⟩)
theorem Jp{m:ak}{S i:Int}{u:Bool}{K:Node→LT (Bool×bd×Int) NY}{R:Bool×bd×Int}
  (hE:¬(Bu m S i u).2=0→R=(false,Ty.dW ol,(Bu m S i u).2)) (hK:(Bu m S i u).2=0→ay (vH ah) (K (Bu m S i u).1) R) :
  ay (vH ah) (.need (ah.k (@tt (ak×Int)) (m,i)) (.br (ah.c .eql (ah.k cO (m,i)).2 0)
   (.br u (.need (ah.k (@tt (ak×Node×Int)) (m,(ah.k cO (m,i)).1,S)) (.br (ah.c .neq (ah.k oh (m,(ah.k cO (m,i)).1,S)).2 0) (.ret (false,(Ty.dW ol:bd),(ah.k oh (m,(ah.k cO (m,i)).1,S)).2)) (K (ah.k oh (m,(ah.k cO (m,i)).1,S)).1)))
     (.br (ah.c .neq (ah.k cO (m,i)).2 0) (.ret (false,(Ty.dW ol:bd),(ah.k cO (m,i)).2)) (K (ah.k cO (m,i)).1)))
   (.br (ah.c .neq (ah.k cO (m,i)).2 0) (.ret (false,(Ty.dW ol:bd),(ah.k cO (m,i)).2)) (K (ah.k cO (m,i)).1)))) R:=by
 rw[show ah.k cO (m,i)=jA m i from rfl,show ah.k oh (m,(jA m i).1,S)=LF m (jA m i).1 S from rfl]
 refine af.2 ⟨rfl,?_⟩
 unfold Bu at hE hK
 by_cases h:(jA m i).2=0
 ·rw[aL h,Bool.true_and] at hE hK
  refine(aj (by rw[aM];exact aL h)).2 ?_
  cases u
  ·refine(ai rfl).2 ((ai (by rw[aQ];exact aX fun k=>k h)).2 (hK h))
  ·refine(aj rfl).2 (af.2 ⟨rfl,?_⟩)
   refine ax (p:=¬(LF m (jA m i).1 S).2=0) aQ (fun g=>?_) fun g=>hK (Decidable.not_not.1 g)
   rw[hE g];exact .ret _
 ·rw[aX h,Bool.false_and] at hE hK
  refine(ai (by rw[aM];exact aX h)).2 ((aj (by rw[aQ];exact aL h)).2 ?_)
  rw[hE h];exact .ret _
def OP(m:ak)(c:gG)(aW:List Bool)(r:List Node×Int):Bool×bd×Int:=bif decide (r.2=0) then(true,(true,m,c,r.1,aW,0, []),0) else(false,Ty.dW ol,r.2)
theorem Ei{m:ak}{c:gG}{aW:List Bool}{e:Int}(h:¬e=0):OP m c aW ([],e)=(false,Ty.dW ol,e):=by unfold OP;rw[aX h];rfl
theorem B4{m:ak}{S:Int}{u:Bool}{l:List Bool}{i:Nat}{acc:List Node}:rz m S (u::l) i acc=bif decide ((Bu m S (i:Int) u).2=0) then rz m S l (i+1) (acc ++ [(Bu m S (i:Int) u).1]) else([],(Bu m S (i:Int) u).2):=rfl
theorem xu{l:List Node}(h:l.length≤1001):ah.c .leq (ah.l l) 676622540169=true:=by rw[ap,bK];exact aL (by omega)
theorem MG{p:N7}{m:ak}{l:List Bool}{S:Int}(h0:p.c0=S)(h1:p.c1=l)(h2:p.c2=(l.length:Int))(h4:p.c4=m)(hl:l.length≤1000) :
  ∀(j i:Nat) (acc:List Node),l.length-i=j→i≤l.length→acc.length≤i→ay (vH ah) (.more (.c2 p (i:Int) acc)) (OP p.c6 p.c7 p.c10 (rz m S (l.drop i) i acc)):=by
 intro j
 induction j with
 | zero=>
   intro i acc hj hi ha
   rw[List.drop_eq_nil_of_le (by omega),al,vH,h2]
   exact(ai (by rw[ao];exact aX (by omega))).2 (.ret _)
 | succ j ih=>
   intro i acc hj hi ha
   have hi':i<l.length:=by omega
   rw[al,vH,h0,h1,h2,h4]
   refine(aj (by rw[ao];exact aL (by omega))).2 (af.2 ⟨aP hi',?_⟩)
   rw[show(ah.n .bool l (i:Int):Bool)=l[i] from getD_in hi' _,ry hi',B4,cm (i:=i) (by omega)]
   refine Jp (m:=m) (S:=S) (i:=(i:Int)) (u:=l[i]) (K:=fun n=>.need (ah.c .leq (ah.l (ah.p acc ([n]:List Node))) 676622540169) (.more (.c2 p ((i+1:Nat):Int) (ah.p acc ([n]:List Node))))) (fun h=>?_) fun h=>?_
   ·rw[aX h];exact Ei h
   ·rw[aL h]
    have hn:(ah.p acc [(Bu m S (i:Int) l[i]).1]:List Node).length≤i+1:=by rw[iA,fY,List.length_singleton];omega
    exact af.2 ⟨xu (by omega),ih (i+1) _ (by omega) (by omega) hn⟩
theorem Kl{p:Q6}{m:ak}{l:List Bool}{S:Int}(h0:p.b0=S)(h1:p.b1=l)(h2:p.b2=(l.length:Int))(h4:p.b4=m)(hl:l.length≤1000) :
  ay (vH ah) (.more (.c1 p)) (OP p.b6 p.b7 p.b9 (rz m S l 0 [])):=by
 rw[al,vH,h0,h1,h2,h4]
 cases l with
 | nil=>exact(ai rfl).2 (.ret _)
 | cons u l=>
   refine(aj (by rw[ao,List.length_cons];exact aL (by omega))).2 (af.2 ⟨aP (i:=0) (Nat.zero_lt_succ _),?_⟩)
   rw[B4]
   refine Jp (m:=m) (S:=S) (i:=0) (u:=u) (K:=fun n=>.need (ah.c .leq (ah.l (([n]:List Node):List Node)) 676622540169) (.more (.c2 ⟨S,u::l,((u::l).length:Int),m,p.b6,p.b7,p.b9⟩ (ah.b .add .i64 0 1) ([n]:List Node)))) (fun h=>?_) fun h=>?_
   ·rw[show decide ((Bu m S ((0:Nat):Int) u).2=0)=false from aX h];exact Ei h
   ·rw[show decide ((Bu m S ((0:Nat):Int) u).2=0)=true from aL h]
    exact af.2 ⟨xu (Nat.le_add_left 1 _),MG (p:=⟨S,u::l,((u::l).length:Int),m,p.b6,p.b7,p.b9⟩) (l:=u::l) rfl rfl rfl rfl hl l.length 1 [(Bu m S ((0:Nat):Int) u).1] (by rw[List.length_cons];omega) (by rw[List.length_cons];omega) (Nat.le_refl 1)⟩
theorem VY{m:ak}{s:gG}(h:ah.k Da (m,s)=true):ay (vH ah) (YA ah m s) (oM m s):=by
 unfold YA oM
 refine af.2 ⟨h,?_⟩
 rw[show ah.k wm (m,s)=gH m s from rfl]
 by_cases h0:(gH m s).2=0
 ·rw[aL h0,cond_true]
  have hc:(jE m).2=0:=by
   unfold gH at h0
   by_cases hq:(jE m).2=0
   ·exact hq
   ·rw[aX hq] at h0;exact h0
  have e:(gH m s).1=gl m s:=by unfold gH;rw[aL hc];rfl
  have hm:=(cX (sW.1 (zP.symm.trans (Cb hc)))).1
  have hl:(gl m s).2.1.length=m.1.toNat:=Jc
  refine(ai (by rw[aQ];exact aX fun k=>k h0)).2 (af.2 ⟨?_,?_⟩)
  ·rw[aK,aK,aD,ap,ap];simp;omega
  rw[e]
  have key:=Qs (p:=⟨(gl m s).2.1,ah.l (gl m s).2.1,m,gl m s,m,gl m s,ah.r m.1 false⟩) (l:=(gl m s).2.1) (q:=fun z=>OP m (gl m s) (ah.r m.1 false) (rz m z (gl m s).2.1 0 [])) rfl rfl (by omega) (fun z=>Kl (m:=m) (l:=(gl m s).2.1) rfl rfl rfl rfl (by omega)) _ 0 0 rfl (Nat.zero_le _)
  exact key
 ·rw[aX h0]
  exact(aj (by rw[aQ];exact aL h0)).2 (.ret _)
def gv:(ak×gG)→Bool×bd×Int:=fun(m,s)=>oM m s
def vY:(ak×gG)→Bool:=fun x=>Da x
def afl:j_:=⟨[aN,fV],.ptr [.d .bool,.d aN,.d fV,.own aC,.own .bool,.d yI,.own d_],true, [yI],vY,gv⟩
theorem Vu:j_.Sound Tryz.prog 25 afl:=uR ar bR true 58 oz iz mz pz [⟨25,7, [[2,6,8,9,33,34,35]]⟩,⟨25,13, [[2,8,9,47,48,49]]⟩] [] (fun A (m,s)=>YA A m s) vH YR (fc Tryz.func25 fz) (sc Vz (sc aeh (sc aa0 sz))) (fun A y=>match y with |.c0 p a0 a3=>⟨40,by kernel_rfl,by kernel_rfl⟩|.c1 p=>⟨82,by kernel_rfl,by kernel_rfl⟩|.c2 p c3 c9=>⟨82,by kernel_rfl,by kernel_rfl⟩) fun((m,s):(ak×gG)) hp h=>VY hp
def VV(A:aI)(x2:bd):LT (bd×Bool) Empty:=.br (A.not x2.1) (.ret (x2,true)) (.ret (x2,(A.c .geq x2.2.2.2.2.2.1 (A.b .mul .i64 x2.2.2.1.1 x2.2.1.1))))
def iK(x:bd):Bool:=bif x.1 then ah.c .geq x.2.2.2.2.2.1 (ah.b .mul .i64 x.2.2.1.1 x.2.1.1) else true
theorem Tg{x:bd}:ay Empty.elim (VV ah x) (x,iK x):=by
 unfold VV iK
 cases h:x.1
 ·exact(aj rfl).2 (.ret _)
 ·exact(ai rfl).2 (.ret _)
def gu:bd×Unit→bd×Bool:=fun(x,_)=>(x,iK x)
def abZ:bH:=⟨[.ptr [.d .bool,.d aN,.d fV,.own aC,.own .bool,.d yI,.own d_]], [], [.bool],(@tt (bd×Unit)),gu,false⟩
theorem OS:bH.Sound Tryz.prog 26 abZ:=bG ar bR true 52 iz mz pz [] [] (fun A (x2,())=>VV A x2) (fun _=>Empty.elim) Empty.elim (fc Tryz.func26 (fc Tryz.func67 fz)) sz (fun _ y=>y.elim) fun((x2,()):bd×Unit) hp hv h=>Tg
def XA(A:aI)(x2:bd):LT (bd×Int) Empty:=.br (A.not x2.1) (.ret (x2,1)) (.need (A.k (@tt (bd×Unit)) (x2,())) (.br (A.k gu (x2,())).2 (.ret ((A.k gu (x2,())).1,220)) (.need (A.k Cg ((A.k gu (x2,())).1,())) (.ret ((A.k ql ((A.k gu (x2,())).1,())).1,0)))))
def Iq(x:bd):bd×Int:=bif x.1 then(bif iK x then(x,220) else(ni x,0)) else(x,1)
theorem RB{x:bd}(h:(!x.1||(iK x||GJ x))=true):ay Empty.elim (XA ah x) (Iq x):=by
 unfold XA Iq
 rw[show ah.k gu (x,())=(x,iK x) from rfl]
 cases hm:x.1
 ·exact(aj rfl).2 (.ret _)
 refine(ai rfl).2 (af.2 ⟨rfl,?_⟩)
 rw[hm] at h
 cases ho:iK x
 ·rw[ho] at h
  refine(ai rfl).2 (af.2 ⟨h,?_⟩)
  rw[show ah.k ql (x,())=(ni x,()) from rfl]
  exact .ret _
 ·exact(aj rfl).2 (.ret _)
def IK:bd×Unit→bd×Int:=fun(x,_)=>Iq x
def yP:bd×Unit→Bool:=fun(x,_)=>!x.1||(iK x||GJ x)
def afQ:bH:=⟨[.ptr [.d .bool,.d aN,.d fV,.own aC,.own .bool,.d yI,.own d_]], [], [yI],yP,IK,false⟩
theorem acp:bH.Sound Tryz.prog 27 afQ:=bG ar bR true 55 iz (mc OS (mc UR mz)) pz [] [] (fun A (x2,())=>XA A x2) (fun _=>Empty.elim) Empty.elim (fc Tryz.func27 (fc Tryz.func67 fz)) sz (fun _ y=>y.elim) fun((x2,()):bd×Unit) hp hv h=>RB hp
structure ZD where
 (a0:Int) (a2:Bool) (a3:ak) (a4:gG) (a5:Int) (a6:List Node) (a7:List Bool) (a8:List iT)
structure Qd where
 (b0:Int) (b2:Bool) (b3:ak) (b4:gG) (b5:Int) (b7:List Node) (b8:List Bool) (b9:List iT)
inductive SU where
 | c0 (p:ZD)
 | c1 (p:Qd) (b1:Int) (b6:List Node)
noncomputable def XV:SU→eT
 | .c0 p=>⟨[⟨29,24,(en [(3,.dn true),(11,.own 1),(12,vi p.a0),(13,vi 0)]),[.inLoop (cw Tryz.f29 [1,1,0,1,0,1,0,0]),.inBlock 0,.code (cw Tryz.f29 [1,1,1])],[],none⟩],[.flat false ([vb p.a2]++dc aN p.a3++dc fV p.a4 ++ [.own 1,.own 2,vi p.a5,.own 3]),.arr false aC p.a6,.arr false .bool p.a7,.arr false d_ p.a8,.dead]⟩
 | .c1 p b1 b6=>⟨[⟨29,24,(en [(3,.own 1),(11,.own 2),(12,vi p.b0),(13,vi b1)]),[.inLoop (cw Tryz.f29 [1,1,0,1,0,1,0,0]),.inBlock 0,.code (cw Tryz.f29 [1,1,1])],[],none⟩],[.flat false ([vb p.b2]++dc aN p.b3++dc fV p.b4 ++ [.own 2,.own 3,vi p.b5,.own 4]),.arr false aC b6,.arr false aC p.b7,.arr false .bool p.b8,.arr false d_ p.b9,.dead]⟩
def ZE(A:aI)(x2:bd):LT (bd×(List Node)) SU:=.br x2.1 (.more (.c0 ⟨(A.l x2.2.2.2.1),x2.1,x2.2.1,x2.2.2.1,x2.2.2.2.2.2.1,x2.2.2.2.1,x2.2.2.2.2.1,x2.2.2.2.2.2.2⟩)) (.ret (x2,([]:List Node)))
def KE(A:aI):SU→LT (bd×(List Node)) SU
 | .c0 p=>.br (A.c .lss 0 p.a0) (.need (A.and (A.c .leq 0 0) (A.c .lss 0 (A.l p.a6))) (.need (A.k vm (A.n aC p.a6 0:Node)) (.need (A.c .leq (A.l (([(A.k qs (A.n aC p.a6 0:Node))]:List Node):List Node)) 676622540169) (.more (.c1 ⟨p.a0,p.a2,p.a3,p.a4,p.a5,p.a6,p.a7,p.a8⟩ (A.b .add .i64 0 1) ([(A.k qs (A.n aC p.a6 0:Node))]:List Node)))))) (.ret ((p.a2,p.a3,p.a4,p.a6,p.a7,p.a5,p.a8),([]:List Node)))
 | .c1 p b1 b6=>.br (A.c .lss b1 p.b0) (.need (A.and (A.c .leq 0 b1) (A.c .lss b1 (A.l p.b7))) (.need (A.k vm (A.n aC p.b7 b1:Node)) (.need (A.c .leq (A.l (A.p b6 ([(A.k qs (A.n aC p.b7 b1:Node))]:List Node))) 676622540169) (.more (.c1 p (A.b .add .i64 b1 1) (A.p b6 ([(A.k qs (A.n aC p.b7 b1:Node))]:List Node))))))) (.ret ((p.b2,p.b3,p.b4,p.b7,p.b8,p.b5,p.b9),b6))
def r8(x:bd):List Node:=bif x.1 then x.2.2.2.1 else[]
theorem Io{p:Qd}{l:List Node}(h0:p.b0=(l.length:Int))(h7:p.b7=l)(hl:l.length≤1000)(hc:∀n∈l,yZ n=true):∀(j i:Nat) (acc:List Node),l.length-i=j→i≤l.length→acc.length≤i→
  ay (KE ah) (.more (.c1 p (i:Int) acc)) ((p.b2,p.b3,p.b4,l,p.b8,p.b5,p.b9),acc++l.drop i):=by
 intro j
 induction j with
 | zero=>
   intro i acc hj hi ha
   rw[List.drop_eq_nil_of_le (by omega),List.append_nil,al,KE,h0,h7]
   exact(ai (by rw[ao];exact aX (by omega))).2 (.ret _)
 | succ j ih=>
   intro i acc hj hi ha
   have hi':i<l.length:=by omega
   rw[al,KE,h0,h7]
   refine(aj (by rw[ao];exact aL (by omega))).2 (af.2 ⟨aP hi',?_⟩)
   rw[show(ah.n aC l (i:Int):Node)=l[i] from getD_in hi' _,ry hi',cm (i:=i) (by omega)]
   have hn:(ah.p acc [l[i]]:List Node).length≤i+1:=by rw[iA,fY,List.length_singleton];omega
   refine af.2 ⟨hc _ (List.getElem_mem hi'),af.2 ⟨xu (show(ah.p acc [l[i]]:List Node).length≤1001 by omega),?_⟩⟩
   have nx:=ih (i+1) _ (by omega) (by omega) hn
   rw[iA,List.append_assoc] at nx
   exact nx
theorem PI{x:bd}(hl:x.2.2.2.1.length≤1000)(hc:∀n∈x.2.2.2.1,yZ n=true):ay (KE ah) (ZE ah x) (x,r8 x):=by
 obtain⟨x1,x2,x3,l,x5,x6,x7⟩:=x
 unfold ZE r8
 cases x1
 ·exact(ai rfl).2 (.ret _)
 refine(aj rfl).2 ?_
 rw[al,KE]
 cases l with
 | nil=>exact(ai rfl).2 (.ret _)
 | cons n l=>
   have hl:(n::l).length≤1000:=hl
   have hc:∀k∈n::l,yZ k=true:=hc
   refine(aj (by show ah.c .lss 0 (ah.l (n::l))=true;rw[bK,ao,List.length_cons];exact aL (by omega))).2 (af.2 ⟨aP (i:=0) (Nat.zero_lt_succ _),af.2 ⟨hc n (List.mem_cons_self ..),af.2 ⟨xu (Nat.le_add_left 1 _),?_⟩⟩⟩)
   exact Io (p:=⟨((n::l).length:Int),true,x2,x3,x6,n::l,x5,x7⟩) rfl rfl hl hc l.length 1 [n] (by rw[List.length_cons];omega) (by rw[List.length_cons];omega) (Nat.le_refl 1)
def Iv:bd×Unit→bd×(List Node):=fun(x,_)=>(x,r8 x)
def GG:bd×Unit→Bool:=fun(x,_)=>decide (x.2.2.2.1.length≤1000)&&x.2.2.2.1.all yZ
def afB:bH:=⟨[.ptr [.d .bool,.d aN,.d fV,.own aC,.own .bool,.d yI,.own d_]], [], [(.slice aC)],GG,Iv,false⟩
theorem acr:bH.Sound Tryz.prog 29 afB:=bG ar bR true 49 iz mz pz [⟨29,4, [[3,11,12,13]]⟩] [] (fun A (x2,())=>ZE A x2) KE XV (fc Tryz.func29 (fc Tryz.func67 fz)) (sc L_ sz) (fun A y=>match y with |.c0 p=>⟨35,by kernel_rfl,by kernel_rfl⟩|.c1 p b1 b6=>⟨35,by kernel_rfl,by kernel_rfl⟩) fun((x2,()):bd×Unit) hp hv h=>PI (of_decide_eq_true ((ck _ _).mp hp).1) (List.all_eq_true.1 ((ck _ _).mp hp).2)
structure ZX where
 (a0:Int) (a2:Bool) (a3:ak) (a4:gG) (a5:Int) (a6:List iT) (a7:List Node) (a8:List Bool)
structure P0 where
 (b0:Int) (b2:Bool) (b3:ak) (b4:gG) (b5:Int) (b7:List iT) (b8:List Node) (b9:List Bool)
inductive Up where
 | c0 (p:ZX)
 | c1 (p:P0) (b1:Int) (b6:List iT)
noncomputable def XI:Up→eT
 | .c0 p=>⟨[⟨36,28,(en [(3,.dn true),(11,.own 1),(12,vi p.a0),(13,vi 0)]),[.inLoop (cw Tryz.f36 [1,1,0,1,0,1,0,0]),.inBlock 0,.code (cw Tryz.f36 [1,1,1])],[],none⟩],[.flat false ([vb p.a2]++dc aN p.a3++dc fV p.a4 ++ [.own 2,.own 3,vi p.a5,.own 1]),.arr false d_ p.a6,.arr false aC p.a7,.arr false .bool p.a8,.dead]⟩
 | .c1 p b1 b6=>⟨[⟨36,28,(en [(3,.own 1),(11,.own 2),(12,vi p.b0),(13,vi b1)]),[.inLoop (cw Tryz.f36 [1,1,0,1,0,1,0,0]),.inBlock 0,.code (cw Tryz.f36 [1,1,1])],[],none⟩],[.flat false ([vb p.b2]++dc aN p.b3++dc fV p.b4 ++ [.own 3,.own 4,vi p.b5,.own 2]),.arr false d_ b6,.arr false d_ p.b7,.arr false aC p.b8,.arr false .bool p.b9,.dead]⟩
def XT(A:aI)(x2:bd):LT (bd×(List iT)) Up:=.br x2.1 (.more (.c0 ⟨(A.l x2.2.2.2.2.2.2),x2.1,x2.2.1,x2.2.2.1,x2.2.2.2.2.2.1,x2.2.2.2.2.2.2,x2.2.2.2.1,x2.2.2.2.2.1⟩)) (.ret (x2,([]:List iT)))
def Kx(A:aI):Up→LT (bd×(List iT)) Up
 | .c0 p=>.br (A.c .lss 0 p.a0) (.need (A.and (A.c .leq 0 0) (A.c .lss 0 (A.l p.a6))) (.need (A.k vm (A.n d_ p.a6 0:iT).2) (.need (A.c .leq (A.l (([((A.n d_ p.a6 0:iT).1,(A.k qs (A.n d_ p.a6 0:iT).2))]:List iT):List iT)) 651562446089) (.more (.c1 ⟨p.a0,p.a2,p.a3,p.a4,p.a5,p.a6,p.a7,p.a8⟩ (A.b .add .i64 0 1) ([((A.n d_ p.a6 0:iT).1,(A.k qs (A.n d_ p.a6 0:iT).2))]:List iT)))))) (.ret ((p.a2,p.a3,p.a4,p.a7,p.a8,p.a5,p.a6),([]:List iT)))
 | .c1 p b1 b6=>.br (A.c .lss b1 p.b0) (.need (A.and (A.c .leq 0 b1) (A.c .lss b1 (A.l p.b7))) (.need (A.k vm (A.n d_ p.b7 b1:iT).2) (.need (A.c .leq (A.l (A.p b6 ([((A.n d_ p.b7 b1:iT).1,(A.k qs (A.n d_ p.b7 b1:iT).2))]:List iT))) 651562446089) (.more (.c1 p (A.b .add .i64 b1 1) (A.p b6 ([((A.n d_ p.b7 b1:iT).1,(A.k qs (A.n d_ p.b7 b1:iT).2))]:List iT))))))) (.ret ((p.b2,p.b3,p.b4,p.b8,p.b9,p.b5,p.b7),b6))
def yz(x:bd):List iT:=bif x.1 then x.2.2.2.2.2.2 else[]
theorem Jz{l:List iT}(h:l.length≤1000001):ah.c .leq (ah.l l) 651562446089=true:=by rw[ap,bK];exact aL (by omega)
theorem GB{p:P0}{l:List iT}(h0:p.b0=(l.length:Int))(h7:p.b7=l)(hl:l.length≤1000000)(hc:∀n∈l,yZ n.2=true):∀(j i:Nat) (acc:List iT),l.length-i=j→i≤l.length→acc.length≤i→
  ay (Kx ah) (.more (.c1 p (i:Int) acc)) ((p.b2,p.b3,p.b4,p.b8,p.b9,p.b5,l),acc++l.drop i):=by
 intro j
 induction j with
 | zero=>
   intro i acc hj hi ha
   rw[List.drop_eq_nil_of_le (by omega),List.append_nil,al,Kx,h0,h7]
   exact(ai (by rw[ao];exact aX (by omega))).2 (.ret _)
 | succ j ih=>
   intro i acc hj hi ha
   have hi':i<l.length:=by omega
   rw[al,Kx,h0,h7]
   refine(aj (by rw[ao];exact aL (by omega))).2 (af.2 ⟨aP hi',?_⟩)
   rw[show(ah.n d_ l (i:Int):iT)=l[i] from getD_in hi' _,ry hi',cm (i:=i) (by omega)]
   have hn:(ah.p acc [l[i]]:List iT).length≤i+1:=by rw[iA,fY,List.length_singleton];omega
   refine af.2 ⟨hc _ (List.getElem_mem hi'),af.2 ⟨Jz (show(ah.p acc [l[i]]:List iT).length≤1000001 by omega),?_⟩⟩
   have nx:=ih (i+1) _ (by omega) (by omega) hn
   rw[iA,List.append_assoc] at nx
   exact nx
theorem Nl{x:bd}(hl:x.2.2.2.2.2.2.length≤1000000)(hc:∀n∈x.2.2.2.2.2.2,yZ n.2=true):ay (Kx ah) (XT ah x) (x,yz x):=by
 obtain⟨x1,x2,x3,x4,x5,x6,l⟩:=x
 unfold XT yz
 cases x1
 ·exact(ai rfl).2 (.ret _)
 refine(aj rfl).2 ?_
 rw[al,Kx]
 cases l with
 | nil=>exact(ai rfl).2 (.ret _)
 | cons n l=>
   have hl:(n::l).length≤1000000:=hl
   have hc:∀k∈n::l,yZ k.2=true:=hc
   refine(aj (by show ah.c .lss 0 (ah.l (n::l))=true;rw[bK,ao,List.length_cons];exact aL (by omega))).2 (af.2 ⟨aP (i:=0) (Nat.zero_lt_succ _),af.2 ⟨hc n (List.mem_cons_self ..),af.2 ⟨Jz (Nat.le_add_left 1 _),?_⟩⟩⟩)
   exact GB (p:=⟨((n::l).length:Int),true,x2,x3,x6,n::l,x4,x5⟩) rfl rfl hl hc l.length 1 [n] (by rw[List.length_cons];omega) (by rw[List.length_cons];omega) (Nat.le_refl 1)
def L8:bd×Unit→bd×(List iT):=fun(x,_)=>(x,yz x)
def Ip:bd×Unit→Bool:=fun(x,_)=>decide (x.2.2.2.2.2.2.length≤1000000)&&x.2.2.2.2.2.2.all fun s=>yZ s.2
def afa:bH:=⟨[.ptr [.d .bool,.d aN,.d fV,.own aC,.own .bool,.d yI,.own d_]], [], [(.slice d_)],Ip,L8,false⟩
theorem aaL:bH.Sound Tryz.prog 36 afa:=bG ar bR true 49 iz mz pz [⟨36,4, [[3,11,12,13]]⟩] [] (fun A (x2,())=>XT A x2) Kx XI (fc Tryz.func36 (fc Tryz.func67 fz)) (sc L_ sz) (fun A y=>match y with |.c0 p=>⟨39,by kernel_rfl,by kernel_rfl⟩|.c1 p b1 b6=>⟨39,by kernel_rfl,by kernel_rfl⟩) fun((x2,()):bd×Unit) hp hv h=>Nl (of_decide_eq_true ((ck _ _).mp hp).1) (List.all_eq_true.1 ((ck _ _).mp hp).2)
inductive R_ where
 | c0 (a0:Bool) (a1:ak) (a2:gG) (a3:Int) (a4:List Node) (a5:List Bool) (a6:List iT)
 | c1
noncomputable def V0:R_→eT
 | .c0 a0 a1 a2 a3 a4 a5 a6=>⟨[⟨20,24,(en [(6,.ptr 0 0)]),[.inLoop (cw Tryz.f20 [1,1,1,0,0,0]),.inBlock 0,.code (cw Tryz.f20 [1,1,1,1])],[],none⟩],[.flat false ([vb a0]++dc aN a1++dc fV a2 ++ [.own 1,.own 2,vi a3,.own 3]),.arr false aC a4,.arr false .bool a5,.arr false d_ a6,.dead]⟩
 | .c1=>⟨[⟨20,24,(en [(6,.fv)]),[.inLoop (cw Tryz.f20 [1,1,1,0,0,0]),.inBlock 0,.code (cw Tryz.f20 [1,1,1,1])],[],none⟩],[.dead]⟩
def Zx(A:aI)(m:ak)(s:gG):LT (List iT×Int) R_:=.need (A.k vY (m,s)) (.br (A.k gv (m,s)).1 (.br (A.c .neq (A.k gv (m,s)).2.2 0) (.ret (([]:List iT),(A.k gv (m,s)).2.2)) (.more (.c0 (A.k gv (m,s)).2.1.1 (A.k gv (m,s)).2.1.2.1 (A.k gv (m,s)).2.1.2.2.1 (A.k gv (m,s)).2.1.2.2.2.2.2.1 (A.k gv (m,s)).2.1.2.2.2.1 (A.k gv (m,s)).2.1.2.2.2.2.1 (A.k gv (m,s)).2.1.2.2.2.2.2.2))) (.br (A.c .neq (A.k gv (m,s)).2.2 0) (.ret (([]:List iT),(A.k gv (m,s)).2.2)) (.more (.c1))))
def Qq(A:aI):R_→LT (List iT×Int) R_
 | .c0 a0 a1 a2 a3 a4 a5 a6=>.need (A.k (@tt (bd×Unit)) ((a0,a1,a2,a4,a5,a3,a6),())) (.br (A.not (A.k gu ((a0,a1,a2,a4,a5,a3,a6),())).2) (.need (A.k Cg ((A.k gu ((a0,a1,a2,a4,a5,a3,a6),())).1,())) (.more (.c0 (A.k ql ((A.k gu ((a0,a1,a2,a4,a5,a3,a6),())).1,())).1.1 (A.k ql ((A.k gu ((a0,a1,a2,a4,a5,a3,a6),())).1,())).1.2.1 (A.k ql ((A.k gu ((a0,a1,a2,a4,a5,a3,a6),())).1,())).1.2.2.1 (A.k ql ((A.k gu ((a0,a1,a2,a4,a5,a3,a6),())).1,())).1.2.2.2.2.2.1 (A.k ql ((A.k gu ((a0,a1,a2,a4,a5,a3,a6),())).1,())).1.2.2.2.1 (A.k ql ((A.k gu ((a0,a1,a2,a4,a5,a3,a6),())).1,())).1.2.2.2.2.1 (A.k ql ((A.k gu ((a0,a1,a2,a4,a5,a3,a6),())).1,())).1.2.2.2.2.2.2))) (.need (A.k Ip ((A.k gu ((a0,a1,a2,a4,a5,a3,a6),())).1,())) (.ret ((A.k L8 ((A.k gu ((a0,a1,a2,a4,a5,a3,a6),())).1,())).2,0))))
 | .c1=>.bad 194 "model.go:104"
def qj(x:bd):Nat:=(x.2.2.1.1*x.2.1.1).toNat
theorem Mid.cnt{x:bd}{k:Nat}(h:Mid x k):ah.b .mul .i64 x.2.2.1.1 x.2.1.1=(qj x:Int)∧1≤qj x∧qj x≤128:=by
 obtain⟨a1,a2⟩:=h.cJ
 obtain⟨b1,b2⟩:=h.num
 unfold qj
 generalize x.2.2.1.1=r at *
 generalize x.2.1.1=n at *
 obtain⟨r,rfl⟩:=Int.eq_ofNat_of_zero_le (show 0≤r by omega)
 obtain⟨n,rfl⟩:=Int.eq_ofNat_of_zero_le (show 0≤n by omega)
 have h1:r*n≤16*8:=Nat.mul_le_mul (by omega) (by omega)
 have h2:1*1≤r*n:=Nat.mul_le_mul (by omega) (by omega)
 have e:(r:Int)*(n:Int)=((r*n:Nat):Int):=(Int.natCast_mul r n).symm
 rw[gW,e,iU (by omega) (by omega),gF]
 exact⟨rfl,by omega,by omega⟩
theorem Mid.over{x:bd}{k:Nat}(h:Mid x k):iK x=decide (qj x≤k):=by
 unfold iK
 rw[h.made,cond_true,h.slot,h.cnt.1]
 show decide ((k:Int) ≥ (qj x:Int))=_
 by_cases g:qj x≤k
 ·rw[aL g];exact aL (by omega)
 ·rw[aX g];exact aX (by omega)
theorem Mid.ta{x:bd}{k:Nat}(h:Mid x k):qj (ni x)=qj x:=by
 have st:=sH h.inv
 unfold qj
 rw[st.m,st.s]
theorem Mid.pre{x:bd}{k:Nat}(h:Mid x k):ah.k Cg (x,())=true:=FE.2 h.inv
theorem Mid.Tj{x:bd}{k:Nat}(h:Mid x k)(hk:k≤1000):ah.k Ip (x,())=true:=by
 have h1:=h.uu
 show(decide (_)&&_)=true
 rw[aL (by omega),Bool.true_and]
 exact List.all_eq_true.2 fun s hs=>Ee (h.snp s hs)
theorem Mid.IV{x:bd}{k:Nat}(h:Mid x k):ah.k GG (x,())=true:=by
 obtain⟨_,_,c,_⟩:=h.inv.rest
 show(decide (_)&&_)=true
 rw[aL c,Bool.true_and]
 refine List.all_eq_true.2 fun n hn=>?_
 obtain⟨i,hi,rfl⟩:=List.getElem_of_mem hn
 exact Ee (h.inv.Ht i _ (sN hi)).1
def V9(m:ak)(s:gG):List iT×Int:=bif (oM m s).1 then((itX (qj (oM m s).2.1) (oM m s).2.1).2.2.2.2.2.2,0) else([],(oM m s).2.2)
theorem PO:∀(j k:Nat) (x:bd),qj x-k=j→k≤qj x→Mid x k→ay (Qq ah) (.more (.c0 x.1 x.2.1 x.2.2.1 x.2.2.2.2.2.1 x.2.2.2.1 x.2.2.2.2.1 x.2.2.2.2.2.2)) ((itX j x).2.2.2.2.2.2,0):=by
 intro j
 induction j with
 | zero=>
   intro k x hj hk hm
   rw[al,Qq]
   refine af.2 ⟨rfl,?_⟩
   rw[show ah.k gu ((x.1,x.2.1,x.2.2.1,x.2.2.2.1,x.2.2.2.2.1,x.2.2.2.2.2.1,x.2.2.2.2.2.2),())=(x,iK x) from rfl]
   refine(ai (by show(!iK x)=false;rw[hm.over,aL (show qj x≤k by omega)];rfl)).2 (af.2 ⟨hm.Tj (by have:=hm.cnt.2;omega),?_⟩)
   rw[show ah.k L8 (x,())=(x,yz x) from rfl]
   unfold yz
   rw[hm.made]
   exact .ret _
 | succ j ih=>
   intro k x hj hk hm
   have hc:=hm.cnt.2
   rw[al,Qq]
   refine af.2 ⟨rfl,?_⟩
   rw[show ah.k gu ((x.1,x.2.1,x.2.2.1,x.2.2.2.1,x.2.2.2.2.1,x.2.2.2.2.2.1,x.2.2.2.2.2.2),())=(x,iK x) from rfl]
   refine(aj (by show(!iK x)=true;rw[hm.over,aX (show ¬qj x≤k by omega)];rfl)).2 (af.2 ⟨hm.pre,?_⟩)
   rw[show ah.k ql (x,())=(ni x,()) from rfl]
   exact ih (k+1) (ni x) (by rw[hm.ta];omega) (by rw[hm.ta];omega) (mid_step hm (by omega))
theorem Xw{m:ak}{s:gG}(h:ah.k vY (m,s)=true):ay (Qq ah) (Zx ah m s) (V9 m s):=by
 unfold Zx V9
 refine af.2 ⟨h,?_⟩
 rw[show ah.k gv (m,s)=oM m s from rfl]
 cases hn:(oM m s).1
 ·exact(ai rfl).2 ((aj (by rw[aQ];exact aL (Jx hn))).2 (.ret _))
 ·obtain⟨h0,_,hm⟩:=IX hn
  exact(aj rfl).2 ((ai (by rw[aQ];exact aX fun k=>k h0)).2 (PO _ 0 _ rfl (Nat.zero_le _) hm))
def VN:(ak×gG)→(List iT×Int):=fun(m,s)=>V9 m s
def Pk:(ak×gG)→Bool:=fun x=>vY x
def ae9:aA:=⟨[aN,fV], [(.slice d_),yI],Pk,VN⟩
theorem acD:Sd 20 ae9:=s6 ar bR true true 37 (oc Vu oz) iz (mc OS (mc aaL (mc UR mz))) pz [⟨20,4, [[6]]⟩] [] (fun A (m,s)=>Zx A m s) Qq V0 (fc Tryz.func20 fz) sz (fun A y=>match y with |.c0 a0 a1 a2 a3 a4 a5 a6=>⟨22,by kernel_rfl,by kernel_rfl⟩|.c1=>⟨10,by kernel_rfl,by kernel_rfl⟩) fun((m,s):ak×gG) hp h=>Xw hp
def T3(A:aI)(s:gG):LT Bool Empty:=.br (A.c .leq (A.l s.2.2.2.2.2.2.1) 300) (.br (A.c .leq (A.l s.2.2.2.2.2.2.2) 300) (.ret (A.c .leq (A.l s.2.2.2.2.2.1) 1100)) (.ret false)) (.ret false)
def xX:gG→Bool:=fun s=>(T3 ah s).val (Ty.bi [.bool])
def ae3:aA:=⟨[fV], [.bool],(@tt gG),xX⟩
theorem af0:Sd 19 ae3:=aH ar bR true 31 [] (fun A s=>T3 A s) (fc Tryz.func19 fz) sz (fun(s:gG) hp h=>by
 show(T3 ah s).pre=true
 simp only[T3,LT.pre,D6,bne_iff_ne,beq_iff_eq,bne_eq_false_iff_eq,beq_eq_false_iff_ne]
 simp only[Ty.cv,Ty.has,ky,vV] at h
 (repeat' (first|intro _|constructor))<;>(try omega))
theorem Z4{s:gG}(h:xX s=true):s.2.2.2.2.2.2.1.length≤300∧s.2.2.2.2.2.2.2.length≤300∧s.2.2.2.2.2.1.length≤1100:=by
 have h:(bif ah.c .leq (ah.l s.2.2.2.2.2.2.1) 300 then(bif ah.c .leq (ah.l s.2.2.2.2.2.2.2) 300 then ah.c .leq (ah.l s.2.2.2.2.2.1) 1100 else false) else false)=true:=h
 rw[ap,ap,ap,bK,bK,bK] at h
 by_cases a:(s.2.2.2.2.2.2.1.length:Int)≤300
 ·rw[aL a] at h
  by_cases b:(s.2.2.2.2.2.2.2.length:Int)≤300
  ·rw[aL b] at h
   have c:(s.2.2.2.2.2.1.length:Int)≤1100:=of_decide_eq_true h
   exact⟨by omega,by omega,by omega⟩
  ·rw[aX b] at h;cases h
 ·rw[aX a] at h;cases h
theorem TW{m:ak}{s:gG}(h:xX s=true):ah.k vY (m,s)=true:=by
 obtain⟨a,b,c⟩:=Z4 h
 exact aL ⟨by omega,by omega,by omega⟩
structure Yf where
 (a1:List iT) (a2:Int)
inductive Sf where
 | c0 (p:Yf)
noncomputable def Xr:Sf→eT
 | .c0 p=>⟨[⟨18,42,(en [(2,vi 0),(3,.sl d_ p.a1),(4,vi p.a2)]),[.code (cw Tryz.f18 [1,1,1,0]),.code .ret],[],none⟩],[.dead]⟩
abbrev wQ(A:aI):=(A.p (A.p (A.p [true] [true]) [true]) [true])
abbrev FB(A:aI):=([((A.p (A.p (A.p ([2]:List Int) ([2]:List Int)) ([2]:List Int)) ([2]:List Int)),(wQ A), [true])]:List Mode)
abbrev VO(A:aI):=(A.k VN ((4,(A.b .add .i64 76 (A.k Bb (4,0,38,16,0,1,(wQ A),(FB A)))),38,16,0,1,(wQ A),(FB A)),0,([]:List Bool),([]:List Int),([]:List Int),([]:List Int),([]:List Int),([]:List bg),([]:List bJ)))
abbrev UK(A:aI):=(A.c .leq (A.l (A.p (A.p [true] [true]) [true])) 140737488355328)
def abA(A:aI):LT Bool Sf:=.need (A.c .leq (A.l ([true]:List Bool)) 140737488355328) (.need (A.c .leq (A.l ([2]:List Int)) 17592186044416) (.need (A.c .leq (A.l ([true]:List Bool)) 140737488355328) (.need (A.c .leq (A.l (A.p [true] [true])) 140737488355328) (.need (A.c .leq (A.l (A.p ([2]:List Int) ([2]:List Int))) 17592186044416) (.need (A.c .leq (A.l (A.p [true] [true])) 140737488355328) (.need (UK A) (.need (A.c .leq (A.l (A.p (A.p ([2]:List Int) ([2]:List Int)) ([2]:List Int))) 17592186044416) (.need (UK A) (.need (A.c .leq (A.l (wQ A)) 140737488355328) (.need (A.c .leq (A.l (A.p (A.p (A.p ([2]:List Int) ([2]:List Int)) ([2]:List Int)) ([2]:List Int))) 17592186044416) (.need (A.c .leq (A.l (wQ A)) 140737488355328) (.need (A.k (@tt ak) (4,0,38,16,0,1,(wQ A),(FB A))) (.need (A.k Pk ((4,(A.b .add .i64 76 (A.k Bb (4,0,38,16,0,1,(wQ A),(FB A)))),38,16,0,1,(wQ A),(FB A)),0,([]:List Bool),([]:List Int),([]:List Int),([]:List Int),([]:List Int),([]:List bg),([]:List bJ))) (.more (.c0 ⟨(VO A).1,(VO A).2⟩)))))))))))))))
def acL(A:aI):Sf→LT Bool Sf
 | .c0 p=>.br (A.c .eql 0 0) (.br (A.c .eql p.a2 0) (.br (A.c .eql (A.l p.a1) 4) (.need (A.and (A.c .leq 0 3) (A.c .lss 3 (A.l p.a1))) (.br (A.c .eql (A.n d_ p.a1 3:iT).1 1) (.need (A.and (A.c .leq 0 3) (A.c .lss 3 (A.l p.a1))) (.ret (A.and (A.c .eql (A.n d_ p.a1 3:iT).2.2.2.1.1 1) (A.and (A.c .eql (A.n d_ p.a1 3:iT).2.2.2.1.2.1 0) (A.and (A.c .eql (A.n d_ p.a1 3:iT).2.2.2.1.2.2.1 0) (A.and (A.c .eql (A.n d_ p.a1 3:iT).2.2.2.1.2.2.2.1 0) (A.and (A.c .eql (A.n d_ p.a1 3:iT).2.2.2.1.2.2.2.2 15) true))))))) (.ret false))) (.ret false)) (.ret false)) (.ret false)
def Fv{R Y:Type}(s:Y→LT R Y):Nat→LT R Y→Option R
 | 0,_=>none
 | n+1,t=>match t with
   | .ret r=>some r
   | .more y=>Fv s n (s y)
   | .br b t e=>bif b then Fv s n t else Fv s n e
   | .need b t=>bif b then Fv s n t else none
   | _=>none
theorem qb{R Y:Type}{s:Y→LT R Y}:∀{n:Nat} {t:LT R Y} {r:R},Fv s n t=some r→ay s t r
 | 0,_,_,h=>by cases h
 | n+1,t,r,h=>by
   cases t with
   | ret q=>cases h;exact .ret _
   | more y=>exact .more (qb (n:=n) h)
   | br b t e=>
     cases b
     ·exact(ai rfl).2 (qb (n:=n) h)
     ·exact(aj rfl).2 (qb (n:=n) h)
   | need b t=>
     cases b
     ·cases h
     ·exact af.2 ⟨rfl,qb (n:=n) h⟩
   | eqs _ _=>cases h
   | and _ _=>cases h
   | bad _ _=>cases h
set_option maxHeartbeats 4000000 in
theorem PW:ay (acL ah) (abA ah) true:=qb (n:=40) (by kernel_rfl)
def FZ:Unit→Bool:=fun _=>true
def aey:aA:=⟨[], [.bool],(@tt Unit),FZ⟩
theorem adU:Sd 18 aey:=aT ar bR true 313 [] [⟨18,3, [[2,3,4]]⟩] (fun A _=>abA A) acL Xr (fc Tryz.func18 (fc Tryz.func37 fz)) (sc VC (sc acD sz)) (fun A y=>match y with |.c0 p=>⟨35,by kernel_rfl,by kernel_rfl⟩) fun _ hp h=>PW
structure HY where
 (a0:Int) (a1:ak) (a2:Bool) (a3:ak) (a4:gG) (a5:Int) (a6:List Node) (a7:List Bool) (a8:List iT)
structure X_ where
 (b1:ak)
structure Dd where
 (c0:Int) (c1:List Node) (c2:Int) (c4:ak) (c5:Bool) (c6:ak) (c7:gG) (c8:Int) (c9:List Node) (c10:List Bool) (c11:List iT)
inductive RL where
 | c0 (p:HY)
 | c1 (p:X_)
 | c2 (p:Dd) (c3:Int)
noncomputable def YH:RL→eT
 | .c0 p=>⟨[⟨7,59,(en [(2,.ptr 0 0),(5,.ptr 1 0),(27,vi p.a0)]),[.inLoop (cw Tryz.f7 [1,1,1,1,0,1,0,0]),.inBlock 0,.code (cw Tryz.f7 [1,1,1,1,1])],[],none⟩],[.flat false (dc aN p.a1),.flat false ([vb p.a2]++dc aN p.a3++dc fV p.a4 ++ [.own 2,.own 3,vi p.a5,.own 4]),.arr false aC p.a6,.arr false .bool p.a7,.arr false d_ p.a8,.dead]⟩
 | .c1 p=>⟨[⟨7,59,(en [(2,.ptr 0 0),(5,.fv),(27,vi 0)]),[.inLoop (cw Tryz.f7 [1,1,1,1,0,1,0,0]),.inBlock 0,.code (cw Tryz.f7 [1,1,1,1,1])],[],none⟩],[.flat false (dc aN p.b1),.dead]⟩
 | .c2 p c3=>⟨[⟨7,59,(en [(2,.ptr 0 0),(5,.ptr 1 0),(27,vi p.c0),(30,.sl aC p.c1),(31,vi p.c2),(32,vi c3)]),[.inLoop (cw Tryz.f7 [1,1,1,1,0,1,0,0,1,1,0,0,0,1,0,0]),.inBlock 2,.code (cw Tryz.f7 [1,1,1,1,0,1,0,0,1,1,0,0,1]),.inBlock 1,.code (cw Tryz.f7 [1,1,1,1,0,1,0,0,1,1,1]),.inLoop (cw Tryz.f7 [1,1,1,1,0,1,0,0]),.inBlock 0,.code (cw Tryz.f7 [1,1,1,1,1])],[],none⟩],[.flat false (dc aN p.c4),.flat false ([vb p.c5]++dc aN p.c6++dc fV p.c7 ++ [.own 2,.own 3,vi p.c8,.own 4]),.arr false aC p.c9,.arr false .bool p.c10,.arr false d_ p.c11,.dead]⟩
def YV(A:aI)(m:ak)(s:gG):LT Bool RL:=.need (A.k (@tt Unit) ()) (.br (A.not (A.k FZ ())) (.need (A.k (@tt Unit) ()) (.ret (A.k FZ ()))) (.need (A.k (@tt gG) s) (.br (A.not (A.k xX s)) (.need (A.k (@tt Unit) ()) (.ret (A.k FZ ()))) (.need (A.k vY (m,s)) (.br (A.k gv (m,s)).1 (.br (A.c .neq (A.k gv (m,s)).2.2 0) (.ret false) (.more (.c0 ⟨0,m,(A.k gv (m,s)).2.1.1,(A.k gv (m,s)).2.1.2.1,(A.k gv (m,s)).2.1.2.2.1,(A.k gv (m,s)).2.1.2.2.2.2.2.1,(A.k gv (m,s)).2.1.2.2.2.1,(A.k gv (m,s)).2.1.2.2.2.2.1,(A.k gv (m,s)).2.1.2.2.2.2.2.2⟩))) (.br (A.c .neq (A.k gv (m,s)).2.2 0) (.ret true) (.more (.c1 ⟨m⟩))))))))
def w6(A:aI):RL→LT Bool RL
 | .c0 p=>.br (A.c .lss p.a0 128) (.need (A.k GG ((p.a2,p.a3,p.a4,p.a6,p.a7,p.a5,p.a8),())) (.more (.c2 ⟨p.a0,(A.k Iv ((p.a2,p.a3,p.a4,p.a6,p.a7,p.a5,p.a8),())).2,(A.l (A.k Iv ((p.a2,p.a3,p.a4,p.a6,p.a7,p.a5,p.a8),())).2),p.a1,(A.k Iv ((p.a2,p.a3,p.a4,p.a6,p.a7,p.a5,p.a8),())).1.1,(A.k Iv ((p.a2,p.a3,p.a4,p.a6,p.a7,p.a5,p.a8),())).1.2.1,(A.k Iv ((p.a2,p.a3,p.a4,p.a6,p.a7,p.a5,p.a8),())).1.2.2.1,(A.k Iv ((p.a2,p.a3,p.a4,p.a6,p.a7,p.a5,p.a8),())).1.2.2.2.2.2.1,(A.k Iv ((p.a2,p.a3,p.a4,p.a6,p.a7,p.a5,p.a8),())).1.2.2.2.1,(A.k Iv ((p.a2,p.a3,p.a4,p.a6,p.a7,p.a5,p.a8),())).1.2.2.2.2.1,(A.k Iv ((p.a2,p.a3,p.a4,p.a6,p.a7,p.a5,p.a8),())).1.2.2.2.2.2.2⟩ 0))) (.need (A.k (@tt (bd×Unit)) ((p.a2,p.a3,p.a4,p.a6,p.a7,p.a5,p.a8),())) (.ret (A.k gu ((p.a2,p.a3,p.a4,p.a6,p.a7,p.a5,p.a8),())).2))
 | .c1 p=>.br (A.c .lss 0 128) (.bad 194 "law.go:129") (.bad 194 "law.go:141")
 | .c2 p c3=>.br (A.c .lss c3 p.c2) (.need (A.and (A.c .leq 0 c3) (A.c .lss c3 (A.l p.c1))) (.br (A.c .neq (A.n aC p.c1 c3:Node).1 c3) (.ret false) (.need (A.k (@tt (ak×Node)) (p.c4,(A.n aC p.c1 c3:Node))) (.br (A.c .neq (A.k Vq (p.c4,(A.n aC p.c1 c3:Node))) 0) (.ret false) (.more (.c2 p (A.b .add .i64 c3 1))))))) (.need (A.k (@tt (bd×Unit)) ((p.c5,p.c6,p.c7,p.c9,p.c10,p.c8,p.c11),())) (.br (A.k gu ((p.c5,p.c6,p.c7,p.c9,p.c10,p.c8,p.c11),())).2 (.need (A.k yP ((A.k gu ((p.c5,p.c6,p.c7,p.c9,p.c10,p.c8,p.c11),())).1,())) (.ret (A.c .eql (A.k IK ((A.k gu ((p.c5,p.c6,p.c7,p.c9,p.c10,p.c8,p.c11),())).1,())).2 220))) (.need (A.k yP ((A.k gu ((p.c5,p.c6,p.c7,p.c9,p.c10,p.c8,p.c11),())).1,())) (.br (A.c .neq (A.k IK ((A.k gu ((p.c5,p.c6,p.c7,p.c9,p.c10,p.c8,p.c11),())).1,())).2 0) (.ret false) (.more (.c0 ⟨(A.b .add .i64 p.c0 1),p.c4,(A.k IK ((A.k gu ((p.c5,p.c6,p.c7,p.c9,p.c10,p.c8,p.c11),())).1,())).1.1,(A.k IK ((A.k gu ((p.c5,p.c6,p.c7,p.c9,p.c10,p.c8,p.c11),())).1,())).1.2.1,(A.k IK ((A.k gu ((p.c5,p.c6,p.c7,p.c9,p.c10,p.c8,p.c11),())).1,())).1.2.2.1,(A.k IK ((A.k gu ((p.c5,p.c6,p.c7,p.c9,p.c10,p.c8,p.c11),())).1,())).1.2.2.2.2.2.1,(A.k IK ((A.k gu ((p.c5,p.c6,p.c7,p.c9,p.c10,p.c8,p.c11),())).1,())).1.2.2.2.1,(A.k IK ((A.k gu ((p.c5,p.c6,p.c7,p.c9,p.c10,p.c8,p.c11),())).1,())).1.2.2.2.2.1,(A.k IK ((A.k gu ((p.c5,p.c6,p.c7,p.c9,p.c10,p.c8,p.c11),())).1,())).1.2.2.2.2.2.2⟩))))))
def zX(k:Int)(m:ak)(x:bd):HY:=⟨k,m,x.1,x.2.1,x.2.2.1,x.2.2.2.2.2.1,x.2.2.2.1,x.2.2.2.2.1,x.2.2.2.2.2.2⟩
def B5(k:Int)(m:ak)(x:bd):Dd:=⟨k,x.2.2.2.1,(x.2.2.2.1.length:Int),m,x.1,x.2.1,x.2.2.1,x.2.2.2.2.2.1,x.2.2.2.1,x.2.2.2.2.1,x.2.2.2.2.2.2⟩
theorem BH{m:ak}{x:bd}{k:Nat}{q:Int}(hm:Mid x k)(he:x.2.1=m)(T:ay (w6 ah) (.more (.c2 (B5 q m x) (x.2.2.2.1.length:Int))) true) :
  ∀(j i:Nat),x.2.2.2.1.length-i=j→i≤x.2.2.2.1.length→ay (w6 ah) (.more (.c2 (B5 q m x) (i:Int))) true:=by
 intro j
 induction j with
 | zero=>
   intro i hj hi
   rw[show i=x.2.2.2.1.length by omega]
   exact T
 | succ j ih=>
   intro i hj hi
   have hi':i<x.2.2.2.1.length:=by omega
   have hg:=hm.inv.Ht i _ (sN hi')
   have hlen:=hm.inv.rest.2.2.1
   rw[al,w6]
   refine(aj (by show ah.c .lss (i:Int) (x.2.2.2.1.length:Int)=true;rw[ao];exact aL (by omega))).2 (af.2 ⟨aP hi',?_⟩)
   rw[show(ah.n aC (B5 q m x).c1 (i:Int):Node)=x.2.2.2.1[i] from getD_in hi' _,cm (i:=i) (by omega)]
   refine(ai (by rw[aQ];exact aX fun k=>k hg.2)).2 (af.2 ⟨rfl,(ai ?_).2 (ih (i+1) (by omega) (by omega))⟩)
   show ah.c .neq (bf m x.2.2.2.1[i]) 0=false
   rw[←he,hg.1];rfl
theorem MZ{m:ak}:∀(j k:Nat) (x:bd),qj x-k=j→k≤qj x→Mid x k→x.2.1=m→ay (w6 ah) (.more (.c0 (zX (k:Int) m x))) true:=by
 intro j
 induction j with
 | zero=>
   intro k x hj hk hm he
   have hc:=hm.cnt.2
   have ho:iK x=true:=by rw[hm.over];exact aL (by omega)
   have e:ah.k gu (x,())=(x,iK x):=rfl
   have e4:(ah.k IK (x,())).2=(220:Int):=by
    show(Iq x).2=(220:Int)
    unfold Iq;rw[hm.made,ho];rfl
   have p4:ah.k yP (x,())=true:=by
    show(!x.1||(iK x||GJ x))=true
    rw[hm.made,ho];rfl
   have fin:ay (w6 ah) (.more (.c2 (B5 (k:Int) m x) (x.2.2.2.1.length:Int))) true:=by
    rw[al,w6]
    refine(ai (by show ah.c .lss (x.2.2.2.1.length:Int) (x.2.2.2.1.length:Int)=false;rw[ao];exact aX (by omega))).2 (af.2 ⟨rfl,?_⟩)
    have e:ah.k gu (((B5 (k:Int) m x).c5,(B5 (k:Int) m x).c6,(B5 (k:Int) m x).c7,(B5 (k:Int) m x).c9,(B5 (k:Int) m x).c10,(B5 (k:Int) m x).c8,(B5 (k:Int) m x).c11),())=(x,iK x):=rfl
    rw[e,ho]
    refine(aj rfl).2 (af.2 ⟨p4,?_⟩)
    rw[e4];exact .ret _
   rw[al,w6]
   by_cases h128:k<128
   ·refine(aj (by show ah.c .lss (k:Int) 128=true;rw[ao];exact aL (by omega))).2 (af.2 ⟨hm.IV,?_⟩)
    have e6:ah.k Iv (((zX (k:Int) m x).a2,(zX (k:Int) m x).a3,(zX (k:Int) m x).a4,(zX (k:Int) m x).a6,(zX (k:Int) m x).a7,(zX (k:Int) m x).a5,(zX (k:Int) m x).a8),())=(x,x.2.2.2.1):=by
     show(x,r8 x)=_
     unfold r8;rw[hm.made];rfl
    rw[e6]
    exact BH hm he fin _ 0 rfl (Nat.zero_le _)
   ·refine(ai (by show ah.c .lss (k:Int) 128=false;rw[ao];exact aX (by omega))).2 (af.2 ⟨rfl,?_⟩)
    have e:ah.k gu (((zX (k:Int) m x).a2,(zX (k:Int) m x).a3,(zX (k:Int) m x).a4,(zX (k:Int) m x).a6,(zX (k:Int) m x).a7,(zX (k:Int) m x).a5,(zX (k:Int) m x).a8),())=(x,iK x):=rfl
    rw[e,ho];exact .ret _
 | succ j ih=>
   intro k x hj hk hm he
   have hc:=hm.cnt.2
   have ho:iK x=false:=by rw[hm.over];exact aX (by omega)
   have hs:=mid_step hm (by omega)
   have st:=sH hm.inv
   have nx:=ih (k+1) (ni x) (by rw[hm.ta];omega) (by rw[hm.ta];omega) hs (st.m.trans he)
   have e4:ah.k IK (x,())=(ni x,(0:Int)):=by
    show Iq x=_
    unfold Iq;rw[hm.made,ho];rfl
   have p4:ah.k yP (x,())=true:=by
    show(!x.1||(iK x||GJ x))=true
    rw[hm.made,ho];exact hm.pre
   have fin:ay (w6 ah) (.more (.c2 (B5 (k:Int) m x) (x.2.2.2.1.length:Int))) true:=by
    rw[al,w6]
    refine(ai (by show ah.c .lss (x.2.2.2.1.length:Int) (x.2.2.2.1.length:Int)=false;rw[ao];exact aX (by omega))).2 (af.2 ⟨rfl,?_⟩)
    have e:ah.k gu (((B5 (k:Int) m x).c5,(B5 (k:Int) m x).c6,(B5 (k:Int) m x).c7,(B5 (k:Int) m x).c9,(B5 (k:Int) m x).c10,(B5 (k:Int) m x).c8,(B5 (k:Int) m x).c11),())=(x,iK x):=rfl
    rw[e,ho]
    refine(ai rfl).2 (af.2 ⟨p4,?_⟩)
    rw[e4]
    refine(ai rfl).2 ?_
    rw[show(B5 (k:Int) m x).c0=(k:Int) from rfl,cm (i:=k) (by omega)]
    exact nx
   rw[al,w6]
   refine(aj (by show ah.c .lss (k:Int) 128=true;rw[ao];exact aL (by omega))).2 (af.2 ⟨hm.IV,?_⟩)
   have e6:ah.k Iv (((zX (k:Int) m x).a2,(zX (k:Int) m x).a3,(zX (k:Int) m x).a4,(zX (k:Int) m x).a6,(zX (k:Int) m x).a7,(zX (k:Int) m x).a5,(zX (k:Int) m x).a8),())=(x,x.2.2.2.1):=by
    show(x,r8 x)=_
    unfold r8;rw[hm.made];rfl
   rw[e6]
   exact BH hm he fin _ 0 rfl (Nat.zero_le _)
theorem X4{m:ak}{s:gG}:ay (w6 ah) (YV ah m s) true:=by
 unfold YV
 refine af.2 ⟨rfl,(ai (by rw[show ah.k FZ ()=true from rfl];rfl)).2 (af.2 ⟨rfl,?_⟩)⟩
 cases hf:xX s
 ·exact(aj (by show(!xX s)=true;rw[hf];rfl)).2 (af.2 ⟨rfl,.ret _⟩)
 refine(ai (by show(!xX s)=false;rw[hf];rfl)).2 (af.2 ⟨TW hf,?_⟩)
 rw[show ah.k gv (m,s)=oM m s from rfl]
 cases hn:(oM m s).1
 ·exact(ai rfl).2 ((aj (by rw[aQ];exact aL (Jx hn))).2 (.ret _))
 ·obtain⟨h0,he,hm⟩:=IX hn
  exact(aj rfl).2 ((ai (by rw[aQ];exact aX fun k=>k h0)).2 (MZ _ 0 _ rfl (Nat.zero_le _) hm he))
def Vx:(ak×gG)→Bool:=fun _=>true
def ad5:aA:=⟨[aN,fV], [.bool],(@tt (ak×gG)),Vx⟩
theorem acX:Sd 7 ad5:=s6 ar bR true true 51 (oc Vu oz) iz (mc OS (mc acp (mc acr mz))) pz [⟨7,7, [[2,5,27]]⟩,⟨7,9, [[2,5,27,30,31,32]]⟩] [] (fun A (m,s)=>YV A m s) w6 YH (fc Tryz.func7 fz) (sc aeW (sc adU (sc af0 sz))) (fun A y=>match y with |.c0 p=>⟨25,by kernel_rfl,by kernel_rfl⟩|.c1 p=>⟨19,by kernel_rfl,by kernel_rfl⟩|.c2 p c3=>⟨44,by kernel_rfl,by kernel_rfl⟩) fun(m,s) hp h=>X4
theorem YX(x:ak×gG)(h:Ty.cv [aN,fV] x):Vx x=true:=rfl
end
end Go.Ev.M
