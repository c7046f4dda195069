/-
  PROVED: what functions of the program compute, part 4. Conditions: none.
-/
import Derived.Test.YtjceiokllpmnkaaGreatM3
set_option linter.unusedVariables false
set_option linter.unusedSimpArgs false
namespace Go.Ev.M
open Go.Proofs
set_option maxRecDepth 100000
open Go.Ev.Pl
noncomputable section
def K2(A:aK)(m:ao):LT (Int×Int) Empty:=.need (A.k (@tt ao) m) (.br (A.c .neq (A.k iK m) 0) (.ret (0,(A.k iK m))) (.ret ((A.b .add .i64 (A.b .mul .i64 (A.b .mul .i64 14 m.1) m.2.2.2.2.1) 8),0)))
def jH:ao→(Int×Int):=fun m=>(K2 ah m).val (Ty.bl [yI,yI])
def aa3:aC:=⟨[aP], [yI,yI],(@tt ao),jH⟩
theorem ace:Sd 129 aa3:=aL ar bU true 38 [] (fun A m=>K2 A m) (fc Tryz.func129 fz) (sc Bn sz) (fun(m:ao) hp h=>by
 show(K2 ah m).pre=true
 simp only[K2,LT.pre,cy,ax,aD,al,ap,aH,aN,aG,bE,dC,au,bd,bf,bG,bM,cm,Bool.and_eq_true,Bool.or_eq_true,Bool.and_eq_false_iff,Bool.or_eq_false_iff,Bool.not_eq_true',Bool.not_eq_false',decide_eq_true_eq,decide_eq_false_iff_not,bne_iff_ne,beq_iff_eq,bne_eq_false_iff_eq,beq_eq_false_iff_ne]
 simp only[Ty.cq,Ty.has,ku,vF] at h
 (repeat' (first|intro _|constructor))<;>(try omega))
theorem N4{m:ao}(h:¬iK m=0):(jH m).2=iK m:=by
 show(LT.val (Ty.bl [yI,yI]) (K2 ah m)).2=_
 simp only[K2,LT.val,au,aD,bne_iff_ne.2 h];rfl
theorem El{m:ao}(h:(jH m).2=0):iK m=0:=Decidable.not_not.1 fun k=>k ((N4 k).symm.trans h)
def Up(l:List Bool)(N:Nat):List Bool:=ah.spl (List.replicate N true) 0 (ah.s l 0 (ah.mn (ah.l l) (ah.l (List.replicate N true))))
def opC(o:bg):bg:=(o.1,o.2.1,o.2.2.1,o.2.2.2.1,o.2.2.2.2.1,jv o.2.2.2.2.2)
def N3(m:ao)(l:List bg):List bg:=((l.filter fun o=>lT (m,o)).map opC).take 256
def gp(m:ao)(s:gJ):gJ:=
 (ah.mn (ah.mx s.1 1) 16,Up s.2.1 m.1.toNat,rowP s.2.2.1 m.1.toNat 0 (jH m).1 0,rowP s.2.2.2.1 m.1.toNat 40 60 50,rowP s.2.2.2.2.1 m.1.toNat (ah.u .neg .i64 (ah.b .quo .i64 m.2.2.2.1 2)) (ah.b .quo .i64 m.2.2.2.1 2) 0,
   rowP s.2.2.2.2.2.1 (min s.2.2.2.2.2.1.length 1024) (ah.u .neg .i64 m.2.2.2.2.1) m.2.2.2.2.1 0,Lq (N3 m s.2.2.2.2.2.2.1),(o6 m s.2.2.2.2.2.2.2).take 256)
def aei:gJ:=(0, [], [], [], [], [], [], [])
def gM(m:ao)(s:gJ):gJ×Int:=bif decide ((jH m).2=0) then(gp m s,0) else(aei,(jH m).2)
structure Qc where
 (a0:List bg) (a1:Int) (a3:ao) (a5:Int) (a6 a7 a8 a9:List Int) (cX:List cd) (dN:List Bool)
structure M2 where
 (b0:List bg) (b1:Int) (b3:ao) (b5:Int) (b6 b7 b8 b9:List Int) (b10:List cd) (b11:List Bool)
inductive Lk where
 | c0 (p:Qc) (a2:Int)
 | c1 (p:M2) (b2:Int) (b12:List bg)
noncomputable def ZG:Lk→eF
 | .c0 p a2=>⟨[⟨65,112,(en [(2,.ptr 0 0),(4,.ptr 1 0),(9,.ptr 2 0),(82,.sl bC p.a0),(83,vi p.a1),(84,vi a2)]),[.inLoop (cw Tryz.f65 [1,1,1,1,1,1,1,0,1,0,0]),.inBlock 0,.code (cw Tryz.f65 [1,1,1,1,1,1,1,1])],[],none⟩],[.flat false (dc aP p.a3),.flat false [vi 0,.dq true,.dq true,.dq true,.dq true,.dq true,.dq true,.dq true],.flat false [vi p.a5,.own 3,.sl yI p.a6,.sl yI p.a7,.sl yI p.a8,.sl yI p.a9,.dq true,.sl bR p.cX],.arr false .bool p.dN,.dead]⟩
 | .c1 p b2 b12=>⟨[⟨65,112,(en [(2,.ptr 0 0),(4,.ptr 1 0),(9,.ptr 2 0),(82,.sl bC p.b0),(83,vi p.b1),(84,vi b2)]),[.inLoop (cw Tryz.f65 [1,1,1,1,1,1,1,0,1,0,0]),.inBlock 0,.code (cw Tryz.f65 [1,1,1,1,1,1,1,1])],[],none⟩],[.flat false (dc aP p.b3),.flat false [vi 0,.dq true,.dq true,.dq true,.dq true,.dq true,.dq true,.dq true],.flat false [vi p.b5,.own 3,.sl yI p.b6,.sl yI p.b7,.sl yI p.b8,.sl yI p.b9,.own 4,.sl bR p.b10],.arr false .bool p.b11,.arr false bC b12,.dead]⟩
abbrev O4(A:aK)(m:ao)(s:gJ):LT (gJ×Int) Lk:=(.need (A.and (A.c .leq 0 0) (A.and (A.c .leq 0 (A.mn (A.l (A.k o9 (m,s.2.2.2.2.2.2.2))) 256)) (A.c .leq (A.mn (A.l (A.k o9 (m,s.2.2.2.2.2.2.2))) 256) (A.l (A.k o9 (m,s.2.2.2.2.2.2.2)))))) (.more (.c0 ⟨s.2.2.2.2.2.2.1,(A.l s.2.2.2.2.2.2.1),m,(A.mn (A.mx s.1 1) 16),(A.k EM (s.2.2.1,m.1,0,(A.k jH m).1,0)),(A.k EM (s.2.2.2.1,m.1,40,60,50)),(A.k EM (s.2.2.2.2.1,m.1,(A.u .neg .i64 (A.b .quo .i64 m.2.2.2.1 2)),(A.b .quo .i64 m.2.2.2.1 2),0)),(A.k EM (s.2.2.2.2.2.1,(A.mn (A.l s.2.2.2.2.2.1) 1024),(A.u .neg .i64 m.2.2.2.2.1),m.2.2.2.2.1,0)),(A.s (A.k o9 (m,s.2.2.2.2.2.2.2)) 0 (A.mn (A.l (A.k o9 (m,s.2.2.2.2.2.2.2))) 256)),(A.spl (A.k Rt ([true],m.1)).2.1 0 (A.s s.2.1 0 (A.mn (A.l s.2.1) (A.l (A.k Rt ([true],m.1)).2.1))))⟩ 0)))
abbrev Jt(A:aK)(m:ao)(s:gJ):=(A.k mJ (s.2.2.2.2.1,m.1,(A.u .neg .i64 (A.b .quo .i64 m.2.2.2.1 2)),(A.b .quo .i64 m.2.2.2.1 2),0))
abbrev KE(A:aK)(m:ao)(s:gJ):=(A.k mJ (s.2.2.2.2.2.1,(A.mn (A.l s.2.2.2.2.2.1) 1024),(A.u .neg .i64 m.2.2.2.2.1),m.2.2.2.2.1,0))
abbrev Pe(A:aK)(m:ao)(s:gJ):LT (gJ×Int) Lk:=(.need (A.k zO ([true],m.1)) (.need (A.k mJ (s.2.2.1,m.1,0,(A.k jH m).1,0)) (.need (A.k mJ (s.2.2.2.1,m.1,40,60,50)) (.need (Jt A m s) (.need (KE A m s) (.need (A.k zw (m,s.2.2.2.2.2.2.2)) (O4 A m s)))))))
def XN(A:aK)(m:ao)(s:gJ):LT (gJ×Int) Lk:=.need (A.k (@tt ao) m) (.br (A.c .neq (A.k jH m).2 0) (.ret ((0,([]:List Bool),([]:List Int),([]:List Int),([]:List Int),([]:List Int),([]:List bg),([]:List cd)),(A.k jH m).2)) (.and (.and (.need (A.k zO ([true],m.1)) (.need (A.k mJ (s.2.2.1,m.1,0,(A.k jH m).1,0)) (.need (A.k mJ (s.2.2.2.1,m.1,40,60,50)) (.need (Jt A m s) (.need (KE A m s) (.need (A.k zw (m,s.2.2.2.2.2.2.2)) (.need (A.k zw (m,s.2.2.2.2.2.2.2)) (.need (KE A m s) (.need (Jt A m s) (.need (A.k mJ (s.2.2.2.1,m.1,40,60,50)) (.need (A.k mJ (s.2.2.1,m.1,0,(A.k jH m).1,0)) (O4 A m s)))))))))))) (Pe A m s)) (Pe A m s)))
def Qd(A:aK):Lk→LT (gJ×Int) Lk
 | .c0 p a2=>.br (A.c .lss a2 p.a1) (.need (A.and (A.c .leq 0 a2) (A.c .lss a2 (A.l p.a0))) (.need (A.k (@tt (ao×bg)) (p.a3,(A.n bC p.a0 a2:bg))) (.br (A.k lT (p.a3,(A.n bC p.a0 a2:bg))) (.need (A.k (@tt (List Int)) (A.n bC p.a0 a2:bg).2.2.2.2.2) (.need (A.c .leq (A.l (([((A.n bC p.a0 a2:bg).1,(A.n bC p.a0 a2:bg).2.1,(A.n bC p.a0 a2:bg).2.2.1,(A.n bC p.a0 a2:bg).2.2.2.1,(A.n bC p.a0 a2:bg).2.2.2.2.1,(A.k jv (A.n bC p.a0 a2:bg).2.2.2.2.2))]:List bg):List bg)) 2199023255552) (.more (.c1 ⟨p.a0,p.a1,p.a3,p.a5,p.a6,p.a7,p.a8,p.a9,p.cX,p.dN⟩ (A.b .add .i64 a2 1) ([((A.n bC p.a0 a2:bg).1,(A.n bC p.a0 a2:bg).2.1,(A.n bC p.a0 a2:bg).2.2.1,(A.n bC p.a0 a2:bg).2.2.2.1,(A.n bC p.a0 a2:bg).2.2.2.2.1,(A.k jv (A.n bC p.a0 a2:bg).2.2.2.2.2))]:List bg))))) (.more (.c0 p (A.b .add .i64 a2 1)))))) (.need (A.k CK (([]:List bg),())) (.ret ((p.a5,p.dN,p.a6,p.a7,p.a8,p.a9,([]:List bg),p.cX),0)))
 | .c1 p b2 b12=>.br (A.c .lss b2 p.b1) (.need (A.and (A.c .leq 0 b2) (A.c .lss b2 (A.l p.b0))) (.need (A.k (@tt (ao×bg)) (p.b3,(A.n bC p.b0 b2:bg))) (.br (A.k lT (p.b3,(A.n bC p.b0 b2:bg))) (.br (A.c .lss (A.l b12) 256) (.need (A.k (@tt (List Int)) (A.n bC p.b0 b2:bg).2.2.2.2.2) (.need (A.c .leq (A.l (A.p b12 ([((A.n bC p.b0 b2:bg).1,(A.n bC p.b0 b2:bg).2.1,(A.n bC p.b0 b2:bg).2.2.1,(A.n bC p.b0 b2:bg).2.2.2.1,(A.n bC p.b0 b2:bg).2.2.2.2.1,(A.k jv (A.n bC p.b0 b2:bg).2.2.2.2.2))]:List bg))) 2199023255552) (.more (.c1 p (A.b .add .i64 b2 1) (A.p b12 ([((A.n bC p.b0 b2:bg).1,(A.n bC p.b0 b2:bg).2.1,(A.n bC p.b0 b2:bg).2.2.1,(A.n bC p.b0 b2:bg).2.2.2.1,(A.n bC p.b0 b2:bg).2.2.2.2.1,(A.k jv (A.n bC p.b0 b2:bg).2.2.2.2.2))]:List bg)))))) (.more (.c1 p (A.b .add .i64 b2 1) b12))) (.more (.c1 p (A.b .add .i64 b2 1) b12))))) (.need (A.k CK (b12,())) (.ret ((p.b5,p.b11,p.b6,p.b7,p.b8,p.b9,(A.k Ni (b12,())).1,p.b10),0)))
theorem aeF{L:List bg}{i:Nat}(h:i<L.length):(ah.n bC L (i:Int):bg)=L[i]:=getD_in h _
theorem Tf{d:List bg}(h:d.length≤1000000):ah.k CK (d,())=true:=decide_eq_true h
theorem Mu{p:M2}{m:ao}{L:List bg}(h0:p.b0=L)(h1:p.b1=(L.length:Int))(h3:p.b3=m)(hL:L.length≤1000000):∀(j i:Nat) (acc:List bg),L.length-i=j→i≤L.length→acc.length≤256→
  aB (Qd ah) (.more (.c1 p (i:Int) acc)) ((p.b5,p.b11,p.b6,p.b7,p.b8,p.b9,Lq ((acc++((L.drop i).filter fun o=>lT (m,o)).map opC).take 256),p.b10),0):=by
 intro j
 induction j with
 | zero=>
   intro i acc hj hi ha
   have:i=L.length:=by omega
   subst this
   refine ak.2 ((ai ?_).2 (af.2 ⟨Tf (by omega),ay ?_ (.ret _)⟩))
   ·rw[h1,aI];simp
   ·rw[List.drop_length,List.filter_nil,List.map_nil,List.append_nil,List.take_of_length_le ha];rfl
 | succ j ih=>
   intro i acc hj hi ha
   have hlt:i<L.length:=by omega
   refine ak.2 ((aj ?_).2 (af.2 ⟨by rw[h0];exact aS hlt,af.2 ⟨rfl,?_⟩⟩))
   ·rw[h1,aI];exact decide_eq_true hlt
   rw[h0,h3,aeF hlt,cu (by omega),List.drop_eq_getElem_cons hlt]
   cases hf:lT (m,L[i])
   ·refine(ai (show ah.k lT (m,L[i])=false from hf)).2 ?_
    rw[List.filter_cons_of_neg (p:=fun o=>lT (m,o)) (by rw[hf];simp)]
    exact ih (i+1) acc (by omega) (by omega) ha
   ·refine(aj (show ah.k lT (m,L[i])=true from hf)).2 ?_
    rw[List.filter_cons_of_pos (p:=fun o=>lT (m,o)) hf,List.map_cons]
    by_cases hc:acc.length<256
    ·refine(aj (by rw[bL,al];exact decide_eq_true (by omega))).2 (af.2 ⟨rfl,af.2 ⟨?_,?_⟩⟩)
     ·rw[bL,iA,List.length_append,List.length_singleton,ap];exact decide_eq_true (by omega)
     ·have nx:=ih (i+1) (acc ++ [opC L[i]]) (by omega) (by omega) (by rw[List.length_append,List.length_singleton];omega)
      rw[List.append_assoc,List.singleton_append] at nx
      exact nx
    ·refine(ai (by rw[bL,al];exact decide_eq_false (by omega))).2 ?_
     have nx:=ih (i+1) acc (by omega) (by omega) ha
     rw[List.take_left' (by omega)] at nx ⊢
     exact nx
theorem Lj{p:Qc}{m:ao}{L:List bg}(h0:p.a0=L)(h1:p.a1=(L.length:Int))(h3:p.a3=m)(hL:L.length≤1000000):∀(j i:Nat),L.length-i=j→i≤L.length→
  aB (Qd ah) (.more (.c0 p (i:Int))) ((p.a5,p.dN,p.a6,p.a7,p.a8,p.a9,Lq ((((L.drop i).filter fun o=>lT (m,o)).map opC).take 256),p.cX),0):=by
 intro j
 induction j with
 | zero=>
   intro i hj hi
   have:i=L.length:=by omega
   subst this
   refine ak.2 ((ai ?_).2 (af.2 ⟨rfl,ay ?_ (.ret _)⟩))
   ·rw[h1,aI];simp
   ·rw[List.drop_length,List.filter_nil,List.map_nil,List.take_nil,show Lq ([]:List bg)=[] from rfl]
 | succ j ih=>
   intro i hj hi
   have hlt:i<L.length:=by omega
   refine ak.2 ((aj ?_).2 (af.2 ⟨by rw[h0];exact aS hlt,af.2 ⟨rfl,?_⟩⟩))
   ·rw[h1,aI];exact decide_eq_true hlt
   rw[h0,h3,aeF hlt,cu (by omega),List.drop_eq_getElem_cons hlt]
   cases hf:lT (m,L[i])
   ·refine(ai (show ah.k lT (m,L[i])=false from hf)).2 ?_
    rw[List.filter_cons_of_neg (p:=fun o=>lT (m,o)) (by rw[hf];simp)]
    exact ih (i+1) (by omega) (by omega)
   ·refine(aj (show ah.k lT (m,L[i])=true from hf)).2 (af.2 ⟨rfl,af.2 ⟨rfl,?_⟩⟩)
    rw[List.filter_cons_of_pos (p:=fun o=>lT (m,o)) hf,List.map_cons]
    exact Mu (p:=⟨L,p.a1,m,p.a5,p.a6,p.a7,p.a8,p.a9,p.cX,p.dN⟩) (m:=m) (L:=L) rfl h1 rfl hL _ (i+1) [opC L[i]] rfl (by omega) (by simp)
theorem Sk{N:Nat}(h:N≤1024):ah.k zO ([true],(N:Int))=true:=decide_eq_true ⟨rfl,by omega,by omega⟩
theorem Yh{m:ao}{s:gJ}(hf:s.2.2.2.2.2.2.2.length≤1000000)(ho:s.2.2.2.2.2.2.1.length≤1000000)(hd:s.2.2.2.2.2.1.length≤140737488355328):aB (Qd ah) (XN ah m s) (gM m s):=by
 unfold XN Pe KE Jt O4 gM
 refine af.2 ⟨rfl,?_⟩
 by_cases h:(jH m).2=0
 ·rw[decide_eq_true h]
  refine(ai (by show ah.c .neq (jH m).2 0=false;rw[aT];exact decide_eq_false fun k=>k h)).2 ?_
  have hb:=(dd (sU.1 (zP.symm.trans (El h)))).1
  obtain⟨N,hm⟩:=Int.eq_ofNat_of_zero_le (show 0≤m.1 by omega)
  have hN:N≤8:=by omega
  have w:∀(l:List Int) (a b c:Int),ah.k mJ (l,m.1,a,b,c)=true:=fun l a b c=>decide_eq_true (by omega)
  have ed:ah.mn (ah.l s.2.2.2.2.2.1) 1024=((min s.2.2.2.2.2.1.length 1024:Nat):Int):=oG (i:=s.2.2.2.2.2.1.length) (j:=1024)
  have w2:∀(l:List Int) (a b c:Int),ah.k mJ (l,ah.mn (ah.l s.2.2.2.2.2.1) 1024,a,b,c)=true:=fun l a b c=>decide_eq_true (by rw[ed];omega)
  have w3:ah.k zw (m,s.2.2.2.2.2.2.2)=true:=decide_eq_true hf
  have w4:ah.and (ah.c .leq 0 0) (ah.and (ah.c .leq 0 (ah.mn (ah.l (ah.k o9 (m,s.2.2.2.2.2.2.2))) 256)) (ah.c .leq (ah.mn (ah.l (ah.k o9 (m,s.2.2.2.2.2.2.2))) 256) (ah.l (ah.k o9 (m,s.2.2.2.2.2.2.2)))))=true:=by
   have e:ah.mn (ah.l (ah.k o9 (m,s.2.2.2.2.2.2.2))) 256=((min (ah.k o9 (m,s.2.2.2.2.2.2.2)).length 256:Nat):Int):=oG (i:=(ah.k o9 (m,s.2.2.2.2.2.2.2)).length) (j:=256)
   rw[e,bL,aG,aG,ap,ap,ap];simp;omega
  have w5:ah.k zO ([true],m.1)=true:=by rw[hm];exact Sk (by omega)
  have key:=Lj (p:=⟨s.2.2.2.2.2.2.1,(s.2.2.2.2.2.2.1.length:Int),m,ah.mn (ah.mx s.1 1) 16,rowP s.2.2.1 m.1.toNat 0 (jH m).1 0,rowP s.2.2.2.1 m.1.toNat 40 60 50,rowP s.2.2.2.2.1 m.1.toNat (ah.u .neg .i64 (ah.b .quo .i64 m.2.2.2.1 2)) (ah.b .quo .i64 m.2.2.2.1 2) 0,rowP s.2.2.2.2.2.1 (ah.mn (ah.l s.2.2.2.2.2.1) 1024).toNat (ah.u .neg .i64 m.2.2.2.2.1) m.2.2.2.2.1 0,ah.s (o6 m s.2.2.2.2.2.2.2) 0 (ah.mn (ah.l (o6 m s.2.2.2.2.2.2.2)) 256),Up s.2.1 m.1.toNat⟩) (m:=m) (L:=s.2.2.2.2.2.2.1) rfl rfl rfl ho _ 0 rfl (Nat.zero_le _)
  have ef:ah.s (o6 m s.2.2.2.2.2.2.2) 0 (ah.mn (ah.l (o6 m s.2.2.2.2.2.2.2)) 256)=(o6 m s.2.2.2.2.2.2.2).take 256:=by
   rw[show ah.mn (ah.l (o6 m s.2.2.2.2.2.2.2)) 256=((min (o6 m s.2.2.2.2.2.2.2).length 256:Nat):Int) from oG (i:=(o6 m s.2.2.2.2.2.2.2).length) (j:=256),fY,Int.toNat_natCast]
   show List.drop 0 _=_
   rw[List.drop_zero,Nat.min_comm,←List.take_eq_take_min]
  have key:aB (Qd ah) _ (gp m s,0):=ay (by unfold gp;rw[ef,ed,Int.toNat_natCast];rfl) key
  repeat' first
   | exact key
   | refine .and ?_ ?_
   | refine af.2 ⟨w5,?_⟩
   | refine af.2 ⟨w _ _ _ _,?_⟩
   | refine af.2 ⟨w2 _ _ _ _,?_⟩
   | refine af.2 ⟨w3,?_⟩
   | refine af.2 ⟨w4,?_⟩
 ·rw[decide_eq_false h]
  exact(aj (by show ah.c .neq (jH m).2 0=true;rw[aT];exact decide_eq_true h)).2 (.ret _)
def wC:(ao×gJ)→(gJ×Int):=fun(m,s)=>gM m s
def Ek:(ao×gJ)→Bool:=fun(_,s)=>decide (s.2.2.2.2.2.2.2.length≤1000000∧s.2.2.2.2.2.2.1.length≤1000000∧s.2.2.2.2.2.1.length≤140737488355328)
def abK:aC:=⟨[aP,f_], [f_,yI],Ek,wC⟩
theorem aft:Sd 65 abK:=A7 ar bU true 119 (oc aeq oz) (ic afR iz) mz pz [⟨65,9, [[2,4,9,82,83,84]]⟩] [] (fun A (m,s)=>XN A m s) Qd ZG (fc Tryz.func65 fz) (sc BM (sc ace (sc abk (sc abD (sc adU sz))))) (fun A y=>match y with |.c0 p a2=>⟨57,by kernel_rfl,by kernel_rfl⟩|.c1 p b2 b12=>⟨57,by kernel_rfl,by kernel_rfl⟩) fun((m,s):ao×gJ) hp h=>Yh (of_decide_eq_true hp).1 (of_decide_eq_true hp).2.1 (of_decide_eq_true hp).2.2
theorem NI{m:ao}{id:Int}(h:(jD m id).2=0):(jD m id).1.1=id:=by
 unfold jD at h ⊢
 cases h0:dh m
 ·rw[h0] at h;exact(GF (n:=70) h).elim
 rw[h0,cond_true] at h
 rw[cond_true]
 cases h1:decide (0≤id∧id≤m.1-1)
 ·rw[h1] at h;exact(GF (n:=2) h).elim
 ·rfl
theorem agz{m:ao}{n:Node}{s:Int}(h:(Mj m n s).2=0):(Mj m n s).1.1=n.1:=by
 unfold Mj at h ⊢
 by_cases h0:bi m n=0
 ·rw[decide_eq_true h0,cond_true] at h ⊢
  cases h1:decide (n.2.1=0)
  ·rw[h1] at h;exact(GF (n:=181) h).elim
  rw[h1,cond_true] at h
  rw[cond_true]
  cases h2:decide (0≤s∧s≤ah.b .shl .i64 1 m.1-1)
  ·rw[h2] at h;exact(GF (n:=2) h).elim
  rw[h2,cond_true] at h
  rw[cond_true]
  cases h3:kX s n.1
  ·rw[h3] at h;exact(GF (n:=2) h).elim
  ·rfl
 ·rw[decide_eq_false h0] at h;exact absurd h h0
def AY:List Bool→Nat→Int→Int
 | [],_,s=>s
 | u::l,i,s=>AY l (i+1) (bif u then ah.b .or .i64 s (ah.b .shl .i64 1 (i:Int)) else s)
def B5(m:ao)(set i:Int)(u:Bool):Node×Int:=bif decide ((jD m i).2=0)&&u then Mj m (jD m i).1 set else jD m i
def rJ(m:ao)(set:Int):List Bool→Nat→List Node→List Node×Int
 | [],_,acc=>(acc,0)
 | u::l,i,acc=>bif decide ((B5 m set (i:Int) u).2=0) then rJ m set l (i+1) (acc ++ [(B5 m set (i:Int) u).1]) else([],(B5 m set (i:Int) u).2)
theorem XE{m:ao}{set i:Int}{u:Bool}(h:(B5 m set i u).2=0):bi m (B5 m set i u).1=0∧(B5 m set i u).1.1=i:=by
 unfold B5 at h ⊢
 by_cases h0:(jD m i).2=0
 ·rw[decide_eq_true h0,Bool.true_and] at h ⊢
  cases u
  ·exact⟨Db h0,NI h0⟩
  ·exact⟨ZF (Db h0) h,(agz h).trans (NI h0)⟩
 ·rw[decide_eq_false h0] at h;exact absurd h h0
theorem UC{m:ao}{set:Int}:∀(l:List Bool) (i:Nat) (acc:List Node),(rJ m set l i acc).2=0→acc.length=i→jQ m acc→jQ m (rJ m set l i acc).1∧(rJ m set l i acc).1.length=i+l.length:=by
 intro l
 induction l with
 | nil=>intro i acc _ hl h;exact⟨h,hl⟩
 | cons u l ih=>
   intro i acc h hl hn
   rw[rJ] at h ⊢
   by_cases h0:(B5 m set (i:Int) u).2=0
   ·rw[decide_eq_true h0,cond_true] at h ⊢
    obtain⟨a,b⟩:=XE h0
    obtain⟨c,d⟩:=ih (i+1) _ h (by rw[List.length_append,hl];rfl) fun j n hj=>by
     rw[List.getElem?_append] at hj
     split at hj
     ·exact hn j n hj
     ·rename_i hlt
      have:j-acc.length=0:=by
       by_cases h:j-acc.length=0
       ·exact h
       ·rw[List.getElem?_eq_none (by simp;omega)] at hj;cases hj
      rw[this] at hj
      cases hj
      exact⟨a,by rw[b];omega⟩
    exact⟨c,by rw[d,List.length_cons];omega⟩
   ·rw[decide_eq_false h0] at h;exact absurd h h0
def ait(m:ao)(c:gJ)(l:List Node):a_:=(true,m,c,l,List.replicate m.1.toNat false,0, [])
def aaF(m:ao)(c:gJ):Bool×a_×Int:=
 bif decide ((rJ m (AY c.2.1 0 0) c.2.1 0 []).2=0) then(true,ait m c (rJ m (AY c.2.1 0 0) c.2.1 0 []).1,0) else(false,Ty.eQ pL,(rJ m (AY c.2.1 0 0) c.2.1 0 []).2)
def oS(m:ao)(s:gJ):Bool×a_×Int:=bif decide ((gM m s).2=0) then aaF m (gM m s).1 else(false,Ty.eQ pL,(gM m s).2)
theorem J8{l:List Bool}{N:Nat}:(Up l N).length=N:=by
 unfold Up
 rw[jf,bL,bL,oG,fY,Int.toNat_natCast,List.length_replicate]
 show((List.replicate N true).take 0++(l.take (min l.length N)).drop 0++(List.replicate N true).drop (0+((l.take (min l.length N)).drop 0).length)).length=N
 rw[List.take_zero,List.nil_append,List.drop_zero,List.length_append,List.length_drop,List.length_replicate,List.length_take]
 omega
structure Mid(x:a_)(k:Nat):Prop where
 inv:Sj x
 made:x.1=true
 slot:x.2.2.2.2.2.1=(k:Int)
 len:(x.2.2.2.1.length:Int)=x.2.1.1
 num:1≤x.2.1.1∧x.2.1.1≤8
 cN:1≤x.2.2.1.1∧x.2.2.1.1≤16
 ui:x.2.2.2.2.2.2.length≤k*8
 snp:Cg x
theorem Jq{m:ao}{s:gJ}(h:(oS m s).1=false):¬(oS m s).2.2=0:=by
 unfold oS at h ⊢
 by_cases h0:(gM m s).2=0
 ·rw[decide_eq_true h0,cond_true] at h ⊢
  unfold aaF at h ⊢
  by_cases h1:(rJ m (AY (gM m s).1.2.1 0 0) (gM m s).1.2.1 0 []).2=0
  ·rw[decide_eq_true h1] at h;cases h
  ·rw[decide_eq_false h1];exact h1
 ·rw[decide_eq_false h0];exact h0
theorem Jg{m:ao}{s:gJ}(h:(oS m s).1=true):(oS m s).2.2=0∧(oS m s).2.1.2.1=m∧Mid (oS m s).2.1 0:=by
 unfold oS at h ⊢
 by_cases h0:(gM m s).2=0
 ·rw[decide_eq_true h0,cond_true] at h ⊢
  have hc:(jH m).2=0:=by
   unfold gM at h0
   by_cases hq:(jH m).2=0
   ·exact hq
   ·rw[decide_eq_false hq] at h0;exact h0
  have e:(gM m s).1=gp m s:=by unfold gM;rw[decide_eq_true hc];rfl
  rw[e] at h ⊢
  have hm:=(dd (sU.1 (zP.symm.trans (El hc)))).1
  unfold aaF at h ⊢
  by_cases h1:(rJ m (AY (gp m s).2.1 0 0) (gp m s).2.1 0 []).2=0
  ·rw[decide_eq_true h1,cond_true]
   obtain⟨a,b⟩:=UC _ 0 [] h1 rfl fun i n hi=>by cases hi
   have hl:(gp m s).2.1.length=m.1.toNat:=J8
   rw[hl,Nat.zero_add] at b
   generalize (rJ m (AY (gp m s).2.1 0 0) (gp m s).2.1 0 []).1=l at a b
   refine⟨rfl,rfl,⟨a,?_⟩,rfl,rfl,?_,?_,?_,Nat.zero_le _,fun s hs=>by cases hs⟩
   ·refine⟨by show(List.replicate _ _).length=l.length;rw[List.length_replicate,b],by show 1≤l.length;omega,by show l.length≤1000;omega,?_,?_,by show 0+l.length≤_;omega⟩
    ·show(List.take 256 _).length≤_;rw[List.length_take];omega
    ·show(Lq (N3 m s.2.2.2.2.2.2.1)).length≤_
     rw[show(Lq (N3 m s.2.2.2.2.2.2.1)).length=(N3 m s.2.2.2.2.2.2.1).length from kL,N3,List.length_take];omega
   ·show(l.length:Int)=m.1;omega
   ·show 1≤m.1∧m.1≤8;omega
   ·show 1≤ah.mn (ah.mx s.1 1) 16∧ah.mn (ah.mx s.1 1) 16≤16
    rw[nR,Iz]
    split<;>split<;>omega
  ·rw[decide_eq_false h1] at h;cases h
 ·rw[decide_eq_false h0] at h;cases h
theorem mid_step{x:a_}{k:Nat}(h:Mid x k)(hk:k≤1000):Mid (nJ x) (k+1):=by
 have st:=s6 h.inv
 obtain⟨a,b,c,d,e,f⟩:=h.inv.rest
 have h1:=st.len
 have h2:=st.aW
 have h3:=st.ui
 have h4:=h.ui
 have h5:=h.len
 have h6:=h.num
 refine⟨⟨by rw[st.m];exact st.IF,by omega,by omega,by omega,by rw[st.s];exact d,by rw[st.s];exact e,by omega⟩,st.made.trans h.made,?_,by rw[h1,st.m];exact h.len,by rw[st.m];exact h.num,by rw[st.s];exact h.cN,by omega,st.QA h.snp⟩
 rw[st.slot,h.slot,cu (by omega)]
def itX:Nat→a_→a_
 | 0,x=>x
 | k+1,x=>itX k (nJ x)
structure M8 where
 (a1:List Bool) (a2:Int) (a4:ao) (a5:gJ) (a7:ao) (a8:gJ) (cX:List Bool)
structure CJ where
 (b0:Int) (b1:List Bool) (b2:Int) (b4 b6:ao) (b7:gJ) (b9:List Bool)
structure DL where
 (c0:Int) (c1:List Bool) (c2:Int) (c4 c6:ao) (c7:gJ) (c10:List Bool)
inductive Ie where
 | c0 (p:M8) (a0:Int) (a3:Int)
 | c1 (p:CJ)
 | c2 (p:DL) (c3:Int) (c9:List Node)
noncomputable def aax:Ie→eF
 | .c0 p a0 a3=>⟨[⟨25,87,(en [(2,.ptr 0 0),(6,.ptr 1 0),(8,.ptr 2 0),(9,vi a0),(33,.sl .bool p.a1),(34,vi p.a2),(35,vi a3)]),[.inLoop (cw Tryz.f25 [1,1,1,1,1,0,1,0,0]),.inBlock 0,.code (cw Tryz.f25 [1,1,1,1,1,1])],[],none⟩],[.flat false (dc aP p.a4),.flat false (dc f_ p.a5),.flat false ([vb true]++dc aP p.a7++dc f_ p.a8 ++ [.dq true,.own 3,vi 0,.dq true]),.arr false .bool p.cX,.dead]⟩
 | .c1 p=>⟨[⟨25,87,(en [(2,.ptr 0 0),(8,.ptr 1 0),(9,vi p.b0),(47,.sl .bool p.b1),(48,vi p.b2),(49,vi 0)]),[.inLoop (cw Tryz.f25 [1,1,1,1,1,1,0,1,0,0]),.inBlock 2,.code (cw Tryz.f25 [1,1,1,1,1,1,1])],[],none⟩],[.flat false (dc aP p.b4),.flat false ([vb true]++dc aP p.b6++dc f_ p.b7 ++ [.dq true,.own 2,vi 0,.dq true]),.arr false .bool p.b9,.dead]⟩
 | .c2 p c3 c9=>⟨[⟨25,87,(en [(2,.ptr 0 0),(8,.ptr 1 0),(9,vi p.c0),(47,.sl .bool p.c1),(48,vi p.c2),(49,vi c3)]),[.inLoop (cw Tryz.f25 [1,1,1,1,1,1,0,1,0,0]),.inBlock 2,.code (cw Tryz.f25 [1,1,1,1,1,1,1])],[],none⟩],[.flat false (dc aP p.c4),.flat false ([vb true]++dc aP p.c6++dc f_ p.c7 ++ [.own 2,.own 3,vi 0,.dq true]),.arr false aF c9,.arr false .bool p.c10,.dead]⟩
def YN(A:aK)(m:ao)(s:gJ):LT (Bool×a_×Int) Ie:=.need (A.k Ek (m,s)) (.br (A.c .neq (A.k wC (m,s)).2 0) (.ret (false,(Ty.eQ pL:a_),(A.k wC (m,s)).2)) (.need (A.and (A.c .eql m.1 m.1) (A.and (A.c .leq 0 m.1) (A.c .leq m.1 140737488355328))) (.more (.c0 ⟨(A.k wC (m,s)).1.2.1,(A.l (A.k wC (m,s)).1.2.1),m,(A.k wC (m,s)).1,m,(A.k wC (m,s)).1,(A.r m.1 false)⟩ 0 0))))
abbrev Jv(A:aK)(p:CJ):LT (Bool×a_×Int) Ie:=(.br (A.c .neq (A.k fJ (p.b4,0)).2 0) (.ret (false,(Ty.eQ pL:a_),(A.k fJ (p.b4,0)).2)) (.need (A.c .leq (A.l (([(A.k fJ (p.b4,0)).1]:List Node):List Node)) 676622540169) (.more (.c2 ⟨p.b0,p.b1,p.b2,p.b4,p.b6,p.b7,p.b9⟩ (A.b .add .i64 0 1) ([(A.k fJ (p.b4,0)).1]:List Node)))))
abbrev xS(A:aK)(p:CJ):=(A.k yx (p.b4,(A.k fJ (p.b4,0)).1,p.b0))
abbrev KG(A:aK)(p:DL)(c3:Int)(c9:List Node):LT (Bool×a_×Int) Ie:=(.br (A.c .neq (A.k fJ (p.c4,c3)).2 0) (.ret (false,(Ty.eQ pL:a_),(A.k fJ (p.c4,c3)).2)) (.need (A.c .leq (A.l (A.p c9 ([(A.k fJ (p.c4,c3)).1]:List Node))) 676622540169) (.more (.c2 p (A.b .add .i64 c3 1) (A.p c9 ([(A.k fJ (p.c4,c3)).1]:List Node))))))
abbrev xL(A:aK)(p:DL)(c3:Int):=(A.k yx (p.c4,(A.k fJ (p.c4,c3)).1,p.c0))
def vg(A:aK):Ie→LT (Bool×a_×Int) Ie
 | .c0 p a0 a3=>.br (A.c .lss a3 p.a2) (.need (A.and (A.c .leq 0 a3) (A.c .lss a3 (A.l p.a1))) (.br (A.n .bool p.a1 a3:Bool) (.need (A.c .leq 0 a3) (.more (.c0 p (A.b .or .i64 a0 (A.b .shl .i64 1 a3)) (A.b .add .i64 a3 1)))) (.more (.c0 p a0 (A.b .add .i64 a3 1))))) (.more (.c1 ⟨a0,p.a5.2.1,(A.l p.a5.2.1),p.a4,p.a7,p.a8,p.cX⟩))
 | .c1 p=>.br (A.c .lss 0 p.b2) (.need (A.and (A.c .leq 0 0) (A.c .lss 0 (A.l p.b1))) (.need (A.k (@tt (ao×Int)) (p.b4,0)) (.br (A.c .eql (A.k fJ (p.b4,0)).2 0) (.br (A.n .bool p.b1 0:Bool) (.need (A.k (@tt (ao×Node×Int)) (p.b4,(A.k fJ (p.b4,0)).1,p.b0)) (.br (A.c .neq (xS A p).2 0) (.ret (false,(Ty.eQ pL:a_),(xS A p).2)) (.need (A.c .leq (A.l (([(xS A p).1]:List Node):List Node)) 676622540169) (.more (.c2 ⟨p.b0,p.b1,p.b2,p.b4,p.b6,p.b7,p.b9⟩ (A.b .add .i64 0 1) ([(xS A p).1]:List Node)))))) (Jv A p)) (Jv A p)))) (.ret (true,(true,p.b6,p.b7,([]:List Node),p.b9,0,([]:List iT)),0))
 | .c2 p c3 c9=>.br (A.c .lss c3 p.c2) (.need (A.and (A.c .leq 0 c3) (A.c .lss c3 (A.l p.c1))) (.need (A.k (@tt (ao×Int)) (p.c4,c3)) (.br (A.c .eql (A.k fJ (p.c4,c3)).2 0) (.br (A.n .bool p.c1 c3:Bool) (.need (A.k (@tt (ao×Node×Int)) (p.c4,(A.k fJ (p.c4,c3)).1,p.c0)) (.br (A.c .neq (xL A p c3).2 0) (.ret (false,(Ty.eQ pL:a_),(xL A p c3).2)) (.need (A.c .leq (A.l (A.p c9 ([(xL A p c3).1]:List Node))) 676622540169) (.more (.c2 p (A.b .add .i64 c3 1) (A.p c9 ([(xL A p c3).1]:List Node))))))) (KG A p c3 c9)) (KG A p c3 c9)))) (.ret (true,(true,p.c6,p.c7,c9,p.c10,0,([]:List iT)),0))
theorem N1{l:List Bool}{i:Nat}(h:l.length≤i){s:Int}:AY (l.drop i) i s=s:=by rw[List.drop_eq_nil_of_le h];rfl
theorem Qa{p:M8}{l:List Bool}{q:Int→Bool×a_×Int}(h1:p.a1=l)(h2:p.a2=(l.length:Int))(hl:l.length≤1000)
  (T:∀z,aB (vg ah) (.more (.c1 ⟨z,p.a5.2.1,ah.l p.a5.2.1,p.a4,p.a7,p.a8,p.cX⟩)) (q z)) :
  ∀(j i:Nat) (z:Int),l.length-i=j→i≤l.length→aB (vg ah) (.more (.c0 p z (i:Int))) (q (AY (l.drop i) i z)):=by
 intro j
 induction j with
 | zero=>
   intro i z hj hi
   rw[N1 (by omega),ak,vg,h2]
   exact(ai (by rw[al];exact decide_eq_false (by omega))).2 (T z)
 | succ j ih=>
   intro i z hj hi
   have hi':i<l.length:=by omega
   rw[ak,vg,h1,h2]
   refine(aj (by rw[al];exact decide_eq_true (by omega))).2 (af.2 ⟨aS hi',?_⟩)
   rw[show(ah.n .bool l (i:Int):Bool)=l[i] from getD_in hi' _,List.drop_eq_getElem_cons hi',AY,cu (i:=i) (by omega)]
   cases l[i]
   ·exact(ai rfl).2 (ih (i+1) z (by omega) (by omega))
   ·exact(aj rfl).2 (af.2 ⟨by rw[ap];exact decide_eq_true (by omega),ih (i+1) _ (by omega) (by omega)⟩)
theorem J4{m:ao}{S i:Int}{u:Bool}{K:Node→LT (Bool×a_×Int) Ie}{R:Bool×a_×Int}
  (hE:¬(B5 m S i u).2=0→R=(false,Ty.eQ pL,(B5 m S i u).2)) (hK:(B5 m S i u).2=0→aB (vg ah) (K (B5 m S i u).1) R) :
  aB (vg ah) (.need (ah.k (@tt (ao×Int)) (m,i)) (.br (ah.c .eql (ah.k fJ (m,i)).2 0)
   (.br u (.need (ah.k (@tt (ao×Node×Int)) (m,(ah.k fJ (m,i)).1,S)) (.br (ah.c .neq (ah.k yx (m,(ah.k fJ (m,i)).1,S)).2 0) (.ret (false,(Ty.eQ pL:a_),(ah.k yx (m,(ah.k fJ (m,i)).1,S)).2)) (K (ah.k yx (m,(ah.k fJ (m,i)).1,S)).1)))
     (.br (ah.c .neq (ah.k fJ (m,i)).2 0) (.ret (false,(Ty.eQ pL:a_),(ah.k fJ (m,i)).2)) (K (ah.k fJ (m,i)).1)))
   (.br (ah.c .neq (ah.k fJ (m,i)).2 0) (.ret (false,(Ty.eQ pL:a_),(ah.k fJ (m,i)).2)) (K (ah.k fJ (m,i)).1)))) R:=by
 rw[show ah.k fJ (m,i)=jD m i from rfl,show ah.k yx (m,(jD m i).1,S)=Mj m (jD m i).1 S from rfl]
 refine af.2 ⟨rfl,?_⟩
 unfold B5 at hE hK
 by_cases h:(jD m i).2=0
 ·rw[decide_eq_true h,Bool.true_and] at hE hK
  refine(aj (by rw[aO];exact decide_eq_true h)).2 ?_
  cases u
  ·refine(ai rfl).2 ((ai (by rw[aT];exact decide_eq_false fun k=>k h)).2 (hK h))
  ·refine(aj rfl).2 (af.2 ⟨rfl,?_⟩)
   refine aA (p:=¬(Mj m (jD m i).1 S).2=0) aT (fun g=>?_) fun g=>hK (Decidable.not_not.1 g)
   rw[hE g];exact .ret _
 ·rw[decide_eq_false h,Bool.false_and] at hE hK
  refine(ai (by rw[aO];exact decide_eq_false h)).2 ((aj (by rw[aT];exact decide_eq_true h)).2 ?_)
  rw[hE h];exact .ret _
def OG(m:ao)(c:gJ)(aW:List Bool)(r:List Node×Int):Bool×a_×Int:=bif decide (r.2=0) then(true,(true,m,c,r.1,aW,0, []),0) else(false,Ty.eQ pL,r.2)
theorem Gf{m:ao}{c:gJ}{aW:List Bool}{e:Int}(h:¬e=0):OG m c aW ([],e)=(false,Ty.eQ pL,e):=by unfold OG;rw[decide_eq_false h];rfl
theorem Bi{m:ao}{S:Int}{u:Bool}{l:List Bool}{i:Nat}{acc:List Node}:rJ m S (u::l) i acc=bif decide ((B5 m S (i:Int) u).2=0) then rJ m S l (i+1) (acc ++ [(B5 m S (i:Int) u).1]) else([],(B5 m S (i:Int) u).2):=rfl
theorem xC{l:List Node}(h:l.length≤1001):ah.c .leq (ah.l l) 676622540169=true:=by rw[ap,bL];exact decide_eq_true (by omega)
theorem NB{p:DL}{m:ao}{l:List Bool}{S:Int}(h0:p.c0=S)(h1:p.c1=l)(h2:p.c2=(l.length:Int))(h4:p.c4=m)(hl:l.length≤1000) :
  ∀(j i:Nat) (acc:List Node),l.length-i=j→i≤l.length→acc.length≤i→aB (vg ah) (.more (.c2 p (i:Int) acc)) (OG p.c6 p.c7 p.c10 (rJ m S (l.drop i) i acc)):=by
 intro j
 induction j with
 | zero=>
   intro i acc hj hi ha
   rw[List.drop_eq_nil_of_le (by omega),ak,vg,h2]
   exact(ai (by rw[al];exact decide_eq_false (by omega))).2 (.ret _)
 | succ j ih=>
   intro i acc hj hi ha
   have hi':i<l.length:=by omega
   rw[ak,vg,h0,h1,h2,h4]
   refine(aj (by rw[al];exact decide_eq_true (by omega))).2 (af.2 ⟨aS hi',?_⟩)
   rw[show(ah.n .bool l (i:Int):Bool)=l[i] from getD_in hi' _,List.drop_eq_getElem_cons hi',Bi,cu (i:=i) (by omega)]
   refine J4 (m:=m) (S:=S) (i:=(i:Int)) (u:=l[i]) (K:=fun n=>.need (ah.c .leq (ah.l (ah.p acc ([n]:List Node))) 676622540169) (.more (.c2 p ((i+1:Nat):Int) (ah.p acc ([n]:List Node))))) (fun h=>?_) fun h=>?_
   ·rw[decide_eq_false h];exact Gf h
   ·rw[decide_eq_true h]
    have hn:(ah.p acc [(B5 m S (i:Int) l[i]).1]:List Node).length≤i+1:=by rw[iA,List.length_append,List.length_singleton];omega
    exact af.2 ⟨xC (by omega),ih (i+1) _ (by omega) (by omega) hn⟩
theorem Mb{p:CJ}{m:ao}{l:List Bool}{S:Int}(h0:p.b0=S)(h1:p.b1=l)(h2:p.b2=(l.length:Int))(h4:p.b4=m)(hl:l.length≤1000) :
  aB (vg ah) (.more (.c1 p)) (OG p.b6 p.b7 p.b9 (rJ m S l 0 [])):=by
 rw[ak,vg,h0,h1,h2,h4]
 cases l with
 | nil=>exact(ai rfl).2 (.ret _)
 | cons u l=>
   refine(aj (by rw[al,List.length_cons];exact decide_eq_true (by omega))).2 (af.2 ⟨aS (i:=0) (Nat.zero_lt_succ _),?_⟩)
   rw[Bi]
   refine J4 (m:=m) (S:=S) (i:=0) (u:=u) (K:=fun n=>.need (ah.c .leq (ah.l (([n]:List Node):List Node)) 676622540169) (.more (.c2 ⟨S,u::l,((u::l).length:Int),m,p.b6,p.b7,p.b9⟩ (ah.b .add .i64 0 1) ([n]:List Node)))) (fun h=>?_) fun h=>?_
   ·rw[show decide ((B5 m S ((0:Nat):Int) u).2=0)=false from decide_eq_false h];exact Gf h
   ·rw[show decide ((B5 m S ((0:Nat):Int) u).2=0)=true from decide_eq_true h]
    exact af.2 ⟨xC (Nat.le_add_left 1 _),NB (p:=⟨S,u::l,((u::l).length:Int),m,p.b6,p.b7,p.b9⟩) (l:=u::l) rfl rfl rfl rfl hl l.length 1 [(B5 m S ((0:Nat):Int) u).1] (by rw[List.length_cons];omega) (by rw[List.length_cons];omega) (Nat.le_refl 1)⟩
theorem XC{m:ao}{s:gJ}(h:ah.k Ek (m,s)=true):aB (vg ah) (YN ah m s) (oS m s):=by
 unfold YN oS
 refine af.2 ⟨h,?_⟩
 rw[show ah.k wC (m,s)=gM m s from rfl]
 by_cases h0:(gM m s).2=0
 ·rw[decide_eq_true h0,cond_true]
  have hc:(jH m).2=0:=by
   unfold gM at h0
   by_cases hq:(jH m).2=0
   ·exact hq
   ·rw[decide_eq_false hq] at h0;exact h0
  have e:(gM m s).1=gp m s:=by unfold gM;rw[decide_eq_true hc];rfl
  have hm:=(dd (sU.1 (zP.symm.trans (El hc)))).1
  have hl:(gp m s).2.1.length=m.1.toNat:=J8
  refine(ai (by rw[aT];exact decide_eq_false fun k=>k h0)).2 (af.2 ⟨?_,?_⟩)
  ·rw[aG,aG,ax,ap,ap];simp;omega
  rw[e]
  have key:=Qa (p:=⟨(gp m s).2.1,ah.l (gp m s).2.1,m,gp m s,m,gp m s,ah.r m.1 false⟩) (l:=(gp m s).2.1) (q:=fun z=>OG m (gp m s) (ah.r m.1 false) (rJ m z (gp m s).2.1 0 [])) rfl rfl (by omega) (fun z=>Mb (m:=m) (l:=(gp m s).2.1) rfl rfl rfl rfl (by omega)) _ 0 0 rfl (Nat.zero_le _)
  exact key
 ·rw[decide_eq_false h0]
  exact(aj (by rw[aT];exact decide_eq_true h0)).2 (.ret _)
def gF:(ao×gJ)→Bool×a_×Int:=fun(m,s)=>oS m s
def v7:(ao×gJ)→Bool:=fun x=>Ek x
def aeO:jT:=⟨[aP,f_],.ptr [.d .bool,.d aP,.d f_,.own aF,.own .bool,.d yI,.own eE],true, [yI],v7,gF⟩
theorem Vu:jT.Sound Tryz.prog 25 aeO:=tP ar bU true 58 oz iz mz pz [⟨25,7, [[2,6,8,9,33,34,35]]⟩,⟨25,13, [[2,8,9,47,48,49]]⟩] [] (fun A (m,s)=>YN A m s) vg aax (fc Tryz.func25 fz) (sc VQ (sc ae9 (sc aft sz))) (fun A y=>match y with |.c0 p a0 a3=>⟨40,by kernel_rfl,by kernel_rfl⟩|.c1 p=>⟨82,by kernel_rfl,by kernel_rfl⟩|.c2 p c3 c9=>⟨82,by kernel_rfl,by kernel_rfl⟩) fun((m,s):(ao×gJ)) hp h=>XC hp
def Z8(A:aK)(x2:a_):LT (a_×Bool) Empty:=.br (A.not x2.1) (.ret (x2,true)) (.ret (x2,(A.c .geq x2.2.2.2.2.2.1 (A.b .mul .i64 x2.2.2.1.1 x2.2.1.1))))
def iH(x:a_):Bool:=bif x.1 then ah.c .geq x.2.2.2.2.2.1 (ah.b .mul .i64 x.2.2.1.1 x.2.1.1) else true
theorem UF{x:a_}:aB Empty.elim (Z8 ah x) (x,iH x):=by
 unfold Z8 iH
 cases h:x.1
 ·exact(aj rfl).2 (.ret _)
 ·exact(ai rfl).2 (.ret _)
def gz:a_×Unit→a_×Bool:=fun(x,_)=>(x,iH x)
def acI:bI:=⟨[.ptr [.d .bool,.d aP,.d f_,.own aF,.own .bool,.d yI,.own eE]], [], [.bool],(@tt (a_×Unit)),gz,false⟩
theorem M_:bI.Sound Tryz.prog 26 acI:=bH ar bU true 52 iz mz pz [] [] (fun A (x2,())=>Z8 A x2) (fun _=>Empty.elim) Empty.elim (fc Tryz.func26 (fc Tryz.func67 fz)) sz (fun _ y=>y.elim) fun((x2,()):a_×Unit) hp hv h=>UF
def Yi(A:aK)(x2:a_):LT (a_×Int) Empty:=.br (A.not x2.1) (.ret (x2,1)) (.need (A.k (@tt (a_×Unit)) (x2,())) (.br (A.k gz (x2,())).2 (.ret ((A.k gz (x2,())).1,220)) (.need (A.k Eg ((A.k gz (x2,())).1,())) (.ret ((A.k qL ((A.k gz (x2,())).1,())).1,0)))))
def It(x:a_):a_×Int:=bif x.1 then(bif iH x then(x,220) else(nJ x,0)) else(x,1)
theorem U4{x:a_}(h:(!x.1||(iH x||Hm x))=true):aB Empty.elim (Yi ah x) (It x):=by
 unfold Yi It
 rw[show ah.k gz (x,())=(x,iH x) from rfl]
 cases hm:x.1
 ·exact(aj rfl).2 (.ret _)
 refine(ai rfl).2 (af.2 ⟨rfl,?_⟩)
 rw[hm] at h
 cases ho:iH x
 ·rw[ho] at h
  refine(ai rfl).2 (af.2 ⟨h,?_⟩)
  rw[show ah.k qL (x,())=(nJ x,()) from rfl]
  exact .ret _
 ·exact(aj rfl).2 (.ret _)
def JK:a_×Unit→a_×Int:=fun(x,_)=>It x
def zW:a_×Unit→Bool:=fun(x,_)=>!x.1||(iH x||Hm x)
def ab4:bI:=⟨[.ptr [.d .bool,.d aP,.d f_,.own aF,.own .bool,.d yI,.own eE]], [], [yI],zW,JK,false⟩
theorem agf:bI.Sound Tryz.prog 27 ab4:=bH ar bU true 55 iz (mc M_ (mc VW mz)) pz [] [] (fun A (x2,())=>Yi A x2) (fun _=>Empty.elim) Empty.elim (fc Tryz.func27 (fc Tryz.func67 fz)) sz (fun _ y=>y.elim) fun((x2,()):a_×Unit) hp hv h=>U4 hp
structure Xm where
 (a0:Int) (a2:Bool) (a3:ao) (a4:gJ) (a5:Int) (a6:List Node) (a7:List Bool) (a8:List iT)
structure Nq where
 (b0:Int) (b2:Bool) (b3:ao) (b4:gJ) (b5:Int) (b7:List Node) (b8:List Bool) (b9:List iT)
inductive UY where
 | c0 (p:Xm)
 | c1 (p:Nq) (b1:Int) (b6:List Node)
noncomputable def Zs:UY→eF
 | .c0 p=>⟨[⟨29,24,(en [(3,.dq true),(11,.own 1),(12,vi p.a0),(13,vi 0)]),[.inLoop (cw Tryz.f29 [1,1,0,1,0,1,0,0]),.inBlock 0,.code (cw Tryz.f29 [1,1,1])],[],none⟩],[.flat false ([vb p.a2]++dc aP p.a3++dc f_ p.a4 ++ [.own 1,.own 2,vi p.a5,.own 3]),.arr false aF p.a6,.arr false .bool p.a7,.arr false eE p.a8,.dead]⟩
 | .c1 p b1 b6=>⟨[⟨29,24,(en [(3,.own 1),(11,.own 2),(12,vi p.b0),(13,vi b1)]),[.inLoop (cw Tryz.f29 [1,1,0,1,0,1,0,0]),.inBlock 0,.code (cw Tryz.f29 [1,1,1])],[],none⟩],[.flat false ([vb p.b2]++dc aP p.b3++dc f_ p.b4 ++ [.own 2,.own 3,vi p.b5,.own 4]),.arr false aF b6,.arr false aF p.b7,.arr false .bool p.b8,.arr false eE p.b9,.dead]⟩
def Yc(A:aK)(x2:a_):LT (a_×(List Node)) UY:=.br x2.1 (.more (.c0 ⟨(A.l x2.2.2.2.1),x2.1,x2.2.1,x2.2.2.1,x2.2.2.2.2.2.1,x2.2.2.2.1,x2.2.2.2.2.1,x2.2.2.2.2.2.2⟩)) (.ret (x2,([]:List Node)))
def Lf(A:aK):UY→LT (a_×(List Node)) UY
 | .c0 p=>.br (A.c .lss 0 p.a0) (.need (A.and (A.c .leq 0 0) (A.c .lss 0 (A.l p.a6))) (.need (A.k vk (A.n aF p.a6 0:Node)) (.need (A.c .leq (A.l (([(A.k pU (A.n aF p.a6 0:Node))]:List Node):List Node)) 676622540169) (.more (.c1 ⟨p.a0,p.a2,p.a3,p.a4,p.a5,p.a6,p.a7,p.a8⟩ (A.b .add .i64 0 1) ([(A.k pU (A.n aF p.a6 0:Node))]:List Node)))))) (.ret ((p.a2,p.a3,p.a4,p.a6,p.a7,p.a5,p.a8),([]:List Node)))
 | .c1 p b1 b6=>.br (A.c .lss b1 p.b0) (.need (A.and (A.c .leq 0 b1) (A.c .lss b1 (A.l p.b7))) (.need (A.k vk (A.n aF p.b7 b1:Node)) (.need (A.c .leq (A.l (A.p b6 ([(A.k pU (A.n aF p.b7 b1:Node))]:List Node))) 676622540169) (.more (.c1 p (A.b .add .i64 b1 1) (A.p b6 ([(A.k pU (A.n aF p.b7 b1:Node))]:List Node))))))) (.ret ((p.b2,p.b3,p.b4,p.b7,p.b8,p.b5,p.b9),b6))
def sL(x:a_):List Node:=bif x.1 then x.2.2.2.1 else[]
theorem H9{p:Nq}{l:List Node}(h0:p.b0=(l.length:Int))(h7:p.b7=l)(hl:l.length≤1000)(hc:∀n∈l,Ac n=true):∀(j i:Nat) (acc:List Node),l.length-i=j→i≤l.length→acc.length≤i→
  aB (Lf ah) (.more (.c1 p (i:Int) acc)) ((p.b2,p.b3,p.b4,l,p.b8,p.b5,p.b9),acc++l.drop i):=by
 intro j
 induction j with
 | zero=>
   intro i acc hj hi ha
   rw[List.drop_eq_nil_of_le (by omega),List.append_nil,ak,Lf,h0,h7]
   exact(ai (by rw[al];exact decide_eq_false (by omega))).2 (.ret _)
 | succ j ih=>
   intro i acc hj hi ha
   have hi':i<l.length:=by omega
   rw[ak,Lf,h0,h7]
   refine(aj (by rw[al];exact decide_eq_true (by omega))).2 (af.2 ⟨aS hi',?_⟩)
   rw[show(ah.n aF l (i:Int):Node)=l[i] from getD_in hi' _,List.drop_eq_getElem_cons hi',cu (i:=i) (by omega)]
   have hn:(ah.p acc [l[i]]:List Node).length≤i+1:=by rw[iA,List.length_append,List.length_singleton];omega
   refine af.2 ⟨hc _ (List.getElem_mem hi'),af.2 ⟨xC (show(ah.p acc [l[i]]:List Node).length≤1001 by omega),?_⟩⟩
   have nx:=ih (i+1) _ (by omega) (by omega) hn
   rw[iA,List.append_assoc] at nx
   exact nx
theorem Pv{x:a_}(hl:x.2.2.2.1.length≤1000)(hc:∀n∈x.2.2.2.1,Ac n=true):aB (Lf ah) (Yc ah x) (x,sL x):=by
 obtain⟨x1,x2,x3,l,x5,x6,x7⟩:=x
 unfold Yc sL
 cases x1
 ·exact(ai rfl).2 (.ret _)
 refine(aj rfl).2 ?_
 rw[ak,Lf]
 cases l with
 | nil=>exact(ai rfl).2 (.ret _)
 | cons n l=>
   have hl:(n::l).length≤1000:=hl
   have hc:∀k∈n::l,Ac k=true:=hc
   refine(aj (by show ah.c .lss 0 (ah.l (n::l))=true;rw[bL,al,List.length_cons];exact decide_eq_true (by omega))).2 (af.2 ⟨aS (i:=0) (Nat.zero_lt_succ _),af.2 ⟨hc n (List.mem_cons_self ..),af.2 ⟨xC (Nat.le_add_left 1 _),?_⟩⟩⟩)
   exact H9 (p:=⟨((n::l).length:Int),true,x2,x3,x6,n::l,x5,x7⟩) rfl rfl hl hc l.length 1 [n] (by rw[List.length_cons];omega) (by rw[List.length_cons];omega) (Nat.le_refl 1)
def Jl:a_×Unit→a_×(List Node):=fun(x,_)=>(x,sL x)
def IB:a_×Unit→Bool:=fun(x,_)=>decide (x.2.2.2.1.length≤1000)&&x.2.2.2.1.all Ac
def abt:bI:=⟨[.ptr [.d .bool,.d aP,.d f_,.own aF,.own .bool,.d yI,.own eE]], [], [(.slice aF)],IB,Jl,false⟩
theorem abb:bI.Sound Tryz.prog 29 abt:=bH ar bU true 49 iz mz pz [⟨29,4, [[3,11,12,13]]⟩] [] (fun A (x2,())=>Yc A x2) Lf Zs (fc Tryz.func29 (fc Tryz.func67 fz)) (sc QT sz) (fun A y=>match y with |.c0 p=>⟨35,by kernel_rfl,by kernel_rfl⟩|.c1 p b1 b6=>⟨35,by kernel_rfl,by kernel_rfl⟩) fun((x2,()):a_×Unit) hp hv h=>Pv (of_decide_eq_true ((Bool.and_eq_true _ _).mp hp).1) (List.all_eq_true.1 ((Bool.and_eq_true _ _).mp hp).2)
structure ZI where
 (a0:Int) (a2:Bool) (a3:ao) (a4:gJ) (a5:Int) (a6:List iT) (a7:List Node) (a8:List Bool)
structure QD where
 (b0:Int) (b2:Bool) (b3:ao) (b4:gJ) (b5:Int) (b7:List iT) (b8:List Node) (b9:List Bool)
inductive Uy where
 | c0 (p:ZI)
 | c1 (p:QD) (b1:Int) (b6:List iT)
noncomputable def Yz:Uy→eF
 | .c0 p=>⟨[⟨36,28,(en [(3,.dq true),(11,.own 1),(12,vi p.a0),(13,vi 0)]),[.inLoop (cw Tryz.f36 [1,1,0,1,0,1,0,0]),.inBlock 0,.code (cw Tryz.f36 [1,1,1])],[],none⟩],[.flat false ([vb p.a2]++dc aP p.a3++dc f_ p.a4 ++ [.own 2,.own 3,vi p.a5,.own 1]),.arr false eE p.a6,.arr false aF p.a7,.arr false .bool p.a8,.dead]⟩
 | .c1 p b1 b6=>⟨[⟨36,28,(en [(3,.own 1),(11,.own 2),(12,vi p.b0),(13,vi b1)]),[.inLoop (cw Tryz.f36 [1,1,0,1,0,1,0,0]),.inBlock 0,.code (cw Tryz.f36 [1,1,1])],[],none⟩],[.flat false ([vb p.b2]++dc aP p.b3++dc f_ p.b4 ++ [.own 3,.own 4,vi p.b5,.own 2]),.arr false eE b6,.arr false eE p.b7,.arr false aF p.b8,.arr false .bool p.b9,.dead]⟩
def WB(A:aK)(x2:a_):LT (a_×(List iT)) Uy:=.br x2.1 (.more (.c0 ⟨(A.l x2.2.2.2.2.2.2),x2.1,x2.2.1,x2.2.2.1,x2.2.2.2.2.2.1,x2.2.2.2.2.2.2,x2.2.2.2.1,x2.2.2.2.2.1⟩)) (.ret (x2,([]:List iT)))
def Lr(A:aK):Uy→LT (a_×(List iT)) Uy
 | .c0 p=>.br (A.c .lss 0 p.a0) (.need (A.and (A.c .leq 0 0) (A.c .lss 0 (A.l p.a6))) (.need (A.k vk (A.n eE p.a6 0:iT).2) (.need (A.c .leq (A.l (([((A.n eE p.a6 0:iT).1,(A.k pU (A.n eE p.a6 0:iT).2))]:List iT):List iT)) 651562446089) (.more (.c1 ⟨p.a0,p.a2,p.a3,p.a4,p.a5,p.a6,p.a7,p.a8⟩ (A.b .add .i64 0 1) ([((A.n eE p.a6 0:iT).1,(A.k pU (A.n eE p.a6 0:iT).2))]:List iT)))))) (.ret ((p.a2,p.a3,p.a4,p.a7,p.a8,p.a5,p.a6),([]:List iT)))
 | .c1 p b1 b6=>.br (A.c .lss b1 p.b0) (.need (A.and (A.c .leq 0 b1) (A.c .lss b1 (A.l p.b7))) (.need (A.k vk (A.n eE p.b7 b1:iT).2) (.need (A.c .leq (A.l (A.p b6 ([((A.n eE p.b7 b1:iT).1,(A.k pU (A.n eE p.b7 b1:iT).2))]:List iT))) 651562446089) (.more (.c1 p (A.b .add .i64 b1 1) (A.p b6 ([((A.n eE p.b7 b1:iT).1,(A.k pU (A.n eE p.b7 b1:iT).2))]:List iT))))))) (.ret ((p.b2,p.b3,p.b4,p.b8,p.b9,p.b5,p.b7),b6))
def ye(x:a_):List iT:=bif x.1 then x.2.2.2.2.2.2 else[]
theorem JI{l:List iT}(h:l.length≤1000001):ah.c .leq (ah.l l) 651562446089=true:=by rw[ap,bL];exact decide_eq_true (by omega)
theorem Ic{p:QD}{l:List iT}(h0:p.b0=(l.length:Int))(h7:p.b7=l)(hl:l.length≤1000000)(hc:∀n∈l,Ac n.2=true):∀(j i:Nat) (acc:List iT),l.length-i=j→i≤l.length→acc.length≤i→
  aB (Lr ah) (.more (.c1 p (i:Int) acc)) ((p.b2,p.b3,p.b4,p.b8,p.b9,p.b5,l),acc++l.drop i):=by
 intro j
 induction j with
 | zero=>
   intro i acc hj hi ha
   rw[List.drop_eq_nil_of_le (by omega),List.append_nil,ak,Lr,h0,h7]
   exact(ai (by rw[al];exact decide_eq_false (by omega))).2 (.ret _)
 | succ j ih=>
   intro i acc hj hi ha
   have hi':i<l.length:=by omega
   rw[ak,Lr,h0,h7]
   refine(aj (by rw[al];exact decide_eq_true (by omega))).2 (af.2 ⟨aS hi',?_⟩)
   rw[show(ah.n eE l (i:Int):iT)=l[i] from getD_in hi' _,List.drop_eq_getElem_cons hi',cu (i:=i) (by omega)]
   have hn:(ah.p acc [l[i]]:List iT).length≤i+1:=by rw[iA,List.length_append,List.length_singleton];omega
   refine af.2 ⟨hc _ (List.getElem_mem hi'),af.2 ⟨JI (show(ah.p acc [l[i]]:List iT).length≤1000001 by omega),?_⟩⟩
   have nx:=ih (i+1) _ (by omega) (by omega) hn
   rw[iA,List.append_assoc] at nx
   exact nx
theorem Qs{x:a_}(hl:x.2.2.2.2.2.2.length≤1000000)(hc:∀n∈x.2.2.2.2.2.2,Ac n.2=true):aB (Lr ah) (WB ah x) (x,ye x):=by
 obtain⟨x1,x2,x3,x4,x5,x6,l⟩:=x
 unfold WB ye
 cases x1
 ·exact(ai rfl).2 (.ret _)
 refine(aj rfl).2 ?_
 rw[ak,Lr]
 cases l with
 | nil=>exact(ai rfl).2 (.ret _)
 | cons n l=>
   have hl:(n::l).length≤1000000:=hl
   have hc:∀k∈n::l,Ac k.2=true:=hc
   refine(aj (by show ah.c .lss 0 (ah.l (n::l))=true;rw[bL,al,List.length_cons];exact decide_eq_true (by omega))).2 (af.2 ⟨aS (i:=0) (Nat.zero_lt_succ _),af.2 ⟨hc n (List.mem_cons_self ..),af.2 ⟨JI (Nat.le_add_left 1 _),?_⟩⟩⟩)
   exact Ic (p:=⟨((n::l).length:Int),true,x2,x3,x6,n::l,x4,x5⟩) rfl rfl hl hc l.length 1 [n] (by rw[List.length_cons];omega) (by rw[List.length_cons];omega) (Nat.le_refl 1)
def MI:a_×Unit→a_×(List iT):=fun(x,_)=>(x,ye x)
def IW:a_×Unit→Bool:=fun(x,_)=>decide (x.2.2.2.2.2.2.length≤1000000)&&x.2.2.2.2.2.2.all fun s=>Ac s.2
def ab_:bI:=⟨[.ptr [.d .bool,.d aP,.d f_,.own aF,.own .bool,.d yI,.own eE]], [], [(.slice eE)],IW,MI,false⟩
theorem ab8:bI.Sound Tryz.prog 36 ab_:=bH ar bU true 49 iz mz pz [⟨36,4, [[3,11,12,13]]⟩] [] (fun A (x2,())=>WB A x2) Lr Yz (fc Tryz.func36 (fc Tryz.func67 fz)) (sc QT sz) (fun A y=>match y with |.c0 p=>⟨39,by kernel_rfl,by kernel_rfl⟩|.c1 p b1 b6=>⟨39,by kernel_rfl,by kernel_rfl⟩) fun((x2,()):a_×Unit) hp hv h=>Qs (of_decide_eq_true ((Bool.and_eq_true _ _).mp hp).1) (List.all_eq_true.1 ((Bool.and_eq_true _ _).mp hp).2)
inductive UM where
 | c0 (a0:Bool) (a1:ao) (a2:gJ) (a3:Int) (a4:List Node) (a5:List Bool) (a6:List iT)
 | c1
noncomputable def aaq:UM→eF
 | .c0 a0 a1 a2 a3 a4 a5 a6=>⟨[⟨20,24,(en [(6,.ptr 0 0)]),[.inLoop (cw Tryz.f20 [1,1,1,0,0,0]),.inBlock 0,.code (cw Tryz.f20 [1,1,1,1])],[],none⟩],[.flat false ([vb a0]++dc aP a1++dc f_ a2 ++ [.own 1,.own 2,vi a3,.own 3]),.arr false aF a4,.arr false .bool a5,.arr false eE a6,.dead]⟩
 | .c1=>⟨[⟨20,24,(en [(6,.fw)]),[.inLoop (cw Tryz.f20 [1,1,1,0,0,0]),.inBlock 0,.code (cw Tryz.f20 [1,1,1,1])],[],none⟩],[.dead]⟩
def W3(A:aK)(m:ao)(s:gJ):LT (List iT×Int) UM:=.need (A.k v7 (m,s)) (.br (A.k gF (m,s)).1 (.br (A.c .neq (A.k gF (m,s)).2.2 0) (.ret (([]:List iT),(A.k gF (m,s)).2.2)) (.more (.c0 (A.k gF (m,s)).2.1.1 (A.k gF (m,s)).2.1.2.1 (A.k gF (m,s)).2.1.2.2.1 (A.k gF (m,s)).2.1.2.2.2.2.2.1 (A.k gF (m,s)).2.1.2.2.2.1 (A.k gF (m,s)).2.1.2.2.2.2.1 (A.k gF (m,s)).2.1.2.2.2.2.2.2))) (.br (A.c .neq (A.k gF (m,s)).2.2 0) (.ret (([]:List iT),(A.k gF (m,s)).2.2)) (.more (.c1))))
def NJ(A:aK):UM→LT (List iT×Int) UM
 | .c0 a0 a1 a2 a3 a4 a5 a6=>.need (A.k (@tt (a_×Unit)) ((a0,a1,a2,a4,a5,a3,a6),())) (.br (A.not (A.k gz ((a0,a1,a2,a4,a5,a3,a6),())).2) (.need (A.k Eg ((A.k gz ((a0,a1,a2,a4,a5,a3,a6),())).1,())) (.more (.c0 (A.k qL ((A.k gz ((a0,a1,a2,a4,a5,a3,a6),())).1,())).1.1 (A.k qL ((A.k gz ((a0,a1,a2,a4,a5,a3,a6),())).1,())).1.2.1 (A.k qL ((A.k gz ((a0,a1,a2,a4,a5,a3,a6),())).1,())).1.2.2.1 (A.k qL ((A.k gz ((a0,a1,a2,a4,a5,a3,a6),())).1,())).1.2.2.2.2.2.1 (A.k qL ((A.k gz ((a0,a1,a2,a4,a5,a3,a6),())).1,())).1.2.2.2.1 (A.k qL ((A.k gz ((a0,a1,a2,a4,a5,a3,a6),())).1,())).1.2.2.2.2.1 (A.k qL ((A.k gz ((a0,a1,a2,a4,a5,a3,a6),())).1,())).1.2.2.2.2.2.2))) (.need (A.k IW ((A.k gz ((a0,a1,a2,a4,a5,a3,a6),())).1,())) (.ret ((A.k MI ((A.k gz ((a0,a1,a2,a4,a5,a3,a6),())).1,())).2,0))))
 | .c1=>.bad 194 "model.go:104"
def qD(x:a_):Nat:=(x.2.2.1.1*x.2.1.1).toNat
theorem Mid.cnt{x:a_}{k:Nat}(h:Mid x k):ah.b .mul .i64 x.2.2.1.1 x.2.1.1=(qD x:Int)∧1≤qD x∧qD x≤128:=by
 obtain⟨a1,a2⟩:=h.cN
 obtain⟨b1,b2⟩:=h.num
 unfold qD
 generalize x.2.2.1.1=r at *
 generalize x.2.1.1=n at *
 obtain⟨r,rfl⟩:=Int.eq_ofNat_of_zero_le (show 0≤r by omega)
 obtain⟨n,rfl⟩:=Int.eq_ofNat_of_zero_le (show 0≤n by omega)
 have h1:r*n≤16*8:=Nat.mul_le_mul (by omega) (by omega)
 have h2:1*1≤r*n:=Nat.mul_le_mul (by omega) (by omega)
 have e:(r:Int)*(n:Int)=((r*n:Nat):Int):=(Int.natCast_mul r n).symm
 rw[gV,e,gZ (by omega) (by omega),Int.toNat_natCast]
 exact⟨rfl,by omega,by omega⟩
theorem Mid.over{x:a_}{k:Nat}(h:Mid x k):iH x=decide (qD x≤k):=by
 unfold iH
 rw[h.made,cond_true,h.slot,h.cnt.1]
 show decide ((k:Int) ≥ (qD x:Int))=_
 by_cases g:qD x≤k
 ·rw[decide_eq_true g];exact decide_eq_true (by omega)
 ·rw[decide_eq_false g];exact decide_eq_false (by omega)
theorem Mid.tx{x:a_}{k:Nat}(h:Mid x k):qD (nJ x)=qD x:=by
 have st:=s6 h.inv
 unfold qD
 rw[st.m,st.s]
theorem Mid.pre{x:a_}{k:Nat}(h:Mid x k):ah.k Eg (x,())=true:=E_.2 h.inv
theorem Mid.SO{x:a_}{k:Nat}(h:Mid x k)(hk:k≤1000):ah.k IW (x,())=true:=by
 have h1:=h.ui
 show(decide (_)&&_)=true
 rw[decide_eq_true (by omega),Bool.true_and]
 exact List.all_eq_true.2 fun s hs=>Dw (h.snp s hs)
theorem Mid.JJ{x:a_}{k:Nat}(h:Mid x k):ah.k IB (x,())=true:=by
 obtain⟨_,_,c,_⟩:=h.inv.rest
 show(decide (_)&&_)=true
 rw[decide_eq_true c,Bool.true_and]
 refine List.all_eq_true.2 fun n hn=>?_
 obtain⟨i,hi,rfl⟩:=List.getElem_of_mem hn
 exact Dw (h.inv.IF i _ (List.getElem?_eq_getElem hi)).1
def W6(m:ao)(s:gJ):List iT×Int:=bif (oS m s).1 then((itX (qD (oS m s).2.1) (oS m s).2.1).2.2.2.2.2.2,0) else([],(oS m s).2.2)
theorem OH:∀(j k:Nat) (x:a_),qD x-k=j→k≤qD x→Mid x k→aB (NJ ah) (.more (.c0 x.1 x.2.1 x.2.2.1 x.2.2.2.2.2.1 x.2.2.2.1 x.2.2.2.2.1 x.2.2.2.2.2.2)) ((itX j x).2.2.2.2.2.2,0):=by
 intro j
 induction j with
 | zero=>
   intro k x hj hk hm
   rw[ak,NJ]
   refine af.2 ⟨rfl,?_⟩
   rw[show ah.k gz ((x.1,x.2.1,x.2.2.1,x.2.2.2.1,x.2.2.2.2.1,x.2.2.2.2.2.1,x.2.2.2.2.2.2),())=(x,iH x) from rfl]
   refine(ai (by show(!iH x)=false;rw[hm.over,decide_eq_true (show qD x≤k by omega)];rfl)).2 (af.2 ⟨hm.SO (by have:=hm.cnt.2;omega),?_⟩)
   rw[show ah.k MI (x,())=(x,ye x) from rfl]
   unfold ye
   rw[hm.made]
   exact .ret _
 | succ j ih=>
   intro k x hj hk hm
   have hc:=hm.cnt.2
   rw[ak,NJ]
   refine af.2 ⟨rfl,?_⟩
   rw[show ah.k gz ((x.1,x.2.1,x.2.2.1,x.2.2.2.1,x.2.2.2.2.1,x.2.2.2.2.2.1,x.2.2.2.2.2.2),())=(x,iH x) from rfl]
   refine(aj (by show(!iH x)=true;rw[hm.over,decide_eq_false (show ¬qD x≤k by omega)];rfl)).2 (af.2 ⟨hm.pre,?_⟩)
   rw[show ah.k qL (x,())=(nJ x,()) from rfl]
   exact ih (k+1) (nJ x) (by rw[hm.tx];omega) (by rw[hm.tx];omega) (mid_step hm (by omega))
theorem Z0{m:ao}{s:gJ}(h:ah.k v7 (m,s)=true):aB (NJ ah) (W3 ah m s) (W6 m s):=by
 unfold W3 W6
 refine af.2 ⟨h,?_⟩
 rw[show ah.k gF (m,s)=oS m s from rfl]
 cases hn:(oS m s).1
 ·exact(ai rfl).2 ((aj (by rw[aT];exact decide_eq_true (Jq hn))).2 (.ret _))
 ·obtain⟨h0,_,hm⟩:=Jg hn
  exact(aj rfl).2 ((ai (by rw[aT];exact decide_eq_false fun k=>k h0)).2 (OH _ 0 _ rfl (Nat.zero_le _) hm))
def Vt:(ao×gJ)→(List iT×Int):=fun(m,s)=>W6 m s
def QK:(ao×gJ)→Bool:=fun x=>v7 x
def abd:aC:=⟨[aP,f_], [(.slice eE),yI],QK,Vt⟩
theorem adf:Sd 20 abd:=uj ar bU true true 37 (oc Vu oz) iz (mc M_ (mc ab8 (mc VW mz))) pz [⟨20,4, [[6]]⟩] [] (fun A (m,s)=>W3 A m s) NJ aaq (fc Tryz.func20 fz) sz (fun A y=>match y with |.c0 a0 a1 a2 a3 a4 a5 a6=>⟨22,by kernel_rfl,by kernel_rfl⟩|.c1=>⟨10,by kernel_rfl,by kernel_rfl⟩) fun((m,s):ao×gJ) hp h=>Z0 hp
def UL(A:aK)(s:gJ):LT Bool Empty:=.br (A.c .leq (A.l s.2.2.2.2.2.2.1) 300) (.br (A.c .leq (A.l s.2.2.2.2.2.2.2) 300) (.ret (A.c .leq (A.l s.2.2.2.2.2.1) 1100)) (.ret false)) (.ret false)
def yq:gJ→Bool:=fun s=>(UL ah s).val (Ty.bl [.bool])
def aeb:aC:=⟨[f_], [.bool],(@tt gJ),yq⟩
theorem agu:Sd 19 aeb:=aL ar bU true 31 [] (fun A s=>UL A s) (fc Tryz.func19 fz) sz (fun(s:gJ) hp h=>by
 show(UL ah s).pre=true
 simp only[UL,LT.pre,cy,ax,aD,al,ap,aH,aN,aG,bE,dC,au,bd,bf,bG,bM,cm,Bool.and_eq_true,Bool.or_eq_true,Bool.and_eq_false_iff,Bool.or_eq_false_iff,Bool.not_eq_true',Bool.not_eq_false',decide_eq_true_eq,decide_eq_false_iff_not,bne_iff_ne,beq_iff_eq,bne_eq_false_iff_eq,beq_eq_false_iff_ne]
 simp only[Ty.cq,Ty.has,ku,vF] at h
 (repeat' (first|intro _|constructor))<;>(try omega))
theorem YZ{s:gJ}(h:yq s=true):s.2.2.2.2.2.2.1.length≤300∧s.2.2.2.2.2.2.2.length≤300∧s.2.2.2.2.2.1.length≤1100:=by
 have h:(bif ah.c .leq (ah.l s.2.2.2.2.2.2.1) 300 then(bif ah.c .leq (ah.l s.2.2.2.2.2.2.2) 300 then ah.c .leq (ah.l s.2.2.2.2.2.1) 1100 else false) else false)=true:=h
 rw[ap,ap,ap,bL,bL,bL] at h
 by_cases a:(s.2.2.2.2.2.2.1.length:Int)≤300
 ·rw[decide_eq_true a] at h
  by_cases b:(s.2.2.2.2.2.2.2.length:Int)≤300
  ·rw[decide_eq_true b] at h
   have c:(s.2.2.2.2.2.1.length:Int)≤1100:=of_decide_eq_true h
   exact⟨by omega,by omega,by omega⟩
  ·rw[decide_eq_false b] at h;cases h
 ·rw[decide_eq_false a] at h;cases h
theorem S8{m:ao}{s:gJ}(h:yq s=true):ah.k v7 (m,s)=true:=by
 obtain⟨a,b,c⟩:=YZ h
 exact decide_eq_true ⟨by omega,by omega,by omega⟩
structure Z3 where
 (a1:List iT) (a2:Int)
inductive Ue where
 | c0 (p:Z3)
noncomputable def aaz:Ue→eF
 | .c0 p=>⟨[⟨18,42,(en [(2,vi 0),(3,.sl eE p.a1),(4,vi p.a2)]),[.code (cw Tryz.f18 [1,1,1,0]),.code .ret],[],none⟩],[.dead]⟩
abbrev w8(A:aK):=(A.p (A.p (A.p [true] [true]) [true]) [true])
abbrev Fh(A:aK):=([((A.p (A.p (A.p ([2]:List Int) ([2]:List Int)) ([2]:List Int)) ([2]:List Int)),(w8 A), [true])]:List Mode)
abbrev VO(A:aK):=(A.k Vt ((4,(A.b .add .i64 76 (A.k BV (4,0,38,16,0,1,(w8 A),(Fh A)))),38,16,0,1,(w8 A),(Fh A)),0,([]:List Bool),([]:List Int),([]:List Int),([]:List Int),([]:List Int),([]:List bg),([]:List cd)))
abbrev VZ(A:aK):=(A.c .leq (A.l (A.p (A.p [true] [true]) [true])) 140737488355328)
def agt(A:aK):LT Bool Ue:=.need (A.c .leq (A.l ([true]:List Bool)) 140737488355328) (.need (A.c .leq (A.l ([2]:List Int)) 17592186044416) (.need (A.c .leq (A.l ([true]:List Bool)) 140737488355328) (.need (A.c .leq (A.l (A.p [true] [true])) 140737488355328) (.need (A.c .leq (A.l (A.p ([2]:List Int) ([2]:List Int))) 17592186044416) (.need (A.c .leq (A.l (A.p [true] [true])) 140737488355328) (.need (VZ A) (.need (A.c .leq (A.l (A.p (A.p ([2]:List Int) ([2]:List Int)) ([2]:List Int))) 17592186044416) (.need (VZ A) (.need (A.c .leq (A.l (w8 A)) 140737488355328) (.need (A.c .leq (A.l (A.p (A.p (A.p ([2]:List Int) ([2]:List Int)) ([2]:List Int)) ([2]:List Int))) 17592186044416) (.need (A.c .leq (A.l (w8 A)) 140737488355328) (.need (A.k (@tt ao) (4,0,38,16,0,1,(w8 A),(Fh A))) (.need (A.k QK ((4,(A.b .add .i64 76 (A.k BV (4,0,38,16,0,1,(w8 A),(Fh A)))),38,16,0,1,(w8 A),(Fh A)),0,([]:List Bool),([]:List Int),([]:List Int),([]:List Int),([]:List Int),([]:List bg),([]:List cd))) (.more (.c0 ⟨(VO A).1,(VO A).2⟩)))))))))))))))
def aeL(A:aK):Ue→LT Bool Ue
 | .c0 p=>.br (A.c .eql 0 0) (.br (A.c .eql p.a2 0) (.br (A.c .eql (A.l p.a1) 4) (.need (A.and (A.c .leq 0 3) (A.c .lss 3 (A.l p.a1))) (.br (A.c .eql (A.n eE p.a1 3:iT).1 1) (.need (A.and (A.c .leq 0 3) (A.c .lss 3 (A.l p.a1))) (.ret (A.and (A.c .eql (A.n eE p.a1 3:iT).2.2.2.1.1 1) (A.and (A.c .eql (A.n eE p.a1 3:iT).2.2.2.1.2.1 0) (A.and (A.c .eql (A.n eE p.a1 3:iT).2.2.2.1.2.2.1 0) (A.and (A.c .eql (A.n eE p.a1 3:iT).2.2.2.1.2.2.2.1 0) (A.and (A.c .eql (A.n eE p.a1 3:iT).2.2.2.1.2.2.2.2 15) true))))))) (.ret false))) (.ret false)) (.ret false)) (.ret false)
def FB{R Y:Type}(s:Y→LT R Y):Nat→LT R Y→Option R
 | 0,_=>none
 | n+1,t=>match t with
   | .ret r=>some r
   | .more y=>FB s n (s y)
   | .br b t e=>bif b then FB s n t else FB s n e
   | .need b t=>bif b then FB s n t else none
   | _=>none
theorem qe{R Y:Type}{s:Y→LT R Y}:∀{n:Nat} {t:LT R Y} {r:R},FB s n t=some r→aB s t r
 | 0,_,_,h=>by cases h
 | n+1,t,r,h=>by
   cases t with
   | ret q=>cases h;exact .ret _
   | more y=>exact .more (qe (n:=n) h)
   | br b t e=>
     cases b
     ·exact(ai rfl).2 (qe (n:=n) h)
     ·exact(aj rfl).2 (qe (n:=n) h)
   | need b t=>
     cases b
     ·cases h
     ·exact af.2 ⟨rfl,qe (n:=n) h⟩
   | eqs _ _=>cases h
   | and _ _=>cases h
   | bad _ _=>cases h
set_option maxHeartbeats 4000000 in
theorem Pk:aB (aeL ah) (agt ah) true:=qe (n:=40) (by kernel_rfl)
def EO:Unit→Bool:=fun _=>true
def abI:aC:=⟨[], [.bool],(@tt Unit),EO⟩
theorem adM:Sd 18 abI:=aU ar bU true 313 [] [⟨18,3, [[2,3,4]]⟩] (fun A _=>agt A) aeL aaz (fc Tryz.func18 (fc Tryz.func37 fz)) (sc VX (sc adf sz)) (fun A y=>match y with |.c0 p=>⟨35,by kernel_rfl,by kernel_rfl⟩) fun _ hp h=>Pk
structure Hz where
 (a0:Int) (a1:ao) (a2:Bool) (a3:ao) (a4:gJ) (a5:Int) (a6:List Node) (a7:List Bool) (a8:List iT)
structure Y0 where
 (b1:ao)
structure Cs where
 (c0:Int) (c1:List Node) (c2:Int) (c4:ao) (c5:Bool) (c6:ao) (c7:gJ) (c8:Int) (c9:List Node) (c10:List Bool) (c11:List iT)
inductive Ur where
 | c0 (p:Hz)
 | c1 (p:Y0)
 | c2 (p:Cs) (c3:Int)
noncomputable def Xn:Ur→eF
 | .c0 p=>⟨[⟨7,59,(en [(2,.ptr 0 0),(5,.ptr 1 0),(27,vi p.a0)]),[.inLoop (cw Tryz.f7 [1,1,1,1,0,1,0,0]),.inBlock 0,.code (cw Tryz.f7 [1,1,1,1,1])],[],none⟩],[.flat false (dc aP p.a1),.flat false ([vb p.a2]++dc aP p.a3++dc f_ p.a4 ++ [.own 2,.own 3,vi p.a5,.own 4]),.arr false aF p.a6,.arr false .bool p.a7,.arr false eE p.a8,.dead]⟩
 | .c1 p=>⟨[⟨7,59,(en [(2,.ptr 0 0),(5,.fw),(27,vi 0)]),[.inLoop (cw Tryz.f7 [1,1,1,1,0,1,0,0]),.inBlock 0,.code (cw Tryz.f7 [1,1,1,1,1])],[],none⟩],[.flat false (dc aP p.b1),.dead]⟩
 | .c2 p c3=>⟨[⟨7,59,(en [(2,.ptr 0 0),(5,.ptr 1 0),(27,vi p.c0),(30,.sl aF p.c1),(31,vi p.c2),(32,vi c3)]),[.inLoop (cw Tryz.f7 [1,1,1,1,0,1,0,0,1,1,0,0,0,1,0,0]),.inBlock 2,.code (cw Tryz.f7 [1,1,1,1,0,1,0,0,1,1,0,0,1]),.inBlock 1,.code (cw Tryz.f7 [1,1,1,1,0,1,0,0,1,1,1]),.inLoop (cw Tryz.f7 [1,1,1,1,0,1,0,0]),.inBlock 0,.code (cw Tryz.f7 [1,1,1,1,1])],[],none⟩],[.flat false (dc aP p.c4),.flat false ([vb p.c5]++dc aP p.c6++dc f_ p.c7 ++ [.own 2,.own 3,vi p.c8,.own 4]),.arr false aF p.c9,.arr false .bool p.c10,.arr false eE p.c11,.dead]⟩
def Xx(A:aK)(m:ao)(s:gJ):LT Bool Ur:=.need (A.k (@tt Unit) ()) (.br (A.not (A.k EO ())) (.need (A.k (@tt Unit) ()) (.ret (A.k EO ()))) (.need (A.k (@tt gJ) s) (.br (A.not (A.k yq s)) (.need (A.k (@tt Unit) ()) (.ret (A.k EO ()))) (.need (A.k v7 (m,s)) (.br (A.k gF (m,s)).1 (.br (A.c .neq (A.k gF (m,s)).2.2 0) (.ret false) (.more (.c0 ⟨0,m,(A.k gF (m,s)).2.1.1,(A.k gF (m,s)).2.1.2.1,(A.k gF (m,s)).2.1.2.2.1,(A.k gF (m,s)).2.1.2.2.2.2.2.1,(A.k gF (m,s)).2.1.2.2.2.1,(A.k gF (m,s)).2.1.2.2.2.2.1,(A.k gF (m,s)).2.1.2.2.2.2.2.2⟩))) (.br (A.c .neq (A.k gF (m,s)).2.2 0) (.ret true) (.more (.c1 ⟨m⟩))))))))
abbrev l9(A:aK)(p:Hz):=(A.k Jl ((p.a2,p.a3,p.a4,p.a6,p.a7,p.a5,p.a8),()))
abbrev xD(A:aK)(p:Cs):=(A.k gz ((p.c5,p.c6,p.c7,p.c9,p.c10,p.c8,p.c11),()))
abbrev mf(A:aK)(p:Cs):=(A.k JK ((xD A p).1,()))
def xf(A:aK):Ur→LT Bool Ur
 | .c0 p=>.br (A.c .lss p.a0 128) (.need (A.k IB ((p.a2,p.a3,p.a4,p.a6,p.a7,p.a5,p.a8),())) (.more (.c2 ⟨p.a0,(l9 A p).2,(A.l (l9 A p).2),p.a1,(l9 A p).1.1,(l9 A p).1.2.1,(l9 A p).1.2.2.1,(l9 A p).1.2.2.2.2.2.1,(l9 A p).1.2.2.2.1,(l9 A p).1.2.2.2.2.1,(l9 A p).1.2.2.2.2.2.2⟩ 0))) (.need (A.k (@tt (a_×Unit)) ((p.a2,p.a3,p.a4,p.a6,p.a7,p.a5,p.a8),())) (.ret (A.k gz ((p.a2,p.a3,p.a4,p.a6,p.a7,p.a5,p.a8),())).2))
 | .c1 p=>.br (A.c .lss 0 128) (.bad 194 "law.go:129") (.bad 194 "law.go:141")
 | .c2 p c3=>.br (A.c .lss c3 p.c2) (.need (A.and (A.c .leq 0 c3) (A.c .lss c3 (A.l p.c1))) (.br (A.c .neq (A.n aF p.c1 c3:Node).1 c3) (.ret false) (.need (A.k (@tt (ao×Node)) (p.c4,(A.n aF p.c1 c3:Node))) (.br (A.c .neq (A.k Wm (p.c4,(A.n aF p.c1 c3:Node))) 0) (.ret false) (.more (.c2 p (A.b .add .i64 c3 1))))))) (.need (A.k (@tt (a_×Unit)) ((p.c5,p.c6,p.c7,p.c9,p.c10,p.c8,p.c11),())) (.br (xD A p).2 (.need (A.k zW ((xD A p).1,())) (.ret (A.c .eql (mf A p).2 220))) (.need (A.k zW ((xD A p).1,())) (.br (A.c .neq (mf A p).2 0) (.ret false) (.more (.c0 ⟨(A.b .add .i64 p.c0 1),p.c4,(mf A p).1.1,(mf A p).1.2.1,(mf A p).1.2.2.1,(mf A p).1.2.2.2.2.2.1,(mf A p).1.2.2.2.1,(mf A p).1.2.2.2.2.1,(mf A p).1.2.2.2.2.2.2⟩))))))
def Ah(k:Int)(m:ao)(x:a_):Hz:=⟨k,m,x.1,x.2.1,x.2.2.1,x.2.2.2.2.2.1,x.2.2.2.1,x.2.2.2.2.1,x.2.2.2.2.2.2⟩
def BY(k:Int)(m:ao)(x:a_):Cs:=⟨k,x.2.2.2.1,(x.2.2.2.1.length:Int),m,x.1,x.2.1,x.2.2.1,x.2.2.2.2.2.1,x.2.2.2.1,x.2.2.2.2.1,x.2.2.2.2.2.2⟩
theorem Bv{m:ao}{x:a_}{k:Nat}{q:Int}(hm:Mid x k)(he:x.2.1=m)(T:aB (xf ah) (.more (.c2 (BY q m x) (x.2.2.2.1.length:Int))) true) :
  ∀(j i:Nat),x.2.2.2.1.length-i=j→i≤x.2.2.2.1.length→aB (xf ah) (.more (.c2 (BY q m x) (i:Int))) true:=by
 intro j
 induction j with
 | zero=>
   intro i hj hi
   rw[show i=x.2.2.2.1.length by omega]
   exact T
 | succ j ih=>
   intro i hj hi
   have hi':i<x.2.2.2.1.length:=by omega
   have hg:=hm.inv.IF i _ (List.getElem?_eq_getElem hi')
   have hlen:=hm.inv.rest.2.2.1
   rw[ak,xf]
   refine(aj (by show ah.c .lss (i:Int) (x.2.2.2.1.length:Int)=true;rw[al];exact decide_eq_true (by omega))).2 (af.2 ⟨aS hi',?_⟩)
   rw[show(ah.n aF (BY q m x).c1 (i:Int):Node)=x.2.2.2.1[i] from getD_in hi' _,cu (i:=i) (by omega)]
   refine(ai (by rw[aT];exact decide_eq_false fun k=>k hg.2)).2 (af.2 ⟨rfl,(ai ?_).2 (ih (i+1) (by omega) (by omega))⟩)
   show ah.c .neq (bi m x.2.2.2.1[i]) 0=false
   rw[←he,hg.1];rfl
theorem RX{m:ao}:∀(j k:Nat) (x:a_),qD x-k=j→k≤qD x→Mid x k→x.2.1=m→aB (xf ah) (.more (.c0 (Ah (k:Int) m x))) true:=by
 intro j
 induction j with
 | zero=>
   intro k x hj hk hm he
   have hc:=hm.cnt.2
   have ho:iH x=true:=by rw[hm.over];exact decide_eq_true (by omega)
   have e:ah.k gz (x,())=(x,iH x):=rfl
   have e4:(ah.k JK (x,())).2=(220:Int):=by
    show(It x).2=(220:Int)
    unfold It;rw[hm.made,ho];rfl
   have p4:ah.k zW (x,())=true:=by
    show(!x.1||(iH x||Hm x))=true
    rw[hm.made,ho];rfl
   have fin:aB (xf ah) (.more (.c2 (BY (k:Int) m x) (x.2.2.2.1.length:Int))) true:=by
    rw[ak,xf]
    refine(ai (by show ah.c .lss (x.2.2.2.1.length:Int) (x.2.2.2.1.length:Int)=false;rw[al];exact decide_eq_false (by omega))).2 (af.2 ⟨rfl,?_⟩)
    have e:ah.k gz (((BY (k:Int) m x).c5,(BY (k:Int) m x).c6,(BY (k:Int) m x).c7,(BY (k:Int) m x).c9,(BY (k:Int) m x).c10,(BY (k:Int) m x).c8,(BY (k:Int) m x).c11),())=(x,iH x):=rfl
    rw[e,ho]
    refine(aj rfl).2 (af.2 ⟨p4,?_⟩)
    rw[e4];exact .ret _
   rw[ak,xf]
   by_cases h128:k<128
   ·refine(aj (by show ah.c .lss (k:Int) 128=true;rw[al];exact decide_eq_true (by omega))).2 (af.2 ⟨hm.JJ,?_⟩)
    have e6:ah.k Jl (((Ah (k:Int) m x).a2,(Ah (k:Int) m x).a3,(Ah (k:Int) m x).a4,(Ah (k:Int) m x).a6,(Ah (k:Int) m x).a7,(Ah (k:Int) m x).a5,(Ah (k:Int) m x).a8),())=(x,x.2.2.2.1):=by
     show(x,sL x)=_
     unfold sL;rw[hm.made];rfl
    rw[e6]
    exact Bv hm he fin _ 0 rfl (Nat.zero_le _)
   ·refine(ai (by show ah.c .lss (k:Int) 128=false;rw[al];exact decide_eq_false (by omega))).2 (af.2 ⟨rfl,?_⟩)
    have e:ah.k gz (((Ah (k:Int) m x).a2,(Ah (k:Int) m x).a3,(Ah (k:Int) m x).a4,(Ah (k:Int) m x).a6,(Ah (k:Int) m x).a7,(Ah (k:Int) m x).a5,(Ah (k:Int) m x).a8),())=(x,iH x):=rfl
    rw[e,ho];exact .ret _
 | succ j ih=>
   intro k x hj hk hm he
   have hc:=hm.cnt.2
   have ho:iH x=false:=by rw[hm.over];exact decide_eq_false (by omega)
   have hs:=mid_step hm (by omega)
   have st:=s6 hm.inv
   have nx:=ih (k+1) (nJ x) (by rw[hm.tx];omega) (by rw[hm.tx];omega) hs (st.m.trans he)
   have e4:ah.k JK (x,())=(nJ x,(0:Int)):=by
    show It x=_
    unfold It;rw[hm.made,ho];rfl
   have p4:ah.k zW (x,())=true:=by
    show(!x.1||(iH x||Hm x))=true
    rw[hm.made,ho];exact hm.pre
   have fin:aB (xf ah) (.more (.c2 (BY (k:Int) m x) (x.2.2.2.1.length:Int))) true:=by
    rw[ak,xf]
    refine(ai (by show ah.c .lss (x.2.2.2.1.length:Int) (x.2.2.2.1.length:Int)=false;rw[al];exact decide_eq_false (by omega))).2 (af.2 ⟨rfl,?_⟩)
    have e:ah.k gz (((BY (k:Int) m x).c5,(BY (k:Int) m x).c6,(BY (k:Int) m x).c7,(BY (k:Int) m x).c9,(BY (k:Int) m x).c10,(BY (k:Int) m x).c8,(BY (k:Int) m x).c11),())=(x,iH x):=rfl
    rw[e,ho]
    refine(ai rfl).2 (af.2 ⟨p4,?_⟩)
    rw[e4]
    refine(ai rfl).2 ?_
    rw[show(BY (k:Int) m x).c0=(k:Int) from rfl,cu (i:=k) (by omega)]
    exact nx
   rw[ak,xf]
   refine(aj (by show ah.c .lss (k:Int) 128=true;rw[al];exact decide_eq_true (by omega))).2 (af.2 ⟨hm.JJ,?_⟩)
   have e6:ah.k Jl (((Ah (k:Int) m x).a2,(Ah (k:Int) m x).a3,(Ah (k:Int) m x).a4,(Ah (k:Int) m x).a6,(Ah (k:Int) m x).a7,(Ah (k:Int) m x).a5,(Ah (k:Int) m x).a8),())=(x,x.2.2.2.1):=by
    show(x,sL x)=_
    unfold sL;rw[hm.made];rfl
   rw[e6]
   exact Bv hm he fin _ 0 rfl (Nat.zero_le _)
theorem Wy{m:ao}{s:gJ}:aB (xf ah) (Xx ah m s) true:=by
 unfold Xx
 refine af.2 ⟨rfl,(ai (by rw[show ah.k EO ()=true from rfl];rfl)).2 (af.2 ⟨rfl,?_⟩)⟩
 cases hf:yq s
 ·exact(aj (by show(!yq s)=true;rw[hf];rfl)).2 (af.2 ⟨rfl,.ret _⟩)
 refine(ai (by show(!yq s)=false;rw[hf];rfl)).2 (af.2 ⟨S8 hf,?_⟩)
 rw[show ah.k gF (m,s)=oS m s from rfl]
 cases hn:(oS m s).1
 ·exact(ai rfl).2 ((aj (by rw[aT];exact decide_eq_true (Jq hn))).2 (.ret _))
 ·obtain⟨h0,he,hm⟩:=Jg hn
  exact(aj rfl).2 ((ai (by rw[aT];exact decide_eq_false fun k=>k h0)).2 (RX _ 0 _ rfl (Nat.zero_le _) hm he))
def Vx:(ao×gJ)→Bool:=fun _=>true
def adL:aC:=⟨[aP,f_], [.bool],(@tt (ao×gJ)),Vx⟩
theorem acV:Sd 7 adL:=uj ar bU true true 51 (oc Vu oz) iz (mc M_ (mc agf (mc abb mz))) pz [⟨7,7, [[2,5,27]]⟩,⟨7,9, [[2,5,27,30,31,32]]⟩] [] (fun A (m,s)=>Xx A m s) xf Xn (fc Tryz.func7 fz) (sc ad9 (sc adM (sc agu sz))) (fun A y=>match y with |.c0 p=>⟨25,by kernel_rfl,by kernel_rfl⟩|.c1 p=>⟨19,by kernel_rfl,by kernel_rfl⟩|.c2 p c3=>⟨44,by kernel_rfl,by kernel_rfl⟩) fun(m,s) hp h=>Wy
theorem W7(x:ao×gJ)(h:Ty.cq [aP,f_] x):Vx x=true:=rfl
end
end Go.Ev.M
