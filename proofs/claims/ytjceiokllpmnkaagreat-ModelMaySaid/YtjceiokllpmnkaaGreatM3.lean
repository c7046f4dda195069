/-
  PROVED: what functions of the program compute, part 3. Conditions: none.
-/
import Derived.Test.YtjceiokllpmnkaaGreatM2
import Derived.Shelf.SlicesE.Clone
import Derived.Shelf.SlSortCmp.NoneTotal
set_option linter.unusedVariables false
set_option linter.unusedSimpArgs false
namespace Go.Ev.M
open Go.Proofs
set_option maxRecDepth 100000
open Go.Ev.Pl
noncomputable section
abbrev bu:Ty:=kM
abbrev bJ:Type:=lQ
abbrev fV:Ty:=(.struct [yI,(.slice .bool),BO,BO,BO,BO,(.slice bC),(.slice bu)])
abbrev gG:Type:=Int×List Bool×List Int×List Int×List Int×List Int×List bg×List bJ
abbrev d_:Ty:=(.struct [yI,aC])
abbrev iT:Type:=Int×Node
abbrev ol:Ty:=(.struct [.bool,aN,fV,(.slice aC),(.slice .bool),yI,(.slice d_)])
abbrev bd:Type:=Bool×ak×gG×List Node×List Bool×Int×List iT
abbrev TN:Ty:=(.struct [(.slice aC),(.slice .bool),(.slice .bool),(.slice .bool),(.arr 2 aF)])
abbrev df:Type:=List Node×List Bool×List Bool×List Bool×List Seen
open Go.Lib Go.RowKit Go.Shelf in
set_option maxHeartbeats 2000000 in
theorem Uj{P:Program}{ρ:Shelf.Ren}(L:SlLaysE0.n41 P ρ){i0:TypeInfo}{z:Value}{size bytes:Nat}(hi:P.info? (ρ.t 23)=some i0)(hz0:i0.zero=some z)(hz1:i0.size=size)(hz2:i0.bytes=bytes)(hzs:z.cells.size=size)(hsz:0<size)
  (z23:∀w,(Go.sizeOf (ρ.t 23)).run P w=.ok size w) (a:Addr) (n c:Nat) (news:List Value) (w:World) (hl:news.length=n*size) (hn:n≤maxLen) (hbig:n*bytes≤140737488355328)
  (hc:∀j u,news[j]? = some u→w.cell? (a.add j)=some u) (h1:∀u∈news,u.oneCell'=true) :
  Calls P (ρ.f 41) #[.slice (some a) n c] w fun e w'=>∃v',e=.returned v'∧w'.ownsRow w.heap.size (ρ.t 23) size v' n news∧v'≠.slice none 0 0∧Below w.heap.size w w':=by
 have mixed:=L.mixed;have t4:=L.t4;have a4:=L.a4;have z4:=L.z4;have v4:=L.v4;have t22:=L.t22;have a22:=L.a22;have z22:=L.z22;have v22:=L.v22
 have q22:∀(w:World) (a:Option Addr) (n c n' c':Nat),(binOp .eql (ρ.t 22) (.slice a n c) (.slice none n' c')).run P w=.ok (.bool a.isNone) w:=fun w a n c n' c'=>Lib.run_eql_slice_nil w _ _ a n c n' c' L.t22
 have u22:∀w,Sem.run P (underlying (ρ.t 22)) w=.ok (TypeDesc.slice (ρ.t 23)) w:=run_underlying t22
 have A:Aside (∀j u,news[j]? = some u→w.cell? (a.add j)=some u):=hc
 clear hc
 obtain⟨_,_,FG⟩:=L.f41
 go_enter FG,SlBodyN.n41_ntmps ρ
 go_wp2_with (at_builtin;refine wpList_append_own _ rfl _ _ (ρ.t 22) rfl w.heap.size (ρ.t 23) i0 z size bytes t22 hi hz0 hz1 hz2 hzs hsz _ _ _ rfl (World.ownsRow_made w #[] 0 (Nat.le_refl _) (Nat.zero_le _) (by simp)) a n c news rfl ?qc1 ?qc2 ?qc3 ?qc4 ?qc5 ?qc6 ?_)
 case qc1=>exact hl
 case qc2=>exact fun j u hj=>Lib.cell?_alloc_some _ (A.out j u hj)
 case qc3=>exact h1
 case qc4=>rw[Nat.zero_add];exact hn
 case qc5=>rw[Nat.zero_add];exact hbig
 case qc6=>simp
 intro v' w1 hown hgrow hnil
 go_wp2
 go_ret
 refine⟨v',rfl,by simpa using hown,hnil,((Below.refl _ w).alloc (Nat.le_refl _) _).grown hgrow (by simp) (by intro k hk;simp[Value.ownBlock] at hk;omega)⟩
open Go.Lib Go.RowKit Go.Shelf in
theorem zo{P:Program}{ρ:Shelf.Ren}(L:SlLaysE0.n41 P ρ)(t:Ty){i0:TypeInfo}{z:Value}{bytes:Nat}(hi:P.info? (ρ.t 23)=some i0)(hz0:i0.zero=some z)(hz1:i0.size=t.size)(hz2:i0.bytes=bytes)(hzs:z.cells.size=t.size)(hsz:0<t.size)(hso:t.lN=true)
  (z23:∀w,(Go.sizeOf (ρ.t 23)).run P w=.ok t.size w) {F:Func} (hF:P.funcs[ρ.f 41]? = some F) (hb:F.body.isSome=true) (hn:(F.name == "runtime.NumGoroutine")=false) :
  aA.Sound P (ρ.f 41) ⟨[.slice t], [.slice t],fun x=>decide (((show List t.T from x).length:Int)*bytes≤140737488355328),fun x=>x⟩:=by
 refine⟨fun w I x aa hI hrep hp=>?_,⟨F,hF,hb,hn⟩⟩
 obtain⟨l⟩:=aa
 obtain⟨v,rfl,hv⟩:∃v,l=[v]∧gp w I (.slice t) v x:=hrep
 have hv:aO w I (.slice t) [v] x:=hv
 have hbig:(show List t.T from x).length*bytes≤140737488355328:=by have:=of_decide_eq_true hp;omega
 obtain⟨a,cap,us,rfl,h2,h3,h4,h5,h6,h7⟩:=xO.DU hv
 cases a with
 | none=>
   have hx0:x=([]:List t.T):=List.eq_nil_of_length_eq_zero (by have:=h5 rfl;omega)
   subst hx0
   refine(AnyE.slices_Clone_nil L 0 cap w).mono ?_
   rintro e w' ⟨rfl,rfl⟩
   exact⟨_,rfl,rfl,rfl,rfl,Nat.le_refl _,fun _ _=>rfl,I,fun b h=>.inl h,bE.2 ⟨none,0,rfl,Nat.le_refl _,Nat.zero_le _,(fun _=>rfl),fun i y h=>by cases h⟩⟩
 | some a=>
   refine(Uj L hi hz0 hz1 hz2 hzs hsz z23 a (show List t.T from x).length cap us w h3 (Nat.le_trans h2 (by decide)) hbig (fun j u hj=>?_) fun u hu=>?_).mono ?_
   ·obtain⟨hj1,_⟩:=List.getElem?_eq_some_iff.1 hj
    obtain⟨b,off,e,hr⟩:=h4 (fun k=>by rw[h3,k,Nat.zero_mul] at hj1;omega)
    cases e
    rw[Addr.add_lit]
    exact hr j u hj
   ·obtain⟨i,hi1,hi2⟩:=qW h3 hu
    exact aO.oneCell t hso (h7 i _ (sN hi1)) u hi2
   ·rintro e w' ⟨v',rfl,⟨hn,hrow⟩,hnil,hb⟩
    rcases hrow with ⟨hz,_⟩|⟨g,cap',cur,rfl,hbase,hg,hcap,hml,hsz',htk⟩
    ·exact absurd hz hnil
    refine⟨_,rfl,hb.os,hb.tape,hb.output,hb.size,hb.block,fun b=>b<w.heap.size∧I b∨w.heap.size≤b∧b<w'.heap.size,fun b h=>h.elim (fun h=>.inl h.2) .inr,bE.2 ⟨_,cap',rfl,hcap,h2,(fun h=>by cases h),fun i y hy=>?_⟩⟩
    have hi:i<(show List t.T from x).length:=(List.getElem?_eq_some_iff.1 hy).1
    have hI':∀b,I b→(b<w.heap.size∧I b∨w.heap.size≤b∧b<w'.heap.size)∧w'.heap[b]? = w.heap[b]? :=fun b hb'=>⟨.inl ⟨hI b hb',hb'⟩,hb.block b (hI b hb')⟩
    refine⟨g,0,(us.drop (i*t.size)).take t.size,rfl,.inr ⟨hbase,(Array.getElem?_eq_some_iff.1 hg).1⟩,?_,?_,(h7 i y hy).mono hI' t⟩
    ·have:(i+1)*t.size≤(show List t.T from x).length*t.size:=Nat.mul_le_mul_right _ hi
     rw[Nat.add_mul,Nat.one_mul] at this
     rw[List.length_take,List.length_drop,h3];omega
    ·have hrw:=dO (w:=w') hg (0+i*t.size) t.size
     have h8:(cur.toList.drop (0+i*t.size)).take t.size=(us.drop (i*t.size)).take t.size:=by
      have:(i+1)*t.size≤(show List t.T from x).length*t.size:=Nat.mul_le_mul_right _ hi
      rw[Nat.add_mul,Nat.one_mul] at this
      rw[←htk,Nat.zero_add,List.drop_take,List.take_take]
      congr 1;omega
     rw[h8] at hrw
     exact hrw
def XM:Shelf.Ren:=⟨fun x=>match x with|41=>247|n=>n,fun x=>match x with|22=>54|4=>4|23=>196|n=>n,fun x=>x⟩
theorem R6:SlLaysE0.n41 Tryz.prog XM:=
 {mixed:=by kernel_rfl,f41:=⟨Tryz.f247.name,by kernel_rfl,Tryz.func247.trans (congrArg some (by kernel_rfl))⟩,t4:=Tryz.underlying4,a4:=Tryz.isAgg4,z4:=Tryz.sizeOf4,v4:=Tryz.zeroValue4,t22:=Tryz.underlying54,a22:=Tryz.isAgg54,z22:=Tryz.sizeOf54,v22:=Tryz.zeroValue54}
def JH:List bg→List bg:=fun x=>x
def G6:List bg→Bool:=fun x=>decide ((x.length:Int)*(64:Nat)≤140737488355328)
def aaD:aA:=⟨[.slice bC], [.slice bC],G6,JH⟩
theorem ads:Sd 247 aaD:=by
 obtain⟨i0,hi,h0,h1,h2⟩:=info_parts (show(Tryz.prog.info? 196).map (fun i=>(i.zero,i.size,i.bytes))=some (some (.agg #[.int .i64 0,.int .i64 0,.int .i64 0,.int .i64 0,.int .i64 0,.slice none 0 0]),6,64) by kernel_rfl)
 exact zo R6 bC hi h0 h1 h2 (by kernel_rfl) (by decide) (by kernel_rfl) Tryz.sizeOf196 Tryz.func247 (by kernel_rfl) (by kernel_rfl)
def Wk:Shelf.Ren:=⟨fun x=>match x with|41=>291|n=>n,fun x=>match x with|22=>55|4=>4|23=>66|n=>n,fun x=>x⟩
theorem SO:SlLaysE0.n41 Tryz.prog Wk:=
 {mixed:=by kernel_rfl,f41:=⟨Tryz.f291.name,by kernel_rfl,Tryz.func291.trans (congrArg some (by kernel_rfl))⟩,t4:=Tryz.underlying4,a4:=Tryz.isAgg4,z4:=Tryz.sizeOf4,v4:=Tryz.zeroValue4,t22:=Tryz.underlying55,a22:=Tryz.isAgg55,z22:=Tryz.sizeOf55,v22:=Tryz.zeroValue55}
def zg:List bJ→List bJ:=fun x=>x
def D8:List bJ→Bool:=fun x=>decide ((x.length:Int)*(56:Nat)≤140737488355328)
def ac_:aA:=⟨[.slice bu], [.slice bu],D8,zg⟩
theorem UY:Sd 291 ac_:=by
 obtain⟨i0,hi,h0,h1,h2⟩:=info_parts (show(Tryz.prog.info? 66).map (fun i=>(i.zero,i.size,i.bytes))=some (some (.agg #[.int .i64 0,.int .i64 0,.int .i64 0,.int .i64 0,.int .i64 0,.int .i64 0,.int .i64 0]),7,56) by kernel_rfl)
 exact zo SO bu hi h0 h1 h2 (by kernel_rfl) (by decide) (by kernel_rfl) Tryz.sizeOf66 Tryz.func291 (by kernel_rfl) (by kernel_rfl)
def Sb(A:aI)(kind:Int):LT Bool Empty:=.br (A.c .eql kind 1) (.br (A.c .eql kind 1) (.ret true) (.ret false)) (.br (A.c .eql kind 2) (.br (A.c .eql kind 2) (.ret true) (.ret false)) (.br (A.c .eql kind 6) (.br (A.c .eql kind 6) (.ret true) (.ret false)) (.br (A.c .eql kind 5) (.br (A.c .eql kind 5) (.ret true) (.ret false)) (.br (A.c .eql kind 9) (.br (A.c .eql kind 9) (.ret true) (.ret false)) (.br (A.c .eql kind 10) (.ret true) (.ret false))))))
def nR:Int→Bool:=fun kind=>(Sb ah kind).val (Ty.bi [.bool])
def adn:aA:=⟨[yI], [.bool],(@tt Int),nR⟩
theorem U0:Sd 293 adn:=aH ar bR true 58 [] (fun A kind=>Sb A kind) (fc Tryz.func293 fz) sz (fun(kind:Int) hp h=>by
 show(Sb ah kind).pre=true
 simp[Sb,LT.pre,aB,dS])
structure O_ where
 (a0:List bJ) (a1:Int) (a3:Unit×List bJ×Unit) (a4 a5:Int) (a6:cq) (a7 a8 a9 cN:Unit×List bJ×Unit) (dF:List bJ) (a12 kx jh lk:Int) (a17:cq) (ll:List bJ) (lJ a20:Int)
inductive Rs where
 | c0 (p:O_) (a2:Int)
noncomputable def Z9:Rs→eT
 | .c0 p a2=>⟨[⟨292,36,(en [(0,.yield 0),(2,.ptr 1 0),(3,.ptr 2 0),(7,.sl bu p.a0),(8,vi p.a1),(9,vi a2)]),[.inLoop (cw Tryz.f292 [1,0,0]),.inBlock 0],[],none⟩,⟨187,31,(en [(8,.ptr 3 0)]),[.kj 0,.inBlock 0,.code (cw Tryz.f187 [1,1])],[4],none⟩],[.loop ⟨187,31,(en [(0,.jr (.struct [(.any 16),(.slice bu),(.any 4)]) p.a3 0),(1,vi p.a4),(2,vi p.a5),(3,.agg (dc ki p.a6)),(5,.ptr 7 0),(6,.ptr 8 0),(7,.ptr 5 0),(8,.ptr 3 0),(10,.jr (.struct [(.any 16),(.slice bu),(.any 4)]) p.a7 0),(11,.jr (.struct [(.any 16),(.slice bu),(.any 4)]) p.a8 0),(12,.jr (.struct [(.any 16),(.slice bu),(.any 4)]) p.a9 9),(13,.jr (.struct [(.any 16),(.slice bu),(.any 4)]) p.cN 16),(14,.sl bu p.dF),(15,.ptr 5 0),(16,vi p.a12),(17,.ptr 5 1),(18,vi p.kx),(19,.fn 292 [] [.ptr 6 0,.ptr 1 0,.ptr 2 0])]),[20],(cw Tryz.f187 [1,0,1,0,0]),(cw Tryz.f187 [1,0,1,0,1]),0,none⟩,.flat false [vi p.jh],.flat false [vi p.lk],.flat false [vb false],.Am,.flat false (dc ki p.a17),.flat false [.sl bu p.ll],.flat false [vi p.lJ],.flat false [vi p.a20],.dead]⟩
def Yv(A:aI)(x1:List bJ)(kind:Int)(node:Int)(c:cq):LT Bool Rs:=.need (A.k D8 x1) (.more (.c0 ⟨(A.k zg x1),(A.l (A.k zg x1)),((),x1,()),kind,node,c,((),x1,()),((),x1,()),((),x1,()),((),x1,()),x1,c.1,c.2.1,c.1,c.2.1,c,(A.k zg x1),kind,node⟩ 0))
def FT(A:aI):Rs→LT Bool Rs
 | .c0 p a2=>.br (A.c .lss a2 p.a1) (.need (A.and (A.c .leq 0 a2) (A.c .lss a2 (A.l p.a0))) (.br (A.c .eql (A.n bu p.a0 a2:bJ).2.2.2.1 p.jh) (.br (A.c .eql (A.n bu p.a0 a2:bJ).2.2.2.2.1 p.lk) (.br (A.c .eql (A.n bu p.a0 a2:bJ).1 p.lJ) (.br (A.c .eql (A.n bu p.a0 a2:bJ).2.1 p.a20) (.ret true) (.more (.c0 p (A.b .add .i64 a2 1)))) (.more (.c0 p (A.b .add .i64 a2 1)))) (.need (A.k (@tt Int) (A.n bu p.a0 a2:bJ).1) (.br (A.not (A.k nR (A.n bu p.a0 a2:bJ).1)) (.br (A.c .eql (A.n bu p.a0 a2:bJ).1 p.lJ) (.br (A.c .eql (A.n bu p.a0 a2:bJ).2.1 p.a20) (.ret true) (.more (.c0 p (A.b .add .i64 a2 1)))) (.more (.c0 p (A.b .add .i64 a2 1)))) (.more (.c0 p (A.b .add .i64 a2 1)))))) (.more (.c0 p (A.b .add .i64 a2 1))))) (.ret false)
def vF(k n:Int)(c:cq)(f:bJ):Bool:=decide (f.2.2.2.1=c.1)&&((decide (f.2.2.2.2.1=c.2.1) || !nR f.1)&&(decide (f.1=k)&&decide (f.2.1=n)))
def kU(l:List bJ)(k n:Int)(c:cq):Bool:=l.any (vF k n c)
def u6(ch:Int)(c:cq)(f:bJ):Bool:=decide (f.2.2.2.1=c.1)&&((decide (f.2.2.2.2.1=c.2.1) || !nR f.1)&&(decide (f.1=5)&&decide (f.2.2.1=ch)))
def Vr(l:List bJ)(ch:Int)(c:cq):Bool:=l.any (u6 ch c)
theorem uy{R Y:Type}{step:Y→LT R Y}{y:Y}{r r':R}(h:ay step (.more y) r)(e:r=r'):ay step (.more y) r':=e▸h
theorem Kq{p:O_}{l:List bJ}{k n:Int}{c:cq}(h0:p.a0=l)(h1:p.a1=(l.length:Int))(h2:p.jh=c.1)(h3:p.lk=c.2.1)(h4:p.lJ=k)(h5:p.a20=n)(hl:l.length≤140737488355328) :
  ∀(j i:Nat),l.length-i=j→i≤l.length→ay (FT ah) (.more (.c0 p (i:Int))) ((l.drop i).any (vF k n c)):=by
 intro j
 induction j with
 | zero=>
   intro i hj hi
   have:i=l.length:=by omega
   subst this
   rw[al,FT,h1,List.drop_length]
   exact(ai (by rw[ao];simp)).2 (.ret _)
 | succ j ih=>
   intro i hj hi
   have hi':i<l.length:=by omega
   have nx:=ih (i+1) (by omega) (by omega)
   rw[al,FT,h0,h1,h2,h3,h4,h5]
   refine(aj (by rw[ao];exact aL (by omega))).2 (af.2 ⟨aP hi',?_⟩)
   rw[show(ah.n bu l (i:Int):bJ)=l[i] from getD_in hi' _,ry hi',List.any_cons,cm (i:=i) (by omega)]
   generalize l[i]=f
   generalize (l.drop (i+1)).any (vF k n c)=r at nx ⊢
   have hx:vF k n c f=false→ay (FT ah) (.more (.c0 p ((i+1:Nat):Int))) (vF k n c f||r):=fun h=>uy nx (by rw[h,Bool.false_or])
   have hy:vF k n c f=true→ay (FT ah) (.ret true) (vF k n c f||r):=fun h=>by rw[h,Bool.true_or];exact .ret _
   refine ax (p:=f.2.2.2.1=c.1) aM (fun g1=>?_) fun h=>hx (by rw[vF,aX h];rfl)
   have tail:(decide (f.2.2.2.2.1=c.2.1) || !nR f.1)=true→ay (FT ah) (.br (ah.c .eql f.1 k) (.br (ah.c .eql f.2.1 n) (.ret true) (.more (.c0 p ((i+1:Nat):Int)))) (.more (.c0 p ((i+1:Nat):Int)))) (vF k n c f||r):=fun h=>by
    refine ax (p:=f.1=k) aM (fun g2=>ax (p:=f.2.1=n) aM (fun g3=>hy (by rw[vF,aL g1,aL g2,aL g3,h];rfl)) fun h'=>hx (by rw[vF,aX h'];simp)) fun h'=>hx (by rw[vF,aX h'];simp)
   refine ax (p:=f.2.2.2.2.1=c.2.1) aM (fun g2=>tail (by rw[aL g2];rfl)) fun g2=>af.2 ⟨rfl,?_⟩
   cases hs:nR f.1
   ·exact(aj (by show(!nR f.1)=true;rw[hs];rfl)).2 (tail (by rw[hs];simp))
   ·exact(ai (by show(!nR f.1)=false;rw[hs];rfl)).2 (hx (by rw[vF,aX g2,hs];simp))
theorem JM{l:List bJ}(h:l.length≤1000000):D8 l=true:=aL (by omega)
theorem aeU{l:List bJ}{k n:Int}{c:cq}(h:l.length≤1000000):ay (FT ah) (Yv ah l k n c) (kU l k n c):=by
 unfold Yv
 exact af.2 ⟨JM h,Kq (l:=l) rfl rfl rfl rfl rfl rfl (by omega) l.length 0 rfl (by omega)⟩
def fh:(Unit×List bJ×Unit)×(Int×Int×cq)→Bool:=fun((_,l,_),k,n,c)=>kU l k n c
def kJ:(Unit×List bJ×Unit)×(Int×Int×cq)→Bool:=fun((_,l,_),_,_,_)=>decide (l.length≤1000000)
def abW:gf:=⟨(.struct [(.any 16),(.slice bu),(.any 4)]), [yI,yI,ki], [.bool],kJ,fh⟩
theorem JD:gf.Sound Tryz.prog 187 abW:=tY ar bR true 56 pz [⟨292,1, [[0,2,3,7,8,9], [8]]⟩] [] (fun A (((),x1,()),(kind,node,c))=>Yv A x1 kind node c) FT Z9 (fc Tryz.func187 (fc Tryz.func246 (fc Tryz.func292 fz))) (sc UY (sc U0 sz)) (fun A y=>match y with |.c0 p a2=>⟨77,by kernel_rfl,by kernel_rfl⟩) fun(((),x1,()),(kind,node,c)) hp hv h=>aeU (of_decide_eq_true hp)
structure Re where
 (a0:List bJ) (a1:Int) (a3:Unit×List bJ×Unit) (a4:Int) (a5:cq) (a6 a7 a8 a9:Unit×List bJ×Unit) (cN:List bJ) (dF a12 kx jh:Int) (a16:cq) (a17:List bJ) (ll:Int)
inductive RS where
 | c0 (p:Re) (a2:Int)
noncomputable def Yk:RS→eT
 | .c0 p a2=>⟨[⟨292,36,(en [(0,.yield 0),(2,.ptr 1 0),(3,.ptr 2 0),(7,.sl bu p.a0),(8,vi p.a1),(9,vi a2)]),[.inLoop (cw Tryz.f292 [1,0,0]),.inBlock 0],[],none⟩,⟨192,28,(en [(6,.ptr 3 0)]),[.kj 0,.inBlock 0,.code (cw Tryz.f192 [1,1])],[4],none⟩],[.loop ⟨192,28,(en [(0,.jr (.struct [(.any 16),(.slice bu),(.any 4)]) p.a3 0),(1,vi p.a4),(2,.agg (dc ki p.a5)),(4,.ptr 7 0),(5,.ptr 5 0),(6,.ptr 3 0),(8,.jr (.struct [(.any 16),(.slice bu),(.any 4)]) p.a6 0),(9,.jr (.struct [(.any 16),(.slice bu),(.any 4)]) p.a7 0),(10,.jr (.struct [(.any 16),(.slice bu),(.any 4)]) p.a8 9),(11,.jr (.struct [(.any 16),(.slice bu),(.any 4)]) p.a9 16),(12,.sl bu p.cN),(13,.ptr 5 0),(14,vi p.dF),(15,.ptr 5 1),(16,vi p.a12),(17,.fn 292 [] [.ptr 6 0,.ptr 1 0,.ptr 2 0])]),[18],(cw Tryz.f192 [1,0,1,0,0]),(cw Tryz.f192 [1,0,1,0,1]),0,none⟩,.flat false [vi p.kx],.flat false [vi p.jh],.flat false [vb false],.Am,.flat false (dc ki p.a16),.flat false [.sl bu p.a17],.flat false [vi p.ll],.dead]⟩
def Xt(A:aI)(x1:List bJ)(channel:Int)(c:cq):LT Bool RS:=.need (A.k D8 x1) (.more (.c0 ⟨(A.k zg x1),(A.l (A.k zg x1)),((),x1,()),channel,c,((),x1,()),((),x1,()),((),x1,()),((),x1,()),x1,c.1,c.2.1,c.1,c.2.1,c,(A.k zg x1),channel⟩ 0))
def FH(A:aI):RS→LT Bool RS
 | .c0 p a2=>.br (A.c .lss a2 p.a1) (.need (A.and (A.c .leq 0 a2) (A.c .lss a2 (A.l p.a0))) (.br (A.c .eql (A.n bu p.a0 a2:bJ).2.2.2.1 p.kx) (.br (A.c .eql (A.n bu p.a0 a2:bJ).2.2.2.2.1 p.jh) (.br (A.c .eql (A.n bu p.a0 a2:bJ).1 5) (.br (A.c .eql (A.n bu p.a0 a2:bJ).2.2.1 p.ll) (.ret true) (.more (.c0 p (A.b .add .i64 a2 1)))) (.more (.c0 p (A.b .add .i64 a2 1)))) (.need (A.k (@tt Int) (A.n bu p.a0 a2:bJ).1) (.br (A.not (A.k nR (A.n bu p.a0 a2:bJ).1)) (.br (A.c .eql (A.n bu p.a0 a2:bJ).1 5) (.br (A.c .eql (A.n bu p.a0 a2:bJ).2.2.1 p.ll) (.ret true) (.more (.c0 p (A.b .add .i64 a2 1)))) (.more (.c0 p (A.b .add .i64 a2 1)))) (.more (.c0 p (A.b .add .i64 a2 1)))))) (.more (.c0 p (A.b .add .i64 a2 1))))) (.ret false)
theorem KL{p:Re}{l:List bJ}{ch:Int}{c:cq}(h0:p.a0=l)(h1:p.a1=(l.length:Int))(h2:p.kx=c.1)(h3:p.jh=c.2.1)(h4:p.ll=ch)(hl:l.length≤140737488355328) :
  ∀(j i:Nat),l.length-i=j→i≤l.length→ay (FH ah) (.more (.c0 p (i:Int))) ((l.drop i).any (u6 ch c)):=by
 intro j
 induction j with
 | zero=>
   intro i hj hi
   have:i=l.length:=by omega
   subst this
   rw[al,FH,h1,List.drop_length]
   exact(ai (by rw[ao];simp)).2 (.ret _)
 | succ j ih=>
   intro i hj hi
   have hi':i<l.length:=by omega
   have nx:=ih (i+1) (by omega) (by omega)
   rw[al,FH,h0,h1,h2,h3,h4]
   refine(aj (by rw[ao];exact aL (by omega))).2 (af.2 ⟨aP hi',?_⟩)
   rw[show(ah.n bu l (i:Int):bJ)=l[i] from getD_in hi' _,ry hi',List.any_cons,cm (i:=i) (by omega)]
   generalize l[i]=f
   generalize (l.drop (i+1)).any (u6 ch c)=r at nx ⊢
   have hx:u6 ch c f=false→ay (FH ah) (.more (.c0 p ((i+1:Nat):Int))) (u6 ch c f||r):=fun h=>uy nx (by rw[h,Bool.false_or])
   have hy:u6 ch c f=true→ay (FH ah) (.ret true) (u6 ch c f||r):=fun h=>by rw[h,Bool.true_or];exact .ret _
   refine ax (p:=f.2.2.2.1=c.1) aM (fun g1=>?_) fun h=>hx (by rw[u6,aX h];rfl)
   have tail:(decide (f.2.2.2.2.1=c.2.1) || !nR f.1)=true→ay (FH ah) (.br (ah.c .eql f.1 5) (.br (ah.c .eql f.2.2.1 ch) (.ret true) (.more (.c0 p ((i+1:Nat):Int)))) (.more (.c0 p ((i+1:Nat):Int)))) (u6 ch c f||r):=fun h=>by
    refine ax (p:=f.1=5) aM (fun g2=>ax (p:=f.2.2.1=ch) aM (fun g3=>hy (by rw[u6,aL g1,aL g2,aL g3,h];rfl)) fun h'=>hx (by rw[u6,aX h'];simp)) fun h'=>hx (by rw[u6,aX h'];simp)
   refine ax (p:=f.2.2.2.2.1=c.2.1) aM (fun g2=>tail (by rw[aL g2];rfl)) fun g2=>af.2 ⟨rfl,?_⟩
   cases hs:nR f.1
   ·exact(aj (by show(!nR f.1)=true;rw[hs];rfl)).2 (tail (by rw[hs];simp))
   ·exact(ai (by show(!nR f.1)=false;rw[hs];rfl)).2 (hx (by rw[u6,aX g2,hs];simp))
theorem abF{l:List bJ}{ch:Int}{c:cq}(h:l.length≤1000000):ay (FH ah) (Xt ah l ch c) (Vr l ch c):=by
 unfold Xt
 exact af.2 ⟨JM h,KL (l:=l) rfl rfl rfl rfl rfl (by omega) l.length 0 rfl (by omega)⟩
def ID:(Unit×List bJ×Unit)×(Int×cq)→Bool:=fun((_,l,_),k,c)=>Vr l k c
def vG:(Unit×List bJ×Unit)×(Int×cq)→Bool:=fun((_,l,_),_,_)=>decide (l.length≤1000000)
def aeH:gf:=⟨(.struct [(.any 16),(.slice bu),(.any 4)]), [yI,ki], [.bool],vG,ID⟩
theorem acy:gf.Sound Tryz.prog 192 aeH:=tY ar bR true 55 pz [⟨292,1, [[0,2,3,7,8,9], [6]]⟩] [] (fun A (((),x1,()),(channel,c))=>Xt A x1 channel c) FH Yk (fc Tryz.func192 (fc Tryz.func246 (fc Tryz.func292 fz))) (sc UY (sc U0 sz)) (fun A y=>match y with |.c0 p a2=>⟨76,by kernel_rfl,by kernel_rfl⟩) fun(((),x1,()),(channel,c)) hp hv h=>abF (of_decide_eq_true hp)
structure Wc where
 (a2 a3:bJ) (a4:Int) (a5:Bool) (a6 a7:Int) (a8:List Int) (a9 cN:Int)
structure NK where
 (b0:Int) (b2 b3:bJ) (b4:Int) (b5:Bool) (b6 b7:Int) (b8:List Int) (b9 b10:Int)
inductive SI where
 | c0 (p:Wc)
 | c1 (p:NK) (b1:Int) (jV:List dp)
noncomputable def Xf:SI→eT
 | .c0 p=>⟨[⟨68,39,(en [(1,.ptr 0 0),(2,.ptr 1 0),(19,vi 0),(20,vi 0)]),[.inLoop (cw Tryz.f68 [1,1,1,0,1,0,0]),.inBlock 0,.code (cw Tryz.f68 [1,1,1,1])],[],none⟩],[.flat false (dc bu p.a2++dc bu p.a3 ++ [vi p.a4,vb p.a5,vi p.a6,vi p.a7,.sl yU p.a8,.dn false,vi p.a9,vi p.cN]),.flat false [vi 0,vi 0,vi 0,vi 0,vi 0,vi 0,vi 0,vi 0,vi 0,vi 0,vi 0,vi 0,vi 0,vi 0,vi 0,vb false,vi 0,vi 0,.dn true,.dn true,vi 0,vi 0],.dead]⟩
 | .c1 p b1 jV=>⟨[⟨68,39,(en [(1,.ptr 0 0),(2,.ptr 1 0),(19,vi p.b0),(20,vi b1)]),[.inLoop (cw Tryz.f68 [1,1,1,0,1,0,0]),.inBlock 0,.code (cw Tryz.f68 [1,1,1,1])],[],none⟩],[.flat false (dc bu p.b2++dc bu p.b3 ++ [vi p.b4,vb p.b5,vi p.b6,vi p.b7,.sl yU p.b8,.own 2,vi p.b9,vi p.b10]),.flat false [vi 0,vi 0,vi 0,vi 0,vi 0,vi 0,vi 0,vi 0,vi 0,vi 0,vi 0,vi 0,vi 0,vi 0,vi 0,vb false,vi 0,vi 0,.dn true,.dn true,vi 0,vi 0],.arr false dZ jV,.dead]⟩
def Yw(A:aI)(n:Node):LT Node SI:=.need (A.k (@tt (List Int)) n.2.2.2.2.2.2.2.2.1) (.need (A.c .neq (A.l n.2.2.2.2.2.2.2.2.2.1) 0) (.br (A.c .eql (A.l n.2.2.2.2.2.2.2.2.2.1) 0) (.more (.c0 ⟨(n.1,n.2.1,n.2.2.1),n.2.2.2.1,n.2.2.2.2.1,n.2.2.2.2.2.1,n.2.2.2.2.2.2.1,n.2.2.2.2.2.2.2.1,(A.k jv n.2.2.2.2.2.2.2.2.1),n.2.2.2.2.2.2.2.2.2.2.1,n.2.2.2.2.2.2.2.2.2.2.2⟩)) (.need (A.c .leq (A.l n.2.2.2.2.2.2.2.2.2.1) 4398046511104) (.more (.c1 ⟨(A.l n.2.2.2.2.2.2.2.2.2.1),(n.1,n.2.1,n.2.2.1),n.2.2.2.1,n.2.2.2.2.1,n.2.2.2.2.2.1,n.2.2.2.2.2.2.1,n.2.2.2.2.2.2.2.1,(A.k jv n.2.2.2.2.2.2.2.2.1),n.2.2.2.2.2.2.2.2.2.2.1,n.2.2.2.2.2.2.2.2.2.2.2⟩ 0 n.2.2.2.2.2.2.2.2.2.1)))))
def O7(A:aI):SI→LT Node SI
 | .c0 p=>.br (A.c .lss 0 0) (.bad 37 "model.go:63") (.ret (p.a2.1,p.a2.2.1,p.a2.2.2,p.a3,p.a4,p.a5,p.a6,p.a7,p.a8,([]:List dp),p.a9,p.cN))
 | .c1 p b1 jV=>.br (A.c .lss b1 p.b0) (.need (A.and (A.c .leq 0 b1) (A.c .lss b1 (A.l jV))) (.need (A.k (@tt (List Int)) (A.n dZ jV b1:dp).1) (.need (A.and (A.c .leq 0 b1) (A.c .lss b1 (A.l jV))) (.more (.c1 p (A.b .add .i64 b1 1) (A.set jV b1 ((A.k jv (A.n dZ jV b1:dp).1),(A.n dZ jV b1:dp).2))))))) (.ret (p.b2.1,p.b2.2.1,p.b2.2.2,p.b3,p.b4,p.b5,p.b6,p.b7,p.b8,jV,p.b9,p.b10))
def yZ(n:Node):Bool:=decide (1≤n.2.2.2.2.2.2.2.2.2.1.length∧n.2.2.2.2.2.2.2.2.2.1.length≤4398046511103)
theorem Qv{p:NK}{l:List dp}(h0:p.b0=(l.length:Int))(hl:l.length≤140737488355328):∀(j i:Nat),l.length-i=j→i≤l.length→ay (O7 ah) (.more (.c1 p (i:Int) l)) (p.b2.1,p.b2.2.1,p.b2.2.2,p.b3,p.b4,p.b5,p.b6,p.b7,p.b8,l,p.b9,p.b10):=by
 intro j
 induction j with
 | zero=>
   intro i hj hi
   have:i=l.length:=by omega
   subst this
   rw[al,O7,h0]
   exact(ai (by rw[ao];simp)).2 (.ret _)
 | succ j ih=>
   intro i hj hi
   have hi':i<l.length:=by omega
   rw[al,O7,h0]
   refine(aj (by rw[ao];exact aL (by omega))).2 (af.2 ⟨aP hi',af.2 ⟨rfl,af.2 ⟨aP hi',?_⟩⟩⟩)
   have e:(ah.n dZ l (i:Int):dp)=l[i]:=getD_in hi' _
   have e2:ah.set l (i:Int) ((ah.k jv (ah.n dZ l (i:Int):dp).1),(ah.n dZ l (i:Int):dp).2)=l:=by
    rw[e]
    show l.set (i:Int).toNat l[i]=l
    rw[gF];exact List.set_getElem_self _
   rw[e2,cm (i:=i) (by omega)]
   exact ih (i+1) (by omega) (by omega)
theorem ahl{n:Node}(h:yZ n=true):ay (O7 ah) (Yw ah n) n:=by
 obtain⟨h1,h2⟩:=of_decide_eq_true h
 unfold Yw
 refine af.2 ⟨rfl,af.2 ⟨by rw[aR,bK];exact bne_iff_ne.2 (by omega),(ai (by rw[aD,bK];exact beq_eq_false_iff_ne.2 (by omega))).2 (af.2 ⟨by rw[ap,bK];exact aL (by omega),?_⟩)⟩⟩
 exact Qv rfl (by omega) _ 0 rfl (by omega)
def qs:Node→Node:=fun n=>n
def vm:Node→Bool:=yZ
def adm:aA:=⟨[aC], [aC],vm,qs⟩
theorem L_:Sd 68 adm:=aT ar bR true 62 [⟨68,4, [[1,2,19,20]]⟩] [] (fun A n=>Yw A n) O7 Xf (fc Tryz.func68 (fc Tryz.func140 fz)) (sc BX sz) (fun A y=>match y with |.c0 p=>⟨29,by kernel_rfl,by kernel_rfl⟩|.c1 p b1 jV=>⟨42,by kernel_rfl,by kernel_rfl⟩) fun(n:Node) hp h=>ahl hp
structure Pg where
 (a0:List bg) (a1 a3:Int) (a4:Bool) (a5:ak) (a6:gG) (a7 a8 a9 cN:Int) (dF:List Int) (a12 kx jh:Int) (lk:List Int) (a16 a17 ll:Int) (lJ a20:Node) (a21 a22:Bool) (a23:Int) (a24:cq) (a25:Bool) (a26:gG) (a27 a28 a29 a30 a31 a32:Int) (a34:List Node) (a35:List Bool) (a36:List iT) (a37:List Node) (a38 a39 a40:List Bool) (a41:List bg)
inductive T4 where
 | c0 (p:Pg) (a2:Int) (a33:Node)
noncomputable def WC:T4→eT
 | .c0 p a2 a33=>⟨[⟨248,37,(en [(0,.yield 2),(2,.ptr 3 0),(3,.ptr 4 0),(4,.ptr 5 0),(8,.sl bC p.a0),(9,vi p.a1),(10,vi a2)]),[.inLoop (cw Tryz.f248 [1,0,0]),.inBlock 0],[],none⟩,⟨115,90,(en [(2,vi p.a3),(3,.ptr 6 0),(6,.ptr 7 0)]),[.kj 2,.inBlock 0,.code (cw Tryz.f115 [1,1,1,1,1])],[8],none⟩],[.flat false ([vb p.a4]++dc aN p.a5++dc fV p.a6 ++ [.own 9,.own 10,vi p.a7,.own 11]),.flat false [.own 12,.own 13,.own 14,.own 15,vi p.a8,vi p.a9,vi p.cN,.sl yU p.dF,vi p.a12,vi p.kx,vi p.jh,.sl yU p.lk],.loop ⟨115,90,(en [(0,.ptr 0 0),(1,.ptr 1 0),(2,vi p.a16),(3,.ptr 6 0),(6,.ptr 7 0),(12,.ptr 0 0),(13,.ptr 0 0),(14,.ptr 0 17),(15,.own 9),(16,vi p.a17),(17,.mX 9 p.ll 0),(18,.agg (dc aC p.lJ)),(19,.agg (dc aC p.a20)),(20,vb p.a21),(21,vb p.a22),(22,.ptr 0 0),(23,vi p.a23),(24,.ptr 7 2),(25,.agg (dc ki p.a24)),(26,vb p.a25),(57,.ptr 0 0),(58,.ptr 0 0),(59,.ptr 0 9),(60,.agg (dc fV p.a26)),(61,vi p.a27),(62,.ptr 7 2),(63,.ptr 7 2),(64,vi p.a28),(65,.ptr 7 2),(66,.ptr 7 3),(67,vi p.a29),(68,.fn 248 [] [.ptr 16 0,.ptr 3 0,.ptr 4 0,.ptr 5 0])]),[69],(cw Tryz.f115 [1,1,1,1,0,1,0,0]),(cw Tryz.f115 [1,1,1,1,0,1,0,1]),0,none⟩,.flat false [vi p.a30],.flat false [vi p.a31],.flat false [vi p.a32],.flat false [.ptr 0 0],.flat false (dc aC a33),.Am,.arr false aC p.a34,.arr false .bool p.a35,.arr false d_ p.a36,.arr false aC p.a37,.arr false .bool p.a38,.arr false .bool p.a39,.arr false .bool p.a40,.flat false [.sl bC p.a41],.dead]⟩
abbrev jw(A:aI)(x2:bd)(i:Int):=(A.n aC x2.2.2.2.1 i:Node)
abbrev I9(A:aI)(w:df):=([(A.n aF w.2.2.2.2 0:Seen),(A.n aF w.2.2.2.2 1:Seen)]:List Seen)
def Yc(A:aI)(x2:bd)(w:df)(i:Int):LT ((bd×df)×Unit) T4:=.need (A.and (A.c .leq 0 i) (A.c .lss i (A.l x2.2.2.2.1))) (.need (A.k (@tt Node) (jw A x2 i)) (.br (A.not (A.k fq (jw A x2 i))) (.ret ((x2,w.1,w.2.1,w.2.2.1,w.2.2.2.1,(I9 A w)),())) (.need (A.k kJ (((),x2.2.2.1.2.2.2.2.2.2.2,()),1,i,(jw A x2 i).2.2.1)) (.br (A.k fh (((),x2.2.2.1.2.2.2.2.2.2.2,()),1,i,(jw A x2 i).2.2.1)) (.need (A.k (@tt (ak×Node×Bool)) (x2.2.1,(jw A x2 i),false)) (.need (A.k (@tt (ak×Node×Bool)) (x2.2.1,(jw A x2 i),false)) (.br (A.c .eql (A.k mj (x2.2.1,(jw A x2 i),false)).2 0) (.need (A.and (A.c .leq 0 i) (A.c .lss i (A.l x2.2.2.2.1))) (.need (A.and (A.c .leq 0 i) (A.c .lss i (A.l w.2.2.1))) (.need (A.and (A.c .leq 0 i) (A.c .lss i (A.l x2.2.2.2.2.1))) (.ret (((x2.1,x2.2.1,x2.2.2.1,(A.set x2.2.2.2.1 i (A.k mj (x2.2.1,(jw A x2 i),false)).1),(A.set x2.2.2.2.2.1 i false),x2.2.2.2.2.2),w.1,w.2.1,(A.set w.2.2.1 i true),w.2.2.2.1,(I9 A w)),()))))) (.need (A.and (A.c .leq 0 i) (A.c .lss i (A.l w.2.2.1))) (.need (A.and (A.c .leq 0 i) (A.c .lss i (A.l x2.2.2.2.2.1))) (.ret (((x2.1,x2.2.1,x2.2.2.1,x2.2.2.2.1,(A.set x2.2.2.2.2.1 i false),x2.2.2.2.2.2),w.1,w.2.1,(A.set w.2.2.1 i true),w.2.2.2.1,(I9 A w)),()))))))) (.need (A.k G6 x2.2.2.1.2.2.2.2.2.2.1) (.more (.c0 ⟨(A.k JH x2.2.2.1.2.2.2.2.2.2.1),(A.l (A.k JH x2.2.2.1.2.2.2.2.2.2.1)),i,x2.1,x2.2.1,x2.2.2.1,x2.2.2.2.2.2.1,(A.n aF w.2.2.2.2 0:Seen).1,(A.n aF w.2.2.2.2 0:Seen).2.1,(A.n aF w.2.2.2.2 0:Seen).2.2.1,(A.n aF w.2.2.2.2 0:Seen).2.2.2,(A.n aF w.2.2.2.2 1:Seen).1,(A.n aF w.2.2.2.2 1:Seen).2.1,(A.n aF w.2.2.2.2 1:Seen).2.2.1,(A.n aF w.2.2.2.2 1:Seen).2.2.2,i,i,i,(jw A x2 i),(jw A x2 i),(A.k fq (jw A x2 i)),(A.not (A.k fq (jw A x2 i))),i,(jw A x2 i).2.2.1,(A.k fh (((),x2.2.2.1.2.2.2.2.2.2.2,()),1,i,(jw A x2 i).2.2.1)),x2.2.2.1,i,(jw A x2 i).2.2.1.1,(jw A x2 i).2.2.1.2.1,i,(jw A x2 i).2.2.1.1,(jw A x2 i).2.2.1.2.1,x2.2.2.2.1,x2.2.2.2.2.1,x2.2.2.2.2.2.2,w.1,w.2.1,w.2.2.1,w.2.2.2.1,(A.k JH x2.2.2.1.2.2.2.2.2.2.1)⟩ 0 (jw A x2 i))))))))
def Qb(A:aI):T4→LT ((bd×df)×Unit) T4
 | .c0 p a2 a33=>.br (A.c .lss a2 p.a1) (.need (A.and (A.c .leq 0 a2) (A.c .lss a2 (A.l p.a0))) (.br (A.c .eql (A.n bC p.a0 a2:bg).1 p.a30) (.br (A.c .eql (A.n bC p.a0 a2:bg).2.1 p.a31) (.br (A.c .eql (A.n bC p.a0 a2:bg).2.2.1 p.a32) (.need (A.k (@tt (ak×Node×bg)) (p.a5,a33,(A.n bC p.a0 a2:bg))) (.need (A.k (@tt (ak×Node×bg)) (p.a5,a33,(A.n bC p.a0 a2:bg))) (.br (A.c .eql (A.k Iz (p.a5,a33,(A.n bC p.a0 a2:bg))).2 0) (.more (.c0 p (A.b .add .i64 a2 1) (A.k Iz (p.a5,a33,(A.n bC p.a0 a2:bg))).1)) (.more (.c0 p (A.b .add .i64 a2 1) a33))))) (.more (.c0 p (A.b .add .i64 a2 1) a33))) (.more (.c0 p (A.b .add .i64 a2 1) a33))) (.more (.c0 p (A.b .add .i64 a2 1) a33)))) (.need (A.and (A.c .leq 0 p.a3) (A.c .lss p.a3 (A.l p.a34))) (.ret (((p.a4,p.a5,p.a6,(A.set p.a34 p.a3 a33),p.a35,p.a7,p.a36),p.a37,p.a38,p.a39,p.a40,([(p.a8,p.a9,p.cN,p.dF),(p.a12,p.kx,p.jh,p.lk)]:List Seen)),())))
def oX(w:df):df:=(w.1,w.2.1,w.2.2.1,w.2.2.2.1, [(ah.n aF w.2.2.2.2 0:Seen),(ah.n aF w.2.2.2.2 1:Seen)])
@[reducible] def iI (l:List Node) (i:Int):Node:=ah.n aC l i
def FC(x:bd)(w:df):Prop:=x.2.2.2.2.1.length=x.2.2.2.1.length∧w.1.length=x.2.2.2.1.length∧w.2.1.length=x.2.2.2.1.length∧w.2.2.1.length=x.2.2.2.1.length∧w.2.2.2.1.length=x.2.2.2.1.length∧
 x.2.2.1.2.2.2.2.2.2.2.length≤1000000∧x.2.2.1.2.2.2.2.2.2.1.length≤1000000∧x.2.2.2.2.2.2.length≤1000000∧x.2.2.2.1.length≤1000
instance (x:bd) (w:df):Decidable (FC x w):=by unfold FC;infer_instance
def sI(m:ak)(i:Int)(c:cq):List bg→Node→Node
 | [],n=>n
 | o::l,n=>sI m i c l (bif decide (o.1=i)&&(decide (o.2.1=c.1)&&decide (o.2.2.1=c.2.1)) then(bif decide ((su m n o).2=0) then(su m n o).1 else n) else n)
def Ge(x:bd)(i:Int):Node:=iI x.2.2.2.1 i
def Ec(x:bd):List bJ:=x.2.2.1.2.2.2.2.2.2.2
def vE(x:bd)(w:df)(i:Int):bd×df:=
 bif jJ (Ge x i) then
  bif kU (Ec x) 1 i (Ge x i).2.2.1 then
   ((x.1,x.2.1,x.2.2.1,(bif decide ((lX x.2.1 (Ge x i) false).2=0) then ah.set x.2.2.2.1 i (lX x.2.1 (Ge x i) false).1 else x.2.2.2.1),ah.set x.2.2.2.2.1 i false,x.2.2.2.2.2),(w.1,w.2.1,ah.set w.2.2.1 i true,(oX w).2.2.2))
  else((x.1,x.2.1,x.2.2.1,ah.set x.2.2.2.1 i (sI x.2.1 i (Ge x i).2.2.1 x.2.2.1.2.2.2.2.2.2.1 (Ge x i)),x.2.2.2.2),oX w)
 else(x,oX w)
theorem Nx{p:Pg}{l:List bg}{m:ak}{i:Int}{c:cq}(h0:p.a0=l)(h1:p.a1=(l.length:Int))(hm:p.a5=m)(h2:p.a30=i)(h3:p.a31=c.1)(h4:p.a32=c.2.1)(hx:ah.and (ah.c .leq 0 p.a3) (ah.c .lss p.a3 (ah.l p.a34))=true)(hl:l.length≤140737488355328) :
  ∀(j k:Nat) (n:Node),l.length-k=j→k≤l.length→ay (Qb ah) (.more (.c0 p (k:Int) n)) (((p.a4,p.a5,p.a6,ah.set p.a34 p.a3 (sI m i c (l.drop k) n),p.a35,p.a7,p.a36),p.a37,p.a38,p.a39,p.a40, [(p.a8,p.a9,p.cN,p.dF),(p.a12,p.kx,p.jh,p.lk)]),()):=by
 subst hm
 intro j
 induction j with
 | zero=>
   intro k n hj hk
   have:k=l.length:=by omega
   subst this
   rw[al,Qb,h1,List.drop_length]
   exact(ai (by rw[ao];simp)).2 (af.2 ⟨hx,.ret _⟩)
 | succ j ih=>
   intro k n hj hk
   have hk':k<l.length:=by omega
   rw[al,Qb,h0,h1,h2,h3,h4]
   refine(aj (by rw[ao];exact aL (by omega))).2 (af.2 ⟨aP hk',?_⟩)
   rw[show(ah.n bC l (k:Int):bg)=l[k] from getD_in hk' _,ry hk',sI,cm (i:=k) (by omega)]
   generalize l[k]=o
   refine ax (p:=o.1=i) aM (fun g1=>?_) fun g=>by rw[aX g,Bool.false_and];exact ih (k+1) n (by omega) (by omega)
   refine ax (p:=o.2.1=c.1) aM (fun g2=>?_) fun g=>by rw[aX g,aL g1,Bool.false_and,Bool.and_false];exact ih (k+1) n (by omega) (by omega)
   refine ax (p:=o.2.2.1=c.2.1) aM (fun g3=>?_) fun g=>by rw[aX g,aL g1,aL g2,Bool.and_false,Bool.and_false];exact ih (k+1) n (by omega) (by omega)
   rw[aL g1,aL g2,aL g3]
   refine af.2 ⟨rfl,af.2 ⟨rfl,?_⟩⟩
   rw[show ah.k Iz (p.a5,n,o)=su p.a5 n o from rfl]
   exact ax (p:=(su p.a5 n o).2=0) aM (fun g=>by rw[aL g];exact ih (k+1) (su p.a5 n o).1 (by omega) (by omega)) fun g=>by rw[aX g];exact ih (k+1) n (by omega) (by omega)
theorem dK{α:Type}{l:List α}{i:Int}(h:0≤i∧i<(l.length:Int)):ah.and (ah.c .leq 0 i) (ah.c .lss i (ah.l l))=true:=by
 rw[aK,ap,ao,bK,aL h.1,aL h.2];rfl
theorem Tb{l:List bg}(h:l.length≤1000000):ah.k G6 l=true:=aL (by omega)
theorem uo{v:(Unit×List bJ×Unit)×Int×Int×cq}(h:v.1.2.1.length≤1000000):ah.k kJ v=true:=by
 obtain⟨⟨_,l,_⟩,_,_,_⟩:=v;exact aL h
theorem RR{v:(Unit×List bJ×Unit)×Int×cq}(h:v.1.2.1.length≤1000000):ah.k vG v=true:=by
 obtain⟨⟨_,l,_⟩,_,_⟩:=v;exact aL h
theorem aap{x:bd}{w:df}{i:Int}(h:FC x w)(hi:0≤i∧i<(x.2.2.2.1.length:Int)):ay (Qb ah) (Yc ah x w i) (vE x w i,()):=by
 obtain⟨z1,z2,z3,z4,z5,z6,z7,z8,z9⟩:=h
 have i1:=dK (l:=x.2.2.2.1) hi
 have i2:=dK (l:=w.2.2.1) (i:=i) (by omega)
 have i3:=dK (l:=x.2.2.2.2.1) (i:=i) (by omega)
 unfold Yc I9 jw vE
 refine af.2 ⟨i1,af.2 ⟨rfl,?_⟩⟩
 rw[show ah.k fq (ah.n aC x.2.2.2.1 i:Node)=jJ (Ge x i) from rfl]
 cases jJ (Ge x i)
 ·exact(aj rfl).2 (.ret _)
 refine(ai rfl).2 (af.2 ⟨uo z6,?_⟩)
 rw[show ah.k fh (((),x.2.2.1.2.2.2.2.2.2.2,()),1,i,(ah.n aC x.2.2.2.1 i:Node).2.2.1)=kU (Ec x) 1 i (Ge x i).2.2.1 from rfl]
 cases kU (Ec x) 1 i (Ge x i).2.2.1
 ·refine(ai rfl).2 (af.2 ⟨Tb z7,?_⟩)
  exact Nx (l:=x.2.2.1.2.2.2.2.2.2.1) (m:=x.2.1) (i:=i) (c:=(Ge x i).2.2.1) rfl rfl rfl rfl rfl rfl i1 (by omega) _ 0 _ rfl (by omega)
 ·refine(aj rfl).2 (af.2 ⟨rfl,af.2 ⟨rfl,?_⟩⟩)
  rw[show ah.k mj (x.2.1,(ah.n aC x.2.2.2.1 i:Node),false)=lX x.2.1 (Ge x i) false from rfl]
  refine ax (p:=(lX x.2.1 (Ge x i) false).2=0) aM (fun g=>af.2 ⟨i1,af.2 ⟨i2,af.2 ⟨i3,?_⟩⟩⟩) fun g=>af.2 ⟨i2,af.2 ⟨i3,?_⟩⟩
  ·rw[aL g];exact .ret _
  ·rw[aX g];exact .ret _
def MX:(bd×df)×Int→(bd×df)×Unit:=fun((x,w),i)=>(vE x w i,())
def Cj:(bd×df)×Int→Bool:=fun((x,w),i)=>decide (FC x w∧0≤i∧i<(x.2.2.2.1.length:Int))
def acw:bH:=⟨[.ptr [.d .bool,.d aN,.d fV,.own aC,.own .bool,.d yI,.own d_],.ptr [.own aC,.own .bool,.own .bool,.own .bool,.d (.arr 2 aF)]], [yI], [],Cj,MX,false⟩
theorem aar:bH.Sound Tryz.prog 115 acw:=bG ar bR true 90 iz mz (pc JD pz) [⟨248,1, [[0,2,3,4,8,9,10], [2,3,6]]⟩] [] (fun A ((x2,w),i)=>Yc A x2 w i) Qb WC (fc Tryz.func115 (fc Tryz.func188 (fc Tryz.func248 fz))) (sc rS (sc Vt (sc aet (sc ads sz)))) (fun A y=>match y with |.c0 p a2 a33=>⟨88,by kernel_rfl,by kernel_rfl⟩) fun(((x2,w),i):(bd×df)×Int) hp hv h=>aap (of_decide_eq_true hp).1 (of_decide_eq_true hp).2
abbrev Bo(A:aI)(x2:bd)(i:Int):=(A.and (A.c .leq 0 i) (A.c .lss i (A.l x2.2.2.2.1)))
abbrev B7(A:aI)(x2:bd)(i:Int):=(A.k US (x2.2.1,(A.n aC x2.2.2.2.1 i:Node)))
abbrev Fb(A:aI)(x2:bd)(i:Int):=(A.k (@tt (ak×Node)) (x2.2.1,(A.n aC x2.2.2.2.1 i:Node)))
def H8(A:aI)(x2:bd)(i:Int):LT (bd×(mJ×Bool)) Empty:=.need (A.and (A.c .leq 0 i) (A.c .lss i (A.l x2.2.2.2.2.1))) (.br (A.n .bool x2.2.2.2.2.1 i:Bool) (.need (A.and (A.c .leq 0 i) (A.c .lss i (A.l x2.2.2.2.2.1))) (.ret ((x2.1,x2.2.1,x2.2.2.1,x2.2.2.2.1,(A.set x2.2.2.2.2.1 i false),x2.2.2.2.2.2),(1,0,(0,0,0,0,0),i,([]:List Int)),true))) (.need (Bo A x2 i) (.need (Fb A x2 i) (.need (Fb A x2 i) (.need (Bo A x2 i) (.need (Fb A x2 i) (.need (Bo A x2 i) (.br (A.c .neq (B7 A x2 i).2.2.2 0) (.ret (x2,(0,0,(0,0,0,0,0),0,([]:List Int)),false)) (.need (Bo A x2 i) (.ret ((x2.1,x2.2.1,x2.2.2.1,(A.set x2.2.2.2.1 i (B7 A x2 i).1),x2.2.2.2.2),(B7 A x2 i).2.1,(B7 A x2 i).2.2.1)))))))))))
def dx:bd×Int→bd×(mJ×Bool):=fun(x2,i)=>(H8 ah x2 i).val (Ty.bi [ol],Ty.bi [w9,.bool])
def Ic:bd×Int→Bool:=fun(x2,i)=>(H8 ah x2 i).pre
def acf:bH:=⟨[.ptr [.d .bool,.d aN,.d fV,.own aC,.own .bool,.d yI,.own d_]], [yI], [w9,.bool],Ic,dx,false⟩
theorem afm:bH.Sound Tryz.prog 190 acf:=bG ar bR true 77 iz mz pz [] [] (fun A (x2,i)=>H8 A x2 i) (fun _=>Empty.elim) Empty.elim (fc Tryz.func190 fz) (sc acd sz) (fun _ y=>y.elim) fun((x2,i):bd×Int) hp hv h=>LT.runs (LT.fU (by kernel_rfl)) hp
abbrev A9(A:aI)(x2:bd)(w:df)(i:Int):LT ((bd×df)×Unit) Empty:=(.br (A.c .neq (A.k EU (A.k dx (x2,i)).2.1).2 0) (.ret (((A.k dx (x2,i)).1,w.1,w.2.1,w.2.2.1,w.2.2.2.1,([(1,0,0,([]:List Int)),(1,0,0,([]:List Int))]:List Seen)),())) (.br (A.c .neq (A.n aF w.2.2.2.2 1:Seen).1 0) (.ret (((A.k dx (x2,i)).1,w.1,w.2.1,w.2.2.1,w.2.2.2.1,([(1,0,0,([]:List Int)),(1,0,0,([]:List Int))]:List Seen)),())) (.need (A.k kJ (((),(A.k dx (x2,i)).1.2.2.1.2.2.2.2.2.2.2,()),4,i,(A.n aC w.1 i:Node).2.2.1)) (.br (A.k fh (((),(A.k dx (x2,i)).1.2.2.1.2.2.2.2.2.2.2,()),4,i,(A.n aC w.1 i:Node).2.2.1)) (.ret (((A.k dx (x2,i)).1,w.1,w.2.1,w.2.2.1,w.2.2.2.1,([(1,0,0,([]:List Int)),(1,0,0,([]:List Int))]:List Seen)),())) (.need (A.k vG (((),(A.k dx (x2,i)).1.2.2.1.2.2.2.2.2.2.2,()),1,(A.n aC w.1 i:Node).2.2.1)) (.br (A.k ID (((),(A.k dx (x2,i)).1.2.2.1.2.2.2.2.2.2.2,()),1,(A.n aC w.1 i:Node).2.2.1)) (.ret (((A.k dx (x2,i)).1,w.1,w.2.1,w.2.2.1,w.2.2.2.1,([(1,0,0,([]:List Int)),(1,0,0,([]:List Int))]:List Seen)),())) (.ret (((A.k dx (x2,i)).1,w.1,w.2.1,w.2.2.1,w.2.2.2.1,([(1,0,0,([]:List Int)),(2,0,(A.k EU (A.k dx (x2,i)).2.1).1)]:List Seen)),()))))))))
abbrev BA(A:aI)(x2:bd)(w:df)(i:Int):LT ((bd×df)×Unit) Empty:=(.ret (((A.k dx (x2,i)).1,w.1,w.2.1,w.2.2.1,w.2.2.2.1,([(2,0,(A.k EU (A.k dx (x2,i)).2.1).1),(1,0,0,([]:List Int))]:List Seen)),()))
abbrev Fu(A:aI)(w:df):=([(A.n aF w.2.2.2.2 0:Seen),(A.n aF w.2.2.2.2 1:Seen)]:List Seen)
abbrev FK(A:aI)(x2:bd)(w:df):LT ((bd×df)×Unit) Empty:=(.ret ((x2,w.1,w.2.1,w.2.2.1,w.2.2.2.1,(Fu A w)),()))
def Im(A:aI)(x2:bd)(w:df)(i:Int):LT ((bd×df)×Unit) Empty:=.need (A.and (A.c .leq 0 i) (A.c .lss i (A.l w.1))) (.need (A.k (@tt Node) (A.n aC w.1 i:Node)) (.br (A.not (A.k fq (A.n aC w.1 i:Node))) (FK A x2 w) (.need (A.and (A.c .leq 0 i) (A.c .lss i (A.l w.2.2.1))) (.br (A.n .bool w.2.2.1 i:Bool) (FK A x2 w) (.br (A.c .neq (A.n aC w.1 i:Node).2.2.1.2.1 i) (FK A x2 w) (.need (A.k Ic (x2,i)) (.br (A.not (A.k dx (x2,i)).2.2) (.ret (((A.k dx (x2,i)).1,w.1,w.2.1,w.2.2.1,w.2.2.2.1,(Fu A w)),())) (.need (A.k kJ (((),(A.k dx (x2,i)).1.2.2.1.2.2.2.2.2.2.2,()),3,i,(A.n aC w.1 i:Node).2.2.1)) (.br (A.k fh (((),(A.k dx (x2,i)).1.2.2.1.2.2.2.2.2.2.2,()),3,i,(A.n aC w.1 i:Node).2.2.1)) (.ret (((A.k dx (x2,i)).1,w.1,w.2.1,w.2.2.1,w.2.2.2.1,(Fu A w)),())) (.need (A.k (@tt ((Int×Int×(Int×Int×Int×Int×Int)×Int×List Int))) (A.k dx (x2,i)).2.1) (.br (A.c .neq (A.k EU (A.k dx (x2,i)).2.1).2 0) (A9 A x2 w i) (.br (A.c .neq (A.n aF w.2.2.2.2 0:Seen).1 0) (A9 A x2 w i) (.need (A.k kJ (((),(A.k dx (x2,i)).1.2.2.1.2.2.2.2.2.2.2,()),4,i,(A.n aC w.1 i:Node).2.2.1)) (.br (A.k fh (((),(A.k dx (x2,i)).1.2.2.1.2.2.2.2.2.2.2,()),4,i,(A.n aC w.1 i:Node).2.2.1)) (A9 A x2 w i) (.need (A.k vG (((),(A.k dx (x2,i)).1.2.2.1.2.2.2.2.2.2.2,()),0,(A.n aC w.1 i:Node).2.2.1)) (.br (A.k ID (((),(A.k dx (x2,i)).1.2.2.1.2.2.2.2.2.2.2,()),0,(A.n aC w.1 i:Node).2.2.1)) (A9 A x2 w i) (.br (A.c .neq (A.k EU (A.k dx (x2,i)).2.1).2 0) (BA A x2 w i) (.br (A.c .neq (A.n aF w.2.2.2.2 1:Seen).1 0) (BA A x2 w i) (.need (A.k kJ (((),(A.k dx (x2,i)).1.2.2.1.2.2.2.2.2.2.2,()),4,i,(A.n aC w.1 i:Node).2.2.1)) (.br (A.k fh (((),(A.k dx (x2,i)).1.2.2.1.2.2.2.2.2.2.2,()),4,i,(A.n aC w.1 i:Node).2.2.1)) (BA A x2 w i) (.need (A.k vG (((),(A.k dx (x2,i)).1.2.2.1.2.2.2.2.2.2.2,()),1,(A.n aC w.1 i:Node).2.2.1)) (.br (A.k ID (((),(A.k dx (x2,i)).1.2.2.1.2.2.2.2.2.2.2,()),1,(A.n aC w.1 i:Node).2.2.1)) (BA A x2 w i) (.ret (((A.k dx (x2,i)).1,w.1,w.2.1,w.2.2.1,w.2.2.2.1,([(2,0,(A.k EU (A.k dx (x2,i)).2.1).1),(2,0,(A.k EU (A.k dx (x2,i)).2.1).1)]:List Seen)),()))))))))))))))))))))))))
def Fe:(bd×df)×Int→(bd×df)×Unit:=fun((x2,w),i)=>(Im ah x2 w i).val (Ty.bi [ol,TN],Ty.bi [])
def Ck:(bd×df)×Int→Bool:=fun((x2,w),i)=>(Im ah x2 w i).pre
def afn:bH:=⟨[.ptr [.d .bool,.d aN,.d fV,.own aC,.own .bool,.d yI,.own d_],.ptr [.own aC,.own .bool,.own .bool,.own .bool,.d (.arr 2 aF)]], [yI], [],Ck,Fe,false⟩
theorem aeQ:bH.Sound Tryz.prog 116 afn:=bG ar bR true 255 iz (mc afm mz) (pc JD (pc acy pz)) [] [] (fun A ((x2,w),i)=>Im A x2 w i) (fun _=>Empty.elim) Empty.elim (fc Tryz.func116 fz) (sc ahe (sc rS sz)) (fun _ y=>y.elim) fun(((x2,w),i):(bd×df)×Int) hp hv h=>LT.runs (LT.fU (by kernel_rfl)) hp
abbrev uJ(A:aI)(w:df):=([(A.n aF w.2.2.2.2 0:Seen),(A.n aF w.2.2.2.2 1:Seen)]:List Seen)
abbrev o_(A:aI)(x2:bd)(w:df)(i:Int):=(A.k U_ (x2.2.1,(A.n aC x2.2.2.2.1 i:Node),(uJ A w)))
abbrev BN(A:aI)(x2:bd)(i:Int):=(A.and (A.c .leq 0 i) (A.c .lss i (A.l x2.2.2.2.1)))
def Hw(A:aI)(x2:bd)(w:df)(i:Int):LT ((bd×df)×Unit) Empty:=.need (BN A x2 i) (.need (A.k (@tt (ak×Node×List Seen)) (x2.2.1,(A.n aC x2.2.2.2.1 i:Node),(uJ A w))) (.need (A.k (@tt (ak×Node×List Seen)) (x2.2.1,(A.n aC x2.2.2.2.1 i:Node),(uJ A w))) (.need (BN A x2 i) (.br (A.c .neq (o_ A x2 w i).2.2.2 0) (.ret ((x2,w.1,w.2.1,w.2.2.1,w.2.2.2.1,(uJ A w)),())) (.br (A.not (o_ A x2 w i).2.2.1) (.need (A.k (@tt (ak×Node)) (x2.2.1,(o_ A x2 w i).1)) (.need (A.k (@tt (ak×Node)) (x2.2.1,(o_ A x2 w i).1)) (.need (A.k (@tt (ak×Node)) (x2.2.1,(o_ A x2 w i).1)) (.br (A.c .neq (A.k Fz (x2.2.1,(o_ A x2 w i).1)).2.2.2 0) (.ret ((x2,w.1,w.2.1,w.2.2.1,w.2.2.2.1,(uJ A w)),())) (.need (A.and (A.c .leq 0 i) (A.c .lss i (A.l x2.2.2.2.2.1))) (.need (A.and (A.c .leq 0 i) (A.c .lss i (A.l w.2.2.2.1))) (.need (BN A x2 i) (.ret (((x2.1,x2.2.1,x2.2.2.1,(A.set x2.2.2.2.1 i (A.k Fz (x2.2.1,(o_ A x2 w i).1)).1),(A.set x2.2.2.2.2.1 i (A.k Fz (x2.2.1,(o_ A x2 w i).1)).2.2.1),x2.2.2.2.2.2),w.1,w.2.1,w.2.2.1,(A.set w.2.2.2.1 i (A.k Fz (x2.2.1,(o_ A x2 w i).1)).2.2.1),(uJ A w)),()))))))))) (.need (BN A x2 i) (.ret (((x2.1,x2.2.1,x2.2.2.1,(A.set x2.2.2.2.1 i (o_ A x2 w i).1),x2.2.2.2.2),w.1,w.2.1,w.2.2.1,w.2.2.2.1,(uJ A w)),()))))))))
def lb:(bd×df)×Int→(bd×df)×Unit:=fun((x2,w),i)=>(Hw ah x2 w i).val (Ty.bi [ol,TN],Ty.bi [])
def Gw:(bd×df)×Int→Bool:=fun((x2,w),i)=>(Hw ah x2 w i).pre
def ae8:bH:=⟨[.ptr [.d .bool,.d aN,.d fV,.own aC,.own .bool,.d yI,.own d_],.kp [.own aC,.own .bool,.own .bool,.own .bool,.d (.arr 2 aF)]], [yI], [],Gw,lb,false⟩
theorem aa8:bH.Sound Tryz.prog 193 ae8:=bG ar bR true 112 iz mz pz [] [] (fun A ((x2,w),i)=>Hw A x2 w i) (fun _=>Empty.elim) Empty.elim (fc Tryz.func193 fz) (sc aaE (sc ada sz)) (fun _ y=>y.elim) fun(((x2,w),i):(bd×df)×Int) hp hv h=>LT.runs (LT.fU (by kernel_rfl)) hp
abbrev j3(A:aI)(w:df):=([(A.n aF w.2.2.2.2 0:Seen),(A.n aF w.2.2.2.2 1:Seen)]:List Seen)
abbrev wh(A:aI)(x2:bd)(i:Int):=(A.and (A.c .leq 0 i) (A.c .lss i (A.l x2.2.2.2.1)))
abbrev nW(A:aI)(x2:bd)(i:Int):=(A.n aC x2.2.2.2.1 i:Node)
abbrev B6(A:aI)(x2:bd)(w:df)(i:Int):LT ((bd×df)×Unit) Empty:=(.br (A.c .eql (A.n aC w.1 i:Node).2.1 1) (.br (A.c .eql (nW A x2 i).2.1 1) (.need (A.k Gw ((x2,w.1,w.2.1,w.2.2.1,w.2.2.2.1,(j3 A w)),i)) (.ret (((A.k lb ((x2,w.1,w.2.1,w.2.2.1,w.2.2.2.1,(j3 A w)),i)).1.1,(A.k lb ((x2,w.1,w.2.1,w.2.2.1,w.2.2.2.1,(j3 A w)),i)).1.2.1,(A.k lb ((x2,w.1,w.2.1,w.2.2.1,w.2.2.2.1,(j3 A w)),i)).1.2.2.1,(A.k lb ((x2,w.1,w.2.1,w.2.2.1,w.2.2.2.1,(j3 A w)),i)).1.2.2.2.1,(A.k lb ((x2,w.1,w.2.1,w.2.2.1,w.2.2.2.1,(j3 A w)),i)).1.2.2.2.2.1,([(A.n aF (A.k lb ((x2,w.1,w.2.1,w.2.2.1,w.2.2.2.1,(j3 A w)),i)).1.2.2.2.2.2 0:Seen),(A.n aF (A.k lb ((x2,w.1,w.2.1,w.2.2.1,w.2.2.2.1,(j3 A w)),i)).1.2.2.2.2.2 1:Seen)]:List Seen)),()))) (.ret ((x2,w.1,w.2.1,w.2.2.1,w.2.2.2.1,(j3 A w)),()))) (.ret ((x2,w.1,w.2.1,w.2.2.1,w.2.2.2.1,(j3 A w)),())))
abbrev Ff:=([(0,0,0,([]:List Int)),(0,0,0,([]:List Int))]:List Seen)
def Ii(A:aI)(x2:bd)(w:df)(i:Int):LT ((bd×df)×Unit) Empty:=.need (A.and (A.c .leq 0 i) (A.c .lss i (A.l w.1))) (.need (wh A x2 i) (.need (wh A x2 i) (.need (A.and (A.c .leq 0 i) (A.c .lss i (A.l w.1))) (.need (wh A x2 i) (.need (A.and (A.c .leq 0 i) (A.c .lss i (A.l w.1))) (.need (wh A x2 i) (.need (A.k (@tt Node) (A.n aC w.1 i:Node)) (.br (A.k fq (A.n aC w.1 i:Node)) (.need (A.k (@tt Node) (nW A x2 i)) (.br (A.k fq (nW A x2 i)) (.br (A.c .neq (A.n aC w.1 i:Node).2.2.1.2.1 i) (.need (A.and (A.c .leq 0 i) (A.c .lss i (A.l w.2.1))) (.br (A.not (A.n .bool w.2.1 i:Bool)) (.need (A.k kJ (((),x2.2.2.1.2.2.2.2.2.2.2,()),6,i,(nW A x2 i).2.2.1)) (.br (A.k fh (((),x2.2.2.1.2.2.2.2.2.2.2,()),6,i,(nW A x2 i).2.2.1)) (.need (A.k (@tt (ak×Node×List Seen)) (x2.2.1,(nW A x2 i),(Ff))) (.br (A.c .eql (A.k Fp (x2.2.1,(nW A x2 i),(Ff))).2.2 0) (.need (wh A x2 i) (.ret (((x2.1,x2.2.1,x2.2.2.1,(A.set x2.2.2.2.1 i (A.k Fp (x2.2.1,(nW A x2 i),(Ff))).1),x2.2.2.2.2),w.1,w.2.1,w.2.2.1,w.2.2.2.1,(j3 A w)),()))) (.ret ((x2,w.1,w.2.1,w.2.2.1,w.2.2.2.1,(j3 A w)),())))) (.need (A.k (@tt (ak×Node×List Seen)) (x2.2.1,(nW A x2 i),(j3 A w))) (.br (A.c .eql (A.k Fp (x2.2.1,(nW A x2 i),(j3 A w))).2.2 0) (.need (wh A x2 i) (.ret (((x2.1,x2.2.1,x2.2.2.1,(A.set x2.2.2.2.1 i (A.k Fp (x2.2.1,(nW A x2 i),(j3 A w))).1),x2.2.2.2.2),w.1,w.2.1,w.2.2.1,w.2.2.2.1,(j3 A w)),()))) (.ret ((x2,w.1,w.2.1,w.2.2.1,w.2.2.2.1,(j3 A w)),())))))) (B6 A x2 w i))) (B6 A x2 w i)) (B6 A x2 w i))) (B6 A x2 w i)))))))))
def BJ:(bd×df)×Int→(bd×df)×Unit:=fun((x2,w),i)=>(Ii ah x2 w i).val (Ty.bi [ol,TN],Ty.bi [])
def u9:(bd×df)×Int→Bool:=fun((x2,w),i)=>(Ii ah x2 w i).pre
def abR:bH:=⟨[.ptr [.d .bool,.d aN,.d fV,.own aC,.own .bool,.d yI,.own d_],.kp [.own aC,.own .bool,.own .bool,.own .bool,.d (.arr 2 aF)]], [yI], [],u9,BJ,false⟩
theorem afS:bH.Sound Tryz.prog 117 abR:=bG ar bR true 118 iz (mc aa8 mz) (pc JD pz) [] [] (fun A ((x2,w),i)=>Ii A x2 w i) (fun _=>Empty.elim) Empty.elim (fc Tryz.func117 fz) (sc rS (sc ab_ sz)) (fun _ y=>y.elim) fun(((x2,w),i):(bd×df)×Int) hp hv h=>LT.runs (LT.fU (by kernel_rfl)) hp
structure Oq where
 (a0:Int) (a2:Bool) (a3:ak) (a4:gG) (a5 a6 a7 a8:Int) (a9:List Int) (cN dF a12:Int) (kx:List Int) (jh:List Node) (lk:List Bool) (a16:List iT) (a17:List Node) (ll lJ a20:List Bool)
structure PY where
 (b0:Int) (b2:Bool) (b3:ak) (b4:gG) (b5 b6 b7 b8:Int) (b9:List Int) (b10 b11 b12:Int) (b13:List Int) (gY:cq) (gK:List iT) (mK:List Node) (jV mr yM:List Bool)
inductive T7 where
 | c0 (p:Oq) (a1:Int)
 | c1 (p:PY) (b1:Int) (eQ:List Node) (bL:List Bool)
noncomputable def ZU:T7→eT
 | .c0 p a1=>⟨[⟨194,19,(en [(0,.own 2),(1,.fn 195 [] [.ptr 3 0]),(7,vi p.a0),(8,vi a1)]),[.inLoop (cw Tryz.f194 [1,0,1,0,0]),.inBlock 0,.code (cw Tryz.f194 [1,1])],[],none⟩,⟨118,93,(en [(0,.ptr 0 0),(3,.ptr 3 0)]),[.ops (ow Tryz.f118 [1,0]) ((ow Tryz.f118 [1,0]).toList.drop 5),.code (cw Tryz.f118 [1,1])],[],none⟩],[.flat false ([vb p.a2]++dc aN p.a3++dc fV p.a4 ++ [.own 2,.own 4,vi p.a5,.own 5]),.flat true [.own 6,.own 7,.own 8,.own 9,vi p.a6,vi p.a7,vi p.a8,.sl yU p.a9,vi p.cN,vi p.dF,vi p.a12,.sl yU p.kx],.arr false aC p.jh,.flat false [.ptr 1 0],.arr false .bool p.lk,.arr false d_ p.a16,.arr false aC p.a17,.arr false .bool p.ll,.arr false .bool p.lJ,.arr false .bool p.a20,.dead]⟩
 | .c1 p b1 eQ bL=>⟨[⟨118,93,(en [(0,.ptr 0 0),(5,.ptr 2 0),(31,.own 3),(32,vi p.b0),(33,vi b1)]),[.inLoop (cw Tryz.f118 [1,1,1,1,1,0,0]),.inBlock 0],[],none⟩],[.flat false ([vb p.b2]++dc aN p.b3++dc fV p.b4 ++ [.own 3,.own 4,vi p.b5,.own 5]),.flat true [.own 6,.own 7,.own 8,.own 9,vi p.b6,vi p.b7,vi p.b8,.sl yU p.b9,vi p.b10,vi p.b11,vi p.b12,.sl yU p.b13],.flat false (dc ki p.gY),.arr false aC eQ,.arr false .bool bL,.arr false d_ p.gK,.arr false aC p.mK,.arr false .bool p.jV,.arr false .bool p.mr,.arr false .bool p.yM,.dead]⟩
def aaV(A:aI)(x2:bd)(w:df):LT ((bd×df)×Unit) T7:=.more (.c0 ⟨(A.l x2.2.2.2.1),x2.1,x2.2.1,x2.2.2.1,x2.2.2.2.2.2.1,(A.n aF w.2.2.2.2 0:Seen).1,(A.n aF w.2.2.2.2 0:Seen).2.1,(A.n aF w.2.2.2.2 0:Seen).2.2.1,(A.n aF w.2.2.2.2 0:Seen).2.2.2,(A.n aF w.2.2.2.2 1:Seen).1,(A.n aF w.2.2.2.2 1:Seen).2.1,(A.n aF w.2.2.2.2 1:Seen).2.2.1,(A.n aF w.2.2.2.2 1:Seen).2.2.2,x2.2.2.2.1,x2.2.2.2.2.1,x2.2.2.2.2.2.2,w.1,w.2.1,w.2.2.1,w.2.2.2.1⟩ 0)
def Ay(A:aI):T7→LT ((bd×df)×Unit) T7
 | .c0 p a1=>.br (A.c .lss a1 p.a0) (.need (A.and (A.c .leq 0 a1) (A.c .lss a1 (A.l p.jh))) (.br (A.c .eql (A.n aC p.jh a1:Node).2.1 4) (.need (A.and (A.c .leq 0 (A.n aC p.jh a1:Node).1) (A.c .lss (A.n aC p.jh a1:Node).1 (A.l p.a17))) (.br (A.c .eql (A.n aC p.a17 (A.n aC p.jh a1:Node).1:Node).2.1 4) (.br (A.c .lss a1 0) (.ret (((p.a2,p.a3,p.a4,p.jh,p.lk,p.a5,p.a16),p.a17,p.ll,p.lJ,p.a20,([(p.a6,p.a7,p.a8,p.a9),(p.cN,p.dF,p.a12,p.kx)]:List Seen)),())) (.need (A.and (A.c .leq 0 a1) (A.c .lss a1 (A.l p.a17))) (.more (.c1 ⟨(A.l p.jh),p.a2,p.a3,p.a4,p.a5,p.a6,p.a7,p.a8,p.a9,p.cN,p.dF,p.a12,p.kx,(A.n aC p.a17 a1:Node).2.2.1,p.a16,p.a17,p.ll,p.lJ,p.a20⟩ 0 p.jh p.lk)))) (.more (.c0 p (A.b .add .i64 a1 1))))) (.more (.c0 p (A.b .add .i64 a1 1))))) (.ret (((p.a2,p.a3,p.a4,p.jh,p.lk,p.a5,p.a16),p.a17,p.ll,p.lJ,p.a20,([(p.a6,p.a7,p.a8,p.a9),(p.cN,p.dF,p.a12,p.kx)]:List Seen)),()))
 | .c1 p b1 eQ bL=>.br (A.c .lss b1 p.b0) (.need (A.and (A.c .leq 0 b1) (A.c .lss b1 (A.l eQ))) (.br (A.c .eql (A.n aC eQ b1:Node).2.1 0) (.need (A.k kJ (((),p.b4.2.2.2.2.2.2.2,()),2,b1,p.gY)) (.br (A.c .neq (A.n aC eQ b1:Node).2.1 0) (.need (A.k (@tt Node) (A.n aC eQ b1:Node)) (.br (A.not (A.k fq (A.n aC eQ b1:Node))) (.need (A.k kJ (((),p.b4.2.2.2.2.2.2.2,()),1,b1,p.gY)) (.br (A.not (A.k fh (((),p.b4.2.2.2.2.2.2.2,()),2,b1,p.gY))) (.br (A.not (A.k fh (((),p.b4.2.2.2.2.2.2.2,()),1,b1,p.gY))) (.more (.c1 p (A.b .add .i64 b1 1) eQ bL)) (.need (A.k (@tt (ak×Node×Bool)) (p.b3,(A.n aC eQ b1:Node),(A.k fh (((),p.b4.2.2.2.2.2.2.2,()),2,b1,p.gY)))) (.need (A.k (@tt (ak×Node×Bool)) (p.b3,(A.n aC eQ b1:Node),(A.k fh (((),p.b4.2.2.2.2.2.2.2,()),2,b1,p.gY)))) (.br (A.c .eql (A.k mj (p.b3,(A.n aC eQ b1:Node),(A.k fh (((),p.b4.2.2.2.2.2.2.2,()),2,b1,p.gY)))).2 0) (.need (A.and (A.c .leq 0 b1) (A.c .lss b1 (A.l eQ))) (.need (A.and (A.c .leq 0 b1) (A.c .lss b1 (A.l bL))) (.more (.c1 p (A.b .add .i64 b1 1) (A.set eQ b1 (A.k mj (p.b3,(A.n aC eQ b1:Node),(A.k fh (((),p.b4.2.2.2.2.2.2.2,()),2,b1,p.gY)))).1) (A.set bL b1 false))))) (.more (.c1 p (A.b .add .i64 b1 1) eQ bL)))))) (.need (A.k (@tt (ak×Node×Bool)) (p.b3,(A.n aC eQ b1:Node),(A.k fh (((),p.b4.2.2.2.2.2.2.2,()),2,b1,p.gY)))) (.need (A.k (@tt (ak×Node×Bool)) (p.b3,(A.n aC eQ b1:Node),(A.k fh (((),p.b4.2.2.2.2.2.2.2,()),2,b1,p.gY)))) (.br (A.c .eql (A.k mj (p.b3,(A.n aC eQ b1:Node),(A.k fh (((),p.b4.2.2.2.2.2.2.2,()),2,b1,p.gY)))).2 0) (.need (A.and (A.c .leq 0 b1) (A.c .lss b1 (A.l eQ))) (.need (A.and (A.c .leq 0 b1) (A.c .lss b1 (A.l bL))) (.more (.c1 p (A.b .add .i64 b1 1) (A.set eQ b1 (A.k mj (p.b3,(A.n aC eQ b1:Node),(A.k fh (((),p.b4.2.2.2.2.2.2.2,()),2,b1,p.gY)))).1) (A.set bL b1 false))))) (.more (.c1 p (A.b .add .i64 b1 1) eQ bL))))))) (.br (A.not (A.k fh (((),p.b4.2.2.2.2.2.2.2,()),2,b1,p.gY))) (.more (.c1 p (A.b .add .i64 b1 1) eQ bL)) (.need (A.k (@tt (ak×Node×Bool)) (p.b3,(A.n aC eQ b1:Node),(A.k fh (((),p.b4.2.2.2.2.2.2.2,()),2,b1,p.gY)))) (.need (A.k (@tt (ak×Node×Bool)) (p.b3,(A.n aC eQ b1:Node),(A.k fh (((),p.b4.2.2.2.2.2.2.2,()),2,b1,p.gY)))) (.br (A.c .eql (A.k mj (p.b3,(A.n aC eQ b1:Node),(A.k fh (((),p.b4.2.2.2.2.2.2.2,()),2,b1,p.gY)))).2 0) (.need (A.and (A.c .leq 0 b1) (A.c .lss b1 (A.l eQ))) (.need (A.and (A.c .leq 0 b1) (A.c .lss b1 (A.l bL))) (.more (.c1 p (A.b .add .i64 b1 1) (A.set eQ b1 (A.k mj (p.b3,(A.n aC eQ b1:Node),(A.k fh (((),p.b4.2.2.2.2.2.2.2,()),2,b1,p.gY)))).1) (A.set bL b1 false))))) (.more (.c1 p (A.b .add .i64 b1 1) eQ bL)))))))) (.br (A.not (A.k fh (((),p.b4.2.2.2.2.2.2.2,()),2,b1,p.gY))) (.more (.c1 p (A.b .add .i64 b1 1) eQ bL)) (.need (A.k (@tt (ak×Node×Bool)) (p.b3,(A.n aC eQ b1:Node),(A.k fh (((),p.b4.2.2.2.2.2.2.2,()),2,b1,p.gY)))) (.need (A.k (@tt (ak×Node×Bool)) (p.b3,(A.n aC eQ b1:Node),(A.k fh (((),p.b4.2.2.2.2.2.2.2,()),2,b1,p.gY)))) (.br (A.c .eql (A.k mj (p.b3,(A.n aC eQ b1:Node),(A.k fh (((),p.b4.2.2.2.2.2.2.2,()),2,b1,p.gY)))).2 0) (.need (A.and (A.c .leq 0 b1) (A.c .lss b1 (A.l eQ))) (.need (A.and (A.c .leq 0 b1) (A.c .lss b1 (A.l bL))) (.more (.c1 p (A.b .add .i64 b1 1) (A.set eQ b1 (A.k mj (p.b3,(A.n aC eQ b1:Node),(A.k fh (((),p.b4.2.2.2.2.2.2.2,()),2,b1,p.gY)))).1) (A.set bL b1 false))))) (.more (.c1 p (A.b .add .i64 b1 1) eQ bL)))))))) (.br (A.c .neq (A.n aC eQ b1:Node).2.1 0) (.need (A.k (@tt Node) (A.n aC eQ b1:Node)) (.br (A.not (A.k fq (A.n aC eQ b1:Node))) (.need (A.k kJ (((),p.b4.2.2.2.2.2.2.2,()),1,b1,p.gY)) (.br (A.not (A.k fh (((),p.b4.2.2.2.2.2.2.2,()),1,b1,p.gY))) (.more (.c1 p (A.b .add .i64 b1 1) eQ bL)) (.need (A.k (@tt (ak×Node×Bool)) (p.b3,(A.n aC eQ b1:Node),false)) (.need (A.k (@tt (ak×Node×Bool)) (p.b3,(A.n aC eQ b1:Node),false)) (.br (A.c .eql (A.k mj (p.b3,(A.n aC eQ b1:Node),false)).2 0) (.need (A.and (A.c .leq 0 b1) (A.c .lss b1 (A.l eQ))) (.need (A.and (A.c .leq 0 b1) (A.c .lss b1 (A.l bL))) (.more (.c1 p (A.b .add .i64 b1 1) (A.set eQ b1 (A.k mj (p.b3,(A.n aC eQ b1:Node),false)).1) (A.set bL b1 false))))) (.more (.c1 p (A.b .add .i64 b1 1) eQ bL))))))) (.more (.c1 p (A.b .add .i64 b1 1) eQ bL)))) (.more (.c1 p (A.b .add .i64 b1 1) eQ bL))))) (.ret (((p.b2,p.b3,p.b4,eQ,bL,p.b5,p.gK),p.mK,p.jV,p.mr,p.yM,([(p.b6,p.b7,p.b8,p.b9),(p.b10,p.b11,p.b12,p.b13)]:List Seen)),()))
def ot{α:Type}(f:Int→α→α):Nat→Nat→α→α
 | 0,_,s=>s
 | k+1,i,s=>ot f k (i+1) (f (i:Int) s)
def K_(l was:List Node):Nat→Nat→Option Nat
 | 0,_=>none
 | k+1,i=>bif decide ((iI l (i:Int)).2.1=4)&&decide ((iI was (iI l (i:Int)).1).2.1=4) then some i else K_ l was k (i+1)
def uN(m:ak)(F:List bJ)(c:cq)(i:Int)(s:List Node×List Bool):List Node×List Bool:=
 bif (decide ((iI s.1 i).2.1=0)&&kU F 2 i c)||(!(decide ((iI s.1 i).2.1=0))&&(!(jJ (iI s.1 i))&&kU F 1 i c)) then
  bif decide ((lX m (iI s.1 i) (decide ((iI s.1 i).2.1=0))).2=0) then(ah.set s.1 i (lX m (iI s.1 i) (decide ((iI s.1 i).2.1=0))).1,ah.set s.2 i false) else s
 else s
def yL(x:bd)(w:df):bd×df:=
 match K_ x.2.2.2.1 w.1 x.2.2.2.1.length 0 with
 | none=>(x,oX w)
 | some k=>((x.1,x.2.1,x.2.2.1,(ot (uN x.2.1 (Ec x) (iI w.1 (k:Int)).2.2.1) x.2.2.2.1.length 0 (x.2.2.2.1,x.2.2.2.2.1)).1,(ot (uN x.2.1 (Ec x) (iI w.1 (k:Int)).2.2.1) x.2.2.2.1.length 0 (x.2.2.2.1,x.2.2.2.2.1)).2,x.2.2.2.2.2),oX w)
def Qf(l:List Node):Bool:=l.all fun n=>decide (0≤n.1∧n.1<(l.length:Int))
theorem xL{m:ak}{F:List bJ}{c:cq}{i:Int}{s:List Node×List Bool}:(uN m F c i s).1.length=s.1.length∧(uN m F c i s).2.length=s.2.length:=by
 unfold uN
 cases ((decide ((iI s.1 i).2.1=0)&&kU F 2 i c)||(!(decide ((iI s.1 i).2.1=0))&&(!(jJ (iI s.1 i))&&kU F 1 i c)))
 ·exact⟨rfl,rfl⟩
 ·cases decide ((lX m (iI s.1 i) (decide ((iI s.1 i).2.1=0))).2=0)
  ·exact⟨rfl,rfl⟩
  ·exact⟨List.length_set ..,List.length_set ..⟩
theorem QN{p:PY}{m:ak}{F:List bJ}{c:cq}{N:Nat}(h0:p.b0=(N:Int))(hm:p.b3=m)(hF:p.b4.2.2.2.2.2.2.2=F)(hc:p.gY=c)(hf:F.length≤1000000)(hN:N≤1000) :
  ∀(j k:Nat) (s:List Node×List Bool),N-k=j→k≤N→s.1.length=N→s.2.length=N→ay (Ay ah) (.more (.c1 p (k:Int) s.1 s.2)) (((p.b2,p.b3,p.b4,(ot (uN m F c) j k s).1,(ot (uN m F c) j k s).2,p.b5,p.gK),p.mK,p.jV,p.mr,p.yM, [(p.b6,p.b7,p.b8,p.b9),(p.b10,p.b11,p.b12,p.b13)]),()):=by
 intro j
 induction j with
 | zero=>
   intro k s hj hk l1 l2
   have:k=N:=by omega
   subst this
   rw[al,Ay,h0]
   exact(ai (by rw[ao];simp)).2 (.ret _)
 | succ j ih=>
   intro k s hj hk l1 l2
   have hk':k<N:=by omega
   rw[al,Ay,h0,hm,hF,hc]
   have i1:=aP (l:=s.1) (i:=k) (by omega)
   have i2:=aP (l:=s.2) (i:=k) (by omega)
   refine(aj (by rw[ao];exact aL (by omega))).2 (af.2 ⟨i1,?_⟩)
   rw[cm (i:=k) (by omega),ot]
   have e:∀(b:Bool),ah.k mj (m,(iI s.1 (k:Int)),b)=lX m (iI s.1 (k:Int)) b:=fun _=>rfl
   have e2:∀q:Int,ah.k fh (((),F,()),q,(k:Int),c)=kU F q (k:Int) c:=fun _=>rfl
   rw[show ah.k fq (iI s.1 (k:Int))=jJ (iI s.1 (k:Int)) from rfl,e,e,e2,e2]
   have hs:=xL (m:=m) (F:=F) (c:=c) (i:=(k:Int)) (s:=s)
   have keep:uN m F c (k:Int) s=s→ay (Ay ah) (.more (.c1 p ((k+1:Nat):Int) s.1 s.2)) (((p.b2,m,p.b4,(ot (uN m F c) j (k+1) (uN m F c (k:Int) s)).1,(ot (uN m F c) j (k+1) (uN m F c (k:Int) s)).2,p.b5,p.gK),p.mK,p.jV,p.mr,p.yM, [(p.b6,p.b7,p.b8,p.b9),(p.b10,p.b11,p.b12,p.b13)]),()):=fun h=>by
    have nx:=ih (k+1) s (by omega) (by omega) l1 l2
    rw[hm] at nx
    rw[h];exact nx
   have go:∀b:Bool,(decide ((iI s.1 (k:Int)).2.1=0))=b→((decide ((iI s.1 (k:Int)).2.1=0)&&kU F 2 (k:Int) c)||(!(decide ((iI s.1 (k:Int)).2.1=0))&&(!(jJ (iI s.1 (k:Int)))&&kU F 1 (k:Int) c)))=true→
     ay (Ay ah) (.need (ah.k (@tt (ak×Node×Bool)) (m,(iI s.1 (k:Int)),b)) (.need (ah.k (@tt (ak×Node×Bool)) (m,(iI s.1 (k:Int)),b)) (.br (ah.c .eql (lX m (iI s.1 (k:Int)) b).2 0)
      (.need (ah.and (ah.c .leq 0 (k:Int)) (ah.c .lss (k:Int) (ah.l s.1))) (.need (ah.and (ah.c .leq 0 (k:Int)) (ah.c .lss (k:Int) (ah.l s.2))) (.more (.c1 p ((k+1:Nat):Int) (ah.set s.1 (k:Int) (lX m (iI s.1 (k:Int)) b).1) (ah.set s.2 (k:Int) false)))))
      (.more (.c1 p ((k+1:Nat):Int) s.1 s.2))))) (((p.b2,m,p.b4,(ot (uN m F c) j (k+1) (uN m F c (k:Int) s)).1,(ot (uN m F c) j (k+1) (uN m F c (k:Int) s)).2,p.b5,p.gK),p.mK,p.jV,p.mr,p.yM, [(p.b6,p.b7,p.b8,p.b9),(p.b10,p.b11,p.b12,p.b13)]),()):=fun b hb ht=>by
    refine af.2 ⟨rfl,af.2 ⟨rfl,ax (p:=(lX m (iI s.1 (k:Int)) b).2=0) aM (fun g=>af.2 ⟨i1,af.2 ⟨i2,?_⟩⟩) fun g=>keep ?_⟩⟩
    ·have hx:uN m F c (k:Int) s=(ah.set s.1 (k:Int) (lX m (iI s.1 (k:Int)) b).1,ah.set s.2 (k:Int) false):=by
      rw[uN,ht,cond_true,hb,aL g,cond_true]
     rw[hx] at hs ⊢
     have nx:=ih (k+1) (ah.set s.1 (k:Int) (lX m (iI s.1 (k:Int)) b).1,ah.set s.2 (k:Int) false) (by omega) (by omega) (hs.1.trans l1) (hs.2.trans l2)
     rw[hm] at nx
     exact nx
    ·rw[uN,ht,cond_true,hb,aX g,cond_false]
   refine ax (p:=(iI s.1 (k:Int)).2.1=0) aM (fun g0=>af.2 ⟨uo hf,ax (p:=¬(iI s.1 (k:Int)).2.1=0) aQ (fun g=>absurd g0 g) fun _=>?_⟩) fun g0=>ax (p:=¬(iI s.1 (k:Int)).2.1=0) aQ (fun _=>af.2 ⟨rfl,?_⟩) fun g=>absurd g0 g
   ·cases hg:kU F 2 (k:Int) c
    ·exact(aj rfl).2 (keep (by rw[uN,hg,aL g0];rfl))
    ·exact(ai rfl).2 (go true (aL g0) (by rw[hg,aL g0];rfl))
   ·cases hi:jJ (iI s.1 (k:Int))
    ·refine(aj rfl).2 (af.2 ⟨uo hf,?_⟩)
     cases hg:kU F 1 (k:Int) c
     ·exact(aj rfl).2 (keep (by rw[uN,hg,hi,aX g0];rfl))
     ·exact(ai rfl).2 (go false (aX g0) (by rw[hg,hi,aX g0];rfl))
    ·exact(ai rfl).2 (keep (by rw[uN,hi,aX g0];rfl))
theorem Pz{p:Oq}{x:bd}{w:df}(hp:p=⟨(x.2.2.2.1.length:Int),x.1,x.2.1,x.2.2.1,x.2.2.2.2.2.1,(ah.n aF w.2.2.2.2 0:Seen).1,(ah.n aF w.2.2.2.2 0:Seen).2.1,(ah.n aF w.2.2.2.2 0:Seen).2.2.1,(ah.n aF w.2.2.2.2 0:Seen).2.2.2,(ah.n aF w.2.2.2.2 1:Seen).1,(ah.n aF w.2.2.2.2 1:Seen).2.1,(ah.n aF w.2.2.2.2 1:Seen).2.2.1,(ah.n aF w.2.2.2.2 1:Seen).2.2.2,x.2.2.2.1,x.2.2.2.2.1,x.2.2.2.2.2.2,w.1,w.2.1,w.2.2.1,w.2.2.2.1⟩)
  (h:FC x w) (hid:Qf x.2.2.2.1=true):∀(j k:Nat),x.2.2.2.1.length-k=j→k≤x.2.2.2.1.length→
    ay (Ay ah) (.more (.c0 p (k:Int))) ((match K_ x.2.2.2.1 w.1 j k with
     | none=>(x,oX w)
     | some k=>((x.1,x.2.1,x.2.2.1,(ot (uN x.2.1 (Ec x) (iI w.1 (k:Int)).2.2.1) x.2.2.2.1.length 0 (x.2.2.2.1,x.2.2.2.2.1)).1,(ot (uN x.2.1 (Ec x) (iI w.1 (k:Int)).2.2.1) x.2.2.2.1.length 0 (x.2.2.2.1,x.2.2.2.2.1)).2,x.2.2.2.2.2),oX w)),()):=by
 subst hp
 obtain⟨z1,z2,z3,z4,z5,z6,z7,z8,z9⟩:=h
 intro j
 induction j with
 | zero=>
   intro k hj hk
   have:k=x.2.2.2.1.length:=by omega
   subst this
   rw[al,Ay,K_]
   exact(ai (by rw[ao];simp)).2 (.ret _)
 | succ j ih=>
   intro k hj hk
   have hk':k<x.2.2.2.1.length:=by omega
   rw[al,Ay,K_]
   have e0:(iI x.2.2.2.1 (k:Int))=x.2.2.2.1[k]:=getD_in hk' _
   have hin:0≤(iI x.2.2.2.1 (k:Int)).1∧(iI x.2.2.2.1 (k:Int)).1<(w.1.length:Int):=by
    rw[e0,z2]
    exact of_decide_eq_true (List.all_eq_true.1 hid _ (List.getElem_mem hk'))
   refine(aj (by rw[ao];exact aL (by simp only;omega))).2 (af.2 ⟨aP hk',?_⟩)
   rw[cm (i:=k) (by omega)]
   have nx:=ih (k+1) (by omega) (by omega)
   refine ax (p:=(iI x.2.2.2.1 (k:Int)).2.1=4) aM (fun g1=>af.2 ⟨dK hin,?_⟩) fun g=>by rw[aX g];exact nx
   refine ax (p:=(iI w.1 (iI x.2.2.2.1 (k:Int)).1).2.1=4) aM (fun g2=>?_) fun g=>by rw[aX g,aL g1];exact nx
   rw[aL g1,aL g2]
   refine(ai (by rw[ao];simp)).2 (af.2 ⟨aP (l:=w.1) (by omega),?_⟩)
   exact QN (m:=x.2.1) (F:=Ec x) (c:=(iI w.1 (k:Int)).2.2.1) (N:=x.2.2.2.1.length) rfl rfl rfl rfl z6 z9 _ 0 (x.2.2.2.1,x.2.2.2.2.1) rfl (by omega) rfl z1
theorem aak{x:bd}{w:df}(h:FC x w)(hid:Qf x.2.2.2.1=true):ay (Ay ah) (aaV ah x w) (yL x w,()):=
 Pz rfl h hid _ 0 rfl (by omega)
def JE:(bd×df)×Unit→(bd×df)×Unit:=fun((x,w),_)=>(yL x w,())
def vf:(bd×df)×Unit→Bool:=fun((x,w),_)=>decide (FC x w)&&Qf x.2.2.2.1
def acJ:bH:=⟨[.ptr [.d .bool,.d aN,.d fV,.own aC,.own .bool,.d yI,.own d_],.kp [.own aC,.own .bool,.own .bool,.own .bool,.d (.arr 2 aF)]], [], [],vf,JE,false⟩
theorem aeL:bH.Sound Tryz.prog 118 acJ:=bG ar bR true 31 iz mz (pc JD pz) [⟨118,5, [[0,5,31,32,33]]⟩,⟨194,2, [[0,1,7,8], [0,3]]⟩] [] (fun A ((x2,w),())=>aaV A x2 w) Ay ZU (fc Tryz.func118 (fc Tryz.func194 (fc Tryz.func195 fz))) (sc rS (sc Vt sz)) (fun A y=>match y with |.c0 p a1=>⟨95,by kernel_rfl,by kernel_rfl⟩|.c1 p b1 eQ bL=>⟨114,by kernel_rfl,by kernel_rfl⟩) fun(((x2,w),()):(bd×df)×Unit) hp hv h=>aak (of_decide_eq_true ((ck _ _).mp hp).1) ((ck _ _).mp hp).2
abbrev pX(A:aI)(x2:bd)(i:Int):=(A.k Vw (x2.2.1,(A.n aC x2.2.2.2.1 i:Node)))
abbrev FW(A:aI)(w:df):=([(A.n aF w.2.2.2.2 0:Seen),(A.n aF w.2.2.2.2 1:Seen)]:List Seen)
abbrev BE(A:aI)(x2:bd)(i:Int):=(A.and (A.c .leq 0 i) (A.c .lss i (A.l x2.2.2.2.1)))
abbrev Ej(A:aI)(x2:bd)(w:df):LT ((bd×df)×Unit) Empty:=(.ret ((x2,w.1,w.2.1,w.2.2.1,w.2.2.2.1,(FW A w)),()))
def Gu(A:aI)(x2:bd)(w:df)(i:Int):LT ((bd×df)×Unit) Empty:=.need (A.and (A.c .leq 0 i) (A.c .lss i (A.l w.2.2.2.1))) (.br (A.n .bool w.2.2.2.1 i:Bool) (Ej A x2 w) (.need (BE A x2 i) (.need (A.k (@tt Node) (A.n aC x2.2.2.2.1 i:Node)) (.br (A.not (A.k fq (A.n aC x2.2.2.2.1 i:Node))) (Ej A x2 w) (.need (BE A x2 i) (.need (A.k (@tt (ak×Node)) (x2.2.1,(A.n aC x2.2.2.2.1 i:Node))) (.need (A.k (@tt (ak×Node)) (x2.2.1,(A.n aC x2.2.2.2.1 i:Node))) (.need (BE A x2 i) (.br (A.c .neq (pX A x2 i).2 0) (Ej A x2 w) (.need (BE A x2 i) (.br (A.c .eql (pX A x2 i).1.2.2.1.2.1 0) (.need (A.k vm (pX A x2 i).1) (.need (A.c .leq (A.l (A.p x2.2.2.2.2.2.2 ([((pX A x2 i).1.2.2.1.1,(A.k qs (pX A x2 i).1))]:List iT))) 651562446089) (.ret (((x2.1,x2.2.1,x2.2.2.1,(A.set x2.2.2.2.1 i (pX A x2 i).1),x2.2.2.2.2.1,x2.2.2.2.2.2.1,(A.p x2.2.2.2.2.2.2 ([((pX A x2 i).1.2.2.1.1,(A.k qs (pX A x2 i).1))]:List iT))),w.1,w.2.1,w.2.2.1,w.2.2.2.1,(FW A w)),())))) (.ret (((x2.1,x2.2.1,x2.2.2.1,(A.set x2.2.2.2.1 i (pX A x2 i).1),x2.2.2.2.2),w.1,w.2.1,w.2.2.1,w.2.2.2.1,(FW A w)),())))))))))))))
def Gc:(bd×df)×Int→(bd×df)×Unit:=fun((x2,w),i)=>(Gu ah x2 w i).val (Ty.bi [ol,TN],Ty.bi [])
def CY:(bd×df)×Int→Bool:=fun((x2,w),i)=>(Gu ah x2 w i).pre
def acM:bH:=⟨[.ptr [.d .bool,.d aN,.d fV,.own aC,.own .bool,.d yI,.own d_],.kp [.own aC,.own .bool,.own .bool,.own .bool,.d (.arr 2 aF)]], [yI], [],CY,Gc,false⟩
theorem aba:bH.Sound Tryz.prog 119 acM:=bG ar bR true 96 iz mz pz [] [] (fun A ((x2,w),i)=>Gu A x2 w i) (fun _=>Empty.elim) Empty.elim (fc Tryz.func119 fz) (sc rS (sc afs (sc L_ sz))) (fun _ y=>y.elim) fun(((x2,w),i):(bd×df)×Int) hp hv h=>LT.runs (LT.fU (by kernel_rfl)) hp
def jX(m:ak)(l:List Node):Prop:=∀(i:Nat) (n:Node),l[i]? = some n→bf m n=0∧n.1=(i:Int)
theorem x8{m:ak}{l:List Node}(h:jX m l){i:Int}(hi:0≤i∧i<(l.length:Int)):bf m (iI l i)=0∧(iI l i).1=i:=by
 obtain⟨k,rfl⟩:=Int.eq_ofNat_of_zero_le hi.1
 have hk:k<l.length:=by omega
 rw[show iI l (k:Int)=l[k] from getD_in hk _]
 exact h k _ (sN hk)
theorem JQ{m:ak}{l:List Node}(h:jX m l){i:Int}(hi:0≤i){n:Node}(hn:bf m n=0∧n.1=i):jX m (ah.set l i n):=by
 obtain⟨k,rfl⟩:=Int.eq_ofNat_of_zero_le hi
 intro j n' hj
 rw[xK,gF,List.getElem?_set] at hj
 split at hj
 ·rename_i e
  split at hj
  ·cases hj;exact⟨hn.1,by omega⟩
  ·cases hj
 ·exact h j n' hj
theorem fO{α:Type}{l:List α}{i:Int}{v:α}:(ah.set l i v).length=l.length:=List.length_set ..
def Bh(x:bd):Prop:=∀s∈x.2.2.2.2.2.2,bf x.2.1 s.2=0
structure iQ(k:Nat)(x x':bd):Prop where
 made:x'.1=x.1
 m:x'.2.1=x.2.1
 s:x'.2.2.1=x.2.2.1
 len:x'.2.2.2.1.length=x.2.2.2.1.length
 aW:x'.2.2.2.2.1.length=x.2.2.2.2.1.length
 slot:x'.2.2.2.2.2.1=x.2.2.2.2.2.1
 uu:x'.2.2.2.2.2.2.length≤x.2.2.2.2.2.2.length+k
 Ht:jX x.2.1 x.2.2.2.1→jX x.2.1 x'.2.2.2.1
 Qw:jX x.2.1 x.2.2.2.1→Bh x→∀s∈x'.2.2.2.2.2.2,bf x.2.1 s.2=0
structure lI(w w':df):Prop where
 was:w'.1=w.1
 aW:w'.2.1=w.2.1
 off:w'.2.2.1.length=w.2.2.1.length
 later:w'.2.2.2.1.length=w.2.2.2.1.length
theorem iQ.refl{x:bd}{k:Nat}:iQ k x x:=⟨rfl,rfl,rfl,rfl,rfl,rfl,Nat.le_add_right _ _,fun h=>h,fun _ h=>h⟩
theorem iQ.trans{j k:Nat}{x y z:bd}(h1:iQ j x y)(h2:iQ k y z):iQ (j+k) x z:=
 ⟨h2.made.trans h1.made,h2.m.trans h1.m,h2.s.trans h1.s,h2.len.trans h1.len,h2.aW.trans h1.aW,h2.slot.trans h1.slot,by have:=h1.uu;have:=h2.uu;omega,fun h=>by rw[←h1.m];exact h2.Ht (by rw[h1.m];exact h1.Ht h),fun h k=>by rw[←h1.m];exact h2.Qw (by rw[h1.m];exact h1.Ht h) (by rw[Bh,h1.m];exact h1.Qw h k)⟩
theorem lI.refl{w:df}:lI w w:=⟨rfl,rfl,rfl,rfl⟩
theorem lI.th{w w':df}(h:lI (oX w) w'):lI w w':=⟨h.was,h.aW,h.off,h.later⟩
theorem lI.trans{a b c:df}(h1:lI a b)(h2:lI b c):lI a c:=⟨h2.was.trans h1.was,h2.aW.trans h1.aW,h2.off.trans h1.off,h2.later.trans h1.later⟩
theorem iQ.nodes{x:bd}{l:List Node}{c:List Bool}{k:Nat}(hl:l.length=x.2.2.2.1.length)(hc:c.length=x.2.2.2.2.1.length)(h:jX x.2.1 x.2.2.2.1→jX x.2.1 l):iQ k x (x.1,x.2.1,x.2.2.1,l,c,x.2.2.2.2.2):=
 ⟨rfl,rfl,rfl,hl,hc,rfl,Nat.le_add_right _ _,h,fun _ h=>h⟩
theorem iQ.set{x:bd}{i:Int}{n:Node}{c:List Bool}{k:Nat}(hi:0≤i∧i<(x.2.2.2.1.length:Int))(hc:c.length=x.2.2.2.2.1.length)(h:bf x.2.1 (iI x.2.2.2.1 i)=0→bf x.2.1 n=0∧n.1=(iI x.2.2.2.1 i).1):iQ k x (x.1,x.2.1,x.2.2.1,ah.set x.2.2.2.1 i n,c,x.2.2.2.2.2):=
 iQ.nodes fO hc fun hn=>by
  obtain⟨a,b⟩:=x8 hn hi
  exact JQ hn hi.1 ⟨(h a).1,(h a).2.trans b⟩
theorem G1{n:Int}(h:n=0)(k:(n==0)=false:=by decide):False:=by subst h;cases k
theorem O8{m:ak}{n:Node}{on:Bool}(h:(lX m n on).2=0):(lX m n on).1.1=n.1:=by
 unfold lX at h ⊢
 by_cases h0:bf m n=0
 ·rw[aL h0,cond_true] at h ⊢
  cases on
  ·unfold jA at h ⊢
   cases hm:c_ m
   ·rw[hm] at h;exact(G1 (n:=70) h).elim
   ·rw[hm] at h
    cases hd:decide (0≤n.1∧n.1≤m.1-1)
    ·rw[hd] at h;exact(G1 (n:=2) h).elim
    ·rfl
  ·cases hd:decide (n.2.1=0)
   ·rw[hd] at h;exact(G1 (n:=181) h).elim
   ·rfl
 ·rw[aX h0] at h;exact absurd h h0
theorem CO{n:Node}{r:cy×Int}(h:(zt n r).2=0):(zt n r).1.1=n.1:=by
 unfold zt at h ⊢
 by_cases h0:r.2=0
 ·rw[aL h0];rfl
 ·rw[aX h0] at h;exact absurd h h0
theorem WG{m:ak}{n:Node}{o:bg}(h:(su m n o).2=0):(su m n o).1.1=n.1:=by
 unfold su at h ⊢
 by_cases h0:bf m n=0
 ·rw[aL h0,cond_true] at h ⊢
  cases hd:decide (1≤o.2.2.2.1∧o.2.2.2.1≤3)
  ·rw[hd] at h;exact(G1 (n:=2) h).elim
  rw[hd,cond_true] at h
  rw[cond_true]
  cases hi:jJ n
  ·rfl
  rw[hi,cond_true] at h
  rw[cond_true]
  cases h1:decide (o.2.2.2.1=1)
  ·rw[h1,cond_false] at h
   rw[cond_false]
   cases h2:decide (o.2.2.2.1=2)
   ·rw[h2,cond_false] at h;exact CO h
   ·rw[h2,cond_true] at h;exact CO h
  ·rw[h1,cond_true] at h;exact CO h
 ·rw[aX h0] at h;exact absurd h h0
theorem Zr{m:ak}{n:Node}(h:(AI m n).2=0):(AI m n).1.1=n.1:=by
 unfold AI at h ⊢
 by_cases h0:bf m n=0
 ·rw[aL h0,cond_true] at h ⊢
  cases hi:jJ n
  ·rw[hi] at h;exact(G1 (n:=181) h).elim
  ·rw[cond_true];cases decide ((kr n.2.2.1 m.1).1.2.1=0)<;>rfl
 ·rw[aX h0] at h;exact absurd h h0
theorem XW{m:ak}{n:Node}(h:(yY m n).2.2.2=0):(yY m n).1.1=n.1:=by
 unfold yY at h ⊢
 by_cases h0:bf m n=0
 ·rw[aL h0,cond_true] at h ⊢
  cases hd:decide (n.2.1=1)
  ·rw[hd] at h;exact(G1 (n:=181) h).elim
  ·rw[cond_true]
   cases decide (0<n.2.2.2.2.1-1)
   ·rw[cond_false];cases (ah.n .bool m.2.2.2.2.2.2.1 n.1:Bool)<;>rfl
   ·rfl
 ·rw[aX h0] at h;exact absurd h h0
theorem XP{n:Node}:(zd n).1=n.1:=by unfold zd;cases decide (n.2.1=4) && !(Hr n.2.2.2.1)<;>rfl
theorem aae{m:ak}{n:Node}{o:lz}:(KT m n o).1=n.1:=by
 unfold KT
 rw[XP]
 cases decide (o.1=3)<;>rfl
theorem Yt{m:ak}{n:Node}{seen:List Seen}(h:(yp m n seen).2.2=0):(yp m n seen).1.1=n.1:=by
 unfold yp at h ⊢
 by_cases h0:bf m n=0
 ·rw[aL h0,cond_true] at h ⊢
  cases hi:jJ n&&decide (¬n.2.2.1.2.1=n.1)
  ·rw[hi] at h;exact(G1 (n:=181) h).elim
  ·rw[hi,cond_true] at h
   rw[cond_true]
   by_cases h1:(Cn n seen).2=0
   ·rw[aL h1,cond_true];exact aae
   ·rw[aX h1] at h;exact absurd h h1
 ·rw[aX h0] at h;exact absurd h h0
theorem Ue{m:ak}{n:Node}:(Ba m n).1.1=n.1:=by
 unfold Ba
 cases decide ((mW n).2=2)
 ·cases decide ((mW n).2=3)
  ·cases decide ((mW n).2=4)<;>rfl
  ·rfl
 ·rfl
theorem aay{m:ak}{n:Node}(h:(Mp m n).2.2.2=0):(Mp m n).1.1=n.1:=by
 unfold Mp at h ⊢
 by_cases h0:bf m n=0
 ·rw[aL h0,cond_true] at h ⊢
  cases hi:jJ n&&decide (n.2.2.1.2.1=n.1)
  ·rw[hi] at h;exact(G1 (n:=181) h).elim
  ·exact Ue
 ·rw[aX h0] at h;exact absurd h h0
theorem Qi{m:ak}{n:Node}{seen:List Seen}{once:Bool}(h:(vB m n seen once).2.2.2=0):(vB m n seen once).1.1=n.1:=by
 unfold vB at h ⊢
 by_cases h0:bf m n=0
 ·rw[aL h0,cond_true] at h ⊢
  cases h1:decide (n.2.1=1)
  ·rw[h1] at h;exact(G1 (n:=181) h).elim
  rw[h1,cond_true] at h
  rw[cond_true]
  cases h2:decide ((seen.length:Int)=2)
  ·rw[h2] at h;exact(G1 (n:=2) h).elim
  rw[cond_true]
  cases (fC m.1 seen).2.2
  ·rfl
  rw[cond_true]
  cases decide ((fC m.1 seen).1.1=1)
  ·cases Lx m n (fC m.1 seen).1<;>rfl
  rw[cond_true]
  cases decide ((fC m.1 seen).1.2.2.2.1=n.1)
  ·cases (once && !n.2.2.2.2.2.1)<;>rfl
  ·rfl
 ·rw[aX h0] at h;exact absurd h h0
theorem Nn{m:ak}{i:Int}{c:cq}{l:List bg}:∀{n:Node},bf m n=0→bf m (sI m i c l n)=0∧(sI m i c l n).1=n.1:=by
 induction l with
 | nil=>intro n h;exact⟨h,rfl⟩
 | cons o l ih=>
   intro n h
   rw[sI]
   cases decide (o.1=i)&&(decide (o.2.1=c.1)&&decide (o.2.2.1=c.2.1))
   ·exact ih h
   ·rw[cond_true]
    by_cases h0:(su m n o).2=0
    ·rw[aL h0,cond_true]
     obtain⟨a,b⟩:=ih (Ut h h0)
     exact⟨a,b.trans (WG h0)⟩
    ·rw[aX h0];exact ih h
theorem PG{x:bd}{w:df}{i:Int}(hi:0≤i∧i<(x.2.2.2.1.length:Int)):iQ 0 x (vE x w i).1∧lI w (vE x w i).2:=by
 unfold vE
 cases jJ (Ge x i)
 ·exact⟨.refl,rfl,rfl,rfl,rfl⟩
 rw[cond_true]
 cases kU (Ec x) 1 i (Ge x i).2.2.1
 ·exact⟨iQ.set hi rfl fun h=>Nn h,rfl,rfl,rfl,rfl⟩
 ·refine⟨?_,rfl,rfl,fO,rfl⟩
  rw[cond_true]
  by_cases h0:(lX x.2.1 (Ge x i) false).2=0
  ·rw[aL h0];exact iQ.set hi fO fun h=>⟨IT h h0,O8 h0⟩
  ·rw[aX h0];exact iQ.nodes rfl fO fun h=>h
theorem afy{m:ak}{F:List bJ}{c:cq}{N:Nat}:∀(j k:Nat) (s:List Node×List Bool),s.1.length=N→k+j≤N→jX m s.1→jX m (ot (uN m F c) j k s).1:=by
 intro j
 induction j with
 | zero=>intro k s _ _ h;exact h
 | succ j ih=>
   intro k s hl hk h
   rw[ot]
   refine ih (k+1) _ (xL.1.trans hl) (by omega) ?_
   unfold uN
   cases ((decide ((iI s.1 (k:Int)).2.1=0)&&kU F 2 (k:Int) c)||(!(decide ((iI s.1 (k:Int)).2.1=0))&&(!(jJ (iI s.1 (k:Int)))&&kU F 1 (k:Int) c)))
   ·exact h
   ·rw[cond_true]
    by_cases h0:(lX m (iI s.1 (k:Int)) (decide ((iI s.1 (k:Int)).2.1=0))).2=0
    ·rw[aL h0,cond_true]
     obtain⟨a,b⟩:=x8 h (i:=(k:Int)) ⟨by omega,by omega⟩
     exact JQ h (by omega) ⟨IT a h0,(O8 h0).trans b⟩
    ·rw[aX h0];exact h
theorem J3{m:ak}{F:List bJ}{c:cq}:∀(j k:Nat) (s:List Node×List Bool),(ot (uN m F c) j k s).1.length=s.1.length∧(ot (uN m F c) j k s).2.length=s.2.length:=by
 intro j
 induction j with
 | zero=>intro k s;exact⟨rfl,rfl⟩
 | succ j ih=>
   intro k s
   rw[ot]
   obtain⟨a,b⟩:=ih (k+1) (uN m F c (k:Int) s)
   exact⟨a.trans xL.1,b.trans xL.2⟩
theorem QG{x:bd}{w:df}:iQ 0 x (yL x w).1∧lI w (yL x w).2:=by
 unfold yL
 cases K_ x.2.2.2.1 w.1 x.2.2.2.1.length 0 with
 | none=>exact⟨.refl,rfl,rfl,rfl,rfl⟩
 | some k=>exact⟨iQ.nodes (J3 _ _ _).1 (J3 _ _ _).2 fun h=>afy _ _ _ rfl (by simp only;omega) h,rfl,rfl,rfl,rfl⟩
theorem Jr{x:bd}{i:Int}(hi:0≤i∧i<(x.2.2.2.1.length:Int)):jq (fun r=>iQ 0 x r.1) (H8 ah x i):=by
 unfold H8 Fb B7 Bo
 intro _
 refine⟨fun _ _=>iQ.nodes rfl fO fun h=>h,fun _=>?_⟩
 intro _ _ _ _ _ _
 refine⟨fun _=>.refl,fun h _=>?_⟩
 have h0:(Mp x.2.1 (iI x.2.2.2.1 i)).2.2.2=0:=by
  have:ah.c .neq (Mp x.2.1 (iI x.2.2.2.1 i)).2.2.2 0=false:=h
  rw[aQ] at this
  exact Decidable.not_not.1 (of_decide_eq_false this)
 exact iQ.set hi rfl fun h=>⟨YT h h0,aay h0⟩
theorem Sq{x:bd}{w:df}{i:Int}(h541:iQ 0 x (dx (x,i)).1):jq (fun r=>iQ 0 x r.1.1∧lI w r.1.2) (Im ah x w i):=by
 have hA:∀a b:Seen,iQ 0 x x∧lI w (w.1,w.2.1,w.2.2.1,w.2.2.2.1, [a,b]):=fun _ _=>⟨.refl,rfl,rfl,rfl,rfl⟩
 have hB:∀a b:Seen,iQ 0 x (dx (x,i)).1∧lI w (w.1,w.2.1,w.2.2.1,w.2.2.2.1, [a,b]):=fun _ _=>⟨h541,rfl,rfl,rfl,rfl⟩
 unfold Im FK Fu BA A9
 simp only[jq]
 repeat' first|exact hA _ _|exact hB _ _|apply And.intro|intro _
theorem SY{x:bd}{w:df}{i:Int}(hi:0≤i∧i<(x.2.2.2.1.length:Int)):jq (fun r=>iQ 0 x r.1.1∧lI w r.1.2) (Hw ah x w i):=by
 have hA:∀a b:Seen,iQ 0 x x∧lI w (w.1,w.2.1,w.2.2.1,w.2.2.2.1, [a,b]):=fun _ _=>⟨.refl,rfl,rfl,rfl,rfl⟩
 unfold Hw BN o_ uJ
 intro _ _ _ _
 refine⟨fun _=>hA _ _,fun h1=>?_⟩
 have e1:(vB x.2.1 (iI x.2.2.2.1 i) [(ah.n aF w.2.2.2.2 0:Seen),(ah.n aF w.2.2.2.2 1:Seen)] true).2.2.2=0:=by
  have:ah.c .neq (vB x.2.1 (iI x.2.2.2.1 i) [(ah.n aF w.2.2.2.2 0:Seen),(ah.n aF w.2.2.2.2 1:Seen)] true).2.2.2 0=false:=h1
  rw[aQ] at this
  exact Decidable.not_not.1 (of_decide_eq_false this)
 refine⟨fun _=>?_,fun _=>?_⟩
 ·intro _ _ _
  refine⟨fun _=>hA _ _,fun h2=>?_⟩
  intro _ _ _
  have e2:(yY x.2.1 (vB x.2.1 (iI x.2.2.2.1 i) [(ah.n aF w.2.2.2.2 0:Seen),(ah.n aF w.2.2.2.2 1:Seen)] true).1).2.2.2=0:=by
   have:ah.c .neq (yY x.2.1 (vB x.2.1 (iI x.2.2.2.1 i) [(ah.n aF w.2.2.2.2 0:Seen),(ah.n aF w.2.2.2.2 1:Seen)] true).1).2.2.2 0=false:=h2
   rw[aQ] at this
   exact Decidable.not_not.1 (of_decide_eq_false this)
  exact⟨iQ.set hi fO fun h=>⟨Ug (Iw h e1) e2,(XW e2).trans (Qi e1)⟩,rfl,rfl,rfl,fO⟩
 ·intro _
  exact⟨iQ.set hi rfl fun h=>⟨Iw h e1,Qi e1⟩,rfl,rfl,rfl,rfl⟩
theorem eq0{a:Int}(h:ah.c .eql a 0=true):a=0:=by rw[aM] at h;exact of_decide_eq_true h
theorem ne0{a:Int}(h:ah.c .neq a 0=false):a=0:=by rw[aQ] at h;exact Decidable.not_not.1 (of_decide_eq_false h)
theorem UB{x:bd}{w:df}{i:Int}(hi:0≤i∧i<(x.2.2.2.1.length:Int))(h543:iQ 0 x (lb ((x,oX w),i)).1.1∧lI w (lb ((x,oX w),i)).1.2):jq (fun r=>iQ 0 x r.1.1∧lI w r.1.2) (Ii ah x w i):=by
 have hA:∀a b:Seen,iQ 0 x x∧lI w (w.1,w.2.1,w.2.2.1,w.2.2.2.1, [a,b]):=fun _ _=>⟨.refl,rfl,rfl,rfl,rfl⟩
 have hC:∀a b:Seen,iQ 0 x (lb ((x,oX w),i)).1.1∧lI w ((lb ((x,oX w),i)).1.2.1,(lb ((x,oX w),i)).1.2.2.1,(lb ((x,oX w),i)).1.2.2.2.1,(lb ((x,oX w),i)).1.2.2.2.2.1, [a,b]):=fun _ _=>⟨h543.1,h543.2.was,h543.2.aW,h543.2.off,h543.2.later⟩
 have hB:∀(seen:List Seen) (a b:Seen),ah.c .eql (yp x.2.1 (iI x.2.2.2.1 i) seen).2.2 0=true→iQ 0 x (x.1,x.2.1,x.2.2.1,ah.set x.2.2.2.1 i (yp x.2.1 (iI x.2.2.2.1 i) seen).1,x.2.2.2.2.1,x.2.2.2.2.2)∧lI w (w.1,w.2.1,w.2.2.1,w.2.2.2.1, [a,b]):=fun seen _ _ h=>
  ⟨iQ.set hi rfl fun k=>⟨Ur k (eq0 h),Yt (eq0 h)⟩,rfl,rfl,rfl,rfl⟩
 unfold Ii Ff B6 nW wh j3
 simp only[jq]
 repeat' first|exact hA _ _|exact hC _ _|exact hB _ _ _ (by assumption)|apply And.intro|intro _
theorem TL{x:bd}{w:df}{i:Int}(hi:0≤i∧i<(x.2.2.2.1.length:Int)):jq (fun r=>iQ 1 x r.1.1∧lI w r.1.2) (Gu ah x w i):=by
 have hA:∀a b:Seen,iQ 1 x x∧lI w (w.1,w.2.1,w.2.2.1,w.2.2.2.1, [a,b]):=fun _ _=>⟨.refl,rfl,rfl,rfl,rfl⟩
 unfold Gu Ej BE FW pX
 intro _
 refine⟨fun _=>hA _ _,fun _=>?_⟩
 intro _ _
 refine⟨fun _=>hA _ _,fun _=>?_⟩
 intro _ _ _ _
 refine⟨fun _=>hA _ _,fun h1=>?_⟩
 have e1:(AI x.2.1 (iI x.2.2.2.1 i)).2=0:=ne0 h1
 have key:=iQ.set (k:=1) hi (c:=x.2.2.2.2.1) rfl fun h=>⟨Cf h e1,Zr e1⟩
 intro _
 refine⟨fun _=>?_,fun _=>⟨key,rfl,rfl,rfl,rfl⟩⟩
 intro _ _
 exact⟨⟨rfl,rfl,rfl,key.len,rfl,rfl,by show(_ ++ [_]).length≤_;rw[fY];exact Nat.le_refl _,key.Ht,fun hn hg s hs=>(ko.1 hs).elim (hg s) fun k=>by rw[List.mem_singleton.1 k];exact Cf (x8 hn hi).1 e1⟩,rfl,rfl,rfl,rfl⟩
def s9{R Y:Type}:LT R Y→Prop
 | .ret _=>True
 | .more _=>False
 | .br b t e=>(b=true→s9 t)∧(b=false→s9 e)
 | .need b t=>b=true∧s9 t
 | .eqs _ t=>s9 t
 | .and _ _=>False
 | .bad _ _=>False
theorem il{R Y:Type}:∀{t:LT R Y},s9 t→t.pre=true
 | .ret _,_=>rfl
 | .more _,h=>h.elim
 | .br b t e,h=>by
   cases b with
   | true=>exact il (t:=t) (h.1 rfl)
   | false=>exact il (t:=e) (h.2 rfl)
 | .need b t,h=>by rw[LT.pre,h.1,il (t:=t) h.2];rfl
 | .eqs _ t,h=>il (t:=t) h
 | .and _ _,h=>h.elim
 | .bad _ _,h=>h.elim
theorem CH{x:bd}{i:Int}(hi:0≤i∧i<(x.2.2.2.1.length:Int))(hc:x.2.2.2.2.1.length=x.2.2.2.1.length):(H8 ah x i).pre=true:=by
 have i1:=dK (l:=x.2.2.2.1) hi
 have i3:=dK (l:=x.2.2.2.2.1) (i:=i) (by omega)
 refine il ?_
 unfold H8 Fb B7 Bo
 simp only[s9]
 repeat' first|exact i1|exact i3|exact trivial|rfl|apply And.intro|intro _
theorem IQ{x:bd}{w:df}{i:Int}(h:FC x w)(hi:0≤i∧i<(x.2.2.2.1.length:Int)):(Im ah x w i).pre=true:=by
 obtain⟨z1,z2,z3,z4,z5,z6,z7,z8,z9⟩:=h
 have i1:=dK (l:=w.1) (i:=i) (by omega)
 have i2:=dK (l:=w.2.2.1) (i:=i) (by omega)
 have h541:ah.k Ic (x,i)=true:=CH hi z1
 have hs:(dx (x,i)).1.2.2.1=x.2.2.1:=(fe (CH hi z1) (Jr hi)).s
 have f1:∀(k n:Int) (c:cq),ah.k kJ (((),(dx (x,i)).1.2.2.1.2.2.2.2.2.2.2,()),k,n,c)=true:=fun k n c=>uo (by rw[hs];exact z6)
 have f2:∀(k:Int) (c:cq),ah.k vG (((),(dx (x,i)).1.2.2.1.2.2.2.2.2.2.2,()),k,c)=true:=fun k c=>RR (by rw[hs];exact z6)
 refine il ?_
 unfold Im FK Fu BA A9
 simp only[s9]
 repeat' first|exact i1|exact i2|exact h541|exact f1 _ _ _|exact f2 _ _|exact trivial|rfl|apply And.intro|intro _
theorem JR{x:bd}{w:df}{i:Int}(h:FC x w)(hi:0≤i∧i<(x.2.2.2.1.length:Int)):(Hw ah x w i).pre=true:=by
 obtain⟨z1,z2,z3,z4,z5,z6,z7,z8,z9⟩:=h
 have i1:=dK (l:=x.2.2.2.1) hi
 have i2:=dK (l:=w.2.2.2.1) (i:=i) (by omega)
 have i3:=dK (l:=x.2.2.2.2.1) (i:=i) (by omega)
 refine il ?_
 unfold Hw BN o_ uJ
 simp only[s9]
 repeat' first|exact i1|exact i2|exact i3|exact trivial|rfl|apply And.intro|intro _
theorem JY{x:bd}{w:df}{i:Int}(h:FC x w)(hi:0≤i∧i<(x.2.2.2.1.length:Int)):(Ii ah x w i).pre=true:=by
 have h543:ah.k Gw ((x,oX w),i)=true:=JR (w:=oX w) h hi
 obtain⟨z1,z2,z3,z4,z5,z6,z7,z8,z9⟩:=h
 have i1:=dK (l:=x.2.2.2.1) hi
 have i2:=dK (l:=w.1) (i:=i) (by omega)
 have i3:=dK (l:=w.2.1) (i:=i) (by omega)
 have f1:∀(k n:Int) (c:cq),ah.k kJ (((),x.2.2.1.2.2.2.2.2.2.2,()),k,n,c)=true:=fun k n c=>uo z6
 refine il ?_
 unfold Ii Ff B6 nW wh j3
 simp only[s9]
 repeat' first|exact i1|exact i2|exact i3|exact h543|exact f1 _ _ _|exact trivial|rfl|apply And.intro|intro _
theorem Ee{m:ak}{n:Node}(h:bf m n=0):yZ n=true:=by
 obtain⟨hm,hn⟩:=aZ h
 have h1:=(bT.1 hn).2.2.2.2.2.1
 have h2:=(cX hm).1
 exact aL (by omega)
theorem Jf{x:bd}{w:df}{i:Int}(h:FC x w)(hi:0≤i∧i<(x.2.2.2.1.length:Int))(hn:jX x.2.1 x.2.2.2.1):(Gu ah x w i).pre=true:=by
 obtain⟨z1,z2,z3,z4,z5,z6,z7,z8,z9⟩:=h
 have i1:=dK (l:=x.2.2.2.1) hi
 have i2:=dK (l:=w.2.2.2.1) (i:=i) (by omega)
 refine il ?_
 unfold Gu Ej BE FW pX
 refine⟨i2,fun _=>trivial,fun _=>⟨i1,rfl,fun _=>trivial,fun _=>⟨i1,rfl,rfl,i1,fun _=>trivial,fun h1=>⟨i1,fun _=>⟨?_,?_,trivial⟩,fun _=>trivial⟩⟩⟩⟩
 ·exact Ee (Cf (x8 hn hi).1 (ne0 h1))
 ·rw[ap,bK,iA,fY]
  exact aL (by simp only[List.length_cons,List.length_nil];omega)
theorem ag9{x:bd}{i:Int}(hi:0≤i∧i<(x.2.2.2.1.length:Int))(hc:x.2.2.2.2.1.length=x.2.2.2.1.length):iQ 0 x (dx (x,i)).1:=fe (CH hi hc) (Jr hi)
theorem agn{x:bd}{w:df}{i:Int}(h:FC x w)(hi:0≤i∧i<(x.2.2.2.1.length:Int)):iQ 0 x (Fe ((x,w),i)).1.1∧lI w (Fe ((x,w),i)).1.2:=fe (IQ h hi) (Sq (ag9 hi h.1))
theorem agA{x:bd}{w:df}{i:Int}(h:FC x w)(hi:0≤i∧i<(x.2.2.2.1.length:Int)):iQ 0 x (lb ((x,w),i)).1.1∧lI w (lb ((x,w),i)).1.2:=fe (JR h hi) (SY hi)
theorem ahJ{x:bd}{w:df}{i:Int}(h:FC x w)(hi:0≤i∧i<(x.2.2.2.1.length:Int)):iQ 0 x (BJ ((x,w),i)).1.1∧lI w (BJ ((x,w),i)).1.2:=fe (JY h hi) (UB hi ((agA (w:=oX w) h hi).imp id fun k=>⟨k.was,k.aW,k.off,k.later⟩))
theorem ahC{x:bd}{w:df}{i:Int}(h:FC x w)(hi:0≤i∧i<(x.2.2.2.1.length:Int))(hn:jX x.2.1 x.2.2.2.1):iQ 1 x (Gc ((x,w),i)).1.1∧lI w (Gc ((x,w),i)).1.2:=fe (Jf h hi hn) (TL hi)
structure ZB where
 (a0:Int)
structure Zg where
 (b0:Int)
structure sP where
 (c0:Int) (c2:Bool) (c3:ak) (c4:gG) (c5 c6 c7 c8:Int) (c9:List Int) (c10 c11 c12:Int) (c13:List Int) (c14:List Node) (xR:List Bool) (c16:List iT) (LD:List Node) (LB c19 c20:List Bool)
structure ZV where
 (d0:Int)
structure Yz where
 (e0:Int)
inductive xb where
 | c0 (p:ZB) (a1:Int) (a2:Bool) (a3:ak) (a4:gG) (a5:Int) (a6:Int) (a7:Int) (a8:Int) (a9:List Int) (cN:Int) (dF:Int) (a12:Int) (kx:List Int) (jh:List Node) (lk:List Bool) (a16:List iT) (a17:List Node) (ll:List Bool) (lJ:List Bool) (a20:List Bool)
 | c1 (p:Zg) (b1:Int) (b2:Bool) (b3:ak) (b4:gG) (b5:Int) (b6:Int) (b7:Int) (b8:Int) (b9:List Int) (b10:Int) (b11:Int) (b12:Int) (b13:List Int) (gY:List Node) (eQ:List Bool) (bL:List iT) (gK:List Node) (mK:List Bool) (jV:List Bool) (mr:List Bool)
 | c2 (p:sP)
 | c3 (p:ZV) (d1:Int) (d2:Bool) (d3:ak) (d4:gG) (d5:Int) (d6:Int) (d7:Int) (d8:Int) (d9:List Int) (lH:Int) (lG:Int) (d12:Int) (d13:List Int) (d14:List Node) (g_:List Bool) (jm:List iT) (d17:List Node) (d18:List Bool) (d19:List Bool) (d20:List Bool)
 | c4 (p:Yz) (e1:Int) (e2:Bool) (e3:ak) (e4:gG) (e5:Int) (e6:Int) (e7:Int) (e8:Int) (e9:List Int) (e10:Int) (e11:Int) (e12:Int) (e13:List Int) (e14:List Node) (e15:List Bool) (e16:List iT) (e17:List Node) (e18:List Bool) (e19:List Bool) (e20:List Bool)
noncomputable def ZT:xb→eT
 | .c0 p a1 a2 a3 a4 a5 a6 a7 a8 a9 cN dF a12 kx jh lk a16 a17 ll lJ a20=>⟨[⟨58,78,(en [(0,.ptr 0 0),(2,.ptr 1 0),(4,.fn 115 [.ptr 0 0] []),(37,.agg [.fn 115 [.ptr 0 0] [],.fn 116 [.ptr 0 0] [],.fn 117 [.ptr 0 0] []]),(38,.int .i64 true 0),(45,vi p.a0),(46,vi a1)]),[.inLoop (cw Tryz.f58 [1,0,1,0,0,1,1,0,0,1,1,0,0]),.inBlock 2,.inBlock 1,.code (cw Tryz.f58 [1,0,1,0,0,1,1,1]),.inLoop (cw Tryz.f58 [1,0,1,0,0]),.inBlock 0,.code (cw Tryz.f58 [1,1])],[],none⟩],[.flat false ([vb a2]++dc aN a3++dc fV a4 ++ [.own 2,.own 3,vi a5,.own 4]),.flat false [.own 5,.own 6,.own 7,.own 8,vi a6,vi a7,vi a8,.sl yU a9,vi cN,vi dF,vi a12,.sl yU kx],.arr false aC jh,.arr false .bool lk,.arr false d_ a16,.arr false aC a17,.arr false .bool ll,.arr false .bool lJ,.arr false .bool a20,.dead]⟩
 | .c1 p b1 b2 b3 b4 b5 b6 b7 b8 b9 b10 b11 b12 b13 gY eQ bL gK mK jV mr=>⟨[⟨58,78,(en [(0,.ptr 0 0),(2,.ptr 1 0),(4,.fn 116 [.ptr 0 0] []),(37,.agg [.fn 115 [.ptr 0 0] [],.fn 116 [.ptr 0 0] [],.fn 117 [.ptr 0 0] []]),(38,.int .i64 true 1),(45,vi p.b0),(46,vi b1)]),[.inLoop (cw Tryz.f58 [1,0,1,0,0,1,1,0,0,1,1,0,0]),.inBlock 2,.inBlock 1,.code (cw Tryz.f58 [1,0,1,0,0,1,1,1]),.inLoop (cw Tryz.f58 [1,0,1,0,0]),.inBlock 0,.code (cw Tryz.f58 [1,1])],[],none⟩],[.flat false ([vb b2]++dc aN b3++dc fV b4 ++ [.own 2,.own 3,vi b5,.own 4]),.flat false [.own 5,.own 6,.own 7,.own 8,vi b6,vi b7,vi b8,.sl yU b9,vi b10,vi b11,vi b12,.sl yU b13],.arr false aC gY,.arr false .bool eQ,.arr false d_ bL,.arr false aC gK,.arr false .bool mK,.arr false .bool jV,.arr false .bool mr,.dead]⟩
 | .c2 p=>⟨[⟨58,78,(en [(0,.ptr 0 0),(2,.ptr 1 0),(4,.fn 117 [.ptr 0 0] []),(37,.agg [.fn 115 [.ptr 0 0] [],.fn 116 [.ptr 0 0] [],.fn 117 [.ptr 0 0] []]),(38,.int .i64 true 2),(45,vi p.c0),(46,vi 0)]),[.inLoop (cw Tryz.f58 [1,0,1,0,0,1,1,0,0,1,1,0,0]),.inBlock 2,.inBlock 1,.code (cw Tryz.f58 [1,0,1,0,0,1,1,1]),.inLoop (cw Tryz.f58 [1,0,1,0,0]),.inBlock 0,.code (cw Tryz.f58 [1,1])],[],none⟩],[.flat false ([vb p.c2]++dc aN p.c3++dc fV p.c4 ++ [.own 2,.own 3,vi p.c5,.own 4]),.flat false [.own 5,.own 6,.own 7,.own 8,vi p.c6,vi p.c7,vi p.c8,.sl yU p.c9,vi p.c10,vi p.c11,vi p.c12,.sl yU p.c13],.arr false aC p.c14,.arr false .bool p.xR,.arr false d_ p.c16,.arr false aC p.LD,.arr false .bool p.LB,.arr false .bool p.c19,.arr false .bool p.c20,.dead]⟩
 | .c3 p d1 d2 d3 d4 d5 d6 d7 d8 d9 lH lG d12 d13 d14 g_ jm d17 d18 d19 d20=>⟨[⟨58,78,(en [(0,.ptr 0 0),(2,.ptr 1 0),(4,.fn 117 [.ptr 0 0] []),(37,.agg [.fn 115 [.ptr 0 0] [],.fn 116 [.ptr 0 0] [],.fn 117 [.ptr 0 0] []]),(38,.int .i64 true 2),(45,vi p.d0),(46,vi d1)]),[.inLoop (cw Tryz.f58 [1,0,1,0,0,1,1,0,0,1,1,0,0]),.inBlock 2,.inBlock 1,.code (cw Tryz.f58 [1,0,1,0,0,1,1,1]),.inLoop (cw Tryz.f58 [1,0,1,0,0]),.inBlock 0,.code (cw Tryz.f58 [1,1])],[],none⟩],[.flat false ([vb d2]++dc aN d3++dc fV d4 ++ [.own 2,.own 3,vi d5,.own 4]),.flat true [.own 5,.own 6,.own 7,.own 8,vi d6,vi d7,vi d8,.sl yU d9,vi lH,vi lG,vi d12,.sl yU d13],.arr false aC d14,.arr false .bool g_,.arr false d_ jm,.arr false aC d17,.arr false .bool d18,.arr false .bool d19,.arr false .bool d20,.dead]⟩
 | .c4 p e1 e2 e3 e4 e5 e6 e7 e8 e9 e10 e11 e12 e13 e14 e15 e16 e17 e18 e19 e20=>⟨[⟨58,78,(en [(0,.ptr 0 0),(2,.ptr 1 0),(62,vi p.e0),(63,vi e1)]),[.inLoop (cw Tryz.f58 [1,1,1,0,1,0,0]),.inBlock 4,.code (cw Tryz.f58 [1,1,1,1])],[],none⟩],[.flat false ([vb e2]++dc aN e3++dc fV e4 ++ [.own 2,.own 3,vi e5,.own 4]),.flat true [.own 5,.own 6,.own 7,.own 8,vi e6,vi e7,vi e8,.sl yU e9,vi e10,vi e11,vi e12,.sl yU e13],.arr false aC e14,.arr false .bool e15,.arr false d_ e16,.arr false aC e17,.arr false .bool e18,.arr false .bool e19,.arr false .bool e20,.dead]⟩
abbrev wS(A:aI)(x2:bd):LT (bd×Unit) xb:=(.more (.c0 ⟨(A.l x2.2.2.2.1)⟩ 0 x2.1 x2.2.1 x2.2.2.1 x2.2.2.2.2.2.1 0 0 0 ([]:List Int) 0 0 0 ([]:List Int) x2.2.2.2.1 x2.2.2.2.2.1 x2.2.2.2.2.2.2 x2.2.2.2.1 x2.2.2.2.2.1 (A.r (A.l x2.2.2.2.1) false) (A.r (A.l x2.2.2.2.1) false)))
abbrev pu(A:aI)(x2:bd):=(A.and (A.c .eql (A.l x2.2.2.2.1) (A.l x2.2.2.2.1)) (A.and (A.c .leq 0 (A.l x2.2.2.2.1)) (A.c .leq (A.l x2.2.2.2.1) 140737488355328)))
abbrev NP(A:aI)(x2:bd):LT (bd×Unit) xb:=(.need (pu A x2) (.and (.need (A.c .neq (A.l x2.2.2.2.1) 0) (.need (A.not (A.c .eql (A.l x2.2.2.2.1) 0)) (.need (A.c .leq (A.l x2.2.2.2.1) 676622540169) (.and (.need (A.c .neq (A.l x2.2.2.2.2.1) 0) (.need (A.not (A.c .eql (A.l x2.2.2.2.2.1) 0)) (.need (A.c .leq (A.l x2.2.2.2.2.1) 140737488355328) (.need (pu A x2) (wS A x2))))) (.need (pu A x2) (.need (A.c .neq (A.l x2.2.2.2.2.1) 0) (.need (A.not (A.c .eql (A.l x2.2.2.2.2.1) 0)) (.need (A.c .leq (A.l x2.2.2.2.2.1) 140737488355328) (wS A x2))))))))) (.need (pu A x2) (.need (A.c .neq (A.l x2.2.2.2.1) 0) (.need (A.not (A.c .eql (A.l x2.2.2.2.1) 0)) (.need (A.c .leq (A.l x2.2.2.2.1) 676622540169) (.need (A.c .neq (A.l x2.2.2.2.2.1) 0) (.need (A.not (A.c .eql (A.l x2.2.2.2.2.1) 0)) (.need (A.c .leq (A.l x2.2.2.2.2.1) 140737488355328) (wS A x2))))))))))
abbrev Qh(A:aI)(x2:bd):LT (bd×Unit) xb:=(.need (pu A x2) (.and (.need (A.c .neq (A.l x2.2.2.2.2.1) 0) (.need (A.not (A.c .eql (A.l x2.2.2.2.2.1) 0)) (.need (A.c .leq (A.l x2.2.2.2.2.1) 140737488355328) (.need (pu A x2) (wS A x2))))) (.need (pu A x2) (.need (A.c .neq (A.l x2.2.2.2.2.1) 0) (.need (A.not (A.c .eql (A.l x2.2.2.2.2.1) 0)) (.need (A.c .leq (A.l x2.2.2.2.2.1) 140737488355328) (wS A x2)))))))
def Yu(A:aI)(x2:bd):LT (bd×Unit) xb:=.and (.need (A.c .neq (A.l x2.2.2.2.1) 0) (.need (A.not (A.c .eql (A.l x2.2.2.2.1) 0)) (.need (A.c .leq (A.l x2.2.2.2.1) 676622540169) (.and (.need (A.c .neq (A.l x2.2.2.2.2.1) 0) (.need (A.not (A.c .eql (A.l x2.2.2.2.2.1) 0)) (.need (A.c .leq (A.l x2.2.2.2.2.1) 140737488355328) (.and (.need (pu A x2) (.need (pu A x2) (wS A x2))) (.need (pu A x2) (.need (pu A x2) (wS A x2))))))) (.and (Qh A x2) (Qh A x2)))))) (.and (NP A x2) (NP A x2))
abbrev eG(A:aI)(a1:Int)(a2:Bool)(a3:ak)(a4:gG)(a5:Int)(a6:Int)(a7:Int)(a8:Int)(a9:List Int)(cN:Int)(dF:Int)(a12:Int)(kx:List Int)(jh:List Node)(lk:List Bool)(a16:List iT)(a17:List Node)(ll:List Bool)(lJ:List Bool)(a20:List Bool):=(A.k MX (((a2,a3,a4,jh,lk,a5,a16),a17,ll,lJ,a20,([(a6,a7,a8,a9),(cN,dF,a12,kx)]:List Seen)),a1))
abbrev eF(A:aI)(b1:Int)(b2:Bool)(b3:ak)(b4:gG)(b5:Int)(b6:Int)(b7:Int)(b8:Int)(b9:List Int)(b10:Int)(b11:Int)(b12:Int)(b13:List Int)(gY:List Node)(eQ:List Bool)(bL:List iT)(gK:List Node)(mK:List Bool)(jV:List Bool)(mr:List Bool):=(A.k Fe (((b2,b3,b4,gY,eQ,b5,bL),gK,mK,jV,mr,([(b6,b7,b8,b9),(b10,b11,b12,b13)]:List Seen)),b1))
abbrev gM(A:aI)(p:sP):=(A.k JE (((p.c2,p.c3,p.c4,p.c14,p.xR,p.c5,p.c16),p.LD,p.LB,p.c19,p.c20,([(p.c6,p.c7,p.c8,p.c9),(p.c10,p.c11,p.c12,p.c13)]:List Seen)),()))
abbrev ik(A:aI)(p:sP):=(A.k BJ (((p.c2,p.c3,p.c4,p.c14,p.xR,p.c5,p.c16),p.LD,p.LB,p.c19,p.c20,([(p.c6,p.c7,p.c8,p.c9),(p.c10,p.c11,p.c12,p.c13)]:List Seen)),0))
abbrev xC(A:aI)(p:sP):=(A.n aF (ik A p).1.2.2.2.2.2 0:Seen)
abbrev xH(A:aI)(p:sP):=(A.n aF (ik A p).1.2.2.2.2.2 1:Seen)
abbrev xt(A:aI)(p:sP):=(A.n aF (gM A p).1.2.2.2.2.2 0:Seen)
abbrev xN(A:aI)(p:sP):=(A.n aF (gM A p).1.2.2.2.2.2 1:Seen)
abbrev dU(A:aI)(d2:Bool)(d3:ak)(d4:gG)(d5:Int)(d6:Int)(d7:Int)(d8:Int)(d9:List Int)(lH:Int)(lG:Int)(d12:Int)(d13:List Int)(d14:List Node)(g_:List Bool)(jm:List iT)(d17:List Node)(d18:List Bool)(d19:List Bool)(d20:List Bool):=(A.k JE (((d2,d3,d4,d14,g_,d5,jm),d17,d18,d19,d20,([(d6,d7,d8,d9),(lH,lG,d12,d13)]:List Seen)),()))
abbrev eO(A:aI)(d1:Int)(d2:Bool)(d3:ak)(d4:gG)(d5:Int)(d6:Int)(d7:Int)(d8:Int)(d9:List Int)(lH:Int)(lG:Int)(d12:Int)(d13:List Int)(d14:List Node)(g_:List Bool)(jm:List iT)(d17:List Node)(d18:List Bool)(d19:List Bool)(d20:List Bool):=(A.k BJ (((d2,d3,d4,d14,g_,d5,jm),d17,d18,d19,d20,([(d6,d7,d8,d9),(lH,lG,d12,d13)]:List Seen)),d1))
abbrev eH(A:aI)(e1:Int)(e2:Bool)(e3:ak)(e4:gG)(e5:Int)(e6:Int)(e7:Int)(e8:Int)(e9:List Int)(e10:Int)(e11:Int)(e12:Int)(e13:List Int)(e14:List Node)(e15:List Bool)(e16:List iT)(e17:List Node)(e18:List Bool)(e19:List Bool)(e20:List Bool):=(A.k Gc (((e2,e3,e4,e14,e15,e5,e16),e17,e18,e19,e20,([(e6,e7,e8,e9),(e10,e11,e12,e13)]:List Seen)),e1))
def sO(A:aI):xb→LT (bd×Unit) xb
 | .c0 p a1 a2 a3 a4 a5 a6 a7 a8 a9 cN dF a12 kx jh lk a16 a17 ll lJ a20=>.br (A.c .lss a1 p.a0) (.need (A.k Cj (((a2,a3,a4,jh,lk,a5,a16),a17,ll,lJ,a20,([(a6,a7,a8,a9),(cN,dF,a12,kx)]:List Seen)),a1)) (.more (.c0 p (A.b .add .i64 a1 1) (eG A a1 a2 a3 a4 a5 a6 a7 a8 a9 cN dF a12 kx jh lk a16 a17 ll lJ a20).1.1.1 (eG A a1 a2 a3 a4 a5 a6 a7 a8 a9 cN dF a12 kx jh lk a16 a17 ll lJ a20).1.1.2.1 (eG A a1 a2 a3 a4 a5 a6 a7 a8 a9 cN dF a12 kx jh lk a16 a17 ll lJ a20).1.1.2.2.1 (eG A a1 a2 a3 a4 a5 a6 a7 a8 a9 cN dF a12 kx jh lk a16 a17 ll lJ a20).1.1.2.2.2.2.2.1 (A.n aF (eG A a1 a2 a3 a4 a5 a6 a7 a8 a9 cN dF a12 kx jh lk a16 a17 ll lJ a20).1.2.2.2.2.2 0:Seen).1 (A.n aF (eG A a1 a2 a3 a4 a5 a6 a7 a8 a9 cN dF a12 kx jh lk a16 a17 ll lJ a20).1.2.2.2.2.2 0:Seen).2.1 (A.n aF (eG A a1 a2 a3 a4 a5 a6 a7 a8 a9 cN dF a12 kx jh lk a16 a17 ll lJ a20).1.2.2.2.2.2 0:Seen).2.2.1 (A.n aF (eG A a1 a2 a3 a4 a5 a6 a7 a8 a9 cN dF a12 kx jh lk a16 a17 ll lJ a20).1.2.2.2.2.2 0:Seen).2.2.2 (A.n aF (eG A a1 a2 a3 a4 a5 a6 a7 a8 a9 cN dF a12 kx jh lk a16 a17 ll lJ a20).1.2.2.2.2.2 1:Seen).1 (A.n aF (eG A a1 a2 a3 a4 a5 a6 a7 a8 a9 cN dF a12 kx jh lk a16 a17 ll lJ a20).1.2.2.2.2.2 1:Seen).2.1 (A.n aF (eG A a1 a2 a3 a4 a5 a6 a7 a8 a9 cN dF a12 kx jh lk a16 a17 ll lJ a20).1.2.2.2.2.2 1:Seen).2.2.1 (A.n aF (eG A a1 a2 a3 a4 a5 a6 a7 a8 a9 cN dF a12 kx jh lk a16 a17 ll lJ a20).1.2.2.2.2.2 1:Seen).2.2.2 (eG A a1 a2 a3 a4 a5 a6 a7 a8 a9 cN dF a12 kx jh lk a16 a17 ll lJ a20).1.1.2.2.2.1 (eG A a1 a2 a3 a4 a5 a6 a7 a8 a9 cN dF a12 kx jh lk a16 a17 ll lJ a20).1.1.2.2.2.2.1 (eG A a1 a2 a3 a4 a5 a6 a7 a8 a9 cN dF a12 kx jh lk a16 a17 ll lJ a20).1.1.2.2.2.2.2.2 (eG A a1 a2 a3 a4 a5 a6 a7 a8 a9 cN dF a12 kx jh lk a16 a17 ll lJ a20).1.2.1 (eG A a1 a2 a3 a4 a5 a6 a7 a8 a9 cN dF a12 kx jh lk a16 a17 ll lJ a20).1.2.2.1 (eG A a1 a2 a3 a4 a5 a6 a7 a8 a9 cN dF a12 kx jh lk a16 a17 ll lJ a20).1.2.2.2.1 (eG A a1 a2 a3 a4 a5 a6 a7 a8 a9 cN dF a12 kx jh lk a16 a17 ll lJ a20).1.2.2.2.2.1))) (.more (.c1 ⟨(A.l jh)⟩ 0 a2 a3 a4 a5 a6 a7 a8 a9 cN dF a12 kx jh lk a16 a17 ll lJ a20))
 | .c1 p b1 b2 b3 b4 b5 b6 b7 b8 b9 b10 b11 b12 b13 gY eQ bL gK mK jV mr=>.br (A.c .lss b1 p.b0) (.need (A.k Ck (((b2,b3,b4,gY,eQ,b5,bL),gK,mK,jV,mr,([(b6,b7,b8,b9),(b10,b11,b12,b13)]:List Seen)),b1)) (.more (.c1 p (A.b .add .i64 b1 1) (eF A b1 b2 b3 b4 b5 b6 b7 b8 b9 b10 b11 b12 b13 gY eQ bL gK mK jV mr).1.1.1 (eF A b1 b2 b3 b4 b5 b6 b7 b8 b9 b10 b11 b12 b13 gY eQ bL gK mK jV mr).1.1.2.1 (eF A b1 b2 b3 b4 b5 b6 b7 b8 b9 b10 b11 b12 b13 gY eQ bL gK mK jV mr).1.1.2.2.1 (eF A b1 b2 b3 b4 b5 b6 b7 b8 b9 b10 b11 b12 b13 gY eQ bL gK mK jV mr).1.1.2.2.2.2.2.1 (A.n aF (eF A b1 b2 b3 b4 b5 b6 b7 b8 b9 b10 b11 b12 b13 gY eQ bL gK mK jV mr).1.2.2.2.2.2 0:Seen).1 (A.n aF (eF A b1 b2 b3 b4 b5 b6 b7 b8 b9 b10 b11 b12 b13 gY eQ bL gK mK jV mr).1.2.2.2.2.2 0:Seen).2.1 (A.n aF (eF A b1 b2 b3 b4 b5 b6 b7 b8 b9 b10 b11 b12 b13 gY eQ bL gK mK jV mr).1.2.2.2.2.2 0:Seen).2.2.1 (A.n aF (eF A b1 b2 b3 b4 b5 b6 b7 b8 b9 b10 b11 b12 b13 gY eQ bL gK mK jV mr).1.2.2.2.2.2 0:Seen).2.2.2 (A.n aF (eF A b1 b2 b3 b4 b5 b6 b7 b8 b9 b10 b11 b12 b13 gY eQ bL gK mK jV mr).1.2.2.2.2.2 1:Seen).1 (A.n aF (eF A b1 b2 b3 b4 b5 b6 b7 b8 b9 b10 b11 b12 b13 gY eQ bL gK mK jV mr).1.2.2.2.2.2 1:Seen).2.1 (A.n aF (eF A b1 b2 b3 b4 b5 b6 b7 b8 b9 b10 b11 b12 b13 gY eQ bL gK mK jV mr).1.2.2.2.2.2 1:Seen).2.2.1 (A.n aF (eF A b1 b2 b3 b4 b5 b6 b7 b8 b9 b10 b11 b12 b13 gY eQ bL gK mK jV mr).1.2.2.2.2.2 1:Seen).2.2.2 (eF A b1 b2 b3 b4 b5 b6 b7 b8 b9 b10 b11 b12 b13 gY eQ bL gK mK jV mr).1.1.2.2.2.1 (eF A b1 b2 b3 b4 b5 b6 b7 b8 b9 b10 b11 b12 b13 gY eQ bL gK mK jV mr).1.1.2.2.2.2.1 (eF A b1 b2 b3 b4 b5 b6 b7 b8 b9 b10 b11 b12 b13 gY eQ bL gK mK jV mr).1.1.2.2.2.2.2.2 (eF A b1 b2 b3 b4 b5 b6 b7 b8 b9 b10 b11 b12 b13 gY eQ bL gK mK jV mr).1.2.1 (eF A b1 b2 b3 b4 b5 b6 b7 b8 b9 b10 b11 b12 b13 gY eQ bL gK mK jV mr).1.2.2.1 (eF A b1 b2 b3 b4 b5 b6 b7 b8 b9 b10 b11 b12 b13 gY eQ bL gK mK jV mr).1.2.2.2.1 (eF A b1 b2 b3 b4 b5 b6 b7 b8 b9 b10 b11 b12 b13 gY eQ bL gK mK jV mr).1.2.2.2.2.1))) (.more (.c2 ⟨(A.l gY),b2,b3,b4,b5,b6,b7,b8,b9,b10,b11,b12,b13,gY,eQ,bL,gK,mK,jV,mr⟩))
 | .c2 p=>.br (A.c .lss 0 p.c0) (.need (A.k u9 (((p.c2,p.c3,p.c4,p.c14,p.xR,p.c5,p.c16),p.LD,p.LB,p.c19,p.c20,([(p.c6,p.c7,p.c8,p.c9),(p.c10,p.c11,p.c12,p.c13)]:List Seen)),0)) (.more (.c3 ⟨p.c0⟩ (A.b .add .i64 0 1) (ik A p).1.1.1 (ik A p).1.1.2.1 (ik A p).1.1.2.2.1 (ik A p).1.1.2.2.2.2.2.1 (xC A p).1 (xC A p).2.1 (xC A p).2.2.1 (xC A p).2.2.2 (xH A p).1 (xH A p).2.1 (xH A p).2.2.1 (xH A p).2.2.2 (ik A p).1.1.2.2.2.1 (ik A p).1.1.2.2.2.2.1 (ik A p).1.1.2.2.2.2.2.2 (ik A p).1.2.1 (ik A p).1.2.2.1 (ik A p).1.2.2.2.1 (ik A p).1.2.2.2.2.1))) (.need (A.k vf (((p.c2,p.c3,p.c4,p.c14,p.xR,p.c5,p.c16),p.LD,p.LB,p.c19,p.c20,([(p.c6,p.c7,p.c8,p.c9),(p.c10,p.c11,p.c12,p.c13)]:List Seen)),())) (.more (.c4 ⟨(A.l (gM A p).1.1.2.2.2.1)⟩ 0 (gM A p).1.1.1 (gM A p).1.1.2.1 (gM A p).1.1.2.2.1 (gM A p).1.1.2.2.2.2.2.1 (xt A p).1 (xt A p).2.1 (xt A p).2.2.1 (xt A p).2.2.2 (xN A p).1 (xN A p).2.1 (xN A p).2.2.1 (xN A p).2.2.2 (gM A p).1.1.2.2.2.1 (gM A p).1.1.2.2.2.2.1 (gM A p).1.1.2.2.2.2.2.2 (gM A p).1.2.1 (gM A p).1.2.2.1 (gM A p).1.2.2.2.1 (gM A p).1.2.2.2.2.1)))
 | .c3 p d1 d2 d3 d4 d5 d6 d7 d8 d9 lH lG d12 d13 d14 g_ jm d17 d18 d19 d20=>.br (A.c .lss d1 p.d0) (.need (A.k u9 (((d2,d3,d4,d14,g_,d5,jm),d17,d18,d19,d20,([(d6,d7,d8,d9),(lH,lG,d12,d13)]:List Seen)),d1)) (.more (.c3 p (A.b .add .i64 d1 1) (eO A d1 d2 d3 d4 d5 d6 d7 d8 d9 lH lG d12 d13 d14 g_ jm d17 d18 d19 d20).1.1.1 (eO A d1 d2 d3 d4 d5 d6 d7 d8 d9 lH lG d12 d13 d14 g_ jm d17 d18 d19 d20).1.1.2.1 (eO A d1 d2 d3 d4 d5 d6 d7 d8 d9 lH lG d12 d13 d14 g_ jm d17 d18 d19 d20).1.1.2.2.1 (eO A d1 d2 d3 d4 d5 d6 d7 d8 d9 lH lG d12 d13 d14 g_ jm d17 d18 d19 d20).1.1.2.2.2.2.2.1 (A.n aF (eO A d1 d2 d3 d4 d5 d6 d7 d8 d9 lH lG d12 d13 d14 g_ jm d17 d18 d19 d20).1.2.2.2.2.2 0:Seen).1 (A.n aF (eO A d1 d2 d3 d4 d5 d6 d7 d8 d9 lH lG d12 d13 d14 g_ jm d17 d18 d19 d20).1.2.2.2.2.2 0:Seen).2.1 (A.n aF (eO A d1 d2 d3 d4 d5 d6 d7 d8 d9 lH lG d12 d13 d14 g_ jm d17 d18 d19 d20).1.2.2.2.2.2 0:Seen).2.2.1 (A.n aF (eO A d1 d2 d3 d4 d5 d6 d7 d8 d9 lH lG d12 d13 d14 g_ jm d17 d18 d19 d20).1.2.2.2.2.2 0:Seen).2.2.2 (A.n aF (eO A d1 d2 d3 d4 d5 d6 d7 d8 d9 lH lG d12 d13 d14 g_ jm d17 d18 d19 d20).1.2.2.2.2.2 1:Seen).1 (A.n aF (eO A d1 d2 d3 d4 d5 d6 d7 d8 d9 lH lG d12 d13 d14 g_ jm d17 d18 d19 d20).1.2.2.2.2.2 1:Seen).2.1 (A.n aF (eO A d1 d2 d3 d4 d5 d6 d7 d8 d9 lH lG d12 d13 d14 g_ jm d17 d18 d19 d20).1.2.2.2.2.2 1:Seen).2.2.1 (A.n aF (eO A d1 d2 d3 d4 d5 d6 d7 d8 d9 lH lG d12 d13 d14 g_ jm d17 d18 d19 d20).1.2.2.2.2.2 1:Seen).2.2.2 (eO A d1 d2 d3 d4 d5 d6 d7 d8 d9 lH lG d12 d13 d14 g_ jm d17 d18 d19 d20).1.1.2.2.2.1 (eO A d1 d2 d3 d4 d5 d6 d7 d8 d9 lH lG d12 d13 d14 g_ jm d17 d18 d19 d20).1.1.2.2.2.2.1 (eO A d1 d2 d3 d4 d5 d6 d7 d8 d9 lH lG d12 d13 d14 g_ jm d17 d18 d19 d20).1.1.2.2.2.2.2.2 (eO A d1 d2 d3 d4 d5 d6 d7 d8 d9 lH lG d12 d13 d14 g_ jm d17 d18 d19 d20).1.2.1 (eO A d1 d2 d3 d4 d5 d6 d7 d8 d9 lH lG d12 d13 d14 g_ jm d17 d18 d19 d20).1.2.2.1 (eO A d1 d2 d3 d4 d5 d6 d7 d8 d9 lH lG d12 d13 d14 g_ jm d17 d18 d19 d20).1.2.2.2.1 (eO A d1 d2 d3 d4 d5 d6 d7 d8 d9 lH lG d12 d13 d14 g_ jm d17 d18 d19 d20).1.2.2.2.2.1))) (.need (A.k vf (((d2,d3,d4,d14,g_,d5,jm),d17,d18,d19,d20,([(d6,d7,d8,d9),(lH,lG,d12,d13)]:List Seen)),())) (.more (.c4 ⟨(A.l (dU A d2 d3 d4 d5 d6 d7 d8 d9 lH lG d12 d13 d14 g_ jm d17 d18 d19 d20).1.1.2.2.2.1)⟩ 0 (dU A d2 d3 d4 d5 d6 d7 d8 d9 lH lG d12 d13 d14 g_ jm d17 d18 d19 d20).1.1.1 (dU A d2 d3 d4 d5 d6 d7 d8 d9 lH lG d12 d13 d14 g_ jm d17 d18 d19 d20).1.1.2.1 (dU A d2 d3 d4 d5 d6 d7 d8 d9 lH lG d12 d13 d14 g_ jm d17 d18 d19 d20).1.1.2.2.1 (dU A d2 d3 d4 d5 d6 d7 d8 d9 lH lG d12 d13 d14 g_ jm d17 d18 d19 d20).1.1.2.2.2.2.2.1 (A.n aF (dU A d2 d3 d4 d5 d6 d7 d8 d9 lH lG d12 d13 d14 g_ jm d17 d18 d19 d20).1.2.2.2.2.2 0:Seen).1 (A.n aF (dU A d2 d3 d4 d5 d6 d7 d8 d9 lH lG d12 d13 d14 g_ jm d17 d18 d19 d20).1.2.2.2.2.2 0:Seen).2.1 (A.n aF (dU A d2 d3 d4 d5 d6 d7 d8 d9 lH lG d12 d13 d14 g_ jm d17 d18 d19 d20).1.2.2.2.2.2 0:Seen).2.2.1 (A.n aF (dU A d2 d3 d4 d5 d6 d7 d8 d9 lH lG d12 d13 d14 g_ jm d17 d18 d19 d20).1.2.2.2.2.2 0:Seen).2.2.2 (A.n aF (dU A d2 d3 d4 d5 d6 d7 d8 d9 lH lG d12 d13 d14 g_ jm d17 d18 d19 d20).1.2.2.2.2.2 1:Seen).1 (A.n aF (dU A d2 d3 d4 d5 d6 d7 d8 d9 lH lG d12 d13 d14 g_ jm d17 d18 d19 d20).1.2.2.2.2.2 1:Seen).2.1 (A.n aF (dU A d2 d3 d4 d5 d6 d7 d8 d9 lH lG d12 d13 d14 g_ jm d17 d18 d19 d20).1.2.2.2.2.2 1:Seen).2.2.1 (A.n aF (dU A d2 d3 d4 d5 d6 d7 d8 d9 lH lG d12 d13 d14 g_ jm d17 d18 d19 d20).1.2.2.2.2.2 1:Seen).2.2.2 (dU A d2 d3 d4 d5 d6 d7 d8 d9 lH lG d12 d13 d14 g_ jm d17 d18 d19 d20).1.1.2.2.2.1 (dU A d2 d3 d4 d5 d6 d7 d8 d9 lH lG d12 d13 d14 g_ jm d17 d18 d19 d20).1.1.2.2.2.2.1 (dU A d2 d3 d4 d5 d6 d7 d8 d9 lH lG d12 d13 d14 g_ jm d17 d18 d19 d20).1.1.2.2.2.2.2.2 (dU A d2 d3 d4 d5 d6 d7 d8 d9 lH lG d12 d13 d14 g_ jm d17 d18 d19 d20).1.2.1 (dU A d2 d3 d4 d5 d6 d7 d8 d9 lH lG d12 d13 d14 g_ jm d17 d18 d19 d20).1.2.2.1 (dU A d2 d3 d4 d5 d6 d7 d8 d9 lH lG d12 d13 d14 g_ jm d17 d18 d19 d20).1.2.2.2.1 (dU A d2 d3 d4 d5 d6 d7 d8 d9 lH lG d12 d13 d14 g_ jm d17 d18 d19 d20).1.2.2.2.2.1)))
 | .c4 p e1 e2 e3 e4 e5 e6 e7 e8 e9 e10 e11 e12 e13 e14 e15 e16 e17 e18 e19 e20=>.br (A.c .lss e1 p.e0) (.need (A.k CY (((e2,e3,e4,e14,e15,e5,e16),e17,e18,e19,e20,([(e6,e7,e8,e9),(e10,e11,e12,e13)]:List Seen)),e1)) (.more (.c4 p (A.b .add .i64 e1 1) (eH A e1 e2 e3 e4 e5 e6 e7 e8 e9 e10 e11 e12 e13 e14 e15 e16 e17 e18 e19 e20).1.1.1 (eH A e1 e2 e3 e4 e5 e6 e7 e8 e9 e10 e11 e12 e13 e14 e15 e16 e17 e18 e19 e20).1.1.2.1 (eH A e1 e2 e3 e4 e5 e6 e7 e8 e9 e10 e11 e12 e13 e14 e15 e16 e17 e18 e19 e20).1.1.2.2.1 (eH A e1 e2 e3 e4 e5 e6 e7 e8 e9 e10 e11 e12 e13 e14 e15 e16 e17 e18 e19 e20).1.1.2.2.2.2.2.1 (A.n aF (eH A e1 e2 e3 e4 e5 e6 e7 e8 e9 e10 e11 e12 e13 e14 e15 e16 e17 e18 e19 e20).1.2.2.2.2.2 0:Seen).1 (A.n aF (eH A e1 e2 e3 e4 e5 e6 e7 e8 e9 e10 e11 e12 e13 e14 e15 e16 e17 e18 e19 e20).1.2.2.2.2.2 0:Seen).2.1 (A.n aF (eH A e1 e2 e3 e4 e5 e6 e7 e8 e9 e10 e11 e12 e13 e14 e15 e16 e17 e18 e19 e20).1.2.2.2.2.2 0:Seen).2.2.1 (A.n aF (eH A e1 e2 e3 e4 e5 e6 e7 e8 e9 e10 e11 e12 e13 e14 e15 e16 e17 e18 e19 e20).1.2.2.2.2.2 0:Seen).2.2.2 (A.n aF (eH A e1 e2 e3 e4 e5 e6 e7 e8 e9 e10 e11 e12 e13 e14 e15 e16 e17 e18 e19 e20).1.2.2.2.2.2 1:Seen).1 (A.n aF (eH A e1 e2 e3 e4 e5 e6 e7 e8 e9 e10 e11 e12 e13 e14 e15 e16 e17 e18 e19 e20).1.2.2.2.2.2 1:Seen).2.1 (A.n aF (eH A e1 e2 e3 e4 e5 e6 e7 e8 e9 e10 e11 e12 e13 e14 e15 e16 e17 e18 e19 e20).1.2.2.2.2.2 1:Seen).2.2.1 (A.n aF (eH A e1 e2 e3 e4 e5 e6 e7 e8 e9 e10 e11 e12 e13 e14 e15 e16 e17 e18 e19 e20).1.2.2.2.2.2 1:Seen).2.2.2 (eH A e1 e2 e3 e4 e5 e6 e7 e8 e9 e10 e11 e12 e13 e14 e15 e16 e17 e18 e19 e20).1.1.2.2.2.1 (eH A e1 e2 e3 e4 e5 e6 e7 e8 e9 e10 e11 e12 e13 e14 e15 e16 e17 e18 e19 e20).1.1.2.2.2.2.1 (eH A e1 e2 e3 e4 e5 e6 e7 e8 e9 e10 e11 e12 e13 e14 e15 e16 e17 e18 e19 e20).1.1.2.2.2.2.2.2 (eH A e1 e2 e3 e4 e5 e6 e7 e8 e9 e10 e11 e12 e13 e14 e15 e16 e17 e18 e19 e20).1.2.1 (eH A e1 e2 e3 e4 e5 e6 e7 e8 e9 e10 e11 e12 e13 e14 e15 e16 e17 e18 e19 e20).1.2.2.1 (eH A e1 e2 e3 e4 e5 e6 e7 e8 e9 e10 e11 e12 e13 e14 e15 e16 e17 e18 e19 e20).1.2.2.2.1 (eH A e1 e2 e3 e4 e5 e6 e7 e8 e9 e10 e11 e12 e13 e14 e15 e16 e17 e18 e19 e20).1.2.2.2.2.1))) (.ret ((e2,e3,e4,e14,e15,(A.b .add .i64 e5 1),e16),()))
def gA(i:Int)(s:bd×df):bd×df:=(MX ((s.1,oX s.2),i)).1
def gB(i:Int)(s:bd×df):bd×df:=(Fe ((s.1,oX s.2),i)).1
def gC(i:Int)(s:bd×df):bd×df:=(BJ ((s.1,oX s.2),i)).1
def gD(s:bd×df):bd×df:=(JE ((s.1,oX s.2),())).1
def gE(i:Int)(s:bd×df):bd×df:=(Gc ((s.1,oX s.2),i)).1
def oI(s:bd×df):Nat:=s.1.2.2.2.1.length
def iq(x:bd):df:=(x.2.2.2.1,x.2.2.2.2.1,List.replicate x.2.2.2.1.length false,List.replicate x.2.2.2.1.length false, [(0,0,0,([]:List Int)),(0,0,0,([]:List Int))])
def FQ(s:bd×df):bd:=(s.1.1,s.1.2.1,s.1.2.2.1,s.1.2.2.2.1,s.1.2.2.2.2.1,ah.b .add .i64 s.1.2.2.2.2.2.1 1,s.1.2.2.2.2.2.2)
def rD(s:bd×df):bd:=FQ (ot gE (oI (gD s)) 0 (gD s))
def rC(s:bd×df):bd:=rD (ot gC (oI s) 0 s)
def rB(s:bd×df):bd:=rC (ot gB (oI s) 0 s)
def ni(x:bd):bd:=rB (ot gA x.2.2.2.1.length 0 (x,iq x))
def mkA(n i:Int)(s:bd×df):xb:=.c0 ⟨n⟩ i s.1.1 s.1.2.1 s.1.2.2.1 s.1.2.2.2.2.2.1 (ah.n aF s.2.2.2.2.2 0:Seen).1 (ah.n aF s.2.2.2.2.2 0:Seen).2.1 (ah.n aF s.2.2.2.2.2 0:Seen).2.2.1 (ah.n aF s.2.2.2.2.2 0:Seen).2.2.2 (ah.n aF s.2.2.2.2.2 1:Seen).1 (ah.n aF s.2.2.2.2.2 1:Seen).2.1 (ah.n aF s.2.2.2.2.2 1:Seen).2.2.1 (ah.n aF s.2.2.2.2.2 1:Seen).2.2.2 s.1.2.2.2.1 s.1.2.2.2.2.1 s.1.2.2.2.2.2.2 s.2.1 s.2.2.1 s.2.2.2.1 s.2.2.2.2.1
def mkB(n i:Int)(s:bd×df):xb:=.c1 ⟨n⟩ i s.1.1 s.1.2.1 s.1.2.2.1 s.1.2.2.2.2.2.1 (ah.n aF s.2.2.2.2.2 0:Seen).1 (ah.n aF s.2.2.2.2.2 0:Seen).2.1 (ah.n aF s.2.2.2.2.2 0:Seen).2.2.1 (ah.n aF s.2.2.2.2.2 0:Seen).2.2.2 (ah.n aF s.2.2.2.2.2 1:Seen).1 (ah.n aF s.2.2.2.2.2 1:Seen).2.1 (ah.n aF s.2.2.2.2.2 1:Seen).2.2.1 (ah.n aF s.2.2.2.2.2 1:Seen).2.2.2 s.1.2.2.2.1 s.1.2.2.2.2.1 s.1.2.2.2.2.2.2 s.2.1 s.2.2.1 s.2.2.2.1 s.2.2.2.2.1
def mkC(n:Int)(s:bd×df):xb:=.c2 ⟨n,s.1.1,s.1.2.1,s.1.2.2.1,s.1.2.2.2.2.2.1,(ah.n aF s.2.2.2.2.2 0:Seen).1,(ah.n aF s.2.2.2.2.2 0:Seen).2.1,(ah.n aF s.2.2.2.2.2 0:Seen).2.2.1,(ah.n aF s.2.2.2.2.2 0:Seen).2.2.2,(ah.n aF s.2.2.2.2.2 1:Seen).1,(ah.n aF s.2.2.2.2.2 1:Seen).2.1,(ah.n aF s.2.2.2.2.2 1:Seen).2.2.1,(ah.n aF s.2.2.2.2.2 1:Seen).2.2.2,s.1.2.2.2.1,s.1.2.2.2.2.1,s.1.2.2.2.2.2.2,s.2.1,s.2.2.1,s.2.2.2.1,s.2.2.2.2.1⟩
def mkD(n i:Int)(s:bd×df):xb:=.c3 ⟨n⟩ i s.1.1 s.1.2.1 s.1.2.2.1 s.1.2.2.2.2.2.1 (ah.n aF s.2.2.2.2.2 0:Seen).1 (ah.n aF s.2.2.2.2.2 0:Seen).2.1 (ah.n aF s.2.2.2.2.2 0:Seen).2.2.1 (ah.n aF s.2.2.2.2.2 0:Seen).2.2.2 (ah.n aF s.2.2.2.2.2 1:Seen).1 (ah.n aF s.2.2.2.2.2 1:Seen).2.1 (ah.n aF s.2.2.2.2.2 1:Seen).2.2.1 (ah.n aF s.2.2.2.2.2 1:Seen).2.2.2 s.1.2.2.2.1 s.1.2.2.2.2.1 s.1.2.2.2.2.2.2 s.2.1 s.2.2.1 s.2.2.2.1 s.2.2.2.2.1
def mkE(n i:Int)(s:bd×df):xb:=.c4 ⟨n⟩ i s.1.1 s.1.2.1 s.1.2.2.1 s.1.2.2.2.2.2.1 (ah.n aF s.2.2.2.2.2 0:Seen).1 (ah.n aF s.2.2.2.2.2 0:Seen).2.1 (ah.n aF s.2.2.2.2.2 0:Seen).2.2.1 (ah.n aF s.2.2.2.2.2 0:Seen).2.2.2 (ah.n aF s.2.2.2.2.2 1:Seen).1 (ah.n aF s.2.2.2.2.2 1:Seen).2.1 (ah.n aF s.2.2.2.2.2 1:Seen).2.2.1 (ah.n aF s.2.2.2.2.2 1:Seen).2.2.2 s.1.2.2.2.1 s.1.2.2.2.2.1 s.1.2.2.2.2.2.2 s.2.1 s.2.2.1 s.2.2.2.1 s.2.2.2.2.1
theorem phA{N:Nat}{Q:bd×df→Prop}(hN:N≤1000)(hQ:∀(i:Nat) s,i<N→Q s→ah.k Cj ((s.1,oX s.2),(i:Int))=true∧Q (gA i s))(hT:∀s,Q s→ay (sO ah) (.more (mkB (oI s:Int) 0 s)) (rB s,())) :
  ∀(j i:Nat) (s:bd×df),N-i=j→i≤N→Q s→ay (sO ah) (.more (mkA (N:Int) (i:Int) s)) (rB (ot gA j i s),()):=by
 intro j
 induction j with
 | zero=>
   intro i s hj hi hs
   have:i=N:=by omega
   subst this
   exact al.2 ((ai (by rw[aG];simp)).2 (hT s hs))
 | succ j ih=>
   intro i s hj hi hs
   obtain⟨h1,h2⟩:=hQ i s (by omega) hs
   refine al.2 ((aj (by rw[aG];exact aL (by omega))).2 (af.2 ⟨h1,?_⟩))
   have:=ih (i+1) (gA i s) (by omega) (by omega) h2
   rw[cm (i:=i) (by omega)]
   exact this
theorem phB{N:Nat}{Q:bd×df→Prop}(hN:N≤1000)(hQ:∀(i:Nat) s,i<N→Q s→ah.k Ck ((s.1,oX s.2),(i:Int))=true∧Q (gB i s))(hT:∀s,Q s→ay (sO ah) (.more (mkC (oI s:Int) s)) (rC s,())) :
  ∀(j i:Nat) (s:bd×df),N-i=j→i≤N→Q s→ay (sO ah) (.more (mkB (N:Int) (i:Int) s)) (rC (ot gB j i s),()):=by
 intro j
 induction j with
 | zero=>
   intro i s hj hi hs
   have:i=N:=by omega
   subst this
   exact al.2 ((ai (by rw[aG];simp)).2 (hT s hs))
 | succ j ih=>
   intro i s hj hi hs
   obtain⟨h1,h2⟩:=hQ i s (by omega) hs
   refine al.2 ((aj (by rw[aG];exact aL (by omega))).2 (af.2 ⟨h1,?_⟩))
   have:=ih (i+1) (gB i s) (by omega) (by omega) h2
   rw[cm (i:=i) (by omega)]
   exact this
theorem phD{N:Nat}{Q:bd×df→Prop}(hN:N≤1000)(hQ:∀(i:Nat) s,i<N→Q s→ah.k u9 ((s.1,oX s.2),(i:Int))=true∧Q (gC i s))(hP:∀s,Q s→ah.k vf ((s.1,oX s.2),())=true)(hT:∀s,Q s→ay (sO ah) (.more (mkE (oI (gD s):Int) 0 (gD s))) (rD s,())) :
  ∀(j i:Nat) (s:bd×df),N-i=j→i≤N→Q s→ay (sO ah) (.more (mkD (N:Int) (i:Int) s)) (rD (ot gC j i s),()):=by
 intro j
 induction j with
 | zero=>
   intro i s hj hi hs
   have:i=N:=by omega
   subst this
   exact al.2 ((ai (by rw[aG];simp)).2 (af.2 ⟨hP s hs,hT s hs⟩))
 | succ j ih=>
   intro i s hj hi hs
   obtain⟨h1,h2⟩:=hQ i s (by omega) hs
   refine al.2 ((aj (by rw[aG];exact aL (by omega))).2 (af.2 ⟨h1,?_⟩))
   have:=ih (i+1) (gC i s) (by omega) (by omega) h2
   rw[cm (i:=i) (by omega)]
   exact this
theorem phE{N:Nat}{Q:bd×df→Nat→Prop}(hN:N≤1000)(hQ:∀(i:Nat) s,i<N→Q s i→ah.k CY ((s.1,oX s.2),(i:Int))=true∧Q (gE i s) (i+1)) :
  ∀(j i:Nat) (s:bd×df),N-i=j→i≤N→Q s i→ay (sO ah) (.more (mkE (N:Int) (i:Int) s)) (FQ (ot gE j i s),()):=by
 intro j
 induction j with
 | zero=>
   intro i s hj hi hs
   have:i=N:=by omega
   subst this
   exact al.2 ((ai (by rw[aG];simp)).2 (.ret _))
 | succ j ih=>
   intro i s hj hi hs
   obtain⟨h1,h2⟩:=hQ i s (by omega) hs
   refine al.2 ((aj (by rw[aG];exact aL (by omega))).2 (af.2 ⟨h1,?_⟩))
   have:=ih (i+1) (gE i s) (by omega) (by omega) h2
   rw[cm (i:=i) (by omega)]
   exact this
theorem phC{N:Nat}{Q:bd×df→Prop}(hN:N≤1000)(h1:1≤N)(hl:∀s,Q s→oI s=N)(hQ:∀(i:Nat) s,i<N→Q s→ah.k u9 ((s.1,oX s.2),(i:Int))=true∧Q (gC i s))(hP:∀s,Q s→ah.k vf ((s.1,oX s.2),())=true)(hT:∀s,Q s→ay (sO ah) (.more (mkE (oI (gD s):Int) 0 (gD s))) (rD s,()))
  {s:bd×df} (hs:Q s):ay (sO ah) (.more (mkC (oI s:Int) s)) (rC s,()):=by
 obtain⟨h2,h3⟩:=hQ 0 s (by omega) hs
 rw[rC,hl s hs]
 obtain⟨k,rfl⟩:∃k,N=k+1:=⟨N-1,by omega⟩
 refine al.2 ((aj (by show ah.c .lss ((0:Nat):Int) ((k+1:Nat):Int)=true;rw[aG];exact aL (by omega))).2 (af.2 ⟨h2,?_⟩))
 exact phD hN hQ hP hT k 1 (gC ((0:Nat):Int) s) (by omega) (by omega) h3
def Za(m:ak)(l:List Node):Bool:=(List.range l.length).all fun i=>decide (bf m (iI l (i:Int))=0∧(iI l (i:Int)).1=(i:Int))
theorem Q9{m:ak}{l:List Node}:Za m l=true↔jX m l:=by
 unfold Za
 rw[List.all_eq_true]
 refine⟨fun h i n hi=>?_,fun h i hi=>aL (x8 h ⟨by omega,by have:=List.mem_range.1 hi;omega⟩)⟩
 obtain⟨hl,he⟩:=List.getElem?_eq_some_iff.1 hi
 have:=of_decide_eq_true (h i (List.mem_range.2 hl))
 rw[show iI l (i:Int)=l[i] from getD_in hl _,he] at this
 exact this
structure Rt(x:bd):Prop where
 Ht:jX x.2.1 x.2.2.2.1
 rest:x.2.2.2.2.1.length=x.2.2.2.1.length∧1≤x.2.2.2.1.length∧x.2.2.2.1.length≤1000∧x.2.2.1.2.2.2.2.2.2.2.length≤1000000∧x.2.2.1.2.2.2.2.2.2.1.length≤1000000∧x.2.2.2.2.2.2.length+x.2.2.2.1.length≤1000000
def GJ(x:bd):Bool:=Za x.2.1 x.2.2.2.1&&decide (x.2.2.2.2.1.length=x.2.2.2.1.length∧1≤x.2.2.2.1.length∧x.2.2.2.1.length≤1000∧x.2.2.1.2.2.2.2.2.2.2.length≤1000000∧x.2.2.1.2.2.2.2.2.2.1.length≤1000000∧x.2.2.2.2.2.2.length+x.2.2.2.1.length≤1000000)
theorem FE{x:bd}:GJ x=true↔Rt x:=by
 unfold GJ
 rw[ck,Q9,jN]
 exact⟨fun h=>⟨h.1,h.2⟩,fun h=>⟨h.Ht,h.rest⟩⟩
theorem FI{x:bd}(h:Rt x){s:bd×df}{k:Nat}(h1:iQ k x s.1)(h2:lI (iq x) s.2)(hk:k≤x.2.2.2.1.length):FC s.1 (oX s.2):=by
 obtain⟨a,b,c,d,e,f⟩:=h.rest
 have l1:=h1.len
 have l2:=h1.aW
 have l3:=h1.uu
 have l4:s.2.1.length=x.2.2.2.1.length:=by rw[h2.was];rfl
 have l5:s.2.2.1.length=x.2.2.2.2.1.length:=by rw[h2.aW];rfl
 have l6:s.2.2.2.1.length=x.2.2.2.1.length:=h2.off.trans pg
 have l7:s.2.2.2.2.1.length=x.2.2.2.1.length:=h2.later.trans pg
 refine⟨by omega,by show s.2.1.length=_;omega,by show s.2.2.1.length=_;omega,by show s.2.2.2.1.length=_;omega,by show s.2.2.2.2.1.length=_;omega,by rw[h1.s];exact d,by rw[h1.s];exact e,by omega,by omega⟩
theorem W5{m:ak}{l:List Node}(h:jX m l):Qf l=true:=List.all_eq_true.2 fun n hn=>by
 obtain⟨i,hi⟩:=List.getElem?_of_mem hn
 have:=(h i n hi).2
 have:=(List.getElem?_eq_some_iff.1 hi).1
 exact aL (by omega)
structure Stp(x x':bd):Prop where
 made:x'.1=x.1
 m:x'.2.1=x.2.1
 s:x'.2.2.1=x.2.2.1
 len:x'.2.2.2.1.length=x.2.2.2.1.length
 aW:x'.2.2.2.2.1.length=x.2.2.2.2.1.length
 slot:x'.2.2.2.2.2.1=ah.b .add .i64 x.2.2.2.2.2.1 1
 uu:x'.2.2.2.2.2.2.length≤x.2.2.2.2.2.2.length+x.2.2.2.1.length
 Ht:jX x.2.1 x'.2.2.2.1
 Qw:Bh x→Bh x'
theorem tW{α:Type}{f:Int→α→α}{Q:α→Nat→Prop}{N:Nat}(h:∀(i:Nat) s,i<N→Q s i→Q (f i s) (i+1)):∀(j i:Nat) (s:α),i+j=N→Q s i→Q (ot f j i s) N:=by
 intro j
 induction j with
 | zero=>intro i s hi hs;rw[show i=N by omega] at hs;exact hs
 | succ j ih=>intro i s hi hs;exact ih (i+1) _ (by omega) (h i s (by omega) hs)
section
variable {x:bd} (h:Rt x)
include h
theorem qA(i:Nat)(s:bd×df)(hi:i<x.2.2.2.1.length)(hs:iQ 0 x s.1∧lI (iq x) s.2):ah.k Cj ((s.1,oX s.2),(i:Int))=true∧(iQ 0 x (gA i s).1∧lI (iq x) (gA i s).2):=by
 have hz:=FI h hs.1 hs.2 (Nat.zero_le _)
 have hi':0≤(i:Int)∧(i:Int)<(s.1.2.2.2.1.length:Int):=⟨by omega,by rw[hs.1.len];omega⟩
 obtain⟨a,b⟩:=PG (w:=oX s.2) hi'
 exact⟨aL ⟨hz,hi'⟩,hs.1.trans a,hs.2.trans b.th⟩
theorem qB(i:Nat)(s:bd×df)(hi:i<x.2.2.2.1.length)(hs:iQ 0 x s.1∧lI (iq x) s.2):ah.k Ck ((s.1,oX s.2),(i:Int))=true∧(iQ 0 x (gB i s).1∧lI (iq x) (gB i s).2):=by
 have hz:=FI h hs.1 hs.2 (Nat.zero_le _)
 have hi':0≤(i:Int)∧(i:Int)<(s.1.2.2.2.1.length:Int):=⟨by omega,by rw[hs.1.len];omega⟩
 obtain⟨a,b⟩:=agn hz hi'
 exact⟨IQ hz hi',hs.1.trans a,hs.2.trans b.th⟩
theorem qC(i:Nat)(s:bd×df)(hi:i<x.2.2.2.1.length)(hs:iQ 0 x s.1∧lI (iq x) s.2):ah.k u9 ((s.1,oX s.2),(i:Int))=true∧(iQ 0 x (gC i s).1∧lI (iq x) (gC i s).2):=by
 have hz:=FI h hs.1 hs.2 (Nat.zero_le _)
 have hi':0≤(i:Int)∧(i:Int)<(s.1.2.2.2.1.length:Int):=⟨by omega,by rw[hs.1.len];omega⟩
 obtain⟨a,b⟩:=ahJ hz hi'
 exact⟨JY hz hi',hs.1.trans a,hs.2.trans b.th⟩
theorem G9{s:bd×df}{k:Nat}(h1:iQ k x s.1):jX s.1.2.1 s.1.2.2.2.1:=by rw[h1.m];exact h1.Ht h.Ht
theorem qP(s:bd×df)(hs:iQ 0 x s.1∧lI (iq x) s.2):ah.k vf ((s.1,oX s.2),())=true∧(iQ 0 x (gD s).1∧lI (iq x) (gD s).2):=by
 have hz:=FI h hs.1 hs.2 (Nat.zero_le _)
 obtain⟨a,b⟩:=QG (x:=s.1) (w:=oX s.2)
 refine⟨?_,hs.1.trans a,hs.2.trans b.th⟩
 show(decide (FC s.1 (oX s.2))&&Qf s.1.2.2.2.1)=true
 rw[aL hz,W5 (G9 h hs.1)];rfl
theorem qE(i:Nat)(s:bd×df)(hi:i<x.2.2.2.1.length)(hs:iQ i x s.1∧lI (iq x) s.2):ah.k CY ((s.1,oX s.2),(i:Int))=true∧(iQ (i+1) x (gE i s).1∧lI (iq x) (gE i s).2):=by
 have hz:=FI h hs.1 hs.2 (by omega)
 have hi':0≤(i:Int)∧(i:Int)<(s.1.2.2.2.1.length:Int):=⟨by omega,by rw[hs.1.len];omega⟩
 obtain⟨a,b⟩:=ahC hz hi' (G9 h hs.1)
 exact⟨Jf hz hi' (G9 h hs.1),hs.1.trans a,hs.2.trans b.th⟩
theorem step1:ay (sO ah) (Yu ah x) (ni x,()):=by
 obtain⟨a,b,c,d,e,f⟩:=h.rest
 have hlen:∀s:bd×df,(iQ 0 x s.1∧lI (iq x) s.2)→oI s=x.2.2.2.1.length:=fun s hs=>hs.1.len
 have tE:∀s:bd×df,(iQ 0 x s.1∧lI (iq x) s.2)→ay (sO ah) (.more (mkE (oI (gD s):Int) 0 (gD s))) (rD s,()):=fun s hs=>by
  have hd:=(qP h s hs).2
  rw[rD,hlen _ hd]
  exact phE (Q:=fun s k=>iQ k x s.1∧lI (iq x) s.2) c (fun i s hi hs=>qE h i s hi hs) _ 0 _ (by omega) (by omega) hd
 have tC:∀s:bd×df,(iQ 0 x s.1∧lI (iq x) s.2)→ay (sO ah) (.more (mkC (oI s:Int) s)) (rC s,()):=fun s hs=>
  phC (Q:=fun s=>iQ 0 x s.1∧lI (iq x) s.2) c b hlen (fun i s hi hs=>qC h i s hi hs) (fun s hs=>(qP h s hs).1) tE hs
 have tB:∀s:bd×df,(iQ 0 x s.1∧lI (iq x) s.2)→ay (sO ah) (.more (mkB (oI s:Int) 0 s)) (rB s,()):=fun s hs=>by
  rw[rB,hlen s hs]
  exact phB (Q:=fun s=>iQ 0 x s.1∧lI (iq x) s.2) c (fun i s hi hs=>qB h i s hi hs) tC _ 0 s (by omega) (by omega) hs
 have base:ay (sO ah) (.more (mkA (x.2.2.2.1.length:Int) 0 (x,iq x))) (ni x,()):=
  phA (Q:=fun s=>iQ 0 x s.1∧lI (iq x) s.2) c (fun i s hi hs=>qA h i s hi hs) tB _ 0 (x,iq x) (by omega) (by omega) ⟨.refl,.refl⟩
 have n1:ah.c .neq (ah.l x.2.2.2.1) 0=true:=by rw[aR,bK];exact bne_iff_ne.2 (by omega)
 have n2:ah.not (ah.c .eql (ah.l x.2.2.2.1) 0)=true:=by rw[eD,aD,bK,beq_eq_false_iff_ne.2 (by omega)];rfl
 have n3:ah.c .leq (ah.l x.2.2.2.1) 676622540169=true:=by rw[ap,bK];exact aL (by omega)
 have n4:ah.c .neq (ah.l x.2.2.2.2.1) 0=true:=by rw[aR,bK];exact bne_iff_ne.2 (by omega)
 have n5:ah.not (ah.c .eql (ah.l x.2.2.2.2.1) 0)=true:=by rw[eD,aD,bK,beq_eq_false_iff_ne.2 (by omega)];rfl
 have n6:ah.c .leq (ah.l x.2.2.2.2.1) 140737488355328=true:=by rw[ap,bK];exact aL (by omega)
 have n7:ah.and (ah.c .eql (ah.l x.2.2.2.1) (ah.l x.2.2.2.1)) (ah.and (ah.c .leq 0 (ah.l x.2.2.2.1)) (ah.c .leq (ah.l x.2.2.2.1) 140737488355328))=true:=by
  rw[bK,aD,ap,ap,aK,aK];simp;omega
 unfold Yu Qh NP pu wS
 repeat' first|exact base|apply ay.and|refine af.2 ⟨n1,?_⟩|refine af.2 ⟨n2,?_⟩|refine af.2 ⟨n3,?_⟩|refine af.2 ⟨n4,?_⟩|refine af.2 ⟨n5,?_⟩|refine af.2 ⟨n6,?_⟩|refine af.2 ⟨n7,?_⟩
theorem sH:Stp x (ni x):=by
 have hs0:iQ 0 x (x,iq x).1∧lI (iq x) (x,iq x).2:=⟨.refl,.refl⟩
 have hA:=tW (f:=gA) (Q:=fun s _=>iQ 0 x s.1∧lI (iq x) s.2) (N:=x.2.2.2.1.length) (fun i s hi hs=>(qA h i s hi hs).2) _ 0 (x,iq x) (Nat.zero_add _) hs0
 have hB:=tW (f:=gB) (Q:=fun s _=>iQ 0 x s.1∧lI (iq x) s.2) (N:=x.2.2.2.1.length) (fun i s hi hs=>(qB h i s hi hs).2) _ 0 _ (Nat.zero_add _) hA
 have hC:=tW (f:=gC) (Q:=fun s _=>iQ 0 x s.1∧lI (iq x) s.2) (N:=x.2.2.2.1.length) (fun i s hi hs=>(qC h i s hi hs).2) _ 0 _ (Nat.zero_add _) hB
 have hD:=(qP h _ hC).2
 have hE:=tW (f:=gE) (Q:=fun s k=>iQ k x s.1∧lI (iq x) s.2) (N:=x.2.2.2.1.length) (fun i s hi hs=>(qE h i s hi hs).2) _ 0 _ (Nat.zero_add _) hD
 have e:ni x=FQ (ot gE x.2.2.2.1.length 0 (gD (ot gC x.2.2.2.1.length 0 (ot gB x.2.2.2.1.length 0 (ot gA x.2.2.2.1.length 0 (x,iq x)))))):=by
  show FQ (ot gE (oI (gD (ot gC (oI (ot gB (oI (ot gA _ 0 _)) 0 _)) 0 _))) 0 _)=_
  have l1:oI (ot gA x.2.2.2.1.length 0 (x,iq x))=x.2.2.2.1.length:=hA.1.len
  rw[l1]
  have l2:oI (ot gB x.2.2.2.1.length 0 (ot gA x.2.2.2.1.length 0 (x,iq x)))=x.2.2.2.1.length:=hB.1.len
  rw[l2]
  have l3:oI (gD (ot gC x.2.2.2.1.length 0 (ot gB x.2.2.2.1.length 0 (ot gA x.2.2.2.1.length 0 (x,iq x)))))=x.2.2.2.1.length:=hD.1.len
  rw[l3]
 rw[e]
 obtain⟨k,_⟩:=hE
 exact⟨k.made,k.m,k.s,k.len,k.aW,by show ah.b .add .i64 _ 1=_;rw[k.slot],k.uu,k.Ht h.Ht,fun hg=>by rw[Bh,show(FQ _).2.1=x.2.1 from k.m];exact k.Qw h.Ht hg⟩
end
def ql:bd×Unit→bd×Unit:=fun(x,_)=>(ni x,())
def Cg:bd×Unit→Bool:=fun(x,_)=>GJ x
def ade:bH:=⟨[.ptr [.d .bool,.d aN,.d fV,.own aC,.own .bool,.d yI,.own d_]], [], [],Cg,ql,false⟩
theorem UR:bH.Sound Tryz.prog 58 ade:=As ar bR 117 iz (mc aar (mc aeQ (mc afS (mc aeL (mc aba mz))))) pz [⟨58,5, [[0,2,4,37,45,46,65574]]⟩,⟨58,12, [[0,2,62,63]]⟩,⟨113,1000007, []⟩,⟨114,1000007, []⟩] [] (fun A (x2,())=>Yu A x2) sO ZT (fc Tryz.func58 (fc Tryz.func113 (fc Tryz.func114 fz))) sz (fun A y=>match y with |.c0 p a1 a2 a3 a4 a5 a6 a7 a8 a9 cN dF a12 kx jh lk a16 a17 ll lJ a20=>⟨44,by kernel_rfl,by kernel_rfl⟩|.c1 p b1 b2 b3 b4 b5 b6 b7 b8 b9 b10 b11 b12 b13 gY eQ bL gK mK jV mr=>⟨44,by kernel_rfl,by kernel_rfl⟩|.c2 p=>⟨44,by kernel_rfl,by kernel_rfl⟩|.c3 p d1 d2 d3 d4 d5 d6 d7 d8 d9 lH lG d12 d13 d14 g_ jm d17 d18 d19 d20=>⟨44,by kernel_rfl,by kernel_rfl⟩|.c4 p e1 e2 e3 e4 e5 e6 e7 e8 e9 e10 e11 e12 e13 e14 e15 e16 e17 e18 e19 e20=>⟨31,by kernel_rfl,by kernel_rfl⟩) fun((x2,()):bd×Unit) hp hv h=>step1 (FE.1 hp)
def Qz(a b:Int):Int:=bif decide (a<b) then -1 else bif decide (b<a) then 1 else 0
def ZF:List Int→Int
 | []=>0
 | a::l=>bif decide (a=0) then ZF l else a
def YB(A:aI)(x2:Int):LT Bool Empty:=.ret (A.c .neq x2 x2)
def EC:Int→Bool:=fun x2=>(YB ah x2).val (Ty.bi [.bool])
def U7:aA:=⟨[yI], [.bool],(@tt Int),EC⟩
theorem aeg:aA.jk Tryz.prog 206 U7∧Sd 206 U7:=lW ar bR true 17 [] [] (fun A x2=>YB A x2) (fun _=>Empty.elim) Empty.elim (fc Tryz.func206 fz) szD (fun _ y=>y.elim) fun(x2:Int) hp h=>LT.runs (d:=Ty.bi [.bool]) (LT.fU (by kernel_rfl)) (by
 show(YB ah x2).pre=true
 rfl)
def Zb(A:aI)(x2:Int)(y2:Int):LT Int Empty:=.need (A.k (@tt Int) x2) (.need (A.k (@tt Int) y2) (.br (A.k EC x2) (.br (A.k EC y2) (.ret 0) (.ret (-1))) (.br (A.k EC y2) (.ret 1) (.br (A.c .lss x2 y2) (.ret (-1)) (.br (A.c .gtr x2 y2) (.ret 1) (.ret 0))))))
theorem Ra{x:Int}:ah.k EC x=false:=by
 show ah.c .neq x x=false
 rw[aQ];exact aX fun h=>h rfl
theorem agx{a b:Int}:ay Empty.elim (Zb ah a b) (Qz a b):=by
 unfold Zb
 refine af.2 ⟨rfl,af.2 ⟨rfl,(ai Ra).2 ((ai Ra).2 ?_)⟩⟩
 unfold Qz
 by_cases h1:a<b
 ·rw[aL h1];exact(aj (by rw[ao];exact aL h1)).2 (.ret _)
 ·rw[aX h1]
  refine(ai (by rw[ao];exact aX h1)).2 ?_
  by_cases h2:b<a
  ·rw[aL h2];exact(aj (show ah.c .gtr a b=true from aL h2)).2 (.ret _)
  ·rw[aX h2];exact(ai (show ah.c .gtr a b=false from aX h2)).2 (.ret _)
def iY:(Int×Int)→Int:=fun(a,b)=>Qz a b
def QH:aA:=⟨[yI,yI], [yI],(@tt (Int×Int)),iY⟩
theorem UN:aA.jk Tryz.prog 138 QH∧Sd 138 QH:=lW ar bR true 58 [] [] (fun A (x2,y2)=>Zb A x2 y2) (fun _=>Empty.elim) Empty.elim (fc Tryz.func138 fz) (scD aeg szD) (fun _ y=>y.elim) fun(x2,y2) hp h=>agx
theorem ad2:Sd 138 QH:=UN.2
structure M5 where
 (a1:List Int) (a2:Int)
inductive TU where
 | c0 (p:M5) (a3:Int)
noncomputable def YF:TU→eT
 | .c0 p a3=>⟨[⟨137,18,(en [(3,vi 0),(6,.sl yI p.a1),(7,vi p.a2),(8,vi a3)]),[.inLoop (cw Tryz.f137 [1,1,0,1,0,0]),.inBlock 0,.code (cw Tryz.f137 [1,1,1])],[],none⟩],[.dead]⟩
def aeJ(A:aI)(vals:List Int):LT Int TU:=.more (.c0 ⟨vals,(A.l vals)⟩ 0)
def Oo(A:aI):TU→LT Int TU
 | .c0 p a3=>.br (A.c .lss a3 p.a2) (.need (A.and (A.c .leq 0 a3) (A.c .lss a3 (A.l p.a1))) (.br (A.c .neq (A.n yI p.a1 a3:Int) 0) (.ret (A.n yI p.a1 a3:Int)) (.more (.c0 p (A.b .add .i64 a3 1))))) (.ret 0)
theorem Uq{p:M5}{l:List Int}(h0:p.a1=l)(h1:p.a2=(l.length:Int))(hl:l.length≤140737488355328) :
  ∀(j i:Nat),l.length-i=j→i≤l.length→ay (Oo ah) (.more (.c0 p (i:Int))) (ZF (l.drop i)):=by
 intro j
 induction j with
 | zero=>
   intro i hj hi
   have:i=l.length:=by omega
   subst this
   rw[al,Oo,h1,List.drop_length]
   exact(ai (by rw[ao];simp)).2 (.ret _)
 | succ j ih=>
   intro i hj hi
   have hi':i<l.length:=by omega
   have nx:=ih (i+1) (by omega) (by omega)
   rw[al,Oo,h0,h1]
   refine(aj (by rw[ao];exact aL (by omega))).2 (af.2 ⟨aP hi',?_⟩)
   rw[show(ah.n yI l (i:Int):Int)=l[i] from getD_in hi' _,ry hi',ZF,cm (i:=i) (by omega)]
   by_cases h:l[i]=0
   ·rw[aL h]
    exact(ai (by rw[aQ];exact aX fun k=>k h)).2 nx
   ·rw[aX h]
    exact(aj (by rw[aQ];exact aL h)).2 (.ret _)
theorem or1{l:List Int}(h:Ty.cv [.slice (.int .i64)] l):ay (Oo ah) (aeJ ah l) (ZF l):=
 Uq (l:=l) rfl rfl h.1 l.length 0 rfl (by omega)
def N6:(List Int)→Int:=fun l=>ZF l
def NH:aA:=⟨[BO], [yI],(@tt (List Int)),N6⟩
theorem U8:aA.jk Tryz.prog 137 NH∧Sd 137 NH:=lW ar bR true 23 [⟨137,3, [[3,6,7,8]]⟩] [] (fun A vals=>aeJ A vals) Oo YF (fc Tryz.func137 fz) szD (fun A y=>match y with |.c0 p a3=>⟨34,by kernel_rfl,by kernel_rfl⟩) fun vals hp h=>or1 h
theorem aaU:Sd 137 NH:=U8.2
def Y8(A:aI)(a:bJ)(b:bJ):LT Int Empty:=.need (A.k (@tt (Int×Int)) (a.2.2.2.1,b.2.2.2.1)) (.need (A.k (@tt (Int×Int)) (a.2.2.2.2.1,b.2.2.2.2.1)) (.need (A.k (@tt (Int×Int)) (a.1,b.1)) (.need (A.k (@tt (Int×Int)) (a.2.1,b.2.1)) (.need (A.k (@tt (Int×Int)) (a.2.2.1,b.2.2.1)) (.need (A.k (@tt (Int×Int)) (a.2.2.2.2.2.1,b.2.2.2.2.2.1)) (.need (A.k (@tt (Int×Int)) (a.2.2.2.2.2.2,b.2.2.2.2.2.2)) (.need (A.k (@tt (List Int)) [(A.k iY (a.2.2.2.1,b.2.2.2.1)),(A.k iY (a.2.2.2.2.1,b.2.2.2.2.1)),(A.k iY (a.1,b.1)),(A.k iY (a.2.1,b.2.1)),(A.k iY (a.2.2.1,b.2.2.1)),(A.k iY (a.2.2.2.2.2.1,b.2.2.2.2.2.1)),(A.k iY (a.2.2.2.2.2.2,b.2.2.2.2.2.2))]) (.ret (A.k N6 [(A.k iY (a.2.2.2.1,b.2.2.2.1)),(A.k iY (a.2.2.2.2.1,b.2.2.2.2.1)),(A.k iY (a.1,b.1)),(A.k iY (a.2.1,b.2.1)),(A.k iY (a.2.2.1,b.2.2.1)),(A.k iY (a.2.2.2.2.2.1,b.2.2.2.2.2.1)),(A.k iY (a.2.2.2.2.2.2,b.2.2.2.2.2.2))])))))))))
def LV:(bJ×bJ)→Int:=fun(a,b)=>(Y8 ah a b).val (Ty.bi [yI])
def U3:aA:=⟨[bu,bu], [yI],(@tt (bJ×bJ)),LV⟩
theorem abV:aA.jk Tryz.prog 202 U3∧Sd 202 U3:=lW ar bR true 53 [] [] (fun A (a,b)=>Y8 A a b) (fun _=>Empty.elim) Empty.elim (fc Tryz.func202 fz) (scD U8 (scD UN szD)) (fun _ y=>y.elim) fun((a,b):bJ×bJ) hp h=>LT.runs (d:=Ty.bi [yI]) (LT.fU (by kernel_rfl)) (by
 show(Y8 ah a b).pre=true
 rfl)
section
open Go.Sort
theorem v7(w:World)(b:Nat)(f:Array Value→Array Value)(b':Nat):(mapBlock w b f).heap[b']? = if b=b' then w.heap[b']?.map (onCells f) else w.heap[b']? :=by
 unfold mapBlock
 simp[Array.getElem?_modify]
variable {α:Type} [Inhabited α] {enc:α→List Value} {k:Nat}
theorem pP{w:World}{b off n:Nat}{d:Array α}{os:Array Obj}{b':Nat}(h:b'<w.heap.size)(hne:b'≠b):(sortWorldK enc k w b off n d os).heap[b']? = w.heap[b']? :=by
 show((mapBlock (Sort.ahead w n) b (Sort.putCells id off (flatK enc k d))).heap++os)[b']? = _
 rw[Array.getElem?_append_left (by simpa [mapBlock,Sort.ahead] using h),v7,if_neg (Ne.symm hne)]
 rfl
theorem y_{w:World}{b off n:Nat}{d:Array α}{os:Array Obj}{vs:Array Value}{T:TypeId}{fr:Nat×Nat}(h:w.heap[b]? = some (.cells vs T fr)) :
  (sortWorldK enc k w b off n d os).heap[b]? = some (.cells (Sort.putCells id off (flatK enc k d) vs) T fr):=by
 have hlt:=(Array.getElem?_eq_some_iff.1 h).1
 show((mapBlock (Sort.ahead w n) b (Sort.putCells id off (flatK enc k d))).heap++os)[b]? = _
 rw[Array.getElem?_append_left (by simpa [mapBlock,Sort.ahead] using hlt),v7,if_pos rfl]
 show(w.heap[b]?).map _=_
 rw[h];rfl
theorem vv{off:Nat}{F vs:Array Value}:(Sort.putCells id off F vs).size=vs.size:=by simp[Sort.putCells]
theorem Uo{off j:Nat}{F vs:Array Value}(h1:off≤j)(h2:j<off+F.size)(h3:j<vs.size):(Sort.putCells id off F vs).toList[j]? = some F[j-off]! :=by
 have h4:j<(Sort.putCells id off F vs).size:=by rw[vv];exact h3
 rw[Array.getElem?_toList,Array.getElem?_eq_getElem h4]
 congr 1
 simp only[Sort.putCells,Array.getElem_mapIdx]
 rw[if_pos ⟨h1,h2⟩];rfl
theorem JF{d:Array α}{i r:Nat}(hi:i<d.size)(hr:r<k):(flatK enc k d)[i*k+r]! = (enc d[i]!)[r]! :=by
 have h1:(i*k+r)/k=i:=by rw[Nat.mul_comm,Nat.mul_add_div (by omega),Nat.div_eq_of_lt hr,Nat.add_zero]
 have h2:(i*k+r)%k=r:=by rw[Nat.mul_comm,Nat.mul_add_mod,Nat.mod_eq_of_lt hr]
 have h3:i*k+r<d.size*k:=by
  have:=Nat.mul_le_mul_right k (show i+1≤d.size from hi)
  rw[Nat.add_mul,Nat.one_mul] at this;omega
 rw[get_flatK _ _ _ _ h3,h1,h2]
theorem Kg(hk:∀x,(enc x).length=k){d:Array α}{vs:Array Value}{off:Nat}(h:off+d.size*k≤vs.size){i:Nat}(hi:i<d.size) :
  ((Sort.putCells id off (flatK enc k d) vs).toList.drop (off+i*k)).take k=enc d[i]! :=by
 have h3:i*k+k≤d.size*k:=by
  have:=Nat.mul_le_mul_right k (show i+1≤d.size from hi)
  rwa [Nat.add_mul,Nat.one_mul] at this
 apply List.ext_getElem?
 intro r
 by_cases hr:r<k
 ·rw[List.getElem?_take_of_lt hr,List.getElem?_drop,Uo (by omega) (by rw[size_flatK];omega) (by omega),show off+i*k+r-off=i*k+r by omega,JF hi hr]
  have h2:r<(enc d[i]!).length:=by rw[hk];exact hr
  rw[getElem!_pos (enc d[i]!) r h2,sN h2]
 ·rw[List.getElem?_take_eq_none (by omega),List.getElem?_eq_none (by rw[hk];omega)]
theorem Ln(hk:∀x,(enc x).length=k){w:World}{b off:Nat}{d:Array α}{vs:Array Value}{T:TypeId}(hb:w.heap[b]? = some (.cells vs T (0,0)))(h:off+d.size*k≤vs.size)
  (hd:∀i,i<d.size→(vs.toList.drop (off+i*k)).take k=enc d[i]!):HoldsK enc k w b off d:=by
 intro j hj
 rw[size_flatK] at hj
 have hk0:0<k:=by
  rcases Nat.eq_zero_or_pos k with e|e
  ·subst e;simp at hj
  ·exact e
 have hi:j/k<d.size:=(Nat.div_lt_iff_lt_mul hk0).2 hj
 have hr:j%k<k:=Nat.mod_lt _ hk0
 have e:j/k*k+j%k=j:=Nat.div_add_mod' j k
 refine⟨?_,?_⟩
 ·unfold World.cell?
  simp only[hb]
  have h1:off+j<vs.size:=by omega
  show(if (none:Option _).isSome then none else vs[off+j]?)=_
  rw[Option.isSome_none,if_neg (by decide),Array.getElem?_eq_getElem h1]
  congr 1
  show vs[off+j]=(flatK enc k d)[j]!
  have e0:(flatK enc k d)[j]! = (enc d[j/k]!)[j%k]! :=by rw[←JF hi hr,e]
  rw[e0,←hd _ hi]
  have h2:j%k<((vs.toList.drop (off+j/k*k)).take k).length:=by rw[hd _ hi,hk];exact hr
  rw[getElem!_pos ((vs.toList.drop (off+j/k*k)).take k) (j%k) h2,List.getElem_take,List.getElem_drop,Array.getElem_toList]
  congr 1
  omega
 ·unfold World.frozen?
  simp[hb]
end
section
open Go.Lib Go.RowKit Go.Shelf Go.Sort
theorem KH{P:Program}{ρ:Shelf.Ren}(L:SlLaysF0.n6 P ρ)(t:Ty){c:FuncId}{fn:Ty.Ts [t,t]→Ty.Ts [.int .i64]}(hc:aA.jk P c ⟨[t,t], [.int .i64],fun _=>true,fn⟩)(eg:∀args w,(callFunc c args).run P w=.ok (.enter c args) w)
  (aE:∀w,(isAgg (ρ.t 24)).run P w=.ok true w) (zE:∀w,(Go.sizeOf (ρ.t 24)).run P w=.ok t.size w) (hso:t.lN=true) (hag:t.isAgg=true)
  {lt:t.T→t.T→Bool} (hlt:∀x y,lt x y=decide ((show Int from fn (x,y))<0)) (hO:SWO lt) (hT:∀x y,lt x y=false→lt y x=false→x=y) {F:Func} (hF:P.funcs[ρ.f 6]? = some F) (hb:F.body.isSome=true) (hn:(F.name == "runtime.NumGoroutine")=false) :
  dw.Sound P (ρ.f 6) ⟨t, [], [c], [],fun _=>true,fun x=>(x.1.mergeSort fun a b=>!(lt b a),())⟩:=by
 refine⟨fun w I x y v aa B hI hv hB hy _=>?_,F,hF,hb,hn⟩
 have haa:aa=[]:=hy
 subst haa
 rcases gJ.1 hv with ⟨rfl,rfl,a,e⟩|⟨hne,b,dl,cap,rfl,e,h1,h2,vs,T,fr,h3,h4,h5,h6⟩
 ·cases e
  refine(AnyF.slices_SortFunc_none L a 0 (.func (.func c) #[] #[]) w).mono ?_
  rintro e w' ⟨rfl,rfl⟩
  exact⟨_,rfl,rfl,rfl,rfl,Nat.le_refl _,fun _ _ _=>rfl,I,fun b hb=>⟨.inl hb,hI b hb⟩,fun b us T fr h=>⟨us,T,fr,h,rfl⟩,gJ.2 (.inl ⟨by simp,rfl,a,rfl⟩),rfl⟩
 ·cases e
  have h4:fr=(0,0):=h4
  subst h4
  have hbl:b<w.heap.size:=(Array.getElem?_eq_some_iff.1 h3).1
  have hx0:0<x.length:=List.length_pos_iff.2 hne
  let α:Type:={p:List Value×t.T // aO w I t p.1 p.2}
  let el:(i:Nat)→i<x.length→α:=fun i hi=>⟨((vs.toList.drop (dl+i*t.size)).take t.size,x[i]),h6 i _ (sN hi)⟩
  haveI:Inhabited α:=⟨el 0 hx0⟩
  let enc:α→List Value:=fun p=>p.1.1
  let cf:α→α→Int:=fun p q=>fn (p.1.2,q.1.2)
  have hk:∀p,(enc p).length=t.size:=fun p=>aO.length t p.2
  have h1c:∀p,∀v∈enc p,v.oneCell'=true:=fun p=>aO.oneCell t hso p.2
  have hlo:∀p q,ltOf cf p q=lt p.1.2 q.1.2:=fun p q=>(hlt _ _).symm
  have hO':SWO (ltOf cf):=⟨fun p=>by rw[hlo];exact hO.irrefl _,fun p q r a b=>by rw[hlo] at a b ⊢;exact hO.trans _ _ _ a b,fun p q r a b=>by rw[hlo] at a b ⊢;exact hO.ntrans _ _ _ a b⟩
  let d:Array α:=Array.ofFn (n:=x.length) fun i=>el i.1 i.2
  have hds:d.size=x.length:=Array.size_ofFn
  have hdi:∀i (hi:i<x.length),d[i]! = el i hi:=fun i hi=>by
   rw[getElem!_pos d i (by rw[hds];exact hi)]
   exact Array.getElem_ofFn _
  have hfit:dl+d.size*t.size≤vs.size:=by
   have h7:=Nat.mul_le_mul_right t.size h1
   rw[hds]
   exact Nat.le_trans (Nat.add_le_add_left h7 dl) h5
  have hH:HoldsK enc t.size w b dl d:=Ln hk h3 hfit fun i hi=>by rw[hds] at hi;rw[hdi i hi]
  have hIb:¬I b:=hB b (List.mem_singleton.2 rfl)
  have keepI:∀(n:Nat) (dk:Array α) (os:Array Obj) (b':Nat),I b'→I b'∧(sortWorldK enc t.size w b dl n dk os).heap[b']? = w.heap[b']? :=fun n dk os b' hb'=>⟨hb',pP (hI b' hb') fun e=>hIb (e▸hb')⟩
  have hcmp:CmpLays P c #[] enc t.size cf b dl d.size w:=by
   intro m os dk hdk p q
   have hag':∀p:α,gp (sortWorldK enc t.size w b dl m dk os) I t (.agg (enc p).toArray) p.1.2:=fun p=>by
    unfold gp
    rw[if_pos hag]
    exact⟨_,rfl,aO.mono (keepI m dk os) t p.2⟩
   refine(hc (sortWorldK enc t.size w b dl m dk os) I (p.1.2,q.1.2) #[.agg (enc p).toArray,.agg (enc q).toArray] (fun b' hb'=>Nat.lt_of_lt_of_le (hI b' hb') (size_sortWorldK_c enc t.size w b dl m dk os)) ⟨_,_,rfl,hag' p,_,rfl,hag' q⟩ rfl).mono ?_
   rintro e w' ⟨g0,v,rfl,g1,g2,g3,g4,g5,I',_,g7⟩
   have g7:gp w' I' (.int .i64) v (cf p q):=g7
   have g7:v=.int .i64 (cf p q):=by
    unfold gp at g7
    rw[if_neg (by decide)] at g7
    have:=g7.1
    simpa using this
   refine⟨by rw[g7],w'.drawn-(sortWorldK enc t.size w b dl m dk os).drawn,w'.heap.extract (sortWorldK enc t.size w b dl m dk os).heap.size w'.heap.size,?_⟩
   generalize sortWorldK enc t.size w b dl m dk os=W at *
   cases w' with
   | mk hp tp dr o out=>
     cases W with
     | mk hp2 tp2 dr2 o2 out2=>
       simp only at g0 g1 g2 g3 g4 g5
       subst g1;subst g2;subst g3
       unfold Sort.grow World.drewN
       simp only[World.mk.injEq,true_and,and_true]
       refine⟨?_,by omega⟩
       apply Array.ext
       ·simp;omega
       ·intro i i1 i2
        by_cases hi:i<hp2.size
        ·rw[Array.getElem_append_left hi]
         have:=g5 i hi
         rw[Array.getElem?_eq_getElem i1,Array.getElem?_eq_getElem hi] at this
         exact Option.some.inj this
        ·rw[Array.getElem_append_right (by omega),Array.getElem_extract]
         congr 1
         omega
  have hsz:d.size<4611686018427387904:=by
   rw[hds]
   exact Nat.lt_of_le_of_lt h2 (by decide)
  have call:=AnyQ.slices_SortFunc L t.size aE zE enc hk h1c cf hO' c #[] b dl cap d w eg hcmp hH hbl hsz
  rw[hds] at call
  refine call.mono ?_
  rintro e w' ⟨rfl,d',n,os,hp,hs,rfl⟩
  obtain⟨p1,_,p3⟩:=hp
  have p1:d'.size=x.length:=p1.trans hds
  have e1:d'.extract 0 x.length=d':=by rw[←p1];exact Array.extract_size
  have e2:d.extract 0 x.length=d:=by rw[←hds];exact Array.extract_size
  rw[e1,e2] at p3
  have hdx:d.toList.map (fun p=>p.1.2)=x:=by
   apply List.ext_getElem
   ·rw[List.length_map,Array.length_toList,hds]
   ·intro i i1 i2
    rw[List.getElem_map,Array.getElem_toList]
    exact congrArg (fun p:α=>p.1.2) (Array.getElem_ofFn (f:=fun i:Fin x.length=>el i.1 i.2) (by rw[List.length_map,Array.length_toList] at i1;exact i1))
  have hsorted:d'.toList.map (fun p=>p.1.2)=x.mergeSort fun a b=>!(lt b a):=by
   haveI:Inhabited t.T:=⟨x[0]⟩
   have perm:(d'.toList.map fun p=>p.1.2).Perm x:=by
    have:=p3.map (fun p:α=>p.1.2)
    rwa [hdx] at this
   have hl:=perm.length_eq
   have:=sorted_unique_holds (lt:=lt) hO hT x.toArray (d'.toList.map fun p=>p.1.2).toArray ⟨by simp[p1],fun i hi=>by
     have:x.length≤i:=by
      rcases hi with h|h
      ·omega
      ·simpa using h
     simp[p1,this],by simpa [p1,List.take_of_length_le] using perm⟩ fun i j _ hij hj=>by
     have hj:j<x.length:=by simpa using hj
     have:=hs i j (Nat.zero_le _) hij hj
     rw[hlo] at this
     rw[getElem!_pos _ j (by simp[p1];exact hj),getElem!_pos _ i (by simp[p1];omega)]
     rw[getElem!_pos d' j (by rw[p1];exact hj),getElem!_pos d' i (by rw[p1];omega)] at this
     simpa using this
   simpa using this
  have hlen:(x.mergeSort fun a b=>!(lt b a)).length=x.length:=List.length_mergeSort _
  refine⟨_,rfl,rfl,rfl,rfl,size_sortWorldK_c enc t.size w b dl n d' os,fun b' hb' hne'=>pP hb' fun e=>hne' (List.mem_singleton.2 e),I,fun b' hb'=>⟨.inl hb',Nat.lt_of_lt_of_le (hI b' hb') (size_sortWorldK_c enc t.size w b dl n d' os)⟩,fun b' us T' dJ hb'=>?_,gJ.2 (.inr ⟨?_,b,dl,cap,rfl,?_,?_,?_,_,T,(0,0),y_ h3,rfl,?_,fun i z hz=>?_⟩),rfl⟩
  ·by_cases e:b'=b
   ·subst e
    rw[h3] at hb'
    cases hb'
    exact⟨_,_,_,y_ h3,vv⟩
   ·exact⟨us,T',dJ,by rw[pP (Array.getElem?_eq_some_iff.1 hb').1 e];exact hb',rfl⟩
  ·intro h
   have h:x.mergeSort (fun a b=>!(lt b a))=[]:=h
   rw[h] at hlen
   simp at hlen;omega
  ·show[_]=[Value.slice _ (x.mergeSort fun a b=>!(lt b a)).length _];rw[hlen]
  ·show(x.mergeSort fun a b=>!(lt b a)).length≤_;rw[hlen];exact h1
  ·show(x.mergeSort fun a b=>!(lt b a)).length≤_;rw[hlen];exact h2
  ·rw[vv];exact h5
  ·have hz:(x.mergeSort fun a b=>!(lt b a))[i]? = some z:=hz
   rw[←hsorted,List.getElem?_map,Option.map_eq_some_iff] at hz
   obtain⟨p,hp,rfl⟩:=hz
   obtain⟨hi,hp⟩:=List.getElem?_eq_some_iff.1 hp
   rw[Array.length_toList] at hi
   rw[Array.getElem_toList] at hp
   rw[Kg hk (by rw[p1,←hds];exact hfit) hi,getElem!_pos d' i hi,hp]
   exact aO.mono (keepI n d' os) t p.2
end
def Ij(f:bJ):List Int:=[f.2.2.2.1,f.2.2.2.2.1,f.1,f.2.1,f.2.2.1,f.2.2.2.2.2.1,f.2.2.2.2.2.2]
def lexB:List Int→List Int→Bool
 | a::l,b::m=>decide (a<b)||(decide (a=b)&&lexB l m)
 | _,_=>false
theorem MM:∀(l m:List Int),l.length=m.length→decide (ZF (List.zipWith Qz l m)<0)=lexB l m
 | [], [],_=>rfl
 | a::l,b::m,h=>by
   have ih:=MM l m (by simpa using h)
   rw[List.zipWith_cons_cons,ZF,lexB]
   unfold Qz
   by_cases h1:a<b
   ·rw[aL h1];rfl
   ·rw[aX h1,cond_false,Bool.false_or]
    by_cases h2:b<a
    ·rw[aL h2,aX (show ¬a=b by omega)];rfl
    ·rw[aX h2,aL (show a=b by omega),Bool.true_and]
     exact ih
theorem Jo:∀l:List Int,lexB l l=false
 | []=>rfl
 | a::l=>by rw[lexB,Jo l,aX (Int.lt_irrefl a),Bool.and_false];rfl
theorem Dy:∀(l m:List Int),l.length=m.length→lexB l m=false→lexB m l=false→l=m
 | [], [],_,_,_=>rfl
 | a::l,b::m,h,h1,h2=>by
   rw[lexB,Bool.or_eq_false_iff] at h1 h2
   have e:a=b:=by
    have:=of_decide_eq_false h1.1
    have:=of_decide_eq_false h2.1
    omega
   subst e
   rw[aL rfl,Bool.true_and] at h1 h2
   rw[Dy l m (by simpa using h) h1.2 h2.2]
theorem lex_trans:∀(l m n:List Int),lexB l m=true→lexB m n=true→lexB l n=true
 | [],_,_,h,_=>by simp[lexB] at h
 | _::_, [],_,h,_=>by simp[lexB] at h
 | _::_,_::_, [],_,h=>by simp[lexB] at h
 | a::l,b::m,c::n,h1,h2=>by
   rw[lexB,Bool.or_eq_true,ck,jN,jN] at h1 h2 ⊢
   rcases h1 with h1|⟨h1,k1⟩<;>rcases h2 with h2|⟨h2,k2⟩
   ·exact .inl (by omega)
   ·exact .inl (by omega)
   ·exact .inl (by omega)
   ·exact .inr ⟨by omega,lex_trans l m n k1 k2⟩
theorem GY(l m n:List Int)(hl:l.length=m.length)(hm:m.length=n.length)(h1:lexB l m=false)(h2:lexB m n=false):lexB l n=false:=by
 cases h3:lexB l n with
 | false=>rfl
 | true=>
   exfalso
   cases h4:lexB m l with
   | true=>rw[lex_trans m l n h4 h3] at h2;cases h2
   | false=>rw[Dy l m hl h1 h4,h2] at h3;cases h3
def o8(a b:bJ):Bool:=lexB (Ij a) (Ij b)
theorem OI(a b:bJ):o8 a b=decide ((show Int from LV (a,b))<0):=(MM (Ij a) (Ij b) rfl).symm
theorem QQ{a b:bJ}(h:Ij a=Ij b):a=b:=by
 obtain⟨a1,a2,a3,a4,a5,a6,a7⟩:=a
 obtain⟨b1,b2,b3,b4,b5,b6,b7⟩:=b
 simp only[Ij,List.cons.injEq,and_true] at h
 obtain⟨h1,h2,h3,h4,h5,h6,h7⟩:=h
 rw[h1,h2,h3,h4,h5,h6,h7]
theorem Kh:Sort.SWO o8:=⟨fun a=>Jo _,fun a b c=>lex_trans _ _ _,fun a b c=>GY _ _ _ rfl rfl⟩
theorem Kw(a b:bJ)(h1:o8 a b=false)(h2:o8 b a=false):a=b:=QQ (Dy _ _ rfl h1 h2)
def YD:Shelf.Ren:=⟨fun x=>match x with|6=>201|14=>262|15=>263|20=>299|21=>300|22=>301|23=>302|24=>303|25=>304|26=>305|27=>306|28=>307|29=>308|46=>330|47=>331|48=>332|49=>333|50=>334|57=>347|n=>n,fun x=>match x with|0=>0|3=>3|4=>4|5=>5|9=>9|22=>55|24=>66|25=>259|39=>128|45=>337|46=>338|50=>243|53=>275|55=>274|66=>353|70=>357|76=>369|77=>187|n=>n,fun x=>x⟩
theorem Tz:SlLaysF0.n6 Tryz.prog YD:=
 {mixed:=by kernel_rfl,f6:=⟨Tryz.f201.name,by kernel_rfl,Tryz.func201.trans (congrArg some (by kernel_rfl))⟩,f14:=⟨Tryz.f262.name,by kernel_rfl,Tryz.func262.trans (congrArg some (by kernel_rfl))⟩,f15:=Tryz.func263.trans (congrArg some (by kernel_rfl)),f20:=⟨Tryz.f299.name,by kernel_rfl,Tryz.func299.trans (congrArg some (by kernel_rfl))⟩,f21:=⟨Tryz.f300.name,by kernel_rfl,Tryz.func300.trans (congrArg some (by kernel_rfl))⟩,f22:=⟨Tryz.f301.name,by kernel_rfl,Tryz.func301.trans (congrArg some (by kernel_rfl))⟩,f23:=⟨Tryz.f302.name,by kernel_rfl,Tryz.func302.trans (congrArg some (by kernel_rfl))⟩,f24:=⟨Tryz.f303.name,by kernel_rfl,Tryz.func303.trans (congrArg some (by kernel_rfl))⟩,f25:=⟨Tryz.f304.name,by kernel_rfl,Tryz.func304.trans (congrArg some (by kernel_rfl))⟩,f26:=⟨Tryz.f305.name,by kernel_rfl,Tryz.func305.trans (congrArg some (by kernel_rfl))⟩,f27:=⟨Tryz.f306.name,by kernel_rfl,Tryz.func306.trans (congrArg some (by kernel_rfl))⟩,f28:=Tryz.func307.trans (congrArg some (by kernel_rfl)),f29:=Tryz.func308.trans (congrArg some (by kernel_rfl)),f46:=⟨Tryz.f330.name,by kernel_rfl,Tryz.func330.trans (congrArg some (by kernel_rfl))⟩,f47:=Tryz.func331.trans (congrArg some (by kernel_rfl)),f48:=Tryz.func332.trans (congrArg some (by kernel_rfl)),f49:=⟨Tryz.f333.name,by kernel_rfl,Tryz.func333.trans (congrArg some (by kernel_rfl))⟩,f50:=⟨Tryz.f334.name,by kernel_rfl,Tryz.func334.trans (congrArg some (by kernel_rfl))⟩,f57:=⟨Tryz.f347.name,by kernel_rfl,Tryz.func347.trans (congrArg some (by kernel_rfl))⟩,t0:=Tryz.underlying0,a0:=Tryz.isAgg0,z0:=Tryz.sizeOf0,v0:=Tryz.zeroValue0,t3:=Tryz.underlying3,a3:=Tryz.isAgg3,z3:=Tryz.sizeOf3,v3:=Tryz.zeroValue3,t4:=Tryz.underlying4,a4:=Tryz.isAgg4,z4:=Tryz.sizeOf4,v4:=Tryz.zeroValue4,t5:=Tryz.underlying5,a5:=Tryz.isAgg5,z5:=Tryz.sizeOf5,v5:=Tryz.zeroValue5,t9:=Tryz.underlying9,a9:=Tryz.isAgg9,z9:=Tryz.sizeOf9,v9:=Tryz.zeroValue9,t22:=Tryz.underlying55,a22:=Tryz.isAgg55,z22:=Tryz.sizeOf55,v22:=Tryz.zeroValue55,t25:=Tryz.underlying259,a25:=Tryz.isAgg259,z25:=Tryz.sizeOf259,v25:=Tryz.zeroValue259,t39:=Tryz.underlying128,a39:=Tryz.isAgg128,z39:=Tryz.sizeOf128,v39:=Tryz.zeroValue128,t45:=Tryz.underlying337,a45:=Tryz.isAgg337,z45:=Tryz.sizeOf337,v45:=Tryz.zeroValue337,t46:=Tryz.underlying338,a46:=Tryz.isAgg338,z46:=Tryz.sizeOf338,v46:=Tryz.zeroValue338,t50:=Tryz.underlying243,a50:=Tryz.isAgg243,z50:=Tryz.sizeOf243,v50:=Tryz.zeroValue243,t53:=Tryz.underlying275,a53:=Tryz.isAgg275,z53:=Tryz.sizeOf275,v53:=Tryz.zeroValue275,t55:=Tryz.underlying274,a55:=Tryz.isAgg274,z55:=Tryz.sizeOf274,v55:=Tryz.zeroValue274,t66:=Tryz.underlying353,a66:=Tryz.isAgg353,z66:=Tryz.sizeOf353,v66:=Tryz.zeroValue353,t70:=Tryz.underlying357,a70:=Tryz.isAgg357,z70:=Tryz.sizeOf357,v70:=Tryz.zeroValue357,t76:=Tryz.underlying369,a76:=Tryz.isAgg369,z76:=Tryz.sizeOf369,v76:=Tryz.zeroValue369,t77:=Tryz.underlying187,a77:=Tryz.isAgg187,z77:=Tryz.sizeOf187,v77:=Tryz.zeroValue187}
def wv:List bJ×Unit→List bJ×Unit:=fun x=>(x.1.mergeSort fun a b=>!(o8 b a),())
def ado:dw:=⟨bu, [], [202], [],fun _=>true,wv⟩
theorem ac5:dw.Sound Tryz.prog 201 ado:=
 KH Tz bu (fn:=LV) abV.1 (enters_of Tryz.func202 (by kernel_rfl) rfl) Tryz.isAgg66 Tryz.sizeOf66 (by kernel_rfl) (by kernel_rfl) OI Kh Kw Tryz.func201 (by kernel_rfl) (by kernel_rfl)
abbrev UI(A:aI)(x2:Int)(y2:Int):=(A.b .add .u64 (A.b .mul .u64 (A.b .shr .u64 x2 32) (A.b .and .u64 y2 4294967295)) (A.b .shr .u64 (A.b .mul .u64 (A.b .and .u64 x2 4294967295) (A.b .and .u64 y2 4294967295)) 32))
def YP(A:aI)(x2:Int)(y2:Int):LT (Int×Int) Empty:=.ret ((A.b .add .u64 (A.b .add .u64 (A.b .mul .u64 (A.b .shr .u64 x2 32) (A.b .shr .u64 y2 32)) (A.b .shr .u64 (UI A x2 y2) 32)) (A.b .shr .u64 (A.b .add .u64 (A.b .and .u64 (UI A x2 y2) 4294967295) (A.b .mul .u64 (A.b .and .u64 x2 4294967295) (A.b .shr .u64 y2 32))) 32)),(A.b .mul .u64 x2 y2))
def UX:(Int×Int)→(Int×Int):=fun(x2,y2)=>(YP ah x2 y2).val (Ty.bi [(.int .u64),(.int .u64)])
def abG:aA:=⟨[(.int .u64),(.int .u64)], [(.int .u64),(.int .u64)],(@tt (Int×Int)),UX⟩
theorem ab4:Sd 259 abG:=aH ar bR true 92 [] (fun A (x2,y2)=>YP A x2 y2) (fc Tryz.func259 fz) sz (fun((x2,y2):Int×Int) hp h=>by
 show(YP ah x2 y2).pre=true
 rfl)
def Wm(A:aI)(x2:Int)(y2:Int):LT (Int×Int) Empty:=.need (A.k (@tt (Int×Int)) (x2,y2)) (.ret (A.k UX (x2,y2)))
def tj:(Int×Int)→(Int×Int):=fun(x2,y2)=>(Wm ah x2 y2).val (Ty.bi [(.int .u64),(.int .u64)])
def abt:aA:=⟨[(.int .u64),(.int .u64)], [(.int .u64),(.int .u64)],(@tt (Int×Int)),tj⟩
theorem Vk:Sd 198 abt:=aH ar bR true 32 [] (fun A (x2,y2)=>Wm A x2 y2) (fc Tryz.func198 fz) (sc ab4 sz) (fun((x2,y2):Int×Int) hp h=>by
 show(Wm ah x2 y2).pre=true
 rfl)
structure NF where
 (a1:List Int) (a2 a3 a4:Int)
structure Me where
 (b0:List Int) (b1 b2 b3:Int)
inductive Ui where
 | c0 (p:NF) (a0:Int) (a5:List Int)
 | c1 (p:Me) (b4:Int) (b5:List Int)
noncomputable def Ws:Ui→eT
 | .c0 p a0 a5=>⟨[⟨199,48,(en [(7,.own 0),(8,vi a0)]),[.inLoop (cw Tryz.f199 [1,1,1,1,1,1,0,0,0]),.inBlock 0,.code (cw Tryz.f199 [1,1,1,1,1,1,1])],[],none⟩,⟨131,37,(en [(0,.sl yI p.a1),(1,vi p.a2),(2,vi p.a3),(3,vi p.a4)]),[.ops (ow Tryz.f131 [1,0]) ((ow Tryz.f131 [1,0]).toList.drop 3),.code (cw Tryz.f131 [1,1])],[],none⟩],[.arr false yI a5,.dead]⟩
 | .c1 p b4 b5=>⟨[⟨131,37,(en [(0,.sl yI p.b0),(2,vi p.b1),(3,vi p.b2),(11,.own 0),(20,vi p.b3),(21,vi b4)]),[.inLoop (cw Tryz.f131 [1,1,0,1,0,0]),.inBlock 0,.code (cw Tryz.f131 [1,1,1])],[],none⟩],[.arr false yI b5,.dead]⟩
abbrev wj(A:aI)(n:Int):=(A.v .i64 (A.k tj (1,(A.v .u64 n))).2)
def aai(A:aI)(l:List Int)(n:Int)(least:Int)(most:Int)(missing:Int):LT (List Int) Ui:=.br (A.c .lss n 0) (.bad 117 "slices.go:516") (.need (A.k (@tt (Int×Int)) (1,(A.v .u64 n))) (.br (A.c .gtr (A.k tj (1,(A.v .u64 n))).1 0) (.bad 117 "slices.go:522") (.br (A.c .gtr (A.k tj (1,(A.v .u64 n))).2 9223372036854775807) (.bad 117 "slices.go:522") (.need (A.and (A.c .eql (wj A n) (wj A n)) (A.and (A.c .leq 0 (wj A n)) (A.c .leq (wj A n) 17592186044416))) (.more (.c0 ⟨l,n,least,most⟩ (A.mn (A.l [missing]) (A.l (A.r (wj A n) (0:Int)))) (A.spl (A.r (wj A n) (0:Int)) 0 (A.s [missing] 0 (A.mn (A.l [missing]) (A.l (A.r (wj A n) (0:Int))))))))))))
def KC(A:aI):Ui→LT (List Int) Ui
 | .c0 p a0 a5=>.br (A.c .lss a0 (A.l a5)) (.need (A.and (A.c .leq 0 a0) (A.and (A.c .leq a0 (A.l a5)) (A.c .leq (A.l a5) (A.l a5)))) (.need (A.and (A.c .leq 0 0) (A.and (A.c .leq 0 a0) (A.c .leq a0 (A.l a5)))) (.more (.c0 p (A.b .add .i64 a0 (A.mn (A.l (A.s a5 0 (A.b .add .i64 0 (A.b .sub .i64 a0 0)))) (A.b .sub .i64 (A.l a5) a0))) (A.spl a5 a0 (A.s (A.s a5 0 (A.b .add .i64 0 (A.b .sub .i64 a0 0))) 0 (A.mn (A.l (A.s a5 0 (A.b .add .i64 0 (A.b .sub .i64 a0 0)))) (A.b .sub .i64 (A.l a5) a0)))))))) (.more (.c1 ⟨p.a1,p.a3,p.a4,(A.mn p.a2 (A.l p.a1))⟩ 0 a5))
 | .c1 p b4 b5=>.br (A.c .lss b4 p.b3) (.need (A.and (A.c .leq 0 b4) (A.c .lss b4 (A.l p.b0))) (.need (A.and (A.c .leq 0 b4) (A.c .lss b4 (A.l b5))) (.more (.c1 p (A.b .add .i64 b4 1) (A.set b5 b4 (A.mn (A.mx (A.n yI p.b0 b4:Int) p.b1) p.b2)))))) (.ret b5)
theorem OO:∀n:Fin 1025,ah.k tj (1,ah.v .u64 (n.val:Int))=((0,(n.val:Int)):Int×Int):=by decide +kernel
theorem B9{i j:Nat}(h:j≤i)(hi:i<4611686018427387904):ah.b .sub .i64 (i:Int) (j:Int)=((i-j:Nat):Int):=by
 rw[cn,iU (by omega) (by omega)];omega
theorem oy{i j:Nat}:ah.mn (i:Int) (j:Int)=((min i j:Nat):Int):=by
 rw[nL];split<;>omega
theorem L4{p:NF}{v:Int}{N:Nat}{r:List Int}(hN:N≤1024)(hT:ay (KC ah) (.more (.c1 ⟨p.a1,p.a3,p.a4,ah.mn p.a2 (ah.l p.a1)⟩ 0 (List.replicate N v))) r):∀(j k:Nat),N-k≤j→(N≠0→1≤k)→k≤N→
  ay (KC ah) (.more (.c0 p (k:Int) (List.replicate k v++List.replicate (N-k) 0))) r:=by
 have fin:∀k,k=N→ay (KC ah) (.more (.c0 p (k:Int) (List.replicate k v++List.replicate (N-k) 0))) r:=by
  rintro k rfl
  rw[Nat.sub_self,List.replicate_zero,List.append_nil]
  refine al.2 ((ai ?_).2 hT)
  rw[bK,aG];simp
 intro j
 induction j with
 | zero=>intro k h1 h2 h3;exact fin k (by omega)
 | succ j ih=>
   intro k h1 h2 h3
   by_cases hk:k=N
   ·exact fin k hk
   have hlen:(List.replicate k v++List.replicate (N-k) (0:Int)).length=N:=by
    rw[fY,pg,pg];omega
   have h2':=h2 (by omega)
   have e0:ah.b .add .i64 0 (ah.b .sub .i64 (k:Int) 0)=(k:Int):=by
    rw[show(0:Int)=((0:Nat):Int) from rfl,B9 (Nat.zero_le _) (by omega),eE (by omega)];omega
   have e1:ah.s (List.replicate k v++List.replicate (N-k) (0:Int)) 0 (k:Int)=List.replicate k v:=by
    rw[fS,gF,List.take_left' (by rw[pg])];rfl
   have e2:ah.b .sub .i64 (N:Int) (k:Int)=((N-k:Nat):Int):=B9 h3 (by omega)
   refine al.2 ((aj ?_).2 (af.2 ⟨?_,af.2 ⟨?_,?_⟩⟩))
   ·rw[bK,aG,hlen];exact aL (by omega)
   ·rw[bK,hlen,aK,aK,ap,ap,ap];simp;omega
   ·rw[bK,hlen,aK,aK,ap,ap,ap];simp;omega
   ·rw[e0,e1,bK,bK,hlen,pg,e2,oy,eE (by omega),fS,gF]
    have e3:ah.spl (List.replicate k v++List.replicate (N-k) (0:Int)) (k:Int) (((List.replicate k v).take (min k (N-k))).drop (0:Int).toNat)=List.replicate (k+min k (N-k)) v++List.replicate (N-(k+min k (N-k))) 0:=by
     rw[jf,gF,List.take_left' (by rw[pg]),List.take_replicate]
     show List.replicate k v++List.replicate _ v++List.drop (k+(List.replicate _ v).length) _=_
     rw[pg,List.drop_append,List.drop_replicate,List.drop_replicate,pg,Nat.min_assoc,List.replicate_append_replicate]
     rw[show k-(k+min k (min (N-k) k))=0 by omega,List.replicate_zero,List.nil_append]
     congr 2<;>omega
    rw[e3]
    exact ih (k+min k (N-k)) (by omega) (fun _=>by omega) (by omega)
def vL(lo hi x:Int):Int:=ah.mn (ah.mx x lo) hi
def rowP(l:List Int)(n:Nat)(lo hi ms:Int):List Int:=(l.take n).map (vL lo hi)++List.replicate (n-l.length) ms
theorem LS{p:Me}{l:List Int}{N:Nat}{lo hi ms:Int}(h0:p.b0=l)(h1:p.b1=lo)(h2:p.b2=hi)(h3:p.b3=((min N l.length:Nat):Int))(hN:N≤1024) :
  ∀(j i:Nat),min N l.length-i=j→i≤min N l.length→ay (KC ah) (.more (.c1 p (i:Int) ((l.take i).map (vL lo hi)++List.replicate (N-i) ms))) (rowP l N lo hi ms):=by
 intro j
 induction j with
 | zero=>
   intro i hj hi
   refine al.2 ((ai ?_).2 (au ?_ (.ret _)))
   ·rw[h3,aG];exact aX (by omega)
   ·unfold rowP
    rcases Nat.le_total N l.length with h|h
    ·rw[show i=N by omega,Nat.sub_self,show N-l.length=0 by omega]
    ·rw[show i=l.length by omega,List.take_of_length_le (Nat.le_refl _),List.take_of_length_le h]
 | succ j ih=>
   intro i hj hi'
   have hil:i<l.length:=by omega
   have hlen:((l.take i).map (vL lo hi)++List.replicate (N-i) ms).length=N:=by
    rw[fY,List.length_map,List.length_take,pg];omega
   refine al.2 ((aj ?_).2 (af.2 ⟨?_,af.2 ⟨?_,?_⟩⟩))
   ·rw[h3,aG];exact aL (by omega)
   ·rw[h0];exact aP hil
   ·exact aP (by rw[hlen];omega)
   ·rw[h0,h1,h2,show(ah.n yI l (i:Int):Int)=l[i] from getD_in hil _,cm (by omega),xK,gF]
    have e:((l.take i).map (vL lo hi)++List.replicate (N-i) ms).set i (ah.mn (ah.mx l[i] lo) hi)=(l.take (i+1)).map (vL lo hi)++List.replicate (N-(i+1)) ms:=by
     have hl:((l.take i).map (vL lo hi)).length=i:=by rw[List.length_map,List.length_take];omega
     rw[List.set_append,hl,if_neg (Nat.lt_irrefl _),Nat.sub_self,show N-i=N-(i+1)+1 by omega,List.replicate_succ,List.set_cons_zero,List.take_succ_eq_append_getElem hil,List.map_append,List.append_assoc]
     rfl
    rw[e]
    exact ih (i+1) (by omega) (by omega)
theorem Zu{l:List Int}{n lo hi ms:Int}(h:0≤n∧n≤1024):ay (KC ah) (aai ah l n lo hi ms) (rowP l n.toNat lo hi ms):=by
 obtain⟨N,rfl⟩:=Int.eq_ofNat_of_zero_le h.1
 have hN:N≤1024:=by omega
 rw[gF]
 have row:=LS (p:=⟨l,lo,hi,ah.mn (N:Int) (ah.l l)⟩) (l:=l) (ms:=ms) rfl rfl rfl (by rw[bK,oy]) hN (min N l.length) 0 (by omega) (by omega)
 have key:=L4 (p:=⟨l,(N:Int),lo,hi⟩) (v:=ms) hN row N (min 1 N) (by omega) (fun h=>by omega) (by omega)
 have hm:=OO ⟨N,by omega⟩
 simp only at hm
 have hc:ah.v .i64 (N:Int)=(N:Int):=iU (by omega) (by omega)
 unfold aai wj
 rw[hm,hc]
 refine(ai ?_).2 (af.2 ⟨rfl,(ai rfl).2 ((ai ?_).2 (af.2 ⟨?_,?_⟩))⟩)
 ·rw[ao];exact aX (by omega)
 ·show decide ((N:Int) > 9223372036854775807)=false;exact aX (by omega)
 ·rw[aK,aK,aD,ap,ap];simp;omega
 ·have e:ah.r (N:Int) (0:Int)=List.replicate N 0:=by rw[nD,gF]
  rw[e,bK,bK,pg,oy]
  have e2:ah.spl (List.replicate N (0:Int)) 0 (ah.s [ms] 0 ((min [ms].length N:Nat):Int))=List.replicate (min 1 N) ms++List.replicate (N-min 1 N) 0:=by
   rcases Nat.eq_zero_or_pos N with rfl|hN
   ·rfl
   ·obtain⟨M,rfl⟩:∃M,N=M+1:=⟨N-1,by omega⟩
    have h1:min 1 (M+1)=1:=by omega
    rw[jf,fS,List.length_singleton,h1]
    simp[List.replicate_succ]
  rw[e2]
  exact key
def Ep:(List Int×Int×Int×Int×Int)→(List Int):=fun(l,n,lo,hi,ms)=>rowP l n.toNat lo hi ms
def ml:(List Int×Int×Int×Int×Int)→Bool:=fun(_,n,_,_,_)=>decide (0≤n∧n≤1024)
def aew:aA:=⟨[BO,yI,yI,yI,yI], [BO],ml,Ep⟩
theorem aeq:Sd 131 aew:=aT ar bR true 71 [⟨131,3, [[0,2,3,11,20,21]]⟩,⟨199,8, [[7,8], [0,1,2,3]]⟩] [] (fun A (l,n,least,most,missing)=>aai A l n least most missing) KC Ws (fc Tryz.func131 (fc Tryz.func199 fz)) (sc Vk sz) (fun A y=>match y with |.c0 p a0 a5=>⟨35,by kernel_rfl,by kernel_rfl⟩|.c1 p b4 b5=>⟨39,by kernel_rfl,by kernel_rfl⟩) fun((l,n,least,most,missing):List Int×Int×Int×Int×Int) hp h=>Zu (of_decide_eq_true hp)
inductive SP where
 | c0 (a0:Int) (a1:List Bool)
noncomputable def XE:SP→eT
 | .c0 a0 a1=>⟨[⟨130,48,(en [(7,.own 0),(8,vi a0)]),[.inLoop (cw Tryz.f130 [1,1,1,1,1,1,0,0,0]),.inBlock 0,.code (cw Tryz.f130 [1,1,1,1,1,1,1])],[],none⟩],[.arr false .bool a1,.dead]⟩
abbrev wH(A:aI)(x2:List Bool)(count:Int):=(A.v .i64 (A.k tj ((A.v .u64 (A.l x2)),(A.v .u64 count))).2)
def Zz(A:aI)(x2:List Bool)(count:Int):LT (Bool×(List Bool)×Unit) SP:=.br (A.c .lss count 0) (.bad 117 "slices.go:516") (.need (A.k (@tt (Int×Int)) ((A.v .u64 (A.l x2)),(A.v .u64 count))) (.br (A.c .gtr (A.k tj ((A.v .u64 (A.l x2)),(A.v .u64 count))).1 0) (.bad 117 "slices.go:522") (.br (A.c .gtr (A.k tj ((A.v .u64 (A.l x2)),(A.v .u64 count))).2 9223372036854775807) (.bad 117 "slices.go:522") (.need (A.and (A.c .eql (wH A x2 count) (wH A x2 count)) (A.and (A.c .leq 0 (wH A x2 count)) (A.c .leq (wH A x2 count) 140737488355328))) (.more (.c0 (A.mn (A.l x2) (A.l (A.r (wH A x2 count) false))) (A.spl (A.r (wH A x2 count) false) 0 (A.s x2 0 (A.mn (A.l x2) (A.l (A.r (wH A x2 count) false)))))))))))
def R0(A:aI):SP→LT (Bool×(List Bool)×Unit) SP
 | .c0 a0 a1=>.br (A.c .lss a0 (A.l a1)) (.need (A.and (A.c .leq 0 a0) (A.and (A.c .leq a0 (A.l a1)) (A.c .leq (A.l a1) (A.l a1)))) (.need (A.and (A.c .leq 0 0) (A.and (A.c .leq 0 a0) (A.c .leq a0 (A.l a1)))) (.more (.c0 (A.b .add .i64 a0 (A.mn (A.l (A.s a1 0 (A.b .add .i64 0 (A.b .sub .i64 a0 0)))) (A.b .sub .i64 (A.l a1) a0))) (A.spl a1 a0 (A.s (A.s a1 0 (A.b .add .i64 0 (A.b .sub .i64 a0 0))) 0 (A.mn (A.l (A.s a1 0 (A.b .add .i64 0 (A.b .sub .i64 a0 0)))) (A.b .sub .i64 (A.l a1) a0)))))))) (.ret (true,a1,()))
theorem Lm{v:Bool}{N:Nat}(hN:N≤1024):∀(j k:Nat),N-k≤j→(N≠0→1≤k)→k≤N→
  ay (R0 ah) (.more (.c0 (k:Int) (List.replicate k v++List.replicate (N-k) false))) (true,List.replicate N v,()):=by
 have fin:∀k,k=N→ay (R0 ah) (.more (.c0 (k:Int) (List.replicate k v++List.replicate (N-k) false))) (true,List.replicate N v,()):=by
  rintro k rfl
  rw[Nat.sub_self,List.replicate_zero,List.append_nil]
  refine al.2 ((ai ?_).2 (.ret _))
  rw[bK,aG];simp
 intro j
 induction j with
 | zero=>intro k h1 h2 h3;exact fin k (by omega)
 | succ j ih=>
   intro k h1 h2 h3
   by_cases hk:k=N
   ·exact fin k hk
   have hlen:(List.replicate k v++List.replicate (N-k) false).length=N:=by
    rw[fY,pg,pg];omega
   have h2':=h2 (by omega)
   have e0:ah.b .add .i64 0 (ah.b .sub .i64 (k:Int) 0)=(k:Int):=by
    rw[show(0:Int)=((0:Nat):Int) from rfl,B9 (Nat.zero_le _) (by omega),eE (by omega)];omega
   have e1:ah.s (List.replicate k v++List.replicate (N-k) false) 0 (k:Int)=List.replicate k v:=by
    rw[fS,gF,List.take_left' (by rw[pg])];rfl
   have e2:ah.b .sub .i64 (N:Int) (k:Int)=((N-k:Nat):Int):=B9 h3 (by omega)
   refine al.2 ((aj ?_).2 (af.2 ⟨?_,af.2 ⟨?_,?_⟩⟩))
   ·rw[bK,aG,hlen];exact aL (by omega)
   ·rw[bK,hlen,aK,aK,ap,ap,ap];simp;omega
   ·rw[bK,hlen,aK,aK,ap,ap,ap];simp;omega
   ·rw[e0,e1,bK,bK,hlen,pg,e2,oy,eE (by omega),fS,gF]
    have e3:ah.spl (List.replicate k v++List.replicate (N-k) false) (k:Int) (((List.replicate k v).take (min k (N-k))).drop (0:Int).toNat)=List.replicate (k+min k (N-k)) v++List.replicate (N-(k+min k (N-k))) false:=by
     rw[jf,gF,List.take_left' (by rw[pg]),List.take_replicate]
     show List.replicate k v++List.replicate _ v++List.drop (k+(List.replicate _ v).length) _=_
     rw[pg,List.drop_append,List.drop_replicate,List.drop_replicate,pg,Nat.min_assoc,List.replicate_append_replicate]
     rw[show k-(k+min k (min (N-k) k))=0 by omega,List.replicate_zero,List.nil_append]
     congr 2<;>omega
    rw[e3]
    exact ih (k+min k (N-k)) (by omega) (fun _=>by omega) (by omega)
theorem WL{l:List Bool}{n:Int}(h:l.length=1∧0≤n∧n≤1024):ay (R0 ah) (Zz ah l n) (true,List.replicate n.toNat (l.getD 0 false),()):=by
 obtain⟨N,rfl⟩:=Int.eq_ofNat_of_zero_le h.2.1
 obtain⟨v,rfl⟩:=List.length_eq_one_iff.1 h.1
 have hN:N≤1024:=by omega
 rw[gF]
 have key:=Lm (v:=v) hN N (min 1 N) (by omega) (fun h=>by omega) (by omega)
 have hm:=OO ⟨N,by omega⟩
 simp only at hm
 have hm:ah.k tj (ah.v .u64 (ah.l [v]),ah.v .u64 (N:Int))=((0,(N:Int)):Int×Int):=hm
 have hc:ah.v .i64 (N:Int)=(N:Int):=iU (by omega) (by omega)
 unfold Zz wH
 rw[hm,hc]
 refine(ai ?_).2 (af.2 ⟨rfl,(ai rfl).2 ((ai ?_).2 (af.2 ⟨?_,?_⟩))⟩)
 ·rw[ao];exact aX (by omega)
 ·show decide ((N:Int) > 9223372036854775807)=false;exact aX (by omega)
 ·rw[aK,aK,aD,ap,ap];simp;omega
 ·have e:ah.r (N:Int) false=List.replicate N false:=by rw[nD,gF]
  rw[e,bK,bK,pg,oy]
  have e2:ah.spl (List.replicate N false) 0 (ah.s [v] 0 ((min [v].length N:Nat):Int))=List.replicate (min 1 N) v++List.replicate (N-min 1 N) false:=by
   rcases Nat.eq_zero_or_pos N with rfl|hN
   ·rfl
   ·obtain⟨M,rfl⟩:∃M,N=M+1:=⟨N-1,by omega⟩
    have h1:min 1 (M+1)=1:=by omega
    rw[jf,fS]
    simp[List.replicate_succ]
  rw[e2]
  exact key
def LJ:(List Bool×Int)→Bool×(List Bool)×Unit:=fun(l,n)=>(true,List.replicate n.toNat (l.getD 0 false),())
def yc:(List Bool×Int)→Bool:=fun(l,n)=>decide (l.length=1∧0≤n∧n≤1024)
def ab1:j_:=⟨[(.slice .bool),yI],.own .bool,false, [],yc,LJ⟩
theorem acU:j_.Sound Tryz.prog 130 ab1:=uR ar bR true 61 oz iz mz pz [⟨130,8, [[7,8]]⟩] [] (fun A (x2,count)=>Zz A x2 count) R0 XE (fc Tryz.func130 fz) (sc Vk sz) (fun A y=>match y with |.c0 a0 a1=>⟨30,by kernel_rfl,by kernel_rfl⟩) fun((x2,count):(List Bool×Int)) hp h=>WL (of_decide_eq_true hp)
def TS(A:aI)(m:ak)(o:bg):LT Bool Empty:=.br (A.c .geq o.1 0) (.br (A.not (A.c .lss o.1 m.1)) (.ret false) (.br (A.c .geq o.2.2.1 0) (.br (A.not (A.c .lss o.2.2.1 m.1)) (.ret false) (.br (A.c .lss o.2.1 0) (.ret false) (.br (A.c .geq o.2.1 16) (.ret false) (.br (A.c .eql o.2.2.2.1 1) (.br (A.c .eql o.2.2.2.2.1 0) (.ret (A.c .leq (A.l o.2.2.2.2.2) 8)) (.ret false)) (.br (A.c .eql o.2.2.2.1 2) (.br (A.c .eql o.2.2.2.2.1 0) (.ret (A.c .eql (A.l o.2.2.2.2.2) 0)) (.ret false)) (.br (A.c .eql o.2.2.2.1 3) (.br (A.c .geq o.2.2.2.2.1 (-1)) (.br (A.c .lss o.2.2.2.2.1 (A.l m.2.2.2.2.2.2.2)) (.ret (A.c .eql (A.l o.2.2.2.2.2) 0)) (.ret false)) (.ret false)) (.ret false))))))) (.ret false))) (.ret false)
def lL:(ak×bg)→Bool:=fun(m,o)=>(TS ah m o).val (Ty.bi [.bool])
def adH:aA:=⟨[aN,bC], [.bool],(@tt (ak×bg)),lL⟩
theorem afF:Sd 133 adH:=aH ar bR true 125 [] (fun A (m,o)=>TS A m o) (fc Tryz.func133 (fc Tryz.func204 fz)) sz (fun((m,o):ak×bg) hp h=>by
 show(TS ah m o).pre=true
 simp only[TS,LT.pre,D6,bne_iff_ne,beq_iff_eq,bne_eq_false_iff_eq,beq_eq_false_iff_ne]
 simp only[Ty.cv,Ty.has,ky,vV] at h
 (repeat' (first|intro _|constructor))<;>(try omega))
abbrev IL(A:aI)(m:ak)(kind:Int):LT (List (Int×Int)×Bool) Empty:=(.br (A.c .eql kind 5) (.ret ([(0,0),(0,1),(0,(A.b .sub .i64 m.1 1)),(0,0),(0,0)],true)) (.br (A.c .eql kind 12) (.ret ([(0,0),(0,1),(0,0),(0,0),(0,0)],true)) (.br (A.c .eql kind 7) (.ret ([(0,(A.b .sub .i64 m.1 1)),(0,0),(0,0),(0,200),(0,0)],true)) (.br (A.c .eql kind 8) (.ret ([(0,(A.b .sub .i64 m.1 1)),(0,0),(0,0),((A.u .neg .i64 m.2.2.1),m.2.2.1),(0,0)],true)) (.br (A.c .eql kind 9) (.ret ([(0,(A.b .sub .i64 m.1 1)),(0,0),(0,(A.b .sub .i64 m.1 1)),(0,(A.b .sub .i64 m.2.1 1)),(1,m.2.1)],true)) (.br (A.c .eql kind 10) (.ret ([(0,(A.b .sub .i64 m.1 1)),(0,0),(0,(A.b .sub .i64 m.1 1)),(0,(A.b .sub .i64 m.1 1)),(0,0)],true)) (.ret ([(0,0),(0,0),(0,0),(0,0),(0,0)],false))))))))
abbrev Jd(A:aI)(m:ak)(kind:Int):LT (List (Int×Int)×Bool) Empty:=(.br (A.c .eql kind 3) (.br (A.c .eql kind 3) (.ret ([(0,(A.b .sub .i64 m.1 1)),(0,0),(0,0),(0,0),(0,0)],true)) (IL A m kind)) (.br (A.c .eql kind 4) (.br (A.c .eql kind 4) (.ret ([(0,(A.b .sub .i64 m.1 1)),(0,0),(0,0),(0,0),(0,0)],true)) (IL A m kind)) (.br (A.c .eql kind 11) (.ret ([(0,(A.b .sub .i64 m.1 1)),(0,0),(0,0),(0,0),(0,0)],true)) (IL A m kind))))
abbrev IB(A:aI)(m:ak):LT (List (Int×Int)×Bool) Empty:=(.ret ([(0,(A.b .sub .i64 m.1 1)),(0,0),(0,(A.b .sub .i64 m.1 1)),(0,0),(0,0)],true))
def T9(A:aI)(m:ak)(kind:Int):LT (List (Int×Int)×Bool) Empty:=.br (A.c .eql kind 1) (.br (A.c .eql kind 1) (IB A m) (Jd A m kind)) (.br (A.c .eql kind 2) (.br (A.c .eql kind 2) (IB A m) (Jd A m kind)) (.br (A.c .eql kind 6) (IB A m) (Jd A m kind)))
def oZ:(ak×Int)→(List (Int×Int)×Bool):=fun(m,kind)=>(T9 ah m kind).val (Ty.bi [(.arr 5 (.struct [yI,yI])),.bool])
def afz:aA:=⟨[aN,yI], [(.arr 5 (.struct [yI,yI])),.bool],(@tt (ak×Int)),oZ⟩
theorem ae2:Sd 260 afz:=aH ar bR true 159 [] (fun A (m,kind)=>T9 A m kind) (fc Tryz.func260 fz) sz (fun((m,kind):ak×Int) hp h=>by
 show(T9 ah m kind).pre=true
 simp only[T9,IB,Jd,IL,LT.pre,D6,bne_iff_ne,beq_iff_eq,bne_eq_false_iff_eq,beq_eq_false_iff_ne]
 simp only[Ty.cv,Ty.has,ky,vV] at h
 (repeat' (first|intro _|constructor))<;>(try omega))
def Sz(A:aI)(lleast:Int)(lmost:Int)(n:Int):LT Bool Empty:=.br (A.c .geq n lleast) (.ret (A.c .leq n lmost)) (.ret false)
def A_:((Int×Int)×Int)→Bool:=fun((lleast,lmost),n)=>(Sz ah lleast lmost n).val (Ty.bi [.bool])
def aem:aA:=⟨[(.struct [yI,yI]),yI], [.bool],(@tt ((Int×Int)×Int)),A_⟩
theorem adQ:Sd 261 aem:=aH ar bR true 25 [] (fun A ((lleast,lmost),n)=>Sz A lleast lmost n) (fc Tryz.func261 fz) sz (fun(((lleast,lmost),n):(Int×Int)×Int) hp h=>by
 show(Sz ah lleast lmost n).pre=true
 simp only[Sz,LT.pre,D6,bne_iff_ne,beq_iff_eq,bne_eq_false_iff_eq,beq_eq_false_iff_ne]
 simp only[Ty.cv,Ty.has,ky,vV] at h
 (repeat' (first|intro _|constructor))<;>(try omega))
abbrev Mi(A:aI)(m:ak)(f:bJ):LT Bool Empty:=(.need (A.k (@tt ((Int×Int)×Int)) ((A.n (.struct [yI,yI]) (A.k oZ (m,f.1)).1 0:Int×Int),f.2.1)) (.br (A.not (A.k A_ ((A.n (.struct [yI,yI]) (A.k oZ (m,f.1)).1 0:Int×Int),f.2.1))) (.ret false) (.need (A.k (@tt ((Int×Int)×Int)) ((A.n (.struct [yI,yI]) (A.k oZ (m,f.1)).1 1:Int×Int),f.2.2.1)) (.br (A.not (A.k A_ ((A.n (.struct [yI,yI]) (A.k oZ (m,f.1)).1 1:Int×Int),f.2.2.1))) (.ret false) (.need (A.k (@tt ((Int×Int)×Int)) ((A.n (.struct [yI,yI]) (A.k oZ (m,f.1)).1 2:Int×Int),f.2.2.2.2.1)) (.br (A.not (A.k A_ ((A.n (.struct [yI,yI]) (A.k oZ (m,f.1)).1 2:Int×Int),f.2.2.2.2.1))) (.ret false) (.need (A.k (@tt ((Int×Int)×Int)) ((A.n (.struct [yI,yI]) (A.k oZ (m,f.1)).1 3:Int×Int),f.2.2.2.2.2.1)) (.br (A.not (A.k A_ ((A.n (.struct [yI,yI]) (A.k oZ (m,f.1)).1 3:Int×Int),f.2.2.2.2.2.1))) (.ret false) (.need (A.k (@tt ((Int×Int)×Int)) ((A.n (.struct [yI,yI]) (A.k oZ (m,f.1)).1 4:Int×Int),f.2.2.2.2.2.2)) (.br (A.not (A.k A_ ((A.n (.struct [yI,yI]) (A.k oZ (m,f.1)).1 4:Int×Int),f.2.2.2.2.2.2))) (.ret false) (.ret true)))))))))))
def Ru(A:aI)(m:ak)(f:bJ):LT Bool Empty:=.need (A.k (@tt (ak×Int)) (m,f.1)) (.br (A.not (A.k oZ (m,f.1)).2) (.ret false) (.br (A.c .lss f.2.2.2.1 0) (.ret false) (.br (A.c .geq f.2.2.2.1 16) (.ret false) (.br (A.c .eql f.1 10) (.br (A.c .eql f.2.2.2.2.1 f.2.1) (.ret false) (Mi A m f)) (Mi A m f)))))
def i6:(ak×bJ)→Bool:=fun(m,f)=>(Ru ah m f).val (Ty.bi [.bool])
def afI:aA:=⟨[aN,bu], [.bool],(@tt (ak×bJ)),i6⟩
theorem aev:Sd 200 afI:=aH ar bR true 250 [] (fun A (m,f)=>Ru A m f) (fc Tryz.func200 fz) (sc ae2 (sc adQ sz)) (fun((m,f):ak×bJ) hp h=>by
 show(Ru ah m f).pre=true
 simp only[Ru,Mi,LT.pre,aB,dS,jT,Bool.true_and,implies_true,and_self])
structure PE where
 (a0:List bJ) (a1:Int) (a3:ak)
structure M9 where
 (b0:List bJ) (b1:Int) (b3:ak)
structure Qn where
 (c1:List bJ)
structure NI where
 (d1 d2:Int)
inductive Sm where
 | c0 (p:PE) (a2:Int)
 | c1 (p:M9) (b2:Int) (b4:List bJ)
 | c2 (p:Qn) (c0:Int)
 | c3 (p:NI) (d0:Int) (d3:Int) (d4:List bJ)
noncomputable def XY:Sm→eT
 | .c0 p a2=>⟨[⟨132,29,(en [(2,.ptr 0 0),(5,.dn true),(11,.sl bu p.a0),(12,vi p.a1),(13,vi a2)]),[.inLoop (cw Tryz.f132 [1,1,1,0,1,0,0]),.inBlock 0,.code (cw Tryz.f132 [1,1,1,1])],[],none⟩],[.flat false (dc aN p.a3),.dead]⟩
 | .c1 p b2 b4=>⟨[⟨132,29,(en [(2,.ptr 0 0),(5,.own 1),(11,.sl bu p.b0),(12,vi p.b1),(13,vi b2)]),[.inLoop (cw Tryz.f132 [1,1,1,0,1,0,0]),.inBlock 0,.code (cw Tryz.f132 [1,1,1,1])],[],none⟩],[.flat false (dc aN p.b3),.arr false bu b4,.dead]⟩
 | .c2 p c0=>⟨[⟨203,61,(en [(0,.own 0),(3,vi c0)]),[.inLoop (cw Tryz.f203 [1,1,0,1,0,0]),.inBlock 0,.code (cw Tryz.f203 [1,1,1])],[],none⟩,⟨132,29,.leaf,[.ops (ow Tryz.f132 [1,1,1,1,1,0]) ((ow Tryz.f132 [1,1,1,1,1,0]).toList.drop 1),.code .ret],[],none⟩],[.arr false bu p.c1,.dead]⟩
 | .c3 p d0 d3 d4=>⟨[⟨203,61,(en [(0,.own 0),(3,vi d0),(4,.nE 0 7 false p.d1 p.d2),(5,vi d3)]),[.inLoop (cw Tryz.f203 [1,1,0,1,0,0,1,0,0,1,0,1,0,1,0,0]),.inBlock 2,.code (cw Tryz.f203 [1,1,0,1,0,0,1,0,0,1,0,1,1]),.inBlock 1,.code (cw Tryz.f203 [1,1,0,1,0,0,1,1]),.inLoop (cw Tryz.f203 [1,1,0,1,0,0]),.inBlock 0,.code (cw Tryz.f203 [1,1,1])],[],none⟩,⟨132,29,.leaf,[.ops (ow Tryz.f132 [1,1,1,1,1,0]) ((ow Tryz.f132 [1,1,1,1,1,0]).toList.drop 1),.code .ret],[],none⟩],[.arr false bu d4,.dead]⟩
def WM(A:aI)(m:ak)(l:List bJ):LT (List bJ) Sm:=.need (A.k (@tt ak) m) (.br (A.c .neq (A.k iJ m) 0) (.ret ([]:List bJ)) (.more (.c0 ⟨l,(A.l l),m⟩ 0)))
def GA(A:aI):Sm→LT (List bJ) Sm
 | .c0 p a2=>.br (A.c .lss a2 p.a1) (.need (A.and (A.c .leq 0 a2) (A.c .lss a2 (A.l p.a0))) (.need (A.k (@tt (ak×bJ)) (p.a3,(A.n bu p.a0 a2:bJ))) (.br (A.k i6 (p.a3,(A.n bu p.a0 a2:bJ))) (.need (A.c .leq (A.l (([(A.n bu p.a0 a2:bJ)]:List bJ):List bJ)) 2513169434916) (.more (.c1 ⟨p.a0,p.a1,p.a3⟩ (A.b .add .i64 a2 1) ([(A.n bu p.a0 a2:bJ)]:List bJ)))) (.more (.c0 p (A.b .add .i64 a2 1)))))) (.need (A.k (fun _=>true) (([]:List bJ),())) (.ret ([]:List bJ)))
 | .c1 p b2 b4=>.br (A.c .lss b2 p.b1) (.need (A.and (A.c .leq 0 b2) (A.c .lss b2 (A.l p.b0))) (.need (A.k (@tt (ak×bJ)) (p.b3,(A.n bu p.b0 b2:bJ))) (.br (A.k i6 (p.b3,(A.n bu p.b0 b2:bJ))) (.need (A.c .leq (A.l (A.p b4 ([(A.n bu p.b0 b2:bJ)]:List bJ))) 2513169434916) (.more (.c1 p (A.b .add .i64 b2 1) (A.p b4 ([(A.n bu p.b0 b2:bJ)]:List bJ))))) (.more (.c1 p (A.b .add .i64 b2 1) b4))))) (.need (A.k (fun _=>true) (b4,())) (.br (A.c .lss (A.l (A.k wv (b4,())).1) 2) (.ret (A.k wv (b4,())).1) (.more (.c2 ⟨(A.k wv (b4,())).1⟩ 1))))
 | .c2 p c0=>.br (A.c .lss c0 (A.l p.c1)) (.need (A.and (A.c .leq 0 c0) (A.c .lss c0 (A.l p.c1))) (.need (A.and (A.c .leq 0 (A.b .sub .i64 c0 1)) (A.c .lss (A.b .sub .i64 c0 1) (A.l p.c1))) (.br (A.and (A.c .eql (A.n bu p.c1 c0:bJ).1 (A.n bu p.c1 (A.b .sub .i64 c0 1):bJ).1) (A.and (A.c .eql (A.n bu p.c1 c0:bJ).2.1 (A.n bu p.c1 (A.b .sub .i64 c0 1):bJ).2.1) (A.and (A.c .eql (A.n bu p.c1 c0:bJ).2.2.1 (A.n bu p.c1 (A.b .sub .i64 c0 1):bJ).2.2.1) (A.and (A.c .eql (A.n bu p.c1 c0:bJ).2.2.2.1 (A.n bu p.c1 (A.b .sub .i64 c0 1):bJ).2.2.2.1) (A.and (A.c .eql (A.n bu p.c1 c0:bJ).2.2.2.2.1 (A.n bu p.c1 (A.b .sub .i64 c0 1):bJ).2.2.2.2.1) (A.and (A.c .eql (A.n bu p.c1 c0:bJ).2.2.2.2.2.1 (A.n bu p.c1 (A.b .sub .i64 c0 1):bJ).2.2.2.2.2.1) (A.and (A.c .eql (A.n bu p.c1 c0:bJ).2.2.2.2.2.2 (A.n bu p.c1 (A.b .sub .i64 c0 1):bJ).2.2.2.2.2.2) true))))))) (.need (A.and (A.c .leq 0 c0) (A.and (A.c .leq c0 (A.l p.c1)) (A.c .leq (A.l p.c1) (A.l p.c1)))) (.more (.c3 ⟨c0,(A.b .sub .i64 (A.l p.c1) c0)⟩ c0 1 p.c1))) (.more (.c2 p (A.b .add .i64 c0 1)))))) (.ret p.c1)
 | .c3 p d0 d3 d4=>.br (A.c .lss d3 p.d2) (.need (A.and (A.c .leq 0 d3) (A.c .lss d3 p.d2)) (.need (A.and (A.c .leq 0 (A.b .sub .i64 d3 1)) (A.c .lss (A.b .sub .i64 d3 1) p.d2)) (.br (A.not (A.and (A.c .eql (A.n bu d4 (A.b .add .i64 p.d1 d3):bJ).1 (A.n bu d4 (A.b .add .i64 p.d1 (A.b .sub .i64 d3 1)):bJ).1) (A.and (A.c .eql (A.n bu d4 (A.b .add .i64 p.d1 d3):bJ).2.1 (A.n bu d4 (A.b .add .i64 p.d1 (A.b .sub .i64 d3 1)):bJ).2.1) (A.and (A.c .eql (A.n bu d4 (A.b .add .i64 p.d1 d3):bJ).2.2.1 (A.n bu d4 (A.b .add .i64 p.d1 (A.b .sub .i64 d3 1)):bJ).2.2.1) (A.and (A.c .eql (A.n bu d4 (A.b .add .i64 p.d1 d3):bJ).2.2.2.1 (A.n bu d4 (A.b .add .i64 p.d1 (A.b .sub .i64 d3 1)):bJ).2.2.2.1) (A.and (A.c .eql (A.n bu d4 (A.b .add .i64 p.d1 d3):bJ).2.2.2.2.1 (A.n bu d4 (A.b .add .i64 p.d1 (A.b .sub .i64 d3 1)):bJ).2.2.2.2.1) (A.and (A.c .eql (A.n bu d4 (A.b .add .i64 p.d1 d3):bJ).2.2.2.2.2.1 (A.n bu d4 (A.b .add .i64 p.d1 (A.b .sub .i64 d3 1)):bJ).2.2.2.2.2.1) (A.and (A.c .eql (A.n bu d4 (A.b .add .i64 p.d1 d3):bJ).2.2.2.2.2.2 (A.n bu d4 (A.b .add .i64 p.d1 (A.b .sub .i64 d3 1)):bJ).2.2.2.2.2.2) true)))))))) (.need (A.and (A.c .leq 0 d3) (A.c .lss d3 p.d2)) (.need (A.and (A.c .leq 0 d0) (A.c .lss d0 (A.l d4))) (.more (.c3 p (A.b .add .i64 d0 1) (A.b .add .i64 d3 1) (A.set d4 d0 (A.n bu d4 (A.b .add .i64 p.d1 d3):bJ)))))) (.more (.c3 p d0 (A.b .add .i64 d3 1) d4))))) (.need (A.and (A.c .leq 0 d0) (A.and (A.c .leq d0 (A.l d4)) (A.c .leq (A.l d4) (A.l d4)))) (.need (A.and (A.c .leq 0 0) (A.and (A.c .leq 0 d0) (A.c .leq d0 (A.l (A.spl d4 d0 (A.r (A.b .sub .i64 (A.l d4) d0) (Ty.dW bu:bJ))))))) (.ret (A.s (A.spl d4 d0 (A.r (A.b .sub .i64 (A.l d4) d0) (Ty.dW bu:bJ))) 0 (A.b .add .i64 0 (A.b .sub .i64 d0 0))))))
def pV(a:bJ):List bJ→List bJ
 | []=>[]
 | b::l=>if b=a then pV a l else b::pV b l
def mh:List bJ→List bJ
 | []=>[]
 | a::l=>a::pV a l
theorem A5:∀(l:List bJ) (a x:bJ),pV a (l ++ [x])=if x=(a::l).getLast (List.cons_ne_nil _ _) then pV a l else pV a l ++ [x]
 | [],a,x=>by
   show(if x=a then[] else[x])=_
   rfl
 | b::l,a,x=>by
   have ih:=A5 l b x
   rw[List.getLast_cons (List.cons_ne_nil b l)]
   show(if b=a then pV a (l ++ [x]) else b::pV b (l ++ [x]))=_
   by_cases h:b=a
   ·subst h
    rw[if_pos rfl,ih]
    show _=if _ then(if b=b then pV b l else _) else(if b=b then pV b l else _) ++ [x]
    rw[if_pos rfl]
   ·rw[if_neg h,ih]
    show _=if _ then(if b=a then pV a l else b::pV b l) else(if b=a then pV a l else b::pV b l) ++ [x]
    rw[if_neg h]
    split<;>rfl
theorem zj{L:List bJ}{n:Nat}(h0:1≤n)(h:n<L.length):mh (L.take (n+1))=if L[n]=L[n-1]'(by omega) then mh (L.take n) else mh (L.take n) ++ [L[n]]:=by
 cases L with
 | nil=>simp at h
 | cons a l=>
   obtain⟨k,rfl⟩:∃k,n=k+1:=⟨n-1,by omega⟩
   have hk:k<l.length:=by simpa using h
   rw[List.take_succ_cons,List.take_succ_cons,List.take_succ_eq_append_getElem hk]
   show a::pV a (l.take k ++ [l[k]])=if _ then a::pV a (l.take k) else a::pV a (l.take k) ++ [_]
   rw[A5]
   have e1:(a::l)[k+1]=l[k]:=rfl
   have e2:(a::l.take k).getLast (List.cons_ne_nil _ _)=(a::l)[k+1-1]'(by simp;omega):=by
    apply Option.some.inj
    rw[←List.getLast?_eq_some_getLast,List.getLast?_eq_getElem?,show(a::l.take k).length-1=k by simp;omega,show a::l.take k=(a::l).take (k+1) from rfl,List.getElem?_take_of_lt (Nat.lt_succ_self k),sN (by simp;omega)]
    rfl
   rw[e2,e1]
   split<;>rfl
def pq(m:ak)(l:List bJ):List bJ:=bif decide (iJ m=0) then mh ((l.filter fun f=>i6 (m,f)).mergeSort fun a b=>!(o8 b a)) else[]
theorem L3{a b:bJ}:ah.and (ah.c .eql a.1 b.1) (ah.and (ah.c .eql a.2.1 b.2.1) (ah.and (ah.c .eql a.2.2.1 b.2.2.1) (ah.and (ah.c .eql a.2.2.2.1 b.2.2.2.1) (ah.and (ah.c .eql a.2.2.2.2.1 b.2.2.2.2.1) (ah.and (ah.c .eql a.2.2.2.2.2.1 b.2.2.2.2.2.1) (ah.and (ah.c .eql a.2.2.2.2.2.2 b.2.2.2.2.2.2) true))))))=decide (a=b):=by
 obtain⟨a1,a2,a3,a4,a5,a6,a7⟩:=a
 obtain⟨b1,b2,b3,b4,b5,b6,b7⟩:=b
 simp only[aM,aK,Bool.and_true,Prod.mk.injEq,Bool.decide_and]
theorem Ry{d:List bJ}{z:bJ}{k n:Nat}(h:k+n=d.length):(ah.spl d (k:Int) (ah.r (n:Int) z)).length=d.length:=by
 rw[nD,jf,gF,gF,fY,fY,List.length_take,List.length_drop,pg];omega
theorem OJ{L:List bJ}{i:Nat}(h:i<L.length):(ah.n bu L (i:Int):bJ)=L[i]:=getD_in h _
theorem Qu{p:NI}{L:List bJ}{k0:Nat}(h0:p.d1=(k0:Int))(h1:p.d2=((L.length-k0:Nat):Int))(hk0:k0≤L.length)(hL:L.length≤1000000) :
  ∀(j k k2:Nat) (d:List bJ),L.length-k0-k2=j→k2≤L.length-k0→1≤k2→1≤k→k+1≤k0+k2→d.length=L.length→d.take k=mh (L.take (k0+k2))→d.drop k=L.drop k→
   ay (GA ah) (.more (.c3 p (k:Int) (k2:Int) d)) (mh L):=by
 intro j
 induction j with
 | zero=>
   intro k k2 d hj hk2 hk21 hk hkk hd ht _
   have e:k0+k2=L.length:=by omega
   have ez:ah.b .add .i64 0 (ah.b .sub .i64 (k:Int) 0)=(k:Int):=by
    rw[show(0:Int)=((0:Nat):Int) from rfl,B9 (Nat.zero_le _) (by omega),eE (by omega)];omega
   refine al.2 ((ai ?_).2 (af.2 ⟨?_,af.2 ⟨?_,au ?_ (.ret _)⟩⟩))
   ·rw[h1,aG];exact aX (by omega)
   ·rw[bK,hd,aK,aK,ap,ap,ap];simp;omega
   ·have hl:(ah.spl d (k:Int) (ah.r (ah.b .sub .i64 (ah.l d) (k:Int)) (Ty.dW bu:bJ))).length=L.length:=by
     rw[bK,hd,B9 (by omega) (by omega)];exact(Ry (by omega)).trans hd
    rw[bK (l:=ah.spl _ _ _),hl,aK,aK,ap,ap,ap];simp;omega
   ·rw[ez,fS,jf,gF,List.append_assoc,List.take_left' (by rw[List.length_take];omega),ht,e,List.take_of_length_le (Nat.le_refl _)]
    rfl
 | succ j ih=>
   intro k k2 d hj hk2 hk21 hk hkk hd ht hdr
   have hlt:k0+k2<L.length:=by omega
   have at0:∀i,k≤i→(hi:i<L.length)→(ah.n bu d (i:Int):bJ)=L[i]:=fun i hi hl=>by
    rw[OJ (by omega)]
    have:=congrArg (fun l=>l[i-k]?) hdr
    simp only[List.getElem?_drop,show k+(i-k)=i by omega] at this
    rw[sN (by omega),sN hl] at this
    exact Option.some.inj this
   have e1:ah.b .add .i64 p.d1 (k2:Int)=((k0+k2:Nat):Int):=by rw[h0,eE (i:=k0) (j:=k2) (by omega)]
   have e2:ah.b .sub .i64 (k2:Int) 1=((k2-1:Nat):Int):=B9 (i:=k2) (j:=1) (by omega) (by omega)
   have e3:ah.b .add .i64 p.d1 ((k2-1:Nat):Int)=((k0+k2-1:Nat):Int):=by rw[h0,eE (i:=k0) (j:=k2-1) (by omega)];congr 1;omega
   have a1:=at0 (k0+k2) (by omega) hlt
   have a2:=at0 (k0+k2-1) (by omega) (by omega)
   have sn:=zj (L:=L) (n:=k0+k2) (by omega) hlt
   have hin:ah.and (ah.c .leq 0 (k2:Int)) (ah.c .lss (k2:Int) p.d2)=true:=by rw[h1,aG,aK,ap];simp;omega
   have hin2:ah.and (ah.c .leq 0 ((k2-1:Nat):Int)) (ah.c .lss ((k2-1:Nat):Int) p.d2)=true:=by rw[h1,aG,aK,ap];simp;omega
   refine al.2 ((aj ?_).2 (af.2 ⟨hin,af.2 ⟨by rw[e2];exact hin2,?_⟩⟩))
   ·rw[h1,aG];exact aL (by omega)
   rw[e2,e1,e3,a1,a2,L3,cm (i:=k2) (by omega),cm (i:=k) (by omega)]
   by_cases he:L[k0+k2]=L[k0+k2-1]
   ·rw[aL he]
    refine(ai rfl).2 (ih k (k2+1) d (by omega) (by omega) (by omega) hk (by omega) hd ?_ hdr)
    rw[show k0+(k2+1)=k0+k2+1 by omega,sn,if_pos he];exact ht
   ·rw[aX he]
    refine(aj rfl).2 (af.2 ⟨hin,af.2 ⟨aP (by omega),?_⟩⟩)
    rw[xK,gF]
    have hkd:k<d.length:=by omega
    refine ih (k+1) (k2+1) _ (by omega) (by omega) (by omega) (by omega) (by omega) (by rw[List.length_set];exact hd) ?_ ?_
    ·rw[show k0+(k2+1)=k0+k2+1 by omega,sn,if_neg he,←ht,List.take_succ_eq_append_getElem (by rw[List.length_set];exact hkd),List.getElem_set_self,List.take_set_of_le (Nat.le_refl _)]
    ·rw[List.drop_set_of_lt (Nat.lt_succ_self _)]
     have:=congrArg (List.drop 1) hdr
     rw[List.drop_drop,List.drop_drop] at this
     exact this
theorem No{p:Qn}{L:List bJ}(h0:p.c1=L)(hL:L.length≤1000000):∀(j i:Nat),L.length-i=j→i≤L.length→1≤i→mh (L.take i)=L.take i→
  ay (GA ah) (.more (.c2 p (i:Int))) (mh L):=by
 intro j
 induction j with
 | zero=>
   intro i hj hi h1 hc
   have:i=L.length:=by omega
   subst this
   rw[List.take_of_length_le (Nat.le_refl _)] at hc
   refine al.2 ((ai ?_).2 (au ?_ (.ret _)))
   ·rw[h0,bK,aG];simp
   ·rw[h0,hc]
 | succ j ih=>
   intro i hj hi h1 hc
   have hlt:i<L.length:=by omega
   have e2:ah.b .sub .i64 (i:Int) 1=((i-1:Nat):Int):=B9 (i:=i) (j:=1) (by omega) (by omega)
   have sn:=zj (L:=L) (n:=i) h1 hlt
   refine al.2 ((aj ?_).2 (af.2 ⟨by rw[h0];exact aP hlt,af.2 ⟨by rw[h0,e2];exact aP (by omega),?_⟩⟩))
   ·rw[h0,bK,aG];exact aL hlt
   rw[h0,e2,OJ hlt,OJ (show i-1<L.length by omega),L3,cm (by omega)]
   by_cases he:L[i]=L[i-1]
   ·rw[aL he]
    refine(aj rfl).2 (af.2 ⟨?_,?_⟩)
    ·rw[bK,aK,aK,ap,ap,ap];simp;omega
    ·rw[bK,B9 (by omega) (by omega)]
     have:=Qu (p:=⟨(i:Int),((L.length-i:Nat):Int)⟩) (L:=L) (k0:=i) rfl rfl hi hL _ i 1 L rfl (by omega) (Nat.le_refl _) h1 (Nat.le_refl _) rfl (by rw[sn,if_pos he,hc]) rfl
     exact this
   ·rw[aX he]
    refine(ai rfl).2 (ih (i+1) (by omega) (by omega) (by omega) ?_)
    rw[sn,if_neg he,hc,List.take_succ_eq_append_getElem hlt]
theorem Gp{L:List bJ}:(L.mergeSort fun a b=>!(o8 b a)).length=L.length:=List.length_mergeSort _
theorem PZ{L:List bJ}(hL:L.length≤1000000):ay (GA ah) (.need (ah.k (fun _=>true) ((L,()):List bJ×Unit)) (.br (ah.c .lss (ah.l (ah.k wv (L,())).1) 2) (.ret (ah.k wv (L,())).1) (.more (.c2 ⟨(ah.k wv (L,())).1⟩ 1)))) (mh (L.mergeSort fun a b=>!(o8 b a))):=by
 have e:(ah.k wv (L,())).1=L.mergeSort fun a b=>!(o8 b a):=rfl
 rw[e]
 have hl:=Gp (L:=L)
 generalize L.mergeSort (fun a b=>!(o8 b a))=M at hl ⊢
 refine af.2 ⟨rfl,?_⟩
 by_cases h:M.length<2
 ·refine(aj ?_).2 (au ?_ (.ret _))
  ·rw[bK,ao];exact aL (by omega)
  ·match M,h with
   | [],_=>rfl
   | [a],_=>rfl
   | _::_::_,h=>simp at h;omega
 ·refine(ai ?_).2 ?_
  ·rw[bK,ao];exact aX (by omega)
  ·refine No (L:=M) rfl (by omega) _ 1 rfl (by omega) (Nat.le_refl _) ?_
   match M,h with
   | [],h=>simp at h
   | a::l,_=>rfl
theorem Lw{p:M9}{L:List bJ}{m:ak}(h0:p.b0=L)(h1:p.b1=(L.length:Int))(h3:p.b3=m)(hL:L.length≤1000000) :
  ∀(j i:Nat),L.length-i=j→i≤L.length→ay (GA ah) (.more (.c1 p (i:Int) ((L.take i).filter fun f=>i6 (m,f)))) (mh ((L.filter fun f=>i6 (m,f)).mergeSort fun a b=>!(o8 b a))):=by
 intro j
 induction j with
 | zero=>
   intro i hj hi
   have:i=L.length:=by omega
   subst this
   rw[List.take_of_length_le (Nat.le_refl _)]
   refine al.2 ((ai ?_).2 (PZ (Nat.le_trans (List.length_filter_le _ _) hL)))
   rw[h1,aG];simp
 | succ j ih=>
   intro i hj hi
   have hlt:i<L.length:=by omega
   refine al.2 ((aj ?_).2 (af.2 ⟨by rw[h0];exact aP hlt,af.2 ⟨rfl,?_⟩⟩))
   ·rw[h1,aG];exact aL hlt
   have nx:=ih (i+1) (by omega) (by omega)
   rw[List.take_succ_eq_append_getElem hlt,List.filter_append] at nx
   rw[h0,h3,OJ hlt,cm (by omega)]
   cases hf:i6 (m,L[i])
   ·refine(ai (show ah.k i6 (m,L[i])=false from hf)).2 ?_
    rwa [List.filter_cons_of_neg (p:=fun f=>i6 (m,f)) (by rw[hf];simp),List.filter_nil,List.append_nil] at nx
   ·refine(aj (show ah.k i6 (m,L[i])=true from hf)).2 (af.2 ⟨?_,?_⟩)
    ·have:=List.length_filter_le (fun f=>i6 (m,f)) (L.take i)
     rw[List.length_take] at this
     rw[bK,iA,fY,List.length_singleton,ap]
     exact aL (by omega)
    ·rw[List.filter_cons_of_pos (p:=fun f=>i6 (m,f)) hf,List.filter_nil] at nx
     exact nx
theorem G_{p:PE}{L:List bJ}{m:ak}(h0:p.a0=L)(h1:p.a1=(L.length:Int))(h3:p.a3=m)(hL:L.length≤1000000) :
  ∀(j i:Nat),L.length-i=j→i≤L.length→(L.take i).filter (fun f=>i6 (m,f))=[]→ay (GA ah) (.more (.c0 p (i:Int))) (mh ((L.filter fun f=>i6 (m,f)).mergeSort fun a b=>!(o8 b a))):=by
 intro j
 induction j with
 | zero=>
   intro i hj hi hf
   have:i=L.length:=by omega
   subst this
   rw[List.take_of_length_le (Nat.le_refl _)] at hf
   rw[hf]
   refine al.2 ((ai ?_).2 (af.2 ⟨rfl,au ?_ (.ret _)⟩))
   ·rw[h1,aG];simp
   ·rw[List.mergeSort_nil];rfl
 | succ j ih=>
   intro i hj hi hz
   have hlt:i<L.length:=by omega
   refine al.2 ((aj ?_).2 (af.2 ⟨by rw[h0];exact aP hlt,af.2 ⟨rfl,?_⟩⟩))
   ·rw[h1,aG];exact aL hlt
   rw[h0,h3,OJ hlt,cm (by omega)]
   have ft:(L.take (i+1)).filter (fun f=>i6 (m,f))=[L[i]].filter fun f=>i6 (m,f):=by
    rw[List.take_succ_eq_append_getElem hlt,List.filter_append,hz,List.nil_append]
   cases hf:i6 (m,L[i])
   ·refine(ai (show ah.k i6 (m,L[i])=false from hf)).2 (ih (i+1) (by omega) (by omega) ?_)
    rw[ft,List.filter_cons_of_neg (p:=fun f=>i6 (m,f)) (by rw[hf];simp),List.filter_nil]
   ·refine(aj (show ah.k i6 (m,L[i])=true from hf)).2 (af.2 ⟨by kernel_rfl,?_⟩)
    have nx:=Lw (p:=⟨L,p.a1,m⟩) (L:=L) (m:=m) rfl h1 rfl hL _ (i+1) rfl (by omega)
    rw[ft,List.filter_cons_of_pos (p:=fun f=>i6 (m,f)) hf,List.filter_nil] at nx
    exact nx
theorem afb{m:ak}{l:List bJ}(h:l.length≤1000000):ay (GA ah) (WM ah m l) (pq m l):=by
 unfold WM pq
 refine af.2 ⟨rfl,?_⟩
 by_cases hm:iJ m=0
 ·rw[aL hm]
  refine(ai (by rw[aQ];exact aX fun k=>k hm)).2 ?_
  exact G_ (p:=⟨l,(l.length:Int),m⟩) (L:=l) rfl rfl rfl h _ 0 rfl (Nat.zero_le _) rfl
 ·rw[aX hm]
  exact(aj (by rw[aQ];exact aL hm)).2 (.ret _)
def o4:(ak×List bJ)→(List bJ):=fun(m,l)=>pq m l
def yr:(ak×List bJ)→Bool:=fun(_,l)=>decide (l.length≤1000000)
def aaT:aA:=⟨[aN,(.slice bu)], [(.slice bu)],yr,o4⟩
theorem afk:Sd 132 aaT:=oN ar bR true 33  (ic ac5 iz) mz pz [⟨132,5, [[2,5,11,12,13]]⟩,⟨203,4, [[0,3], []]⟩,⟨203,9, [[0,3,4,5], []]⟩] [] (fun A (m,l)=>WM A m l) GA XY (fc Tryz.func132 (fc Tryz.func203 fz)) (sc BR (sc aev sz)) (fun A y=>match y with |.c0 p a2=>⟨42,by kernel_rfl,by kernel_rfl⟩|.c1 p b2 b4=>⟨42,by kernel_rfl,by kernel_rfl⟩|.c2 p c0=>⟨46,by kernel_rfl,by kernel_rfl⟩|.c3 p d0 d3 d4=>⟨54,by kernel_rfl,by kernel_rfl⟩) fun((m,l):ak×List bJ) hp h=>afb (of_decide_eq_true hp)
def ZM(A:aI)(a:bg)(b:bg):LT Int Empty:=.need (A.k (@tt (Int×Int)) (a.2.1,b.2.1)) (.need (A.k (@tt (Int×Int)) (a.2.2.1,b.2.2.1)) (.need (A.k (@tt (Int×Int)) (a.1,b.1)) (.need (A.k (@tt (List Int)) [(A.k iY (a.2.1,b.2.1)),(A.k iY (a.2.2.1,b.2.2.1)),(A.k iY (a.1,b.1))]) (.ret (A.k N6 [(A.k iY (a.2.1,b.2.1)),(A.k iY (a.2.2.1,b.2.2.1)),(A.k iY (a.1,b.1))])))))
def Fo:(bg×bg)→Int:=fun(a,b)=>(ZM ah a b).val (Ty.bi [yI])
def afh:aA:=⟨[bC,bC], [yI],(@tt (bg×bg)),Fo⟩
theorem VG:Sd 136 afh:=aH ar bR true 33 [] (fun A (a,b)=>ZM A a b) (fc Tryz.func136 fz) (sc aaU (sc ad2 sz)) (fun((a,b):bg×bg) hp h=>by
 show(ZM ah a b).pre=true
 rfl)
def Ex{Y:Type}(s:Y→LT (List bg×Unit) Y)(N:Nat)(t:LT (List bg×Unit) Y):Prop:=∃r:List bg,r.length=N∧ay s t (r,())
section
variable {Y:Type} {s:Y→LT (List bg×Unit) Y} {N:Nat} {t e:LT (List bg×Unit) Y} {a b:Int}
theorem Ex.ret{r:List bg}(h:r.length=N):Ex s N (.ret (r,())):=⟨r,h,.ret _⟩
theorem Ex.more{y:Y}(h:Ex s N (s y)):Ex s N (.more y):=h.elim fun r k=>⟨r,k.1,.more k.2⟩
theorem Ex.need{b:Bool}(hb:b=true)(h:Ex s N t):Ex s N (.need b t):=h.elim fun r k=>⟨r,k.1,.need hb k.2⟩
theorem Ex.br{b:Bool}(h1:b=true→Ex s N t)(h2:b=false→Ex s N e):Ex s N (.br b t e):=by
 cases b
 ·exact(h2 rfl).elim fun r k=>⟨r,k.1,.br k.2⟩
 ·exact(h1 rfl).elim fun r k=>⟨r,k.1,.br k.2⟩
theorem Ex.lss(h1:a<b→Ex s N t)(h2:b≤a→Ex s N e):Ex s N (.br (ah.c .lss a b) t e):=
 Ex.br (fun h=>h1 (of_decide_eq_true (p:=a<b) h)) fun h=>h2 (Int.not_lt.1 (of_decide_eq_false (p:=a<b) h))
theorem Ex.gtr(h1:b<a→Ex s N t)(h2:a≤b→Ex s N e):Ex s N (.br (ah.c .gtr a b) t e):=
 Ex.br (fun h=>h1 (of_decide_eq_true (p:=b<a) h)) fun h=>h2 (Int.not_lt.1 (of_decide_eq_false (p:=b<a) h))
theorem Ex.leq(h1:a≤b→Ex s N t)(h2:b<a→Ex s N e):Ex s N (.br (ah.c .leq a b) t e):=
 Ex.br (fun h=>h1 (of_decide_eq_true (p:=a≤b) h)) fun h=>h2 (Int.not_le.1 (of_decide_eq_false (p:=a≤b) h))
theorem Ex.eql(h1:a=b→Ex s N t)(h2:¬a=b→Ex s N e):Ex s N (.br (ah.c .eql a b) t e):=by
 rw[aM];exact Ex.br (fun h=>h1 (of_decide_eq_true h)) fun h=>h2 (of_decide_eq_false h)
theorem Ex.neq(h1:¬a=b→Ex s N t)(h2:a=b→Ex s N e):Ex s N (.br (ah.c .neq a b) t e):=by
 rw[aQ];exact Ex.br (fun h=>h1 (of_decide_eq_true h)) fun h=>h2 (Decidable.not_not.1 (of_decide_eq_false h))
end
def o9{Y:Type}(s:Y→LT (List bg×Unit) Y)(t:LT (List bg×Unit) Y)(d:List bg):List bg:=
 match d with
 | []=>[]
 | _::_=>open Classical in if h:Ex s d.length t then h.choose else d
theorem kB{Y:Type}{s:Y→LT (List bg×Unit) Y}{t:LT (List bg×Unit) Y}{d:List bg}:(o9 s t d).length=d.length:=by
 cases d with
 | nil=>rfl
 | cons a l=>
   rw[o9]
   split
   ·rename_i h;exact h.choose_spec.1
   ·rfl
theorem ob{Y:Type}{s:Y→LT (List bg×Unit) Y}{t:LT (List bg×Unit) Y}{d:List bg}(h:Ex s d.length t):(o9 s t d).length=d.length∧ay s t (o9 s t d,()):=by
 refine⟨kB,?_⟩
 cases d with
 | nil=>
   obtain⟨r,h1,h2⟩:=h
   cases List.length_eq_zero_iff.1 h1
   exact h2
 | cons a l=>
   rw[o9,dif_pos h]
   exact h.choose_spec.2
theorem Eb{l:List bg}{i j:Int}{v:bg}(h:0≤i∧i<(l.length:Int)):ah.and (ah.c .leq 0 i) (ah.c .lss i (ah.l (ah.set l j v)))=true:=dK (by rw[fO];exact h)
theorem rA{x y:Int}(h:-4611686018427387904≤x+y∧x+y<4611686018427387904):ah.b .add .i64 x y=x+y:=by rw[cr,iU (by omega) (by omega)]
theorem pJ{x y:Int}(h:-4611686018427387904≤x-y∧x-y<4611686018427387904):ah.b .sub .i64 x y=x-y:=by rw[Go.Ev.cn,iU (by omega) (by omega)]
structure Om where
 (a0 a1 a2:Int)
inductive Ux where
 | c0 (p:Om) (a3:Int) (a4:List bg)
noncomputable def Xh:Ux→eT
 | .c0 p a3 a4=>⟨[⟨335,38,(en [(0,.own 0),(1,vi p.a0),(2,vi p.a1),(3,vi p.a2),(10,vi a3)]),[.inLoop (cw Tryz.f335 [1,0,0]),.inBlock 0],[],none⟩],[.arr false bC a4,.dead]⟩
def aac(A:aI)(data:List bg)(a:Int)(b:Int)(n:Int):LT (List bg×Unit) Ux:=.more (.c0 ⟨a,b,n⟩ 0 data)
def RD(A:aI):Ux→LT (List bg×Unit) Ux
 | .c0 p a3 a4=>.br (A.c .lss a3 p.a2) (.need (A.and (A.c .leq 0 (A.b .add .i64 p.a1 a3)) (A.c .lss (A.b .add .i64 p.a1 a3) (A.l a4))) (.need (A.and (A.c .leq 0 (A.b .add .i64 p.a0 a3)) (A.c .lss (A.b .add .i64 p.a0 a3) (A.l a4))) (.need (A.and (A.c .leq 0 (A.b .add .i64 p.a0 a3)) (A.c .lss (A.b .add .i64 p.a0 a3) (A.l a4))) (.need (A.and (A.c .leq 0 (A.b .add .i64 p.a1 a3)) (A.c .lss (A.b .add .i64 p.a1 a3) (A.l (A.set a4 (A.b .add .i64 p.a0 a3) (A.n bC a4 (A.b .add .i64 p.a1 a3):bg))))) (.more (.c0 p (A.b .add .i64 a3 1) (A.set (A.set a4 (A.b .add .i64 p.a0 a3) (A.n bC a4 (A.b .add .i64 p.a1 a3):bg)) (A.b .add .i64 p.a1 a3) (A.n bC a4 (A.b .add .i64 p.a0 a3):bg)))))))) (.ret (a4,()))
theorem XR{p:Om}{N:Nat}(h0:0≤p.a0)(h1:0≤p.a1)(h2:p.a0+p.a2≤N)(h3:p.a1+p.a2≤N)(hN:N≤1000000):∀(j:Nat) (k:Int) (d:List bg),(p.a2-k).toNat≤j→0≤k→d.length=N→Ex (RD ah) N (.more (.c0 p k d)):=by
 intro j
 induction j with
 | zero=>intro k d hj hk hd;exact Ex.more (Ex.lss (fun h=>by omega) fun _=>Ex.ret hd)
 | succ j ih=>
   intro k d hj hk hd
   refine Ex.more (Ex.lss (fun h=>?_) fun _=>Ex.ret hd)
   rw[rA (x:=p.a1) (y:=k) (by omega),rA (x:=p.a0) (y:=k) (by omega),rA (x:=k) (y:=1) (by omega)]
   exact Ex.need (dK (by omega)) (Ex.need (dK (by omega)) (Ex.need (dK (by omega)) (Ex.need (Eb (by omega)) (ih (k+1) _ (by omega) (by omega) (fO.trans (fO.trans hd))))))
theorem Yo{d:List bg}{a b n:Int}(h:0≤a∧0≤n∧a+n≤b∧b+n≤(d.length:Int)∧d.length≤1000000):Ex (RD ah) d.length (aac ah d a b n):=
 XR (p:=⟨a,b,n⟩) (by simp only;omega) (by simp only;omega) (by simp only;omega) (by simp only;omega) (by omega) _ 0 d (Nat.le_refl _) (Int.le_refl 0) rfl
def Es:List bg×(Int×Int×Int)→List bg×Unit:=fun(d,a,b,n)=>(o9 (RD ah) (aac ah d a b n) d,())
def zr:List bg×(Int×Int×Int)→Bool:=fun(d,a,b,n)=>decide (0≤a∧0≤n∧a+n≤b∧b+n≤(d.length:Int)∧d.length≤1000000)
def aaZ:dw:=⟨bC, [yI,yI,yI], [136], [],zr,Es⟩
theorem acI:dw.Sound Tryz.prog 335 aaZ:=iB ar bR true 12 iz [⟨335,1, [[0,1,2,3,10]]⟩] [] (fun A (data,(a,b,n))=>aac A data a b n) RD Xh (fc Tryz.func335 fz) sz (fun A y=>match y with |.c0 p a3 a4=>⟨49,by kernel_rfl,by kernel_rfl⟩) fun((data,(a,b,n)):List bg×(Int×Int×Int)) hp hv h=>ob (Yo (of_decide_eq_true hp))
structure NS where
 (a0:Int)
inductive RG where
 | c0 (p:NS) (a1:Int) (a2:Int) (a3:List bg)
noncomputable def ZJ:RG→eT
 | .c0 p a1 a2 a3=>⟨[⟨309,58,(en [(0,.own 0),(2,vi p.a0),(4,.fn 136 [] []),(10,vi a1),(11,vi a2)]),[.inLoop (cw Tryz.f309 [1,1,0,0,0]),.inBlock 0,.code (cw Tryz.f309 [1,1,1])],[],none⟩],[.arr false bC a3,.dead]⟩
def TH(A:aI)(data:List bg)(a:Int)(m:Int)(b:Int):LT (List bg×Unit) RG:=.more (.c0 ⟨m⟩ (A.b .sub .i64 m a) (A.b .sub .i64 b m) data)
def Ud(A:aI):RG→LT (List bg×Unit) RG
 | .c0 p a1 a2 a3=>.br (A.c .neq a1 a2) (.br (A.c .gtr a1 a2) (.need (A.k zr (a3,(A.b .sub .i64 p.a0 a1),p.a0,a2)) (.more (.c0 p (A.b .sub .i64 a1 a2) a2 (A.k Es (a3,(A.b .sub .i64 p.a0 a1),p.a0,a2)).1))) (.need (A.k zr (a3,(A.b .sub .i64 p.a0 a1),(A.b .sub .i64 (A.b .add .i64 p.a0 a2) a1),a1)) (.more (.c0 p a1 (A.b .sub .i64 a2 a1) (A.k Es (a3,(A.b .sub .i64 p.a0 a1),(A.b .sub .i64 (A.b .add .i64 p.a0 a2) a1),a1)).1)))) (.need (A.k zr (a3,(A.b .sub .i64 p.a0 a1),p.a0,a1)) (.ret ((A.k Es (a3,(A.b .sub .i64 p.a0 a1),p.a0,a1)).1,())))
theorem B_{d:List bg}{a b n:Int}(h:0≤a∧0≤n∧a+n≤b∧b+n≤(d.length:Int)∧d.length≤1000000):ah.k zr (d,a,b,n)=true:=aL h
theorem G7{d:List bg}{a b n:Int}:(ah.k Es (d,a,b,n)).1.length=d.length:=kB
theorem Yr{p:NS}{N:Nat}(hN:N≤1000000):∀(f:Nat) (i j:Int) (d:List bg),(i+j).toNat≤f→1≤i→1≤j→i≤p.a0→p.a0+j≤N→d.length=N→Ex (Ud ah) N (.more (.c0 p i j d)):=by
 intro f
 induction f with
 | zero=>intro i j d h1 h2 h3;omega
 | succ f ih=>
   intro i j d h1 h2 h3 h4 h5 hd
   refine Ex.more (Ex.neq (fun h=>Ex.gtr (fun g=>?_) fun g=>?_) fun h=>?_)
   ·rw[pJ (x:=p.a0) (y:=i) (by omega),pJ (x:=i) (y:=j) (by omega)]
    exact Ex.need (B_ (by omega)) (ih (i-j) j _ (by omega) (by omega) h3 (by omega) h5 (G7.trans hd))
   ·rw[rA (x:=p.a0) (y:=j) (by omega),pJ (x:=p.a0) (y:=i) (by omega),pJ (x:=p.a0+j) (y:=i) (by omega),pJ (x:=j) (y:=i) (by omega)]
    exact Ex.need (B_ (by omega)) (ih i (j-i) _ (by omega) h2 (by omega) h4 (by omega) (G7.trans hd))
   ·rw[pJ (x:=p.a0) (y:=i) (by omega)]
    exact Ex.need (B_ (by omega)) (Ex.ret (G7.trans hd))
theorem XQ{d:List bg}{a m b:Int}(h:0≤a∧a<m∧m<b∧b≤(d.length:Int)∧d.length≤1000000):Ex (Ud ah) d.length (TH ah d a m b):=by
 unfold TH
 rw[pJ (x:=m) (y:=a) (by omega),pJ (x:=b) (y:=m) (by omega)]
 exact Yr (p:=⟨m⟩) (by omega) _ (m-a) (b-m) d (Nat.le_refl _) (by omega) (by omega) (by simp only;omega) (by simp only;omega) rfl
def mo:List bg×(Int×Int×Int)→List bg×Unit:=fun(d,a,m,b)=>(o9 (Ud ah) (TH ah d a m b) d,())
def GU:List bg×(Int×Int×Int)→Bool:=fun(d,a,m,b)=>decide (0≤a∧a<m∧m<b∧b≤(d.length:Int)∧d.length≤1000000)
def ack:dw:=⟨bC, [yI,yI,yI], [136], [],GU,mo⟩
theorem aeA:dw.Sound Tryz.prog 309 ack:=iB ar bR true 23 (ic acI iz) [⟨309,2, [[0,2,4,10,11]]⟩] [] (fun A (data,(a,m,b))=>TH A data a m b) Ud ZJ (fc Tryz.func309 fz) sz (fun A y=>match y with |.c0 p a1 a2 a3=>⟨45,by kernel_rfl,by kernel_rfl⟩) fun((data,(a,m,b)):List bg×(Int×Int×Int)) hp hv h=>ob (XQ (of_decide_eq_true hp))
structure ZY where
 (a0 a1 a2:Int) (a3:List bg)
structure V4 where
 (b0 b1 b2:Int)
inductive Sn where
 | c0 (p:ZY)
 | c1 (p:V4) (b3:Int) (b4:List bg)
noncomputable def XF:Sn→eT
 | .c0 p=>⟨[⟨264,53,(en [(0,.own 0),(1,vi p.a0),(2,vi p.a1),(3,.fn 136 [] []),(8,vi p.a2)]),[.inLoop (cw Tryz.f264 [1,0,0]),.inBlock 0],[],none⟩],[.arr false bC p.a3,.dead]⟩
 | .c1 p b3 b4=>⟨[⟨264,53,(en [(0,.own 0),(1,vi p.b0),(2,vi p.b1),(3,.fn 136 [] []),(8,vi p.b2),(9,vi b3)]),[.inLoop (cw Tryz.f264 [1,0,0,1,0,0,1,0,0]),.inBlock 2,.inBlock 1,.code (cw Tryz.f264 [1,0,0,1,1]),.inLoop (cw Tryz.f264 [1,0,0]),.inBlock 0],[],none⟩],[.arr false bC b4,.dead]⟩
def Uz(A:aI)(data:List bg)(a:Int)(b:Int):LT (List bg×Unit) Sn:=.more (.c0 ⟨a,b,(A.b .add .i64 a 1),data⟩)
def Ko(A:aI):Sn→LT (List bg×Unit) Sn
 | .c0 p=>.br (A.c .lss p.a2 p.a1) (.more (.c1 ⟨p.a0,p.a1,p.a2⟩ p.a2 p.a3)) (.ret (p.a3,()))
 | .c1 p b3 b4=>.br (A.c .gtr b3 p.b0) (.need (A.and (A.c .leq 0 b3) (A.c .lss b3 (A.l b4))) (.need (A.and (A.c .leq 0 (A.b .sub .i64 b3 1)) (A.c .lss (A.b .sub .i64 b3 1) (A.l b4))) (.need (A.k (@tt (bg×bg)) ((A.n bC b4 b3:bg),(A.n bC b4 (A.b .sub .i64 b3 1):bg))) (.br (A.c .lss (A.k Fo ((A.n bC b4 b3:bg),(A.n bC b4 (A.b .sub .i64 b3 1):bg))) 0) (.need (A.and (A.c .leq 0 (A.b .sub .i64 b3 1)) (A.c .lss (A.b .sub .i64 b3 1) (A.l b4))) (.need (A.and (A.c .leq 0 b3) (A.c .lss b3 (A.l b4))) (.need (A.and (A.c .leq 0 b3) (A.c .lss b3 (A.l b4))) (.need (A.and (A.c .leq 0 (A.b .sub .i64 b3 1)) (A.c .lss (A.b .sub .i64 b3 1) (A.l (A.set b4 b3 (A.n bC b4 (A.b .sub .i64 b3 1):bg))))) (.more (.c1 p (A.b .sub .i64 b3 1) (A.set (A.set b4 b3 (A.n bC b4 (A.b .sub .i64 b3 1):bg)) (A.b .sub .i64 b3 1) (A.n bC b4 b3:bg)))))))) (.more (.c0 ⟨p.b0,p.b1,(A.b .add .i64 p.b2 1),b4⟩)))))) (.more (.c0 ⟨p.b0,p.b1,(A.b .add .i64 p.b2 1),b4⟩))
theorem Zk{N:Nat}(hN:N≤1000000){a b:Int}(h0:0≤a)(hb:b≤N):∀(f:Nat) (i:Int) (d:List bg),(b-i).toNat≤f→a<i→d.length=N→Ex (Ko ah) N (.more (.c0 ⟨a,b,i,d⟩)):=by
 intro f
 induction f with
 | zero=>intro i d hf hi hd;exact Ex.more (Ex.lss (fun h=>by have:i<b:=h;omega) fun _=>Ex.ret hd)
 | succ f ih=>
   intro i d hf hi hd
   refine Ex.more (Ex.lss (fun h=>?_) fun _=>Ex.ret hd)
   have h:i<b:=h
   have nx:∀e:List bg,e.length=N→Ex (Ko ah) N (.more (.c0 ⟨a,b,ah.b .add .i64 i 1,e⟩)):=fun e he=>by
    rw[rA (x:=i) (y:=1) (by omega)]
    exact ih (i+1) e (by omega) (by omega) he
   have inn:∀(g:Nat) (j:Int) (e:List bg),(j-a).toNat≤g→a≤j→j≤i→e.length=N→Ex (Ko ah) N (.more (.c1 ⟨a,b,i⟩ j e)):=by
    intro g
    induction g with
    | zero=>intro j e hg hj hji he;exact Ex.more (Ex.gtr (fun h=>by have:a<j:=h;omega) fun _=>nx e he)
    | succ g ihg=>
      intro j e hg hj hji he
      refine Ex.more (Ex.gtr (fun h=>?_) fun _=>nx e he)
      have h:a<j:=h
      rw[pJ (x:=j) (y:=1) (by omega)]
      exact Ex.need (dK (by omega)) (Ex.need (dK (by omega)) (Ex.need rfl (Ex.br (fun _=>Ex.need (dK (by omega)) (Ex.need (dK (by omega)) (Ex.need (dK (by omega)) (Ex.need (Eb (by omega)) (ihg (j-1) _ (by omega) (by omega) (by omega) (fO.trans (fO.trans he))))))) fun _=>nx e he)))
   exact inn _ i d (Nat.le_refl _) (by omega) (Int.le_refl i) hd
theorem Wz{d:List bg}{a b:Int}(h:0≤a∧a≤b∧b≤(d.length:Int)∧d.length≤1000000):Ex (Ko ah) d.length (Uz ah d a b):=by
 unfold Uz
 rw[rA (x:=a) (y:=1) (by omega)]
 exact Zk (by omega) h.1 h.2.2.1 _ (a+1) d (Nat.le_refl _) (by omega) rfl
def Ju:List bg×(Int×Int)→List bg×Unit:=fun(d,a,b)=>(o9 (Ko ah) (Uz ah d a b) d,())
def C3:List bg×(Int×Int)→Bool:=fun(d,a,b)=>decide (0≤a∧a≤b∧b≤(d.length:Int)∧d.length≤1000000)
def ab3:dw:=⟨bC, [yI,yI], [136], [],C3,Ju⟩
theorem acK:dw.Sound Tryz.prog 264 ab3:=iB ar bR true 14 iz [⟨264,1, [[0,1,2,3,8]]⟩,⟨264,4, [[0,1,2,3,8,9]]⟩] [] (fun A (data,(a,b))=>Uz A data a b) Ko XF (fc Tryz.func264 fz) (sc VG sz) (fun A y=>match y with |.c0 p=>⟨24,by kernel_rfl,by kernel_rfl⟩|.c1 p b3 b4=>⟨57,by kernel_rfl,by kernel_rfl⟩) fun((data,(a,b)):List bg×(Int×Int)) hp hv h=>ob (Wz (of_decide_eq_true hp))
theorem Ua{i j:Nat}(h:i+j<4611686018427387904):ah.v .i64 (ah.b .shr .u64 (ah.v .u64 (ah.b .add .i64 (i:Int) (j:Int))) 1)=(((i+j)/2:Nat):Int):=by
 rw[eE h]
 have e:ah.v .u64 ((i+j:Nat):Int)=((i+j:Nat):Int):=Og (by omega) (by omega)
 rw[e]
 have:=Qc (a:=((i+j:Nat):Int)) (n:=1) (by omega) (by omega)
 rw[show((1:Nat):Int)=1 from rfl] at this
 rw[this,gF]
 exact iU (by omega) (by omega)
theorem Sk{i j:Int}(h0:0≤i)(h1:0≤j)(h2:i+j≤4000000):∃c:Int,ah.v .i64 (ah.b .shr .u64 (ah.v .u64 (ah.b .add .i64 i j)) 1)=c∧2*c≤i+j∧i+j≤2*c+1:=by
 obtain⟨i,rfl⟩:=Int.eq_ofNat_of_zero_le h0
 obtain⟨j,rfl⟩:=Int.eq_ofNat_of_zero_le h1
 exact⟨_,Ua (by omega),by omega,by omega⟩
abbrev Rj:Type:=List bg×Int×Int×Int→List bg×Unit
def eB(k:Nat):List bg×Int×Int×Int→Bool:=fun(d,a,m,b)=>decide (0≤a∧a<m∧m<b∧b≤(d.length:Int)∧d.length≤1000000∧b-a≤(k:Int))
def Ml(k:Nat)(F:Rj):dw:=⟨bC, [yI,yI,yI], [136], [],eB k,F⟩
structure Q7 where
 (a0:Int) (a3:List bg)
structure MJ where
 (b0:Int) (b3:List bg)
structure Mn where
 (c0 c1 c2 c3 c4 c7:Int) (c8:List bg)
structure Ys where
 (d0:Int)
structure X6 where
 (e0:Int)
inductive Ul where
 | c0 (p:Q7) (a1:Int) (a2:Int)
 | c1 (p:MJ) (b1:Int) (b2:Int)
 | c2 (p:Mn) (c5:Int) (c6:Int)
 | c3 (p:Ys) (d1:Int) (d2:List bg)
 | c4 (p:X6) (e1:Int) (e2:List bg)
noncomputable def ZW:Ul→eT
 | .c0 p a1 a2=>⟨[⟨265,220,(en [(0,.own 0),(1,vi p.a0),(4,.fn 136 [] []),(10,vi a1),(11,vi a2)]),[.inLoop (cw Tryz.f265 [0,1,0,1,1,0,0,0]),.inBlock 0,.code (cw Tryz.f265 [0,1,0,1,1,1]),.code (cw Tryz.f265 [1])],[],none⟩],[.arr false bC p.a3,.dead]⟩
 | .c1 p b1 b2=>⟨[⟨265,220,(en [(0,.own 0),(2,vi p.b0),(4,.fn 136 [] []),(14,vi b1),(15,vi b2)]),[.inLoop (cw Tryz.f265 [1,0,1,0,1,1,0,0,0]),.inBlock 4,.code (cw Tryz.f265 [1,0,1,0,1,1,1]),.code (cw Tryz.f265 [1,1])],[],none⟩],[.arr false bC p.b3,.dead]⟩
 | .c2 p c5 c6=>⟨[⟨265,220,(en [(0,.own 0),(1,vi p.c0),(2,vi p.c1),(3,vi p.c2),(4,.fn 136 [] []),(18,vi p.c3),(19,vi p.c4),(20,vi c5),(21,vi c6),(22,vi p.c7)]),[.inLoop (cw Tryz.f265 [1,1,1,1,1,1,1,0,0,0]),.inBlock 8,.code (cw Tryz.f265 [1,1,1,1,1,1,1,1])],[],none⟩],[.arr false bC p.c8,.dead]⟩
 | .c3 p d1 d2=>⟨[⟨265,220,(en [(0,.own 0),(10,vi p.d0),(13,vi d1)]),[.inLoop (cw Tryz.f265 [0,1,0,1,1,1,0,1,0,0]),.inBlock 2,.code .ret,.code (cw Tryz.f265 [1])],[],none⟩],[.arr false bC d2,.dead]⟩
 | .c4 p e1 e2=>⟨[⟨265,220,(en [(0,.own 0),(14,vi p.e0),(17,vi e1)]),[.inLoop (cw Tryz.f265 [1,0,1,0,1,1,1,0,1,0,0]),.inBlock 6,.code .ret,.code (cw Tryz.f265 [1,1])],[],none⟩],[.arr false bC e2,.dead]⟩
abbrev rP(A:aI)(a:Int)(b:Int):=(A.v .i64 (A.b .shr .u64 (A.v .u64 (A.b .add .i64 a b)) 1))
def MU(A:aI)(data:List bg)(a:Int)(m:Int)(b:Int):LT (List bg×Unit) Ul:=.br (A.c .eql (A.b .sub .i64 m a) 1) (.more (.c0 ⟨a,data⟩ m b)) (.br (A.c .eql (A.b .sub .i64 b m) 1) (.more (.c1 ⟨m,data⟩ a m)) (.br (A.c .gtr m (rP A a b)) (.more (.c2 ⟨a,m,b,(rP A a b),(A.b .add .i64 (rP A a b) m),(A.b .sub .i64 (A.b .add .i64 (rP A a b) m) 1),data⟩ (A.b .sub .i64 (A.b .add .i64 (rP A a b) m) b) (rP A a b))) (.more (.c2 ⟨a,m,b,(rP A a b),(A.b .add .i64 (rP A a b) m),(A.b .sub .i64 (A.b .add .i64 (rP A a b) m) 1),data⟩ a m))))
def pM(F:Rj)(k:Nat)(A:aI):Ul→LT (List bg×Unit) Ul
 | .c0 p a1 a2=>.br (A.c .lss a1 a2) (.need (A.and (A.c .leq 0 (A.v .i64 (A.b .shr .u64 (A.v .u64 (A.b .add .i64 a1 a2)) 1))) (A.c .lss (A.v .i64 (A.b .shr .u64 (A.v .u64 (A.b .add .i64 a1 a2)) 1)) (A.l p.a3))) (.need (A.and (A.c .leq 0 p.a0) (A.c .lss p.a0 (A.l p.a3))) (.need (A.k (@tt (bg×bg)) ((A.n bC p.a3 (A.v .i64 (A.b .shr .u64 (A.v .u64 (A.b .add .i64 a1 a2)) 1)):bg),(A.n bC p.a3 p.a0:bg))) (.br (A.c .lss (A.k Fo ((A.n bC p.a3 (A.v .i64 (A.b .shr .u64 (A.v .u64 (A.b .add .i64 a1 a2)) 1)):bg),(A.n bC p.a3 p.a0:bg))) 0) (.more (.c0 p (A.b .add .i64 (A.v .i64 (A.b .shr .u64 (A.v .u64 (A.b .add .i64 a1 a2)) 1)) 1) a2)) (.more (.c0 p a1 (A.v .i64 (A.b .shr .u64 (A.v .u64 (A.b .add .i64 a1 a2)) 1)))))))) (.more (.c3 ⟨a1⟩ p.a0 p.a3))
 | .c1 p b1 b2=>.br (A.c .lss b1 b2) (.need (A.and (A.c .leq 0 p.b0) (A.c .lss p.b0 (A.l p.b3))) (.need (A.and (A.c .leq 0 (A.v .i64 (A.b .shr .u64 (A.v .u64 (A.b .add .i64 b1 b2)) 1))) (A.c .lss (A.v .i64 (A.b .shr .u64 (A.v .u64 (A.b .add .i64 b1 b2)) 1)) (A.l p.b3))) (.need (A.k (@tt (bg×bg)) ((A.n bC p.b3 p.b0:bg),(A.n bC p.b3 (A.v .i64 (A.b .shr .u64 (A.v .u64 (A.b .add .i64 b1 b2)) 1)):bg))) (.br (A.not (A.c .lss (A.k Fo ((A.n bC p.b3 p.b0:bg),(A.n bC p.b3 (A.v .i64 (A.b .shr .u64 (A.v .u64 (A.b .add .i64 b1 b2)) 1)):bg))) 0)) (.more (.c1 p (A.b .add .i64 (A.v .i64 (A.b .shr .u64 (A.v .u64 (A.b .add .i64 b1 b2)) 1)) 1) b2)) (.more (.c1 p b1 (A.v .i64 (A.b .shr .u64 (A.v .u64 (A.b .add .i64 b1 b2)) 1)))))))) (.more (.c4 ⟨b1⟩ p.b0 p.b3))
 | .c2 p c5 c6=>.br (A.c .lss c5 c6) (.need (A.and (A.c .leq 0 (A.b .sub .i64 p.c7 (A.v .i64 (A.b .shr .u64 (A.v .u64 (A.b .add .i64 c5 c6)) 1)))) (A.c .lss (A.b .sub .i64 p.c7 (A.v .i64 (A.b .shr .u64 (A.v .u64 (A.b .add .i64 c5 c6)) 1))) (A.l p.c8))) (.need (A.and (A.c .leq 0 (A.v .i64 (A.b .shr .u64 (A.v .u64 (A.b .add .i64 c5 c6)) 1))) (A.c .lss (A.v .i64 (A.b .shr .u64 (A.v .u64 (A.b .add .i64 c5 c6)) 1)) (A.l p.c8))) (.need (A.k (@tt (bg×bg)) ((A.n bC p.c8 (A.b .sub .i64 p.c7 (A.v .i64 (A.b .shr .u64 (A.v .u64 (A.b .add .i64 c5 c6)) 1))):bg),(A.n bC p.c8 (A.v .i64 (A.b .shr .u64 (A.v .u64 (A.b .add .i64 c5 c6)) 1)):bg))) (.br (A.not (A.c .lss (A.k Fo ((A.n bC p.c8 (A.b .sub .i64 p.c7 (A.v .i64 (A.b .shr .u64 (A.v .u64 (A.b .add .i64 c5 c6)) 1))):bg),(A.n bC p.c8 (A.v .i64 (A.b .shr .u64 (A.v .u64 (A.b .add .i64 c5 c6)) 1)):bg))) 0)) (.more (.c2 p (A.b .add .i64 (A.v .i64 (A.b .shr .u64 (A.v .u64 (A.b .add .i64 c5 c6)) 1)) 1) c6)) (.more (.c2 p c5 (A.v .i64 (A.b .shr .u64 (A.v .u64 (A.b .add .i64 c5 c6)) 1)))))))) (.br (A.c .lss c5 p.c1) (.br (A.c .lss p.c1 (A.b .sub .i64 p.c4 c5)) (.need (A.k GU (p.c8,c5,p.c1,(A.b .sub .i64 p.c4 c5))) (.br (A.c .lss p.c0 c5) (.br (A.c .lss c5 p.c3) (.need (A.k (eB k) ((A.k mo (p.c8,c5,p.c1,(A.b .sub .i64 p.c4 c5))).1,p.c0,c5,p.c3)) (.br (A.c .lss p.c3 (A.b .sub .i64 p.c4 c5)) (.br (A.c .lss (A.b .sub .i64 p.c4 c5) p.c2) (.need (A.k (eB k) ((A.k F ((A.k mo (p.c8,c5,p.c1,(A.b .sub .i64 p.c4 c5))).1,p.c0,c5,p.c3)).1,p.c3,(A.b .sub .i64 p.c4 c5),p.c2)) (.ret ((A.k F ((A.k F ((A.k mo (p.c8,c5,p.c1,(A.b .sub .i64 p.c4 c5))).1,p.c0,c5,p.c3)).1,p.c3,(A.b .sub .i64 p.c4 c5),p.c2)).1,()))) (.ret ((A.k F ((A.k mo (p.c8,c5,p.c1,(A.b .sub .i64 p.c4 c5))).1,p.c0,c5,p.c3)).1,()))) (.ret ((A.k F ((A.k mo (p.c8,c5,p.c1,(A.b .sub .i64 p.c4 c5))).1,p.c0,c5,p.c3)).1,())))) (.br (A.c .lss p.c3 (A.b .sub .i64 p.c4 c5)) (.br (A.c .lss (A.b .sub .i64 p.c4 c5) p.c2) (.need (A.k (eB k) ((A.k mo (p.c8,c5,p.c1,(A.b .sub .i64 p.c4 c5))).1,p.c3,(A.b .sub .i64 p.c4 c5),p.c2)) (.ret ((A.k F ((A.k mo (p.c8,c5,p.c1,(A.b .sub .i64 p.c4 c5))).1,p.c3,(A.b .sub .i64 p.c4 c5),p.c2)).1,()))) (.ret ((A.k mo (p.c8,c5,p.c1,(A.b .sub .i64 p.c4 c5))).1,()))) (.ret ((A.k mo (p.c8,c5,p.c1,(A.b .sub .i64 p.c4 c5))).1,())))) (.br (A.c .lss p.c3 (A.b .sub .i64 p.c4 c5)) (.br (A.c .lss (A.b .sub .i64 p.c4 c5) p.c2) (.need (A.k (eB k) ((A.k mo (p.c8,c5,p.c1,(A.b .sub .i64 p.c4 c5))).1,p.c3,(A.b .sub .i64 p.c4 c5),p.c2)) (.ret ((A.k F ((A.k mo (p.c8,c5,p.c1,(A.b .sub .i64 p.c4 c5))).1,p.c3,(A.b .sub .i64 p.c4 c5),p.c2)).1,()))) (.ret ((A.k mo (p.c8,c5,p.c1,(A.b .sub .i64 p.c4 c5))).1,()))) (.ret ((A.k mo (p.c8,c5,p.c1,(A.b .sub .i64 p.c4 c5))).1,()))))) (.br (A.c .lss p.c0 c5) (.br (A.c .lss c5 p.c3) (.need (A.k (eB k) (p.c8,p.c0,c5,p.c3)) (.br (A.c .lss p.c3 (A.b .sub .i64 p.c4 c5)) (.br (A.c .lss (A.b .sub .i64 p.c4 c5) p.c2) (.need (A.k (eB k) ((A.k F (p.c8,p.c0,c5,p.c3)).1,p.c3,(A.b .sub .i64 p.c4 c5),p.c2)) (.ret ((A.k F ((A.k F (p.c8,p.c0,c5,p.c3)).1,p.c3,(A.b .sub .i64 p.c4 c5),p.c2)).1,()))) (.ret ((A.k F (p.c8,p.c0,c5,p.c3)).1,()))) (.ret ((A.k F (p.c8,p.c0,c5,p.c3)).1,())))) (.br (A.c .lss p.c3 (A.b .sub .i64 p.c4 c5)) (.br (A.c .lss (A.b .sub .i64 p.c4 c5) p.c2) (.need (A.k (eB k) (p.c8,p.c3,(A.b .sub .i64 p.c4 c5),p.c2)) (.ret ((A.k F (p.c8,p.c3,(A.b .sub .i64 p.c4 c5),p.c2)).1,()))) (.ret (p.c8,()))) (.ret (p.c8,())))) (.br (A.c .lss p.c3 (A.b .sub .i64 p.c4 c5)) (.br (A.c .lss (A.b .sub .i64 p.c4 c5) p.c2) (.need (A.k (eB k) (p.c8,p.c3,(A.b .sub .i64 p.c4 c5),p.c2)) (.ret ((A.k F (p.c8,p.c3,(A.b .sub .i64 p.c4 c5),p.c2)).1,()))) (.ret (p.c8,()))) (.ret (p.c8,()))))) (.br (A.c .lss p.c0 c5) (.br (A.c .lss c5 p.c3) (.need (A.k (eB k) (p.c8,p.c0,c5,p.c3)) (.br (A.c .lss p.c3 (A.b .sub .i64 p.c4 c5)) (.br (A.c .lss (A.b .sub .i64 p.c4 c5) p.c2) (.need (A.k (eB k) ((A.k F (p.c8,p.c0,c5,p.c3)).1,p.c3,(A.b .sub .i64 p.c4 c5),p.c2)) (.ret ((A.k F ((A.k F (p.c8,p.c0,c5,p.c3)).1,p.c3,(A.b .sub .i64 p.c4 c5),p.c2)).1,()))) (.ret ((A.k F (p.c8,p.c0,c5,p.c3)).1,()))) (.ret ((A.k F (p.c8,p.c0,c5,p.c3)).1,())))) (.br (A.c .lss p.c3 (A.b .sub .i64 p.c4 c5)) (.br (A.c .lss (A.b .sub .i64 p.c4 c5) p.c2) (.need (A.k (eB k) (p.c8,p.c3,(A.b .sub .i64 p.c4 c5),p.c2)) (.ret ((A.k F (p.c8,p.c3,(A.b .sub .i64 p.c4 c5),p.c2)).1,()))) (.ret (p.c8,()))) (.ret (p.c8,())))) (.br (A.c .lss p.c3 (A.b .sub .i64 p.c4 c5)) (.br (A.c .lss (A.b .sub .i64 p.c4 c5) p.c2) (.need (A.k (eB k) (p.c8,p.c3,(A.b .sub .i64 p.c4 c5),p.c2)) (.ret ((A.k F (p.c8,p.c3,(A.b .sub .i64 p.c4 c5),p.c2)).1,()))) (.ret (p.c8,()))) (.ret (p.c8,())))))
 | .c3 p d1 d2=>.br (A.c .lss d1 (A.b .sub .i64 p.d0 1)) (.need (A.and (A.c .leq 0 (A.b .add .i64 d1 1)) (A.c .lss (A.b .add .i64 d1 1) (A.l d2))) (.need (A.and (A.c .leq 0 d1) (A.c .lss d1 (A.l d2))) (.need (A.and (A.c .leq 0 d1) (A.c .lss d1 (A.l d2))) (.need (A.and (A.c .leq 0 (A.b .add .i64 d1 1)) (A.c .lss (A.b .add .i64 d1 1) (A.l (A.set d2 d1 (A.n bC d2 (A.b .add .i64 d1 1):bg))))) (.more (.c3 p (A.b .add .i64 d1 1) (A.set (A.set d2 d1 (A.n bC d2 (A.b .add .i64 d1 1):bg)) (A.b .add .i64 d1 1) (A.n bC d2 d1:bg)))))))) (.ret (d2,()))
 | .c4 p e1 e2=>.br (A.c .gtr e1 p.e0) (.need (A.and (A.c .leq 0 (A.b .sub .i64 e1 1)) (A.c .lss (A.b .sub .i64 e1 1) (A.l e2))) (.need (A.and (A.c .leq 0 e1) (A.c .lss e1 (A.l e2))) (.need (A.and (A.c .leq 0 e1) (A.c .lss e1 (A.l e2))) (.need (A.and (A.c .leq 0 (A.b .sub .i64 e1 1)) (A.c .lss (A.b .sub .i64 e1 1) (A.l (A.set e2 e1 (A.n bC e2 (A.b .sub .i64 e1 1):bg))))) (.more (.c4 p (A.b .sub .i64 e1 1) (A.set (A.set e2 e1 (A.n bC e2 (A.b .sub .i64 e1 1):bg)) (A.b .sub .i64 e1 1) (A.n bC e2 e1:bg)))))))) (.ret (e2,()))
section
variable {k:Nat} {F:Rj}
theorem R8{d:List bg}{a m b:Int}(h:0≤a∧a<m∧m<b∧b≤(d.length:Int)∧d.length≤1000000):ah.k GU (d,a,m,b)=true:=aL h
theorem Xb{d:List bg}{a m b:Int}:(ah.k mo (d,a,m,b)).1.length=d.length:=kB
theorem Jk{d:List bg}{a m b:Int}(h:0≤a∧a<m∧m<b∧b≤(d.length:Int)∧d.length≤1000000∧b-a≤(k:Int)):ah.k (eB k) (d,a,m,b)=true:=aL h
theorem abn{N:Nat}(hN:N≤1000000){i:Int}(h0:0≤i)(hi:i≤N):∀(f:Nat) (j:Int) (d:List bg),(i-j).toNat≤f→0≤j→d.length=N→Ex (pM F k ah) N (.more (.c3 ⟨i⟩ j d)):=by
 intro f
 induction f with
 | zero=>
   intro j d hf hj hd
   refine Ex.more ?_
   rw[pM,pJ (x:=i) (y:=1) (by omega)]
   exact Ex.lss (fun h=>by omega) fun _=>Ex.ret hd
 | succ f ih=>
   intro j d hf hj hd
   refine Ex.more ?_
   rw[pM,pJ (x:=i) (y:=1) (by omega)]
   refine Ex.lss (fun h=>?_) fun _=>Ex.ret hd
   rw[rA (x:=j) (y:=1) (by omega)]
   exact Ex.need (dK (by omega)) (Ex.need (dK (by omega)) (Ex.need (dK (by omega)) (Ex.need (Eb (by omega)) (ih (j+1) _ (by omega) (by omega) (fO.trans (fO.trans hd))))))
theorem adL{N:Nat}(hN:N≤1000000){i:Int}(hi:0≤i):∀(f:Nat) (j:Int) (d:List bg),(j-i).toNat≤f→j<N→d.length=N→Ex (pM F k ah) N (.more (.c4 ⟨i⟩ j d)):=by
 intro f
 induction f with
 | zero=>intro j d hf hj hd;exact Ex.more (Ex.gtr (fun h=>by have:i<j:=h;omega) fun _=>Ex.ret hd)
 | succ f ih=>
   intro j d hf hj hd
   refine Ex.more (Ex.gtr (fun h=>?_) fun _=>Ex.ret hd)
   have h:i<j:=h
   rw[pJ (x:=j) (y:=1) (by omega)]
   exact Ex.need (dK (by omega)) (Ex.need (dK (by omega)) (Ex.need (dK (by omega)) (Ex.need (Eb (by omega)) (ih (j-1) _ (by omega) (by omega) (fO.trans (fO.trans hd))))))
theorem adG{p:Q7}{N:Nat}(hN:N≤1000000)(hd:p.a3.length=N)(h0:0≤p.a0∧p.a0<N):∀(f:Nat) (i j:Int),(j-i).toNat≤f→0≤i→i≤j→j≤N→Ex (pM F k ah) N (.more (.c0 p i j)):=by
 intro f
 have out:∀i:Int,0≤i→i≤N→Ex (pM F k ah) N (.more (.c3 ⟨i⟩ p.a0 p.a3)):=fun i h hi=>abn hN h hi _ p.a0 p.a3 (Nat.le_refl _) h0.1 hd
 induction f with
 | zero=>intro i j hf hi hij hj;exact Ex.more (Ex.lss (fun h=>by omega) fun _=>out i hi (by omega))
 | succ f ih=>
   intro i j hf hi hij hj
   refine Ex.more (Ex.lss (fun h=>?_) fun _=>out i hi (by omega))
   obtain⟨c,e,c1,c2⟩:=Sk hi (show 0≤j by omega) (by omega)
   rw[e,rA (x:=c) (y:=1) (by omega)]
   exact Ex.need (dK (by omega)) (Ex.need (dK (by omega)) (Ex.need rfl (Ex.br (fun _=>ih (c+1) j (by omega) (by omega) (by omega) hj) fun _=>ih i c (by omega) hi (by omega) (by omega))))
theorem aaz{p:MJ}{N:Nat}(hN:N≤1000000)(hd:p.b3.length=N)(h0:0≤p.b0∧p.b0<N):∀(f:Nat) (i j:Int),(j-i).toNat≤f→0≤i→i≤j→j≤N→Ex (pM F k ah) N (.more (.c1 p i j)):=by
 intro f
 have out:∀i:Int,0≤i→Ex (pM F k ah) N (.more (.c4 ⟨i⟩ p.b0 p.b3)):=fun i hi=>adL hN hi _ p.b0 p.b3 (Nat.le_refl _) h0.2 hd
 induction f with
 | zero=>intro i j hf hi hij hj;exact Ex.more (Ex.lss (fun h=>by omega) fun _=>out i hi)
 | succ f ih=>
   intro i j hf hi hij hj
   refine Ex.more (Ex.lss (fun h=>?_) fun _=>out i hi)
   obtain⟨c,e,c1,c2⟩:=Sk hi (show 0≤j by omega) (by omega)
   rw[e,rA (x:=c) (y:=1) (by omega)]
   exact Ex.need (dK (by omega)) (Ex.need (dK (by omega)) (Ex.need rfl (Ex.br (fun _=>ih (c+1) j (by omega) (by omega) (by omega) hj) fun _=>ih i c (by omega) hi (by omega) (by omega))))
theorem Vh(hF:∀x,(F x).1.length=x.1.length){p:Mn}{N:Nat}(hN:N≤1000000)(hd:p.c8.length=N){lo:Int}(g0:0≤p.c0∧p.c0<p.c1∧p.c1<p.c2∧p.c2≤N∧p.c2-p.c0≤(k:Int)+1)
  (g1:2*p.c3≤p.c0+p.c2∧p.c0+p.c2≤2*p.c3+1) (g2:p.c4=p.c3+p.c1) (g3:p.c7=p.c4-1) (g4:p.c0≤lo∧p.c4-lo≤p.c2) :
  ∀(f:Nat) (i j:Int),(j-i).toNat≤f→lo≤i→i≤j→j≤p.c1→j≤p.c3∨p.c1≤p.c3→Ex (pM F k ah) N (.more (.c2 p i j)):=by
 have hl:∀{d:List bg} {a m b:Int},(ah.k F (d,a,m,b)).1.length=d.length:=hF _
 have out:∀i:Int,lo≤i→i≤p.c1→i≤p.c3∨p.c1≤p.c3→Ex (pM F k ah) N (.more (.c2 p i i)):=fun i h1 h2 h3=>by
  refine Ex.more ?_
  rw[pM,pJ (x:=p.c4) (y:=i) (by omega)]
  refine Ex.lss (fun h=>by omega) fun _=>?_
  have b1:∀{d:List bg},d.length=N→p.c3<p.c4-i→p.c4-i<p.c2→Ex (pM F k ah) N (.need (ah.k (eB k) (d,p.c3,p.c4-i,p.c2)) (.ret ((ah.k F (d,p.c3,p.c4-i,p.c2)).1,()))):=fun hd h4 h5=>Ex.need (Jk (by omega)) (Ex.ret (hl.trans hd))
  have b2:∀{d:List bg},d.length=N→Ex (pM F k ah) N (.br (ah.c .lss p.c3 (p.c4-i)) (.br (ah.c .lss (p.c4-i) p.c2) (.need (ah.k (eB k) (d,p.c3,p.c4-i,p.c2)) (.ret ((ah.k F (d,p.c3,p.c4-i,p.c2)).1,()))) (.ret (d,()))) (.ret (d,()))):=fun hd=>
   Ex.lss (fun h4=>Ex.lss (fun h5=>b1 hd h4 h5) fun _=>Ex.ret hd) fun _=>Ex.ret hd
  have b3:∀{d:List bg},d.length=N→Ex (pM F k ah) N (.br (ah.c .lss p.c0 i) (.br (ah.c .lss i p.c3) (.need (ah.k (eB k) (d,p.c0,i,p.c3)) (.br (ah.c .lss p.c3 (p.c4-i)) (.br (ah.c .lss (p.c4-i) p.c2) (.need (ah.k (eB k) ((ah.k F (d,p.c0,i,p.c3)).1,p.c3,p.c4-i,p.c2)) (.ret ((ah.k F ((ah.k F (d,p.c0,i,p.c3)).1,p.c3,p.c4-i,p.c2)).1,()))) (.ret ((ah.k F (d,p.c0,i,p.c3)).1,()))) (.ret ((ah.k F (d,p.c0,i,p.c3)).1,()))))
    (.br (ah.c .lss p.c3 (p.c4-i)) (.br (ah.c .lss (p.c4-i) p.c2) (.need (ah.k (eB k) (d,p.c3,p.c4-i,p.c2)) (.ret ((ah.k F (d,p.c3,p.c4-i,p.c2)).1,()))) (.ret (d,()))) (.ret (d,()))))
    (.br (ah.c .lss p.c3 (p.c4-i)) (.br (ah.c .lss (p.c4-i) p.c2) (.need (ah.k (eB k) (d,p.c3,p.c4-i,p.c2)) (.ret ((ah.k F (d,p.c3,p.c4-i,p.c2)).1,()))) (.ret (d,()))) (.ret (d,())))):=fun hd=>
   Ex.lss (fun h4=>Ex.lss (fun h5=>Ex.need (Jk (by omega)) (b2 (hl.trans hd))) fun _=>b2 hd) fun _=>b2 hd
  refine Ex.lss (fun h4=>Ex.lss (fun h5=>Ex.need (R8 (by omega)) (b3 (Xb.trans hd))) fun _=>b3 hd) fun _=>b3 hd
 intro f
 induction f with
 | zero=>intro i j hf hi hij hj hc;rw[show j=i by omega];exact out i hi (by omega) (by omega)
 | succ f ih=>
   intro i j hf hi hij hj hc
   by_cases he:i=j
   ·rw[he];exact out j (by omega) hj hc
   refine Ex.more (Ex.lss (fun h=>?_) fun h=>by omega)
   obtain⟨c,e,c1,c2⟩:=Sk (i:=i) (j:=j) (by omega) (by omega) (by omega)
   rw[e,rA (x:=c) (y:=1) (by omega),pJ (x:=p.c7) (y:=c) (by omega)]
   exact Ex.need (dK (by omega)) (Ex.need (dK (by omega)) (Ex.need rfl (Ex.br (fun _=>ih (c+1) j (by omega) (by omega) (by omega) hj hc) fun _=>ih i c (by omega) hi (by omega) (by omega) (by omega))))
theorem Zf(hF:∀x,(F x).1.length=x.1.length){d:List bg}{a m b:Int}(h:0≤a∧a<m∧m<b∧b≤(d.length:Int)∧d.length≤1000000∧b-a≤((k+1:Nat):Int)):Ex (pM F k ah) d.length (MU ah d a m b):=by
 obtain⟨h1,h2,h3,h4,h5,h6⟩:=h
 have h6:b-a≤(k:Int)+1:=h6
 unfold MU rP
 obtain⟨c,e,c1,c2⟩:=Sk (i:=a) (j:=b) (by omega) (by omega) (by omega)
 rw[e,pJ (x:=m) (y:=a) (by omega),pJ (x:=b) (y:=m) (by omega),rA (x:=c) (y:=m) (by omega),pJ (x:=c+m) (y:=1) (by omega),pJ (x:=c+m) (y:=b) (by omega)]
 refine Ex.eql (fun _=>adG (p:=⟨a,d⟩) h5 rfl (by simp only;omega) _ m b (Nat.le_refl _) (by omega) (by omega) h4) fun _=>Ex.eql (fun _=>aaz (p:=⟨m,d⟩) h5 rfl (by simp only;omega) _ a m (Nat.le_refl _) h1 (by omega) (by omega)) fun _=>Ex.gtr (fun g=>?_) fun g=>?_
 ·exact Vh hF (p:=⟨a,m,b,c,c+m,c+m-1,d⟩) (lo:=c+m-b) h5 rfl (by simp only;omega) (by simp only;omega) rfl rfl (by simp only;omega) _ (c+m-b) c (Nat.le_refl _) (Int.le_refl _) (by omega) (by simp only;omega) (by simp only;omega)
 ·exact Vh hF (p:=⟨a,m,b,c,c+m,c+m-1,d⟩) (lo:=a) h5 rfl (by simp only;omega) (by simp only;omega) rfl rfl (by simp only;omega) _ a m (Nat.le_refl _) (Int.le_refl _) (by omega) (by simp only;omega) (by simp only;omega)
end
theorem Z3{k:Nat}{F:Rj}(hF:∀x,(F x).1.length=x.1.length)(ih:dw.Sound Tryz.prog 265 (Ml k F)):dw.Sound Tryz.prog 265 (Ml (k+1) fun(d,a,m,b)=>(o9 (pM F k ah) (MU ah d a m b) d,())):=iB ar bR true 76 (ic ih (ic aeA iz)) [⟨265,3, [[0,1,4,10,11]]⟩,⟨265,9, [[0,10,13]]⟩,⟨265,15, [[0,2,4,14,15]]⟩,⟨265,21, [[0,14,17]]⟩,⟨265,33, [[0,1,2,3,4,18,19,20,21,22]]⟩] [] (fun A (data,(a,m,b))=>MU A data a m b) (pM F k) ZW (fc Tryz.func265 fz) (sc VG sz) (fun A y=>match y with |.c0 p a1 a2=>⟨47,by kernel_rfl,by kernel_rfl⟩|.c1 p b1 b2=>⟨48,by kernel_rfl,by kernel_rfl⟩|.c2 p c5 c6=>⟨84,by kernel_rfl,by kernel_rfl⟩|.c3 p d1 d2=>⟨44,by kernel_rfl,by kernel_rfl⟩|.c4 p e1 e2=>⟨43,by kernel_rfl,by kernel_rfl⟩) fun((data,(a,m,b)):List bg×(Int×Int×Int)) hp hv h=>ob (Zf hF (of_decide_eq_true hp))
def BL:Nat→Rj
 | 0=>fun x=>(x.1,())
 | k+1=>fun(d,a,m,b)=>(o9 (pM (BL k) k ah) (MU ah d a m b) d,())
theorem Mj:∀(k:Nat) (x:List bg×Int×Int×Int),(BL k x).1.length=x.1.length
 | 0,_=>rfl
 | _+1,_=>kB
theorem Ns{x:List bg×Int×Int×Int}:eB 0 x=false:=by
 obtain⟨d,a,m,b⟩:=x
 exact aX (by omega)
theorem VP:∀k,dw.Sound Tryz.prog 265 (Ml k (BL k))
 | 0=>⟨fun w I x y v aa B _ _ _ _ hp=>Bool.noConfusion ((Ns (x:=(x,y))).symm.trans hp),Tryz.f265,Tryz.func265,by kernel_rfl,by kernel_rfl⟩
 | k+1=>Z3 (Mj k) (VP k)
structure Xx where
 (a0:Int)
structure Zv where
 (b0 b1:Int) (b2:List bg)
structure Y1 where
 (c0 c1:Int)
inductive SX where
 | c0 (p:Xx) (a2:Int) (a3:Int) (a4:List bg)
 | c1 (p:Zv)
 | c2 (p:Y1) (c2:Int) (c3:Int) (c4:List bg)
noncomputable def ZS:SX→eT
 | .c0 p a2 a3 a4=>⟨[⟨205,63,(en [(0,.own 0),(1,vi p.a0),(2,.fn 136 [] []),(6,vi 20),(7,vi a2),(8,vi a3)]),[.inLoop (cw Tryz.f205 [1,1,0,0,0]),.inBlock 0,.code (cw Tryz.f205 [1,1,1])],[],none⟩],[.arr false bC a4,.dead]⟩
 | .c1 p=>⟨[⟨205,63,(en [(0,.own 0),(1,vi p.b0),(2,.fn 136 [] []),(6,vi p.b1)]),[.inLoop (cw Tryz.f205 [1,1,1,1,0,0]),.inBlock 2],[],none⟩],[.arr false bC p.b2,.dead]⟩
 | .c2 p c2 c3 c4=>⟨[⟨205,63,(en [(0,.own 0),(1,vi p.c0),(2,.fn 136 [] []),(6,vi p.c1),(7,vi c2),(8,vi c3)]),[.inLoop (cw Tryz.f205 [1,1,1,1,0,0,1,0,1,0,0,0]),.inBlock 4,.code (cw Tryz.f205 [1,1,1,1,0,0,1,0,1,1]),.inBlock 3,.inLoop (cw Tryz.f205 [1,1,1,1,0,0]),.inBlock 2],[],none⟩],[.arr false bC c4,.dead]⟩
def Wi(A:aI)(data:List bg)(n:Int):LT (List bg×Unit) SX:=.more (.c0 ⟨n⟩ 0 20 data)
def Ha(A:aI):SX→LT (List bg×Unit) SX
 | .c0 p a2 a3 a4=>.br (A.c .leq a3 p.a0) (.need (A.k C3 (a4,a2,a3)) (.more (.c0 p a3 (A.b .add .i64 a3 20) (A.k Ju (a4,a2,a3)).1))) (.need (A.k C3 (a4,a2,p.a0)) (.more (.c1 ⟨p.a0,20,(A.k Ju (a4,a2,p.a0)).1⟩)))
 | .c1 p=>.br (A.c .lss p.b1 p.b0) (.more (.c2 ⟨p.b0,p.b1⟩ 0 (A.b .mul .i64 2 p.b1) p.b2)) (.ret (p.b2,()))
 | .c2 p c2 c3 c4=>.br (A.c .leq c3 p.c0) (.need (A.k (eB 1000000) (c4,c2,(A.b .add .i64 c2 p.c1),c3)) (.more (.c2 p c3 (A.b .add .i64 c3 (A.b .mul .i64 2 p.c1)) (A.k (BL 1000000) (c4,c2,(A.b .add .i64 c2 p.c1),c3)).1))) (.br (A.c .lss (A.b .add .i64 c2 p.c1) p.c0) (.need (A.k (eB 1000000) (c4,c2,(A.b .add .i64 c2 p.c1),p.c0)) (.more (.c1 ⟨p.c0,(A.b .mul .i64 p.c1 2),(A.k (BL 1000000) (c4,c2,(A.b .add .i64 c2 p.c1),p.c0)).1⟩))) (.more (.c1 ⟨p.c0,(A.b .mul .i64 p.c1 2),c4⟩)))
theorem V_{N:Nat}(hN:N≤1000000){bs:Int}(h1:1≤bs∧bs≤1000000)(nx:∀d:List bg,d.length=N→Ex (Ha ah) N (.more (.c1 ⟨(N:Int),ah.b .mul .i64 bs 2,d⟩))):∀(f:Nat) (a:Int) (d:List bg),(N-a).toNat≤f→0≤a→a≤N→d.length=N→Ex (Ha ah) N (.more (.c2 ⟨(N:Int),bs⟩ a (a+2*bs) d)):=by
 have e:ah.b .mul .i64 2 bs=2*bs:=by rw[gW,iU (by omega) (by omega)]
 have hl:∀{d:List bg} {a m b:Int},(ah.k (BL 1000000) (d,a,m,b)).1.length=d.length:=Mj _ _
 have pr:∀{d:List bg} {a m b:Int},(0≤a∧a<m∧m<b∧b≤(d.length:Int)∧d.length≤1000000∧b-a≤((1000000:Nat):Int))→ah.k (eB 1000000) (d,a,m,b)=true:=fun h=>aL h
 intro f
 induction f with
 | zero=>
   intro a d hf ha hn hd
   refine Ex.more (Ex.leq (fun h=>by have:a+2*bs≤N:=h;omega) fun _=>?_)
   rw[show ah.b .add .i64 a bs=a+bs from rA (by omega)]
   exact Ex.lss (fun h=>by have:a+bs<N:=h;omega) fun _=>nx d hd
 | succ f ih=>
   intro a d hf ha hn hd
   refine Ex.more (Ex.leq (fun h=>?_) fun _=>?_)
   ·have h:a+2*bs≤N:=h
    rw[show ah.b .add .i64 a bs=a+bs from rA (by omega),show ah.b .mul .i64 2 bs=2*bs from e,rA (x:=a+2*bs) (y:=2*bs) (by omega)]
    exact Ex.need (pr (by omega)) (ih (a+2*bs) _ (by omega) (by omega) h (hl.trans hd))
   ·rw[show ah.b .add .i64 a bs=a+bs from rA (by omega)]
    exact Ex.lss (fun h=>by have h:a+bs<N:=h;exact Ex.need (pr (by simp only;omega)) (nx _ (hl.trans hd))) fun _=>nx d hd
theorem Mu{N:Nat}(hN:N≤1000000):∀(f:Nat) (bs:Int) (d:List bg),(N-bs).toNat≤f→1≤bs→d.length=N→Ex (Ha ah) N (.more (.c1 ⟨(N:Int),bs,d⟩)):=by
 intro f
 induction f with
 | zero=>intro bs d hf hb hd;exact Ex.more (Ex.lss (fun h=>by have:bs<N:=h;omega) fun _=>Ex.ret hd)
 | succ f ih=>
   intro bs d hf hb hd
   refine Ex.more (Ex.lss (fun h=>?_) fun _=>Ex.ret hd)
   have h:bs<N:=h
   rw[show ah.b .mul .i64 2 bs=0+2*bs by rw[gW,iU (by omega) (by omega)];omega]
   refine V_ hN ⟨hb,by omega⟩ (fun e he=>?_) _ 0 d (Nat.le_refl _) (Int.le_refl 0) (by omega) hd
   rw[show ah.b .mul .i64 bs 2=bs*2 by rw[gW,iU (by omega) (by omega)]]
   exact ih (bs*2) e (by omega) (by omega) he
theorem Ze{N:Nat}(hN:N≤1000000):∀(f:Nat) (a:Int) (d:List bg),(N-a).toNat≤f→0≤a→a≤N→d.length=N→Ex (Ha ah) N (.more (.c0 ⟨(N:Int)⟩ a (a+20) d)):=by
 have hl:∀{d:List bg} {a b:Int},(ah.k Ju (d,a,b)).1.length=d.length:=kB
 have pr:∀{d:List bg} {a b:Int},(0≤a∧a≤b∧b≤(d.length:Int)∧d.length≤1000000)→ah.k C3 (d,a,b)=true:=fun h=>aL h
 intro f
 induction f with
 | zero=>intro a d hf ha hn hd;exact Ex.more (Ex.leq (fun h=>by have:a+20≤N:=h;omega) fun _=>Ex.need (pr (by simp only;omega)) (Mu hN _ 20 _ (Nat.le_refl _) (by omega) (hl.trans hd)))
 | succ f ih=>
   intro a d hf ha hn hd
   refine Ex.more (Ex.leq (fun h=>?_) fun _=>Ex.need (pr (by simp only;omega)) (Mu hN _ 20 _ (Nat.le_refl _) (by omega) (hl.trans hd)))
   have h:a+20≤N:=h
   rw[rA (x:=a+20) (y:=20) (by omega)]
   exact Ex.need (pr (by omega)) (ih (a+20) _ (by omega) (by omega) h (hl.trans hd))
theorem Xm{d:List bg}{n:Int}(h:n=(d.length:Int)∧d.length≤1000000):Ex (Ha ah) d.length (Wi ah d n):=by
 obtain⟨rfl,h⟩:=h
 exact Ze h _ 0 d (Nat.le_refl _) (Int.le_refl 0) (by omega) rfl
def Mm:List bg×Int→List bg×Unit:=fun(d,n)=>(o9 (Ha ah) (Wi ah d n) d,())
def MR:List bg×Int→Bool:=fun(d,n)=>decide (n=(d.length:Int)∧d.length≤1000000)
def ad9:dw:=⟨bC, [yI], [136], [],MR,Mm⟩
theorem aaG:dw.Sound Tryz.prog 205 ad9:=iB ar bR true 19 (ic acK (ic (VP 1000000) iz)) [⟨205,2, [[0,1,2,6,7,8]]⟩,⟨205,7, [[0,1,2,6]]⟩,⟨205,9, [[0,1,2,6,7,8]]⟩] [] (fun A (data,n)=>Wi A data n) Ha ZS (fc Tryz.func205 fz) sz (fun A y=>match y with |.c0 p a2 a3 a4=>⟨36,by kernel_rfl,by kernel_rfl⟩|.c1 p=>⟨26,by kernel_rfl,by kernel_rfl⟩|.c2 p c2 c3 c4=>⟨44,by kernel_rfl,by kernel_rfl⟩) fun((data,n):List bg×Int) hp hv h=>ob (Xm (of_decide_eq_true hp))
def YG(A:aI)(x2:List bg):LT (List bg×Unit) Empty:=.need (A.k MR (x2,(A.l x2))) (.ret ((A.k Mm (x2,(A.l x2))).1,()))
theorem Y0{d:List bg}(h:d.length≤1000000):Ex Empty.elim d.length (YG ah d):=
 Ex.need (aL ⟨rfl,h⟩) (Ex.ret (show(ah.k Mm (d,ah.l d)).1.length=d.length from kB))
def OM:List bg×Unit→List bg×Unit:=fun(d,_)=>(o9 Empty.elim (YG ah d) d,())
def D_:List bg×Unit→Bool:=fun(d,_)=>decide (d.length≤1000000)
def afi:dw:=⟨bC, [], [136], [],D_,OM⟩
theorem acQ:dw.Sound Tryz.prog 135 afi:=iB ar bR true 13 (ic aaG iz) [] [] (fun A (x2,())=>YG A x2) (fun _=>Empty.elim) Empty.elim (fc Tryz.func135 fz) sz (fun _ y=>y.elim) fun((x2,()):List bg×Unit) hp hv h=>ob (Y0 (of_decide_eq_true hp))
def K9(l:List bg):List bg:=(OM (l,())).1
end
end Go.Ev.M
