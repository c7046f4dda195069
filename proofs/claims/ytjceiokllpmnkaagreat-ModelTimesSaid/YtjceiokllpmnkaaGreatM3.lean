/-
  PROVED: what functions of the program compute, part 3. Conditions: none.
-/
import Derived.Test.YtjceiokllpmnkaaGreatM2
import Derived.Shelf.SlicesE.Clone
import Derived.Shelf.SlSortCmp.NoneTotal
set_option linter.unusedVariables false
set_option linter.unusedSimpArgs false
namespace Go.Ev.M
open Go.Proofs
set_option maxRecDepth 100000
open Go.Ev.Pl
noncomputable section
abbrev aQ:Ty:=kX
abbrev aM:Type:=mj
abbrev gW:Ty:=(.struct [yI,(.slice .bool),DG,DG,DG,DG,(.slice bA),(.slice aQ)])
abbrev fj:Type:=Int×List Bool×List Int×List Int×List Int×List Int×List bl×List aM
abbrev dN:Ty:=(.struct [yI,aF])
abbrev gn:Type:=Int×Node
abbrev oD:Ty:=(.struct [.bool,aR,gW,(.slice aF),(.slice .bool),yI,(.slice dN)])
abbrev bf:Type:=Bool×al×fj×List Node×List Bool×Int×List gn
abbrev TD:Ty:=(.struct [(.slice aF),(.slice .bool),(.slice .bool),(.slice .bool),(.arr 2 aG)])
abbrev cH:Type:=List Node×List Bool×List Bool×List Bool×List Seen
open Go.Lib Go.RowKit Go.Shelf in
set_option maxHeartbeats 2000000 in
theorem Uu{P:Program}{ρ:Shelf.Ren}(L:SlLaysE0.n41 P ρ){i0:TypeInfo}{z:Value}{size bytes:Nat}(hi:P.info? (ρ.t 23)=some i0)(hz0:i0.zero=some z)(hz1:i0.size=size)(hz2:i0.bytes=bytes)(hzs:z.cells.size=size)(hsz:0<size)
  (z23:∀w,(Go.sizeOf (ρ.t 23)).run P w=.ok size w) (a:Addr) (n c:Nat) (news:List Value) (w:World) (hl:news.length=n*size) (hn:n≤maxLen) (hbig:n*bytes≤140737488355328)
  (hc:∀j u,news[j]? = some u→w.cell? (a.add j)=some u) (h1:∀u∈news,u.oneCell'=true) :
  Calls P (ρ.f 41) #[.slice (some a) n c] w fun e w'=>∃v',e=.returned v'∧w'.ownsRow w.heap.size (ρ.t 23) size v' n news∧v'≠.slice none 0 0∧Below w.heap.size w w':=by
 have mixed:=L.mixed;have t4:=L.t4;have a4:=L.a4;have z4:=L.z4;have v4:=L.v4;have t22:=L.t22;have a22:=L.a22;have z22:=L.z22;have v22:=L.v22
 have q22:∀(w:World) (a:Option Addr) (n c n' c':Nat),(binOp .eql (ρ.t 22) (.slice a n c) (.slice none n' c')).run P w=.ok (.bool a.isNone) w:=fun w a n c n' c'=>Lib.run_eql_slice_nil w _ _ a n c n' c' L.t22
 have u22:∀w,Sem.run P (underlying (ρ.t 22)) w=.ok (TypeDesc.slice (ρ.t 23)) w:=run_underlying t22
 have A:Aside (∀j u,news[j]? = some u→w.cell? (a.add j)=some u):=hc
 clear hc
 obtain⟨_,_,FG⟩:=L.f41
 go_enter FG,SlBodyN.n41_ntmps ρ
 go_wp2_with (at_builtin;refine wpList_append_own _ rfl _ _ (ρ.t 22) rfl w.heap.size (ρ.t 23) i0 z size bytes t22 hi hz0 hz1 hz2 hzs hsz _ _ _ rfl (World.ownsRow_made w #[] 0 (Nat.le_refl _) (Nat.zero_le _) (by simp)) a n c news rfl ?qc1 ?qc2 ?qc3 ?qc4 ?qc5 ?qc6 ?_)
 case qc1=>exact hl
 case qc2=>exact fun j u hj=>Lib.cell?_alloc_some _ (A.out j u hj)
 case qc3=>exact h1
 case qc4=>rw[Nat.zero_add];exact hn
 case qc5=>rw[Nat.zero_add];exact hbig
 case qc6=>simp
 intro v' w1 hown hgrow hnil
 go_wp2
 go_ret
 refine⟨v',rfl,by simpa using hown,hnil,((Below.refl _ w).alloc (Nat.le_refl _) _).grown hgrow (by simp) (by intro k hk;simp[Value.ownBlock] at hk;omega)⟩
open Go.Lib Go.RowKit Go.Shelf in
theorem yJ{P:Program}{ρ:Shelf.Ren}(L:SlLaysE0.n41 P ρ)(t:Ty){i0:TypeInfo}{z:Value}{bytes:Nat}(hi:P.info? (ρ.t 23)=some i0)(hz0:i0.zero=some z)(hz1:i0.size=t.size)(hz2:i0.bytes=bytes)(hzs:z.cells.size=t.size)(hsz:0<t.size)(hso:t.mg=true)
  (z23:∀w,(Go.sizeOf (ρ.t 23)).run P w=.ok t.size w) {F:Func} (hF:P.funcs[ρ.f 41]? = some F) (hb:F.body.isSome=true) (hn:(F.name == "runtime.NumGoroutine")=false) :
  ax.Sound P (ρ.f 41) ⟨[.slice t], [.slice t],fun x=>decide (((show List t.T from x).length:Int)*bytes≤140737488355328),fun x=>x⟩:=by
 refine⟨fun w I x aa hI hrep hp=>?_,⟨F,hF,hb,hn⟩⟩
 obtain⟨l⟩:=aa
 obtain⟨v,rfl,hv⟩:∃v,l=[v]∧gJ w I (.slice t) v x:=hrep
 have hv:aS w I (.slice t) [v] x:=hv
 have hbig:(show List t.T from x).length*bytes≤140737488355328:=by have:=of_decide_eq_true hp;omega
 obtain⟨a,cap,us,rfl,h2,h3,h4,h5,h6,h7⟩:=yu.Ff hv
 cases a with
 | none=>
   have hx0:x=([]:List t.T):=List.eq_nil_of_length_eq_zero (by have:=h5 rfl;omega)
   subst hx0
   refine(AnyE.slices_Clone_nil L 0 cap w).mono ?_
   rintro e w' ⟨rfl,rfl⟩
   exact⟨_,rfl,rfl,rfl,rfl,Nat.le_refl _,fun _ _=>rfl,I,fun b h=>.inl h,bE.2 ⟨none,0,rfl,Nat.le_refl _,Nat.zero_le _,(fun _=>rfl),fun i y h=>by cases h⟩⟩
 | some a=>
   refine(Uu L hi hz0 hz1 hz2 hzs hsz z23 a (show List t.T from x).length cap us w h3 (Nat.le_trans h2 (by decide)) hbig (fun j u hj=>?_) fun u hu=>?_).mono ?_
   ·obtain⟨hj1,_⟩:=List.getElem?_eq_some_iff.1 hj
    obtain⟨b,off,e,hr⟩:=h4 (fun k=>by rw[h3,k,Nat.zero_mul] at hj1;omega)
    cases e
    rw[Addr.add_lit]
    exact hr j u hj
   ·obtain⟨i,hi1,hi2⟩:=rH h3 hu
    exact aS.oneCell t hso (h7 i _ (uX hi1)) u hi2
   ·rintro e w' ⟨v',rfl,⟨hn,hrow⟩,hnil,hb⟩
    rcases hrow with ⟨hz,_⟩|⟨g,cap',cur,rfl,hbase,hg,hcap,hml,hsz',htk⟩
    ·exact absurd hz hnil
    refine⟨_,rfl,hb.os,hb.tape,hb.output,hb.size,hb.block,fun b=>b<w.heap.size∧I b∨w.heap.size≤b∧b<w'.heap.size,fun b h=>h.elim (fun h=>.inl h.2) .inr,bE.2 ⟨_,cap',rfl,hcap,h2,(fun h=>by cases h),fun i y hy=>?_⟩⟩
    have hi:i<(show List t.T from x).length:=(List.getElem?_eq_some_iff.1 hy).1
    have hI':∀b,I b→(b<w.heap.size∧I b∨w.heap.size≤b∧b<w'.heap.size)∧w'.heap[b]? = w.heap[b]? :=fun b hb'=>⟨.inl ⟨hI b hb',hb'⟩,hb.block b (hI b hb')⟩
    refine⟨g,0,(us.drop (i*t.size)).take t.size,rfl,.inr ⟨hbase,(Array.getElem?_eq_some_iff.1 hg).1⟩,?_,?_,(h7 i y hy).mono hI' t⟩
    ·have:(i+1)*t.size≤(show List t.T from x).length*t.size:=Nat.mul_le_mul_right _ hi
     rw[Nat.add_mul,Nat.one_mul] at this
     rw[List.length_take,List.length_drop,h3];omega
    ·have hrw:=dQ (w:=w') hg (0+i*t.size) t.size
     have h8:(cur.toList.drop (0+i*t.size)).take t.size=(us.drop (i*t.size)).take t.size:=by
      have:(i+1)*t.size≤(show List t.T from x).length*t.size:=Nat.mul_le_mul_right _ hi
      rw[Nat.add_mul,Nat.one_mul] at this
      rw[←htk,Nat.zero_add,List.drop_take,List.take_take]
      congr 1;omega
     rw[h8] at hrw
     exact hrw
def Y6:Shelf.Ren:=⟨fun x=>match x with|41=>247|n=>n,fun x=>match x with|22=>54|4=>4|23=>196|n=>n,fun x=>x⟩
theorem Vl:SlLaysE0.n41 Tryz.prog Y6:=
 {mixed:=by kernel_rfl,f41:=⟨Tryz.f247.name,by kernel_rfl,Tryz.func247.trans (congrArg some (by kernel_rfl))⟩,t4:=Tryz.underlying4,a4:=Tryz.isAgg4,z4:=Tryz.sizeOf4,v4:=Tryz.zeroValue4,t22:=Tryz.underlying54,a22:=Tryz.isAgg54,z22:=Tryz.sizeOf54,v22:=Tryz.zeroValue54}
def KI:List bl→List bl:=fun x=>x
def HY:List bl→Bool:=fun x=>decide ((x.length:Int)*(64:Nat)≤140737488355328)
def agW:ax:=⟨[.slice bA], [.slice bA],HY,KI⟩
theorem agv:Sd 247 agW:=by
 obtain⟨i0,hi,h0,h1,h2⟩:=info_parts (show(Tryz.prog.info? 196).map (fun i=>(i.zero,i.size,i.bytes))=some (some (.agg #[.int .i64 0,.int .i64 0,.int .i64 0,.int .i64 0,.int .i64 0,.slice none 0 0]),6,64) by kernel_rfl)
 exact yJ Vl bA hi h0 h1 h2 (by kernel_rfl) (by decide) (by kernel_rfl) Tryz.sizeOf196 Tryz.func247 (by kernel_rfl) (by kernel_rfl)
def Zd:Shelf.Ren:=⟨fun x=>match x with|41=>291|n=>n,fun x=>match x with|22=>55|4=>4|23=>66|n=>n,fun x=>x⟩
theorem UD:SlLaysE0.n41 Tryz.prog Zd:=
 {mixed:=by kernel_rfl,f41:=⟨Tryz.f291.name,by kernel_rfl,Tryz.func291.trans (congrArg some (by kernel_rfl))⟩,t4:=Tryz.underlying4,a4:=Tryz.isAgg4,z4:=Tryz.sizeOf4,v4:=Tryz.zeroValue4,t22:=Tryz.underlying55,a22:=Tryz.isAgg55,z22:=Tryz.sizeOf55,v22:=Tryz.zeroValue55}
def AJ:List aM→List aM:=fun x=>x
def Eu:List aM→Bool:=fun x=>decide ((x.length:Int)*(56:Nat)≤140737488355328)
def agl:ax:=⟨[.slice aQ], [.slice aQ],Eu,AJ⟩
theorem WE:Sd 291 agl:=by
 obtain⟨i0,hi,h0,h1,h2⟩:=info_parts (show(Tryz.prog.info? 66).map (fun i=>(i.zero,i.size,i.bytes))=some (some (.agg #[.int .i64 0,.int .i64 0,.int .i64 0,.int .i64 0,.int .i64 0,.int .i64 0,.int .i64 0]),7,56) by kernel_rfl)
 exact yJ UD aQ hi h0 h1 h2 (by kernel_rfl) (by decide) (by kernel_rfl) Tryz.sizeOf66 Tryz.func291 (by kernel_rfl) (by kernel_rfl)
def V1(A:aI)(kind:Int):LT Bool Empty:=.br (A.c .eql kind 1) (.br (A.c .eql kind 1) (.ret true) (.ret false)) (.br (A.c .eql kind 2) (.br (A.c .eql kind 2) (.ret true) (.ret false)) (.br (A.c .eql kind 6) (.br (A.c .eql kind 6) (.ret true) (.ret false)) (.br (A.c .eql kind 5) (.br (A.c .eql kind 5) (.ret true) (.ret false)) (.br (A.c .eql kind 9) (.br (A.c .eql kind 9) (.ret true) (.ret false)) (.br (A.c .eql kind 10) (.ret true) (.ret false))))))
def oE:Int→Bool:=fun kind=>(V1 ah kind).val (Ty.bi [.bool])
def acN:ax:=⟨[yI], [.bool],(@tt Int),oE⟩
theorem Wa:Sd 293 acN:=aH ap bR true 58 [] (fun A kind=>V1 A kind) (fc Tryz.func293 fz) sz (fun(kind:Int) hp h=>by
 show(V1 ah kind).pre=true
 simp[V1,LT.pre,aA,dU])
structure MV where
 (a0:List aM) (a1:Int) (a3:Unit×List aM×Unit) (a4 a5:Int) (a6:cy) (a7 a8 a9 cB:Unit×List aM×Unit) (da:List aM) (a12 kE jv lJ:Int) (a17:cy) (lK:List aM) (mh a20:Int)
inductive Uh where
 | c0 (p:MV) (a2:Int)
noncomputable def XN:Uh→eD
 | .c0 p a2=>⟨[⟨292,36,(en [(0,.yield 0),(2,.ptr 1 0),(3,.ptr 2 0),(7,.sl aQ p.a0),(8,vi p.a1),(9,vi a2)]),[.inLoop (cw Tryz.f292 [1,0,0]),.inBlock 0],[],none⟩,⟨187,31,(en [(8,.ptr 3 0)]),[.kw 0,.inBlock 0,.code (cw Tryz.f187 [1,1])],[4],none⟩],[.loop ⟨187,31,(en [(0,.jA (.struct [(.any 16),(.slice aQ),(.any 4)]) p.a3 0),(1,vi p.a4),(2,vi p.a5),(3,.agg (dc kK p.a6)),(5,.ptr 7 0),(6,.ptr 8 0),(7,.ptr 5 0),(8,.ptr 3 0),(10,.jA (.struct [(.any 16),(.slice aQ),(.any 4)]) p.a7 0),(11,.jA (.struct [(.any 16),(.slice aQ),(.any 4)]) p.a8 0),(12,.jA (.struct [(.any 16),(.slice aQ),(.any 4)]) p.a9 9),(13,.jA (.struct [(.any 16),(.slice aQ),(.any 4)]) p.cB 16),(14,.sl aQ p.da),(15,.ptr 5 0),(16,vi p.a12),(17,.ptr 5 1),(18,vi p.kE),(19,.fn 292 [] [.ptr 6 0,.ptr 1 0,.ptr 2 0])]),[20],(cw Tryz.f187 [1,0,1,0,0]),(cw Tryz.f187 [1,0,1,0,1]),0,none⟩,.flat false [vi p.jv],.flat false [vi p.lJ],.flat false [vb false],.BZ,.flat false (dc kK p.a17),.flat false [.sl aQ p.lK],.flat false [vi p.mh],.flat false [vi p.a20],.dead]⟩
def Yd(A:aI)(x1:List aM)(kind:Int)(node:Int)(c:cy):LT Bool Uh:=.need (A.k Eu x1) (.more (.c0 ⟨(A.k AJ x1),(A.l (A.k AJ x1)),((),x1,()),kind,node,c,((),x1,()),((),x1,()),((),x1,()),((),x1,()),x1,c.1,c.2.1,c.1,c.2.1,c,(A.k AJ x1),kind,node⟩ 0))
def GV(A:aI):Uh→LT Bool Uh
 | .c0 p a2=>.br (A.c .lss a2 p.a1) (.need (A.and (A.c .leq 0 a2) (A.c .lss a2 (A.l p.a0))) (.br (A.c .eql (A.n aQ p.a0 a2:aM).2.2.2.1 p.jv) (.br (A.c .eql (A.n aQ p.a0 a2:aM).2.2.2.2.1 p.lJ) (.br (A.c .eql (A.n aQ p.a0 a2:aM).1 p.mh) (.br (A.c .eql (A.n aQ p.a0 a2:aM).2.1 p.a20) (.ret true) (.more (.c0 p (A.b .add .i64 a2 1)))) (.more (.c0 p (A.b .add .i64 a2 1)))) (.need (A.k (@tt Int) (A.n aQ p.a0 a2:aM).1) (.br (A.not (A.k oE (A.n aQ p.a0 a2:aM).1)) (.br (A.c .eql (A.n aQ p.a0 a2:aM).1 p.mh) (.br (A.c .eql (A.n aQ p.a0 a2:aM).2.1 p.a20) (.ret true) (.more (.c0 p (A.b .add .i64 a2 1)))) (.more (.c0 p (A.b .add .i64 a2 1)))) (.more (.c0 p (A.b .add .i64 a2 1)))))) (.more (.c0 p (A.b .add .i64 a2 1))))) (.ret false)
def vd(k n:Int)(c:cy)(f:aM):Bool:=decide (f.2.2.2.1=c.1)&&((decide (f.2.2.2.2.1=c.2.1) || !oE f.1)&&(decide (f.1=k)&&decide (f.2.1=n)))
def fN(l:List aM)(k n:Int)(c:cy):Bool:=l.any (vd k n c)
def uM(ch:Int)(c:cy)(f:aM):Bool:=decide (f.2.2.2.1=c.1)&&((decide (f.2.2.2.2.1=c.2.1) || !oE f.1)&&(decide (f.1=5)&&decide (f.2.2.1=ch)))
def Db(l:List aM)(ch:Int)(c:cy):Bool:=l.any (uM ch c)
theorem vz{R Y:Type}{step:Y→LT R Y}{y:Y}{r r':R}(h:au step (.more y) r)(e:r=r'):au step (.more y) r':=e▸h
theorem Mk{p:MV}{l:List aM}{k n:Int}{c:cy}(h0:p.a0=l)(h1:p.a1=(l.length:Int))(h2:p.jv=c.1)(h3:p.lJ=c.2.1)(h4:p.mh=k)(h5:p.a20=n)(hl:l.length≤140737488355328) :
  ∀(j i:Nat),l.length-i=j→i≤l.length→au (GV ah) (.more (.c0 p (i:Int))) ((l.drop i).any (vd k n c)):=by
 intro j
 induction j with
 | zero=>
   intro i hj hi
   have:i=l.length:=by omega
   subst this
   rw[ak,GV,h1,List.drop_length]
   exact(ai (by rw[ar];simp)).2 (.ret _)
 | succ j ih=>
   intro i hj hi
   have hi':i<l.length:=by omega
   have nx:=ih (i+1) (by omega) (by omega)
   rw[ak,GV,h0,h1,h2,h3,h4,h5]
   refine(aj (by rw[ar];exact aK (by omega))).2 (af.2 ⟨aO hi',?_⟩)
   rw[show(ah.n aQ l (i:Int):aM)=l[i] from getD_in hi' _,pV hi',List.any_cons,bU (i:=i) (by omega)]
   generalize l[i]=f
   generalize (l.drop (i+1)).any (vd k n c)=r at nx ⊢
   have hx:vd k n c f=false→au (GV ah) (.more (.c0 p ((i+1:Nat):Int))) (vd k n c f||r):=fun h=>vz nx (by rw[h,Bool.false_or])
   have hy:vd k n c f=true→au (GV ah) (.ret true) (vd k n c f||r):=fun h=>by rw[h,Bool.true_or];exact .ret _
   refine aB (p:=f.2.2.2.1=c.1) aN (fun g1=>?_) fun h=>hx (by rw[vd,aX h];rfl)
   have tail:(decide (f.2.2.2.2.1=c.2.1) || !oE f.1)=true→au (GV ah) (.br (ah.c .eql f.1 k) (.br (ah.c .eql f.2.1 n) (.ret true) (.more (.c0 p ((i+1:Nat):Int)))) (.more (.c0 p ((i+1:Nat):Int)))) (vd k n c f||r):=fun h=>by
    refine aB (p:=f.1=k) aN (fun g2=>aB (p:=f.2.1=n) aN (fun g3=>hy (by rw[vd,aK g1,aK g2,aK g3,h];rfl)) fun h'=>hx (by rw[vd,aX h'];simp)) fun h'=>hx (by rw[vd,aX h'];simp)
   refine aB (p:=f.2.2.2.2.1=c.2.1) aN (fun g2=>tail (by rw[aK g2];rfl)) fun g2=>af.2 ⟨rfl,?_⟩
   cases hs:oE f.1
   ·exact(aj (by show(!oE f.1)=true;rw[hs];rfl)).2 (tail (by rw[hs];simp))
   ·exact(ai (by show(!oE f.1)=false;rw[hs];rfl)).2 (hx (by rw[vd,aX g2,hs];simp))
theorem KC{l:List aM}(h:l.length≤1000000):Eu l=true:=aK (by omega)
theorem ahs{l:List aM}{k n:Int}{c:cy}(h:l.length≤1000000):au (GV ah) (Yd ah l k n c) (fN l k n c):=by
 unfold Yd
 exact af.2 ⟨KC h,Mk (l:=l) rfl rfl rfl rfl rfl rfl (by omega) l.length 0 rfl (by omega)⟩
def eG:(Unit×List aM×Unit)×(Int×Int×cy)→Bool:=fun((_,l,_),k,n,c)=>fN l k n c
def kY:(Unit×List aM×Unit)×(Int×Int×cy)→Bool:=fun((_,l,_),_,_,_)=>decide (l.length≤1000000)
def adF:gy:=⟨(.struct [(.any 16),(.slice aQ),(.any 4)]), [yI,yI,kK], [.bool],kY,eG⟩
theorem JF:gy.Sound Tryz.prog 187 adF:=uO ap bR true 56 pz [⟨292,1, [[0,2,3,7,8,9], [8]]⟩] [] (fun A (((),x1,()),(kind,node,c))=>Yd A x1 kind node c) GV XN (fc Tryz.func187 (fc Tryz.func246 (fc Tryz.func292 fz))) (sc WE (sc Wa sz)) (fun A y=>match y with |.c0 p a2=>⟨77,by kernel_rfl,by kernel_rfl⟩) fun(((),x1,()),(kind,node,c)) hp hv h=>ahs (of_decide_eq_true hp)
structure M6 where
 (a0:List aM) (a1:Int) (a3:Unit×List aM×Unit) (a4:Int) (a5:cy) (a6 a7 a8 a9:Unit×List aM×Unit) (cB:List aM) (da a12 kE jv:Int) (a16:cy) (a17:List aM) (lK:Int)
inductive TG where
 | c0 (p:M6) (a2:Int)
noncomputable def aaa:TG→eD
 | .c0 p a2=>⟨[⟨292,36,(en [(0,.yield 0),(2,.ptr 1 0),(3,.ptr 2 0),(7,.sl aQ p.a0),(8,vi p.a1),(9,vi a2)]),[.inLoop (cw Tryz.f292 [1,0,0]),.inBlock 0],[],none⟩,⟨192,28,(en [(6,.ptr 3 0)]),[.kw 0,.inBlock 0,.code (cw Tryz.f192 [1,1])],[4],none⟩],[.loop ⟨192,28,(en [(0,.jA (.struct [(.any 16),(.slice aQ),(.any 4)]) p.a3 0),(1,vi p.a4),(2,.agg (dc kK p.a5)),(4,.ptr 7 0),(5,.ptr 5 0),(6,.ptr 3 0),(8,.jA (.struct [(.any 16),(.slice aQ),(.any 4)]) p.a6 0),(9,.jA (.struct [(.any 16),(.slice aQ),(.any 4)]) p.a7 0),(10,.jA (.struct [(.any 16),(.slice aQ),(.any 4)]) p.a8 9),(11,.jA (.struct [(.any 16),(.slice aQ),(.any 4)]) p.a9 16),(12,.sl aQ p.cB),(13,.ptr 5 0),(14,vi p.da),(15,.ptr 5 1),(16,vi p.a12),(17,.fn 292 [] [.ptr 6 0,.ptr 1 0,.ptr 2 0])]),[18],(cw Tryz.f192 [1,0,1,0,0]),(cw Tryz.f192 [1,0,1,0,1]),0,none⟩,.flat false [vi p.kE],.flat false [vi p.jv],.flat false [vb false],.BZ,.flat false (dc kK p.a16),.flat false [.sl aQ p.a17],.flat false [vi p.lK],.dead]⟩
def abl(A:aI)(x1:List aM)(channel:Int)(c:cy):LT Bool TG:=.need (A.k Eu x1) (.more (.c0 ⟨(A.k AJ x1),(A.l (A.k AJ x1)),((),x1,()),channel,c,((),x1,()),((),x1,()),((),x1,()),((),x1,()),x1,c.1,c.2.1,c.1,c.2.1,c,(A.k AJ x1),channel⟩ 0))
def Gg(A:aI):TG→LT Bool TG
 | .c0 p a2=>.br (A.c .lss a2 p.a1) (.need (A.and (A.c .leq 0 a2) (A.c .lss a2 (A.l p.a0))) (.br (A.c .eql (A.n aQ p.a0 a2:aM).2.2.2.1 p.kE) (.br (A.c .eql (A.n aQ p.a0 a2:aM).2.2.2.2.1 p.jv) (.br (A.c .eql (A.n aQ p.a0 a2:aM).1 5) (.br (A.c .eql (A.n aQ p.a0 a2:aM).2.2.1 p.lK) (.ret true) (.more (.c0 p (A.b .add .i64 a2 1)))) (.more (.c0 p (A.b .add .i64 a2 1)))) (.need (A.k (@tt Int) (A.n aQ p.a0 a2:aM).1) (.br (A.not (A.k oE (A.n aQ p.a0 a2:aM).1)) (.br (A.c .eql (A.n aQ p.a0 a2:aM).1 5) (.br (A.c .eql (A.n aQ p.a0 a2:aM).2.2.1 p.lK) (.ret true) (.more (.c0 p (A.b .add .i64 a2 1)))) (.more (.c0 p (A.b .add .i64 a2 1)))) (.more (.c0 p (A.b .add .i64 a2 1)))))) (.more (.c0 p (A.b .add .i64 a2 1))))) (.ret false)
theorem L1{p:M6}{l:List aM}{ch:Int}{c:cy}(h0:p.a0=l)(h1:p.a1=(l.length:Int))(h2:p.kE=c.1)(h3:p.jv=c.2.1)(h4:p.lK=ch)(hl:l.length≤140737488355328) :
  ∀(j i:Nat),l.length-i=j→i≤l.length→au (Gg ah) (.more (.c0 p (i:Int))) ((l.drop i).any (uM ch c)):=by
 intro j
 induction j with
 | zero=>
   intro i hj hi
   have:i=l.length:=by omega
   subst this
   rw[ak,Gg,h1,List.drop_length]
   exact(ai (by rw[ar];simp)).2 (.ret _)
 | succ j ih=>
   intro i hj hi
   have hi':i<l.length:=by omega
   have nx:=ih (i+1) (by omega) (by omega)
   rw[ak,Gg,h0,h1,h2,h3,h4]
   refine(aj (by rw[ar];exact aK (by omega))).2 (af.2 ⟨aO hi',?_⟩)
   rw[show(ah.n aQ l (i:Int):aM)=l[i] from getD_in hi' _,pV hi',List.any_cons,bU (i:=i) (by omega)]
   generalize l[i]=f
   generalize (l.drop (i+1)).any (uM ch c)=r at nx ⊢
   have hx:uM ch c f=false→au (Gg ah) (.more (.c0 p ((i+1:Nat):Int))) (uM ch c f||r):=fun h=>vz nx (by rw[h,Bool.false_or])
   have hy:uM ch c f=true→au (Gg ah) (.ret true) (uM ch c f||r):=fun h=>by rw[h,Bool.true_or];exact .ret _
   refine aB (p:=f.2.2.2.1=c.1) aN (fun g1=>?_) fun h=>hx (by rw[uM,aX h];rfl)
   have tail:(decide (f.2.2.2.2.1=c.2.1) || !oE f.1)=true→au (Gg ah) (.br (ah.c .eql f.1 5) (.br (ah.c .eql f.2.2.1 ch) (.ret true) (.more (.c0 p ((i+1:Nat):Int)))) (.more (.c0 p ((i+1:Nat):Int)))) (uM ch c f||r):=fun h=>by
    refine aB (p:=f.1=5) aN (fun g2=>aB (p:=f.2.2.1=ch) aN (fun g3=>hy (by rw[uM,aK g1,aK g2,aK g3,h];rfl)) fun h'=>hx (by rw[uM,aX h'];simp)) fun h'=>hx (by rw[uM,aX h'];simp)
   refine aB (p:=f.2.2.2.2.1=c.2.1) aN (fun g2=>tail (by rw[aK g2];rfl)) fun g2=>af.2 ⟨rfl,?_⟩
   cases hs:oE f.1
   ·exact(aj (by show(!oE f.1)=true;rw[hs];rfl)).2 (tail (by rw[hs];simp))
   ·exact(ai (by show(!oE f.1)=false;rw[hs];rfl)).2 (hx (by rw[uM,aX g2,hs];simp))
theorem aer{l:List aM}{ch:Int}{c:cy}(h:l.length≤1000000):au (Gg ah) (abl ah l ch c) (Db l ch c):=by
 unfold abl
 exact af.2 ⟨KC h,L1 (l:=l) rfl rfl rfl rfl rfl (by omega) l.length 0 rfl (by omega)⟩
def Cw:(Unit×List aM×Unit)×(Int×cy)→Bool:=fun((_,l,_),k,c)=>Db l k c
def wK:(Unit×List aM×Unit)×(Int×cy)→Bool:=fun((_,l,_),_,_)=>decide (l.length≤1000000)
def ags:gy:=⟨(.struct [(.any 16),(.slice aQ),(.any 4)]), [yI,kK], [.bool],wK,Cw⟩
theorem agN:gy.Sound Tryz.prog 192 ags:=uO ap bR true 55 pz [⟨292,1, [[0,2,3,7,8,9], [6]]⟩] [] (fun A (((),x1,()),(channel,c))=>abl A x1 channel c) Gg aaa (fc Tryz.func192 (fc Tryz.func246 (fc Tryz.func292 fz))) (sc WE (sc Wa sz)) (fun A y=>match y with |.c0 p a2=>⟨76,by kernel_rfl,by kernel_rfl⟩) fun(((),x1,()),(channel,c)) hp hv h=>aer (of_decide_eq_true hp)
structure abJ where
 (a2 a3:aM) (a4:Int) (a5:Bool) (a6 a7:Int) (a8:List Int) (a9 cB:Int)
structure Pq where
 (b0:Int) (b2 b3:aM) (b4:Int) (b5:Bool) (b6 b7:Int) (b8:List Int) (b9 b10:Int)
inductive V0 where
 | c0 (p:abJ)
 | c1 (p:Pq) (b1:Int) (j6:List dq)
noncomputable def X3:V0→eD
 | .c0 p=>⟨[⟨68,39,(en [(1,.ptr 0 0),(2,.ptr 1 0),(19,vi 0),(20,vi 0)]),[.inLoop (cw Tryz.f68 [1,1,1,0,1,0,0]),.inBlock 0,.code (cw Tryz.f68 [1,1,1,1])],[],none⟩],[.flat false (dc aQ p.a2++dc aQ p.a3 ++ [vi p.a4,vb p.a5,vi p.a6,vi p.a7,.sl yU p.a8,.dp false,vi p.a9,vi p.cB]),.flat false [vi 0,vi 0,vi 0,vi 0,vi 0,vi 0,vi 0,vi 0,vi 0,vi 0,vi 0,vi 0,vi 0,vi 0,vi 0,vb false,vi 0,vi 0,.dp true,.dp true,vi 0,vi 0],.dead]⟩
 | .c1 p b1 j6=>⟨[⟨68,39,(en [(1,.ptr 0 0),(2,.ptr 1 0),(19,vi p.b0),(20,vi b1)]),[.inLoop (cw Tryz.f68 [1,1,1,0,1,0,0]),.inBlock 0,.code (cw Tryz.f68 [1,1,1,1])],[],none⟩],[.flat false (dc aQ p.b2++dc aQ p.b3 ++ [vi p.b4,vb p.b5,vi p.b6,vi p.b7,.sl yU p.b8,.own 2,vi p.b9,vi p.b10]),.flat false [vi 0,vi 0,vi 0,vi 0,vi 0,vi 0,vi 0,vi 0,vi 0,vi 0,vi 0,vi 0,vi 0,vi 0,vi 0,vb false,vi 0,vi 0,.dp true,.dp true,vi 0,vi 0],.arr false ei j6,.dead]⟩
def aaD(A:aI)(n:Node):LT Node V0:=.need (A.k (@tt (List Int)) n.2.2.2.2.2.2.2.2.1) (.need (A.c .neq (A.l n.2.2.2.2.2.2.2.2.2.1) 0) (.br (A.c .eql (A.l n.2.2.2.2.2.2.2.2.2.1) 0) (.more (.c0 ⟨(n.1,n.2.1,n.2.2.1),n.2.2.2.1,n.2.2.2.2.1,n.2.2.2.2.2.1,n.2.2.2.2.2.2.1,n.2.2.2.2.2.2.2.1,(A.k jG n.2.2.2.2.2.2.2.2.1),n.2.2.2.2.2.2.2.2.2.2.1,n.2.2.2.2.2.2.2.2.2.2.2⟩)) (.need (A.c .leq (A.l n.2.2.2.2.2.2.2.2.2.1) 4398046511104) (.more (.c1 ⟨(A.l n.2.2.2.2.2.2.2.2.2.1),(n.1,n.2.1,n.2.2.1),n.2.2.2.1,n.2.2.2.2.1,n.2.2.2.2.2.1,n.2.2.2.2.2.2.1,n.2.2.2.2.2.2.2.1,(A.k jG n.2.2.2.2.2.2.2.2.1),n.2.2.2.2.2.2.2.2.2.2.1,n.2.2.2.2.2.2.2.2.2.2.2⟩ 0 n.2.2.2.2.2.2.2.2.2.1)))))
def Nb(A:aI):V0→LT Node V0
 | .c0 p=>.br (A.c .lss 0 0) (.bad 37 "model.go:63") (.ret (p.a2.1,p.a2.2.1,p.a2.2.2,p.a3,p.a4,p.a5,p.a6,p.a7,p.a8,([]:List dq),p.a9,p.cB))
 | .c1 p b1 j6=>.br (A.c .lss b1 p.b0) (.need (A.and (A.c .leq 0 b1) (A.c .lss b1 (A.l j6))) (.need (A.k (@tt (List Int)) (A.n ei j6 b1:dq).1) (.need (A.and (A.c .leq 0 b1) (A.c .lss b1 (A.l j6))) (.more (.c1 p (A.b .add .i64 b1 1) (A.set j6 b1 ((A.k jG (A.n ei j6 b1:dq).1),(A.n ei j6 b1:dq).2))))))) (.ret (p.b2.1,p.b2.2.1,p.b2.2.2,p.b3,p.b4,p.b5,p.b6,p.b7,p.b8,j6,p.b9,p.b10))
def Ja(n:Node):Bool:=decide (1≤n.2.2.2.2.2.2.2.2.2.1.length∧n.2.2.2.2.2.2.2.2.2.1.length≤4398046511103)
theorem Pw{p:Pq}{l:List dq}(h0:p.b0=(l.length:Int))(hl:l.length≤140737488355328):∀(j i:Nat),l.length-i=j→i≤l.length→au (Nb ah) (.more (.c1 p (i:Int) l)) (p.b2.1,p.b2.2.1,p.b2.2.2,p.b3,p.b4,p.b5,p.b6,p.b7,p.b8,l,p.b9,p.b10):=by
 intro j
 induction j with
 | zero=>
   intro i hj hi
   have:i=l.length:=by omega
   subst this
   rw[ak,Nb,h0]
   exact(ai (by rw[ar];simp)).2 (.ret _)
 | succ j ih=>
   intro i hj hi
   have hi':i<l.length:=by omega
   rw[ak,Nb,h0]
   refine(aj (by rw[ar];exact aK (by omega))).2 (af.2 ⟨aO hi',af.2 ⟨rfl,af.2 ⟨aO hi',?_⟩⟩⟩)
   have e:(ah.n ei l (i:Int):dq)=l[i]:=getD_in hi' _
   have e2:ah.set l (i:Int) ((ah.k jG (ah.n ei l (i:Int):dq).1),(ah.n ei l (i:Int):dq).2)=l:=by
    rw[e]
    show l.set (i:Int).toNat l[i]=l
    rw[gS];exact List.set_getElem_self _
   rw[e2,bU (i:=i) (by omega)]
   exact ih (i+1) (by omega) (by omega)
theorem ahV{n:Node}(h:Ja n=true):au (Nb ah) (aaD ah n) n:=by
 obtain⟨h1,h2⟩:=of_decide_eq_true h
 unfold aaD
 refine af.2 ⟨rfl,af.2 ⟨by rw[aT,bF];exact bne_iff_ne.2 (by omega),(ai (by rw[aD,bF];exact beq_eq_false_iff_ne.2 (by omega))).2 (af.2 ⟨by rw[ao,bF];exact aK (by omega),?_⟩)⟩⟩
 exact Pw rfl (by omega) _ 0 rfl (by omega)
def Bd:Node→Node:=fun n=>n
def DU:Node→Bool:=Ja
def adm:ax:=⟨[aF], [aF],DU,Bd⟩
theorem Xc:Sd 68 adm:=aP ap bR true 62 [⟨68,4, [[1,2,19,20]]⟩] [] (fun A n=>aaD A n) Nb X3 (fc Tryz.func68 (fc Tryz.func140 fz)) (sc Cz sz) (fun A y=>match y with |.c0 p=>⟨29,by kernel_rfl,by kernel_rfl⟩|.c1 p b1 j6=>⟨42,by kernel_rfl,by kernel_rfl⟩) fun(n:Node) hp h=>ahV hp
structure MR where
 (a0:List bl) (a1 a3:Int) (a4:Bool) (a5:al) (a6:fj) (a7 a8 a9 cB:Int) (da:List Int) (a12 kE jv:Int) (lJ:List Int) (a16 a17 lK:Int) (mh a20:Node) (a21 a22:Bool) (a23:Int) (a24:cy) (a25:Bool) (a26:fj) (a27 a28 a29 a30 a31 a32:Int) (a34:List Node) (a35:List Bool) (a36:List gn) (a37:List Node) (a38 a39 a40:List Bool) (a41:List bl)
inductive Uw where
 | c0 (p:MR) (a2:Int) (a33:Node)
noncomputable def aa5:Uw→eD
 | .c0 p a2 a33=>⟨[⟨248,37,(en [(0,.yield 2),(2,.ptr 3 0),(3,.ptr 4 0),(4,.ptr 5 0),(8,.sl bA p.a0),(9,vi p.a1),(10,vi a2)]),[.inLoop (cw Tryz.f248 [1,0,0]),.inBlock 0],[],none⟩,⟨115,90,(en [(2,vi p.a3),(3,.ptr 6 0),(6,.ptr 7 0)]),[.kw 2,.inBlock 0,.code (cw Tryz.f115 [1,1,1,1,1])],[8],none⟩],[.flat false ([vb p.a4]++dc aR p.a5++dc gW p.a6 ++ [.own 9,.own 10,vi p.a7,.own 11]),.flat false [.own 12,.own 13,.own 14,.own 15,vi p.a8,vi p.a9,vi p.cB,.sl yU p.da,vi p.a12,vi p.kE,vi p.jv,.sl yU p.lJ],.loop ⟨115,90,(en [(0,.ptr 0 0),(1,.ptr 1 0),(2,vi p.a16),(3,.ptr 6 0),(6,.ptr 7 0),(12,.ptr 0 0),(13,.ptr 0 0),(14,.ptr 0 17),(15,.own 9),(16,vi p.a17),(17,.nF 9 p.lK 0),(18,.agg (dc aF p.mh)),(19,.agg (dc aF p.a20)),(20,vb p.a21),(21,vb p.a22),(22,.ptr 0 0),(23,vi p.a23),(24,.ptr 7 2),(25,.agg (dc kK p.a24)),(26,vb p.a25),(57,.ptr 0 0),(58,.ptr 0 0),(59,.ptr 0 9),(60,.agg (dc gW p.a26)),(61,vi p.a27),(62,.ptr 7 2),(63,.ptr 7 2),(64,vi p.a28),(65,.ptr 7 2),(66,.ptr 7 3),(67,vi p.a29),(68,.fn 248 [] [.ptr 16 0,.ptr 3 0,.ptr 4 0,.ptr 5 0])]),[69],(cw Tryz.f115 [1,1,1,1,0,1,0,0]),(cw Tryz.f115 [1,1,1,1,0,1,0,1]),0,none⟩,.flat false [vi p.a30],.flat false [vi p.a31],.flat false [vi p.a32],.flat false [.ptr 0 0],.flat false (dc aF a33),.BZ,.arr false aF p.a34,.arr false .bool p.a35,.arr false dN p.a36,.arr false aF p.a37,.arr false .bool p.a38,.arr false .bool p.a39,.arr false .bool p.a40,.flat false [.sl bA p.a41],.dead]⟩
abbrev jS(A:aI)(x2:bf)(i:Int):=(A.n aF x2.2.2.2.1 i:Node)
abbrev JX(A:aI)(w:cH):=([(A.n aG w.2.2.2.2 0:Seen),(A.n aG w.2.2.2.2 1:Seen)]:List Seen)
def YZ(A:aI)(x2:bf)(w:cH)(i:Int):LT ((bf×cH)×Unit) Uw:=.need (A.and (A.c .leq 0 i) (A.c .lss i (A.l x2.2.2.2.1))) (.need (A.k (@tt Node) (jS A x2 i)) (.br (A.not (A.k fB (jS A x2 i))) (.ret ((x2,w.1,w.2.1,w.2.2.1,w.2.2.2.1,(JX A w)),())) (.need (A.k kY (((),x2.2.2.1.2.2.2.2.2.2.2,()),1,i,(jS A x2 i).2.2.1)) (.br (A.k eG (((),x2.2.2.1.2.2.2.2.2.2.2,()),1,i,(jS A x2 i).2.2.1)) (.need (A.k (@tt (al×Node×Bool)) (x2.2.1,(jS A x2 i),false)) (.need (A.k (@tt (al×Node×Bool)) (x2.2.1,(jS A x2 i),false)) (.br (A.c .eql (A.k mZ (x2.2.1,(jS A x2 i),false)).2 0) (.need (A.and (A.c .leq 0 i) (A.c .lss i (A.l x2.2.2.2.1))) (.need (A.and (A.c .leq 0 i) (A.c .lss i (A.l w.2.2.1))) (.need (A.and (A.c .leq 0 i) (A.c .lss i (A.l x2.2.2.2.2.1))) (.ret (((x2.1,x2.2.1,x2.2.2.1,(A.set x2.2.2.2.1 i (A.k mZ (x2.2.1,(jS A x2 i),false)).1),(A.set x2.2.2.2.2.1 i false),x2.2.2.2.2.2),w.1,w.2.1,(A.set w.2.2.1 i true),w.2.2.2.1,(JX A w)),()))))) (.need (A.and (A.c .leq 0 i) (A.c .lss i (A.l w.2.2.1))) (.need (A.and (A.c .leq 0 i) (A.c .lss i (A.l x2.2.2.2.2.1))) (.ret (((x2.1,x2.2.1,x2.2.2.1,x2.2.2.2.1,(A.set x2.2.2.2.2.1 i false),x2.2.2.2.2.2),w.1,w.2.1,(A.set w.2.2.1 i true),w.2.2.2.1,(JX A w)),()))))))) (.need (A.k HY x2.2.2.1.2.2.2.2.2.2.1) (.more (.c0 ⟨(A.k KI x2.2.2.1.2.2.2.2.2.2.1),(A.l (A.k KI x2.2.2.1.2.2.2.2.2.2.1)),i,x2.1,x2.2.1,x2.2.2.1,x2.2.2.2.2.2.1,(A.n aG w.2.2.2.2 0:Seen).1,(A.n aG w.2.2.2.2 0:Seen).2.1,(A.n aG w.2.2.2.2 0:Seen).2.2.1,(A.n aG w.2.2.2.2 0:Seen).2.2.2,(A.n aG w.2.2.2.2 1:Seen).1,(A.n aG w.2.2.2.2 1:Seen).2.1,(A.n aG w.2.2.2.2 1:Seen).2.2.1,(A.n aG w.2.2.2.2 1:Seen).2.2.2,i,i,i,(jS A x2 i),(jS A x2 i),(A.k fB (jS A x2 i)),(A.not (A.k fB (jS A x2 i))),i,(jS A x2 i).2.2.1,(A.k eG (((),x2.2.2.1.2.2.2.2.2.2.2,()),1,i,(jS A x2 i).2.2.1)),x2.2.2.1,i,(jS A x2 i).2.2.1.1,(jS A x2 i).2.2.1.2.1,i,(jS A x2 i).2.2.1.1,(jS A x2 i).2.2.1.2.1,x2.2.2.2.1,x2.2.2.2.2.1,x2.2.2.2.2.2.2,w.1,w.2.1,w.2.2.1,w.2.2.2.1,(A.k KI x2.2.2.1.2.2.2.2.2.2.1)⟩ 0 (jS A x2 i))))))))
def NC(A:aI):Uw→LT ((bf×cH)×Unit) Uw
 | .c0 p a2 a33=>.br (A.c .lss a2 p.a1) (.need (A.and (A.c .leq 0 a2) (A.c .lss a2 (A.l p.a0))) (.br (A.c .eql (A.n bA p.a0 a2:bl).1 p.a30) (.br (A.c .eql (A.n bA p.a0 a2:bl).2.1 p.a31) (.br (A.c .eql (A.n bA p.a0 a2:bl).2.2.1 p.a32) (.need (A.k (@tt (al×Node×bl)) (p.a5,a33,(A.n bA p.a0 a2:bl))) (.need (A.k (@tt (al×Node×bl)) (p.a5,a33,(A.n bA p.a0 a2:bl))) (.br (A.c .eql (A.k J2 (p.a5,a33,(A.n bA p.a0 a2:bl))).2 0) (.more (.c0 p (A.b .add .i64 a2 1) (A.k J2 (p.a5,a33,(A.n bA p.a0 a2:bl))).1)) (.more (.c0 p (A.b .add .i64 a2 1) a33))))) (.more (.c0 p (A.b .add .i64 a2 1) a33))) (.more (.c0 p (A.b .add .i64 a2 1) a33))) (.more (.c0 p (A.b .add .i64 a2 1) a33)))) (.need (A.and (A.c .leq 0 p.a3) (A.c .lss p.a3 (A.l p.a34))) (.ret (((p.a4,p.a5,p.a6,(A.set p.a34 p.a3 a33),p.a35,p.a7,p.a36),p.a37,p.a38,p.a39,p.a40,([(p.a8,p.a9,p.cB,p.da),(p.a12,p.kE,p.jv,p.lJ)]:List Seen)),())))
def nN(w:cH):cH:=(w.1,w.2.1,w.2.2.1,w.2.2.2.1, [(ah.n aG w.2.2.2.2 0:Seen),(ah.n aG w.2.2.2.2 1:Seen)])
@[reducible] def iQ (l:List Node) (i:Int):Node:=ah.n aF l i
def GH(x:bf)(w:cH):Prop:=x.2.2.2.2.1.length=x.2.2.2.1.length∧w.1.length=x.2.2.2.1.length∧w.2.1.length=x.2.2.2.1.length∧w.2.2.1.length=x.2.2.2.1.length∧w.2.2.2.1.length=x.2.2.2.1.length∧
 x.2.2.1.2.2.2.2.2.2.2.length≤1000000∧x.2.2.1.2.2.2.2.2.2.1.length≤1000000∧x.2.2.2.2.2.2.length≤1000000∧x.2.2.2.1.length≤1000
instance (x:bf) (w:cH):Decidable (GH x w):=by unfold GH;infer_instance
def s5(m:al)(i:Int)(c:cy):List bl→Node→Node
 | [],n=>n
 | o::l,n=>s5 m i c l (bif decide (o.1=i)&&(decide (o.2.1=c.1)&&decide (o.2.2.1=c.2.1)) then(bif decide ((tO m n o).2=0) then(tO m n o).1 else n) else n)
def yC(x:bf)(i:Int):Node:=iQ x.2.2.2.1 i
def pj(x:bf):List aM:=x.2.2.1.2.2.2.2.2.2.2
def kV(x:bf)(w:cH)(i:Int):bf×cH:=
 bif jZ (yC x i) then
  bif fN (pj x) 1 i (yC x i).2.2.1 then
   ((x.1,x.2.1,x.2.2.1,(bif decide ((mF x.2.1 (yC x i) false).2=0) then ah.set x.2.2.2.1 i (mF x.2.1 (yC x i) false).1 else x.2.2.2.1),ah.set x.2.2.2.2.1 i false,x.2.2.2.2.2),(w.1,w.2.1,ah.set w.2.2.1 i true,(nN w).2.2.2))
  else((x.1,x.2.1,x.2.2.1,ah.set x.2.2.2.1 i (s5 x.2.1 i (yC x i).2.2.1 x.2.2.1.2.2.2.2.2.2.1 (yC x i)),x.2.2.2.2),nN w)
 else(x,nN w)
theorem OD{p:MR}{l:List bl}{m:al}{i:Int}{c:cy}(h0:p.a0=l)(h1:p.a1=(l.length:Int))(hm:p.a5=m)(h2:p.a30=i)(h3:p.a31=c.1)(h4:p.a32=c.2.1)(hx:ah.and (ah.c .leq 0 p.a3) (ah.c .lss p.a3 (ah.l p.a34))=true)(hl:l.length≤140737488355328) :
  ∀(j k:Nat) (n:Node),l.length-k=j→k≤l.length→au (NC ah) (.more (.c0 p (k:Int) n)) (((p.a4,p.a5,p.a6,ah.set p.a34 p.a3 (s5 m i c (l.drop k) n),p.a35,p.a7,p.a36),p.a37,p.a38,p.a39,p.a40, [(p.a8,p.a9,p.cB,p.da),(p.a12,p.kE,p.jv,p.lJ)]),()):=by
 subst hm
 intro j
 induction j with
 | zero=>
   intro k n hj hk
   have:k=l.length:=by omega
   subst this
   rw[ak,NC,h1,List.drop_length]
   exact(ai (by rw[ar];simp)).2 (af.2 ⟨hx,.ret _⟩)
 | succ j ih=>
   intro k n hj hk
   have hk':k<l.length:=by omega
   rw[ak,NC,h0,h1,h2,h3,h4]
   refine(aj (by rw[ar];exact aK (by omega))).2 (af.2 ⟨aO hk',?_⟩)
   rw[show(ah.n bA l (k:Int):bl)=l[k] from getD_in hk' _,pV hk',s5,bU (i:=k) (by omega)]
   generalize l[k]=o
   refine aB (p:=o.1=i) aN (fun g1=>?_) fun g=>by rw[aX g,Bool.false_and];exact ih (k+1) n (by omega) (by omega)
   refine aB (p:=o.2.1=c.1) aN (fun g2=>?_) fun g=>by rw[aX g,aK g1,Bool.false_and,Bool.and_false];exact ih (k+1) n (by omega) (by omega)
   refine aB (p:=o.2.2.1=c.2.1) aN (fun g3=>?_) fun g=>by rw[aX g,aK g1,aK g2,Bool.and_false,Bool.and_false];exact ih (k+1) n (by omega) (by omega)
   rw[aK g1,aK g2,aK g3]
   refine af.2 ⟨rfl,af.2 ⟨rfl,?_⟩⟩
   rw[show ah.k J2 (p.a5,n,o)=tO p.a5 n o from rfl]
   exact aB (p:=(tO p.a5 n o).2=0) aN (fun g=>by rw[aK g];exact ih (k+1) (tO p.a5 n o).1 (by omega) (by omega)) fun g=>by rw[aX g];exact ih (k+1) n (by omega) (by omega)
theorem dM{α:Type}{l:List α}{i:Int}(h:0≤i∧i<(l.length:Int)):ah.and (ah.c .leq 0 i) (ah.c .lss i (ah.l l))=true:=by
 rw[aJ,ao,ar,bF,aK h.1,aK h.2];rfl
theorem VG{l:List bl}(h:l.length≤1000000):ah.k HY l=true:=aK (by omega)
theorem vq{v:(Unit×List aM×Unit)×Int×Int×cy}(h:v.1.2.1.length≤1000000):ah.k kY v=true:=by
 obtain⟨⟨_,l,_⟩,_,_,_⟩:=v;exact aK h
theorem UC{v:(Unit×List aM×Unit)×Int×cy}(h:v.1.2.1.length≤1000000):ah.k wK v=true:=by
 obtain⟨⟨_,l,_⟩,_,_⟩:=v;exact aK h
theorem XQ{x:bf}{w:cH}{i:Int}(h:GH x w)(hi:0≤i∧i<(x.2.2.2.1.length:Int)):au (NC ah) (YZ ah x w i) (kV x w i,()):=by
 obtain⟨z1,z2,z3,z4,z5,z6,z7,z8,z9⟩:=h
 have i1:=dM (l:=x.2.2.2.1) hi
 have i2:=dM (l:=w.2.2.1) (i:=i) (by omega)
 have i3:=dM (l:=x.2.2.2.2.1) (i:=i) (by omega)
 unfold YZ JX jS kV
 refine af.2 ⟨i1,af.2 ⟨rfl,?_⟩⟩
 rw[show ah.k fB (ah.n aF x.2.2.2.1 i:Node)=jZ (yC x i) from rfl]
 cases jZ (yC x i)
 ·exact(aj rfl).2 (.ret _)
 refine(ai rfl).2 (af.2 ⟨vq z6,?_⟩)
 rw[show ah.k eG (((),x.2.2.1.2.2.2.2.2.2.2,()),1,i,(ah.n aF x.2.2.2.1 i:Node).2.2.1)=fN (pj x) 1 i (yC x i).2.2.1 from rfl]
 cases fN (pj x) 1 i (yC x i).2.2.1
 ·refine(ai rfl).2 (af.2 ⟨VG z7,?_⟩)
  exact OD (l:=x.2.2.1.2.2.2.2.2.2.1) (m:=x.2.1) (i:=i) (c:=(yC x i).2.2.1) rfl rfl rfl rfl rfl rfl i1 (by omega) _ 0 _ rfl (by omega)
 ·refine(aj rfl).2 (af.2 ⟨rfl,af.2 ⟨rfl,?_⟩⟩)
  rw[show ah.k mZ (x.2.1,(ah.n aF x.2.2.2.1 i:Node),false)=mF x.2.1 (yC x i) false from rfl]
  refine aB (p:=(mF x.2.1 (yC x i) false).2=0) aN (fun g=>af.2 ⟨i1,af.2 ⟨i2,af.2 ⟨i3,?_⟩⟩⟩) fun g=>af.2 ⟨i2,af.2 ⟨i3,?_⟩⟩
  ·rw[aK g];exact .ret _
  ·rw[aX g];exact .ret _
def CG:(bf×cH)×Int→(bf×cH)×Unit:=fun((x,w),i)=>(kV x w i,())
def EU:(bf×cH)×Int→Bool:=fun((x,w),i)=>decide (GH x w∧0≤i∧i<(x.2.2.2.1.length:Int))
def ahq:bL:=⟨[.ptr [.d .bool,.d aR,.d gW,.own aF,.own .bool,.d yI,.own dN],.ptr [.own aF,.own .bool,.own .bool,.own .bool,.d (.arr 2 aG)]], [yI], [],EU,CG,false⟩
theorem ahv:bL.Sound Tryz.prog 115 ahq:=bQ ap bR true 90 iz mz (pc JF pz) [⟨248,1, [[0,2,3,4,8,9,10], [2,3,6]]⟩] [] (fun A ((x2,w),i)=>YZ A x2 w i) NC aa5 (fc Tryz.func115 (fc Tryz.func188 (fc Tryz.func248 fz))) (sc sL (sc W6 (sc aee (sc agv sz)))) (fun A y=>match y with |.c0 p a2 a33=>⟨88,by kernel_rfl,by kernel_rfl⟩) fun(((x2,w),i):(bf×cH)×Int) hp hv h=>XQ (of_decide_eq_true hp).1 (of_decide_eq_true hp).2
abbrev y5(A:aI)(x2:bf)(i:Int):=(A.and (A.c .leq 0 i) (A.c .lss i (A.l x2.2.2.2.1)))
abbrev Bb(A:aI)(x2:bf)(i:Int):=(A.k Wo (x2.2.1,(A.n aF x2.2.2.2.1 i:Node)))
abbrev CU(A:aI)(x2:bf)(i:Int):=(A.k (@tt (al×Node)) (x2.2.1,(A.n aF x2.2.2.2.1 i:Node)))
def wo(A:aI)(x2:bf)(i:Int):LT (bf×(mr×Bool)) Empty:=.need (A.and (A.c .leq 0 i) (A.c .lss i (A.l x2.2.2.2.2.1))) (.br (A.n .bool x2.2.2.2.2.1 i:Bool) (.need (A.and (A.c .leq 0 i) (A.c .lss i (A.l x2.2.2.2.2.1))) (.ret ((x2.1,x2.2.1,x2.2.2.1,x2.2.2.2.1,(A.set x2.2.2.2.2.1 i false),x2.2.2.2.2.2),(1,0,(0,0,0,0,0),i,([]:List Int)),true))) (.need (y5 A x2 i) (.need (CU A x2 i) (.need (CU A x2 i) (.need (y5 A x2 i) (.need (CU A x2 i) (.need (y5 A x2 i) (.br (A.c .neq (Bb A x2 i).2.2.2 0) (.ret (x2,(0,0,(0,0,0,0,0),0,([]:List Int)),false)) (.need (y5 A x2 i) (.ret ((x2.1,x2.2.1,x2.2.2.1,(A.set x2.2.2.2.1 i (Bb A x2 i).1),x2.2.2.2.2),(Bb A x2 i).2.1,(Bb A x2 i).2.2.1)))))))))))
def bX:bf×Int→bf×(mr×Bool):=fun(x2,i)=>(wo ah x2 i).val (Ty.bi [oD],Ty.bi [yb,.bool])
def Hu:bf×Int→Bool:=fun(x2,i)=>(wo ah x2 i).pre
def aeZ:bL:=⟨[.ptr [.d .bool,.d aR,.d gW,.own aF,.own .bool,.d yI,.own dN]], [yI], [yb,.bool],Hu,bX,false⟩
theorem afY:bL.Sound Tryz.prog 190 aeZ:=bQ ap bR true 77 iz mz pz [] [] (fun A (x2,i)=>wo A x2 i) (fun _=>Empty.elim) Empty.elim (fc Tryz.func190 fz) (sc ad_ sz) (fun _ y=>y.elim) fun((x2,i):bf×Int) hp hv h=>LT.runs (LT.gg (by kernel_rfl)) hp
abbrev xq(A:aI)(x2:bf)(w:cH)(i:Int):LT ((bf×cH)×Unit) Empty:=(.br (A.c .neq (A.k Gi (A.k bX (x2,i)).2.1).2 0) (.ret (((A.k bX (x2,i)).1,w.1,w.2.1,w.2.2.1,w.2.2.2.1,([(1,0,0,([]:List Int)),(1,0,0,([]:List Int))]:List Seen)),())) (.br (A.c .neq (A.n aG w.2.2.2.2 1:Seen).1 0) (.ret (((A.k bX (x2,i)).1,w.1,w.2.1,w.2.2.1,w.2.2.2.1,([(1,0,0,([]:List Int)),(1,0,0,([]:List Int))]:List Seen)),())) (.need (A.k kY (((),(A.k bX (x2,i)).1.2.2.1.2.2.2.2.2.2.2,()),4,i,(A.n aF w.1 i:Node).2.2.1)) (.br (A.k eG (((),(A.k bX (x2,i)).1.2.2.1.2.2.2.2.2.2.2,()),4,i,(A.n aF w.1 i:Node).2.2.1)) (.ret (((A.k bX (x2,i)).1,w.1,w.2.1,w.2.2.1,w.2.2.2.1,([(1,0,0,([]:List Int)),(1,0,0,([]:List Int))]:List Seen)),())) (.need (A.k wK (((),(A.k bX (x2,i)).1.2.2.1.2.2.2.2.2.2.2,()),1,(A.n aF w.1 i:Node).2.2.1)) (.br (A.k Cw (((),(A.k bX (x2,i)).1.2.2.1.2.2.2.2.2.2.2,()),1,(A.n aF w.1 i:Node).2.2.1)) (.ret (((A.k bX (x2,i)).1,w.1,w.2.1,w.2.2.1,w.2.2.2.1,([(1,0,0,([]:List Int)),(1,0,0,([]:List Int))]:List Seen)),())) (.ret (((A.k bX (x2,i)).1,w.1,w.2.1,w.2.2.1,w.2.2.2.1,([(1,0,0,([]:List Int)),(2,0,(A.k Gi (A.k bX (x2,i)).2.1).1)]:List Seen)),()))))))))
abbrev w8(A:aI)(x2:bf)(w:cH)(i:Int):LT ((bf×cH)×Unit) Empty:=(.ret (((A.k bX (x2,i)).1,w.1,w.2.1,w.2.2.1,w.2.2.2.1,([(2,0,(A.k Gi (A.k bX (x2,i)).2.1).1),(1,0,0,([]:List Int))]:List Seen)),()))
abbrev Br(A:aI)(w:cH):=([(A.n aG w.2.2.2.2 0:Seen),(A.n aG w.2.2.2.2 1:Seen)]:List Seen)
abbrev y8(A:aI)(x2:bf)(w:cH):LT ((bf×cH)×Unit) Empty:=(.ret ((x2,w.1,w.2.1,w.2.2.1,w.2.2.2.1,(Br A w)),()))
def vt(A:aI)(x2:bf)(w:cH)(i:Int):LT ((bf×cH)×Unit) Empty:=.need (A.and (A.c .leq 0 i) (A.c .lss i (A.l w.1))) (.need (A.k (@tt Node) (A.n aF w.1 i:Node)) (.br (A.not (A.k fB (A.n aF w.1 i:Node))) (y8 A x2 w) (.need (A.and (A.c .leq 0 i) (A.c .lss i (A.l w.2.2.1))) (.br (A.n .bool w.2.2.1 i:Bool) (y8 A x2 w) (.br (A.c .neq (A.n aF w.1 i:Node).2.2.1.2.1 i) (y8 A x2 w) (.need (A.k Hu (x2,i)) (.br (A.not (A.k bX (x2,i)).2.2) (.ret (((A.k bX (x2,i)).1,w.1,w.2.1,w.2.2.1,w.2.2.2.1,(Br A w)),())) (.need (A.k kY (((),(A.k bX (x2,i)).1.2.2.1.2.2.2.2.2.2.2,()),3,i,(A.n aF w.1 i:Node).2.2.1)) (.br (A.k eG (((),(A.k bX (x2,i)).1.2.2.1.2.2.2.2.2.2.2,()),3,i,(A.n aF w.1 i:Node).2.2.1)) (.ret (((A.k bX (x2,i)).1,w.1,w.2.1,w.2.2.1,w.2.2.2.1,(Br A w)),())) (.need (A.k (@tt ((Int×Int×(Int×Int×Int×Int×Int)×Int×List Int))) (A.k bX (x2,i)).2.1) (.br (A.c .neq (A.k Gi (A.k bX (x2,i)).2.1).2 0) (xq A x2 w i) (.br (A.c .neq (A.n aG w.2.2.2.2 0:Seen).1 0) (xq A x2 w i) (.need (A.k kY (((),(A.k bX (x2,i)).1.2.2.1.2.2.2.2.2.2.2,()),4,i,(A.n aF w.1 i:Node).2.2.1)) (.br (A.k eG (((),(A.k bX (x2,i)).1.2.2.1.2.2.2.2.2.2.2,()),4,i,(A.n aF w.1 i:Node).2.2.1)) (xq A x2 w i) (.need (A.k wK (((),(A.k bX (x2,i)).1.2.2.1.2.2.2.2.2.2.2,()),0,(A.n aF w.1 i:Node).2.2.1)) (.br (A.k Cw (((),(A.k bX (x2,i)).1.2.2.1.2.2.2.2.2.2.2,()),0,(A.n aF w.1 i:Node).2.2.1)) (xq A x2 w i) (.br (A.c .neq (A.k Gi (A.k bX (x2,i)).2.1).2 0) (w8 A x2 w i) (.br (A.c .neq (A.n aG w.2.2.2.2 1:Seen).1 0) (w8 A x2 w i) (.need (A.k kY (((),(A.k bX (x2,i)).1.2.2.1.2.2.2.2.2.2.2,()),4,i,(A.n aF w.1 i:Node).2.2.1)) (.br (A.k eG (((),(A.k bX (x2,i)).1.2.2.1.2.2.2.2.2.2.2,()),4,i,(A.n aF w.1 i:Node).2.2.1)) (w8 A x2 w i) (.need (A.k wK (((),(A.k bX (x2,i)).1.2.2.1.2.2.2.2.2.2.2,()),1,(A.n aF w.1 i:Node).2.2.1)) (.br (A.k Cw (((),(A.k bX (x2,i)).1.2.2.1.2.2.2.2.2.2.2,()),1,(A.n aF w.1 i:Node).2.2.1)) (w8 A x2 w i) (.ret (((A.k bX (x2,i)).1,w.1,w.2.1,w.2.2.1,w.2.2.2.1,([(2,0,(A.k Gi (A.k bX (x2,i)).2.1).1),(2,0,(A.k Gi (A.k bX (x2,i)).2.1).1)]:List Seen)),()))))))))))))))))))))))))
def xO:(bf×cH)×Int→(bf×cH)×Unit:=fun((x2,w),i)=>(vt ah x2 w i).val (Ty.bi [oD,TD],Ty.bi [])
def E0:(bf×cH)×Int→Bool:=fun((x2,w),i)=>(vt ah x2 w i).pre
def afG:bL:=⟨[.ptr [.d .bool,.d aR,.d gW,.own aF,.own .bool,.d yI,.own dN],.ptr [.own aF,.own .bool,.own .bool,.own .bool,.d (.arr 2 aG)]], [yI], [],E0,xO,false⟩
theorem agZ:bL.Sound Tryz.prog 116 afG:=bQ ap bR true 255 iz (mc afY mz) (pc JF (pc agN pz)) [] [] (fun A ((x2,w),i)=>vt A x2 w i) (fun _=>Empty.elim) Empty.elim (fc Tryz.func116 fz) (sc aiT (sc sL sz)) (fun _ y=>y.elim) fun(((x2,w),i):(bf×cH)×Int) hp hv h=>LT.runs (LT.gg (by kernel_rfl)) hp
abbrev sw(A:aI)(w:cH):=([(A.n aG w.2.2.2.2 0:Seen),(A.n aG w.2.2.2.2 1:Seen)]:List Seen)
abbrev oU(A:aI)(x2:bf)(w:cH)(i:Int):=(A.k WM (x2.2.1,(A.n aF x2.2.2.2.1 i:Node),(sw A w)))
abbrev zy(A:aI)(x2:bf)(i:Int):=(A.and (A.c .leq 0 i) (A.c .lss i (A.l x2.2.2.2.1)))
def wv(A:aI)(x2:bf)(w:cH)(i:Int):LT ((bf×cH)×Unit) Empty:=.need (zy A x2 i) (.need (A.k (@tt (al×Node×List Seen)) (x2.2.1,(A.n aF x2.2.2.2.1 i:Node),(sw A w))) (.need (A.k (@tt (al×Node×List Seen)) (x2.2.1,(A.n aF x2.2.2.2.1 i:Node),(sw A w))) (.need (zy A x2 i) (.br (A.c .neq (oU A x2 w i).2.2.2 0) (.ret ((x2,w.1,w.2.1,w.2.2.1,w.2.2.2.1,(sw A w)),())) (.br (A.not (oU A x2 w i).2.2.1) (.need (A.k (@tt (al×Node)) (x2.2.1,(oU A x2 w i).1)) (.need (A.k (@tt (al×Node)) (x2.2.1,(oU A x2 w i).1)) (.need (A.k (@tt (al×Node)) (x2.2.1,(oU A x2 w i).1)) (.br (A.c .neq (A.k Gp (x2.2.1,(oU A x2 w i).1)).2.2.2 0) (.ret ((x2,w.1,w.2.1,w.2.2.1,w.2.2.2.1,(sw A w)),())) (.need (A.and (A.c .leq 0 i) (A.c .lss i (A.l x2.2.2.2.2.1))) (.need (A.and (A.c .leq 0 i) (A.c .lss i (A.l w.2.2.2.1))) (.need (zy A x2 i) (.ret (((x2.1,x2.2.1,x2.2.2.1,(A.set x2.2.2.2.1 i (A.k Gp (x2.2.1,(oU A x2 w i).1)).1),(A.set x2.2.2.2.2.1 i (A.k Gp (x2.2.1,(oU A x2 w i).1)).2.2.1),x2.2.2.2.2.2),w.1,w.2.1,w.2.2.1,(A.set w.2.2.2.1 i (A.k Gp (x2.2.1,(oU A x2 w i).1)).2.2.1),(sw A w)),()))))))))) (.need (zy A x2 i) (.ret (((x2.1,x2.2.1,x2.2.2.1,(A.set x2.2.2.2.1 i (oU A x2 w i).1),x2.2.2.2.2),w.1,w.2.1,w.2.2.1,w.2.2.2.1,(sw A w)),()))))))))
def iR:(bf×cH)×Int→(bf×cH)×Unit:=fun((x2,w),i)=>(wv ah x2 w i).val (Ty.bi [oD,TD],Ty.bi [])
def H7:(bf×cH)×Int→Bool:=fun((x2,w),i)=>(wv ah x2 w i).pre
def ady:bL:=⟨[.ptr [.d .bool,.d aR,.d gW,.own aF,.own .bool,.d yI,.own dN],.kv [.own aF,.own .bool,.own .bool,.own .bool,.d (.arr 2 aG)]], [yI], [],H7,iR,false⟩
theorem adS:bL.Sound Tryz.prog 193 ady:=bQ ap bR true 112 iz mz pz [] [] (fun A ((x2,w),i)=>wv A x2 w i) (fun _=>Empty.elim) Empty.elim (fc Tryz.func193 fz) (sc ag8 (sc adZ sz)) (fun _ y=>y.elim) fun(((x2,w),i):(bf×cH)×Int) hp hv h=>LT.runs (LT.gg (by kernel_rfl)) hp
abbrev jh(A:aI)(w:cH):=([(A.n aG w.2.2.2.2 0:Seen),(A.n aG w.2.2.2.2 1:Seen)]:List Seen)
abbrev su(A:aI)(x2:bf)(i:Int):=(A.and (A.c .leq 0 i) (A.c .lss i (A.l x2.2.2.2.1)))
abbrev mQ(A:aI)(x2:bf)(i:Int):=(A.n aF x2.2.2.2.1 i:Node)
abbrev xt(A:aI)(x2:bf)(w:cH)(i:Int):LT ((bf×cH)×Unit) Empty:=(.br (A.c .eql (A.n aF w.1 i:Node).2.1 1) (.br (A.c .eql (mQ A x2 i).2.1 1) (.need (A.k H7 ((x2,w.1,w.2.1,w.2.2.1,w.2.2.2.1,(jh A w)),i)) (.ret (((A.k iR ((x2,w.1,w.2.1,w.2.2.1,w.2.2.2.1,(jh A w)),i)).1.1,(A.k iR ((x2,w.1,w.2.1,w.2.2.1,w.2.2.2.1,(jh A w)),i)).1.2.1,(A.k iR ((x2,w.1,w.2.1,w.2.2.1,w.2.2.2.1,(jh A w)),i)).1.2.2.1,(A.k iR ((x2,w.1,w.2.1,w.2.2.1,w.2.2.2.1,(jh A w)),i)).1.2.2.2.1,(A.k iR ((x2,w.1,w.2.1,w.2.2.1,w.2.2.2.1,(jh A w)),i)).1.2.2.2.2.1,([(A.n aG (A.k iR ((x2,w.1,w.2.1,w.2.2.1,w.2.2.2.1,(jh A w)),i)).1.2.2.2.2.2 0:Seen),(A.n aG (A.k iR ((x2,w.1,w.2.1,w.2.2.1,w.2.2.2.1,(jh A w)),i)).1.2.2.2.2.2 1:Seen)]:List Seen)),()))) (.ret ((x2,w.1,w.2.1,w.2.2.1,w.2.2.2.1,(jh A w)),()))) (.ret ((x2,w.1,w.2.1,w.2.2.1,w.2.2.2.1,(jh A w)),())))
abbrev zX:=([(0,0,0,([]:List Int)),(0,0,0,([]:List Int))]:List Seen)
def vg(A:aI)(x2:bf)(w:cH)(i:Int):LT ((bf×cH)×Unit) Empty:=.need (A.and (A.c .leq 0 i) (A.c .lss i (A.l w.1))) (.need (su A x2 i) (.need (su A x2 i) (.need (A.and (A.c .leq 0 i) (A.c .lss i (A.l w.1))) (.need (su A x2 i) (.need (A.and (A.c .leq 0 i) (A.c .lss i (A.l w.1))) (.need (su A x2 i) (.need (A.k (@tt Node) (A.n aF w.1 i:Node)) (.br (A.k fB (A.n aF w.1 i:Node)) (.need (A.k (@tt Node) (mQ A x2 i)) (.br (A.k fB (mQ A x2 i)) (.br (A.c .neq (A.n aF w.1 i:Node).2.2.1.2.1 i) (.need (A.and (A.c .leq 0 i) (A.c .lss i (A.l w.2.1))) (.br (A.not (A.n .bool w.2.1 i:Bool)) (.need (A.k kY (((),x2.2.2.1.2.2.2.2.2.2.2,()),6,i,(mQ A x2 i).2.2.1)) (.br (A.k eG (((),x2.2.2.1.2.2.2.2.2.2.2,()),6,i,(mQ A x2 i).2.2.1)) (.need (A.k (@tt (al×Node×List Seen)) (x2.2.1,(mQ A x2 i),(zX))) (.br (A.c .eql (A.k GZ (x2.2.1,(mQ A x2 i),(zX))).2.2 0) (.need (su A x2 i) (.ret (((x2.1,x2.2.1,x2.2.2.1,(A.set x2.2.2.2.1 i (A.k GZ (x2.2.1,(mQ A x2 i),(zX))).1),x2.2.2.2.2),w.1,w.2.1,w.2.2.1,w.2.2.2.1,(jh A w)),()))) (.ret ((x2,w.1,w.2.1,w.2.2.1,w.2.2.2.1,(jh A w)),())))) (.need (A.k (@tt (al×Node×List Seen)) (x2.2.1,(mQ A x2 i),(jh A w))) (.br (A.c .eql (A.k GZ (x2.2.1,(mQ A x2 i),(jh A w))).2.2 0) (.need (su A x2 i) (.ret (((x2.1,x2.2.1,x2.2.2.1,(A.set x2.2.2.2.1 i (A.k GZ (x2.2.1,(mQ A x2 i),(jh A w))).1),x2.2.2.2.2),w.1,w.2.1,w.2.2.1,w.2.2.2.1,(jh A w)),()))) (.ret ((x2,w.1,w.2.1,w.2.2.1,w.2.2.2.1,(jh A w)),())))))) (xt A x2 w i))) (xt A x2 w i)) (xt A x2 w i))) (xt A x2 w i)))))))))
def uV:(bf×cH)×Int→(bf×cH)×Unit:=fun((x2,w),i)=>(vg ah x2 w i).val (Ty.bi [oD,TD],Ty.bi [])
def wU:(bf×cH)×Int→Bool:=fun((x2,w),i)=>(vg ah x2 w i).pre
def ad4:bL:=⟨[.ptr [.d .bool,.d aR,.d gW,.own aF,.own .bool,.d yI,.own dN],.kv [.own aF,.own .bool,.own .bool,.own .bool,.d (.arr 2 aG)]], [yI], [],wU,uV,false⟩
theorem agy:bL.Sound Tryz.prog 117 ad4:=bQ ap bR true 118 iz (mc adS mz) (pc JF pz) [] [] (fun A ((x2,w),i)=>vg A x2 w i) (fun _=>Empty.elim) Empty.elim (fc Tryz.func117 fz) (sc sL (sc aeu sz)) (fun _ y=>y.elim) fun(((x2,w),i):(bf×cH)×Int) hp hv h=>LT.runs (LT.gg (by kernel_rfl)) hp
structure Oa where
 (a0:Int) (a2:Bool) (a3:al) (a4:fj) (a5 a6 a7 a8:Int) (a9:List Int) (cB da a12:Int) (kE:List Int) (jv:List Node) (lJ:List Bool) (a16:List gn) (a17:List Node) (lK mh a20:List Bool)
structure Og where
 (b0:Int) (b2:Bool) (b3:al) (b4:fj) (b5 b6 b7 b8:Int) (b9:List Int) (b10 b11 b12:Int) (b13:List Int) (iq:cy) (gT:List gn) (nc:List Node) (j6 mO zV:List Bool)
inductive UT where
 | c0 (p:Oa) (a1:Int)
 | c1 (p:Og) (b1:Int) (fe:List Node) (bI:List Bool)
noncomputable def Zi:UT→eD
 | .c0 p a1=>⟨[⟨194,19,(en [(0,.own 2),(1,.fn 195 [] [.ptr 3 0]),(7,vi p.a0),(8,vi a1)]),[.inLoop (cw Tryz.f194 [1,0,1,0,0]),.inBlock 0,.code (cw Tryz.f194 [1,1])],[],none⟩,⟨118,93,(en [(0,.ptr 0 0),(3,.ptr 3 0)]),[.ops (ow Tryz.f118 [1,0]) ((ow Tryz.f118 [1,0]).toList.drop 5),.code (cw Tryz.f118 [1,1])],[],none⟩],[.flat false ([vb p.a2]++dc aR p.a3++dc gW p.a4 ++ [.own 2,.own 4,vi p.a5,.own 5]),.flat true [.own 6,.own 7,.own 8,.own 9,vi p.a6,vi p.a7,vi p.a8,.sl yU p.a9,vi p.cB,vi p.da,vi p.a12,.sl yU p.kE],.arr false aF p.jv,.flat false [.ptr 1 0],.arr false .bool p.lJ,.arr false dN p.a16,.arr false aF p.a17,.arr false .bool p.lK,.arr false .bool p.mh,.arr false .bool p.a20,.dead]⟩
 | .c1 p b1 fe bI=>⟨[⟨118,93,(en [(0,.ptr 0 0),(5,.ptr 2 0),(31,.own 3),(32,vi p.b0),(33,vi b1)]),[.inLoop (cw Tryz.f118 [1,1,1,1,1,0,0]),.inBlock 0],[],none⟩],[.flat false ([vb p.b2]++dc aR p.b3++dc gW p.b4 ++ [.own 3,.own 4,vi p.b5,.own 5]),.flat true [.own 6,.own 7,.own 8,.own 9,vi p.b6,vi p.b7,vi p.b8,.sl yU p.b9,vi p.b10,vi p.b11,vi p.b12,.sl yU p.b13],.flat false (dc kK p.iq),.arr false aF fe,.arr false .bool bI,.arr false dN p.gT,.arr false aF p.nc,.arr false .bool p.j6,.arr false .bool p.mO,.arr false .bool p.zV,.dead]⟩
def aeC(A:aI)(x2:bf)(w:cH):LT ((bf×cH)×Unit) UT:=.more (.c0 ⟨(A.l x2.2.2.2.1),x2.1,x2.2.1,x2.2.2.1,x2.2.2.2.2.2.1,(A.n aG w.2.2.2.2 0:Seen).1,(A.n aG w.2.2.2.2 0:Seen).2.1,(A.n aG w.2.2.2.2 0:Seen).2.2.1,(A.n aG w.2.2.2.2 0:Seen).2.2.2,(A.n aG w.2.2.2.2 1:Seen).1,(A.n aG w.2.2.2.2 1:Seen).2.1,(A.n aG w.2.2.2.2 1:Seen).2.2.1,(A.n aG w.2.2.2.2 1:Seen).2.2.2,x2.2.2.2.1,x2.2.2.2.2.1,x2.2.2.2.2.2.2,w.1,w.2.1,w.2.2.1,w.2.2.2.1⟩ 0)
def Cf(A:aI):UT→LT ((bf×cH)×Unit) UT
 | .c0 p a1=>.br (A.c .lss a1 p.a0) (.need (A.and (A.c .leq 0 a1) (A.c .lss a1 (A.l p.jv))) (.br (A.c .eql (A.n aF p.jv a1:Node).2.1 4) (.need (A.and (A.c .leq 0 (A.n aF p.jv a1:Node).1) (A.c .lss (A.n aF p.jv a1:Node).1 (A.l p.a17))) (.br (A.c .eql (A.n aF p.a17 (A.n aF p.jv a1:Node).1:Node).2.1 4) (.br (A.c .lss a1 0) (.ret (((p.a2,p.a3,p.a4,p.jv,p.lJ,p.a5,p.a16),p.a17,p.lK,p.mh,p.a20,([(p.a6,p.a7,p.a8,p.a9),(p.cB,p.da,p.a12,p.kE)]:List Seen)),())) (.need (A.and (A.c .leq 0 a1) (A.c .lss a1 (A.l p.a17))) (.more (.c1 ⟨(A.l p.jv),p.a2,p.a3,p.a4,p.a5,p.a6,p.a7,p.a8,p.a9,p.cB,p.da,p.a12,p.kE,(A.n aF p.a17 a1:Node).2.2.1,p.a16,p.a17,p.lK,p.mh,p.a20⟩ 0 p.jv p.lJ)))) (.more (.c0 p (A.b .add .i64 a1 1))))) (.more (.c0 p (A.b .add .i64 a1 1))))) (.ret (((p.a2,p.a3,p.a4,p.jv,p.lJ,p.a5,p.a16),p.a17,p.lK,p.mh,p.a20,([(p.a6,p.a7,p.a8,p.a9),(p.cB,p.da,p.a12,p.kE)]:List Seen)),()))
 | .c1 p b1 fe bI=>.br (A.c .lss b1 p.b0) (.need (A.and (A.c .leq 0 b1) (A.c .lss b1 (A.l fe))) (.br (A.c .eql (A.n aF fe b1:Node).2.1 0) (.need (A.k kY (((),p.b4.2.2.2.2.2.2.2,()),2,b1,p.iq)) (.br (A.c .neq (A.n aF fe b1:Node).2.1 0) (.need (A.k (@tt Node) (A.n aF fe b1:Node)) (.br (A.not (A.k fB (A.n aF fe b1:Node))) (.need (A.k kY (((),p.b4.2.2.2.2.2.2.2,()),1,b1,p.iq)) (.br (A.not (A.k eG (((),p.b4.2.2.2.2.2.2.2,()),2,b1,p.iq))) (.br (A.not (A.k eG (((),p.b4.2.2.2.2.2.2.2,()),1,b1,p.iq))) (.more (.c1 p (A.b .add .i64 b1 1) fe bI)) (.need (A.k (@tt (al×Node×Bool)) (p.b3,(A.n aF fe b1:Node),(A.k eG (((),p.b4.2.2.2.2.2.2.2,()),2,b1,p.iq)))) (.need (A.k (@tt (al×Node×Bool)) (p.b3,(A.n aF fe b1:Node),(A.k eG (((),p.b4.2.2.2.2.2.2.2,()),2,b1,p.iq)))) (.br (A.c .eql (A.k mZ (p.b3,(A.n aF fe b1:Node),(A.k eG (((),p.b4.2.2.2.2.2.2.2,()),2,b1,p.iq)))).2 0) (.need (A.and (A.c .leq 0 b1) (A.c .lss b1 (A.l fe))) (.need (A.and (A.c .leq 0 b1) (A.c .lss b1 (A.l bI))) (.more (.c1 p (A.b .add .i64 b1 1) (A.set fe b1 (A.k mZ (p.b3,(A.n aF fe b1:Node),(A.k eG (((),p.b4.2.2.2.2.2.2.2,()),2,b1,p.iq)))).1) (A.set bI b1 false))))) (.more (.c1 p (A.b .add .i64 b1 1) fe bI)))))) (.need (A.k (@tt (al×Node×Bool)) (p.b3,(A.n aF fe b1:Node),(A.k eG (((),p.b4.2.2.2.2.2.2.2,()),2,b1,p.iq)))) (.need (A.k (@tt (al×Node×Bool)) (p.b3,(A.n aF fe b1:Node),(A.k eG (((),p.b4.2.2.2.2.2.2.2,()),2,b1,p.iq)))) (.br (A.c .eql (A.k mZ (p.b3,(A.n aF fe b1:Node),(A.k eG (((),p.b4.2.2.2.2.2.2.2,()),2,b1,p.iq)))).2 0) (.need (A.and (A.c .leq 0 b1) (A.c .lss b1 (A.l fe))) (.need (A.and (A.c .leq 0 b1) (A.c .lss b1 (A.l bI))) (.more (.c1 p (A.b .add .i64 b1 1) (A.set fe b1 (A.k mZ (p.b3,(A.n aF fe b1:Node),(A.k eG (((),p.b4.2.2.2.2.2.2.2,()),2,b1,p.iq)))).1) (A.set bI b1 false))))) (.more (.c1 p (A.b .add .i64 b1 1) fe bI))))))) (.br (A.not (A.k eG (((),p.b4.2.2.2.2.2.2.2,()),2,b1,p.iq))) (.more (.c1 p (A.b .add .i64 b1 1) fe bI)) (.need (A.k (@tt (al×Node×Bool)) (p.b3,(A.n aF fe b1:Node),(A.k eG (((),p.b4.2.2.2.2.2.2.2,()),2,b1,p.iq)))) (.need (A.k (@tt (al×Node×Bool)) (p.b3,(A.n aF fe b1:Node),(A.k eG (((),p.b4.2.2.2.2.2.2.2,()),2,b1,p.iq)))) (.br (A.c .eql (A.k mZ (p.b3,(A.n aF fe b1:Node),(A.k eG (((),p.b4.2.2.2.2.2.2.2,()),2,b1,p.iq)))).2 0) (.need (A.and (A.c .leq 0 b1) (A.c .lss b1 (A.l fe))) (.need (A.and (A.c .leq 0 b1) (A.c .lss b1 (A.l bI))) (.more (.c1 p (A.b .add .i64 b1 1) (A.set fe b1 (A.k mZ (p.b3,(A.n aF fe b1:Node),(A.k eG (((),p.b4.2.2.2.2.2.2.2,()),2,b1,p.iq)))).1) (A.set bI b1 false))))) (.more (.c1 p (A.b .add .i64 b1 1) fe bI)))))))) (.br (A.not (A.k eG (((),p.b4.2.2.2.2.2.2.2,()),2,b1,p.iq))) (.more (.c1 p (A.b .add .i64 b1 1) fe bI)) (.need (A.k (@tt (al×Node×Bool)) (p.b3,(A.n aF fe b1:Node),(A.k eG (((),p.b4.2.2.2.2.2.2.2,()),2,b1,p.iq)))) (.need (A.k (@tt (al×Node×Bool)) (p.b3,(A.n aF fe b1:Node),(A.k eG (((),p.b4.2.2.2.2.2.2.2,()),2,b1,p.iq)))) (.br (A.c .eql (A.k mZ (p.b3,(A.n aF fe b1:Node),(A.k eG (((),p.b4.2.2.2.2.2.2.2,()),2,b1,p.iq)))).2 0) (.need (A.and (A.c .leq 0 b1) (A.c .lss b1 (A.l fe))) (.need (A.and (A.c .leq 0 b1) (A.c .lss b1 (A.l bI))) (.more (.c1 p (A.b .add .i64 b1 1) (A.set fe b1 (A.k mZ (p.b3,(A.n aF fe b1:Node),(A.k eG (((),p.b4.2.2.2.2.2.2.2,()),2,b1,p.iq)))).1) (A.set bI b1 false))))) (.more (.c1 p (A.b .add .i64 b1 1) fe bI)))))))) (.br (A.c .neq (A.n aF fe b1:Node).2.1 0) (.need (A.k (@tt Node) (A.n aF fe b1:Node)) (.br (A.not (A.k fB (A.n aF fe b1:Node))) (.need (A.k kY (((),p.b4.2.2.2.2.2.2.2,()),1,b1,p.iq)) (.br (A.not (A.k eG (((),p.b4.2.2.2.2.2.2.2,()),1,b1,p.iq))) (.more (.c1 p (A.b .add .i64 b1 1) fe bI)) (.need (A.k (@tt (al×Node×Bool)) (p.b3,(A.n aF fe b1:Node),false)) (.need (A.k (@tt (al×Node×Bool)) (p.b3,(A.n aF fe b1:Node),false)) (.br (A.c .eql (A.k mZ (p.b3,(A.n aF fe b1:Node),false)).2 0) (.need (A.and (A.c .leq 0 b1) (A.c .lss b1 (A.l fe))) (.need (A.and (A.c .leq 0 b1) (A.c .lss b1 (A.l bI))) (.more (.c1 p (A.b .add .i64 b1 1) (A.set fe b1 (A.k mZ (p.b3,(A.n aF fe b1:Node),false)).1) (A.set bI b1 false))))) (.more (.c1 p (A.b .add .i64 b1 1) fe bI))))))) (.more (.c1 p (A.b .add .i64 b1 1) fe bI)))) (.more (.c1 p (A.b .add .i64 b1 1) fe bI))))) (.ret (((p.b2,p.b3,p.b4,fe,bI,p.b5,p.gT),p.nc,p.j6,p.mO,p.zV,([(p.b6,p.b7,p.b8,p.b9),(p.b10,p.b11,p.b12,p.b13)]:List Seen)),()))
def nC{α:Type}(f:Int→α→α):Nat→Nat→α→α
 | 0,_,s=>s
 | k+1,i,s=>nC f k (i+1) (f (i:Int) s)
def Fs(l was:List Node):Nat→Nat→Option Nat
 | 0,_=>none
 | k+1,i=>bif decide ((iQ l (i:Int)).2.1=4)&&decide ((iQ was (iQ l (i:Int)).1).2.1=4) then some i else Fs l was k (i+1)
def r8(m:al)(F:List aM)(c:cy)(i:Int)(s:List Node×List Bool):List Node×List Bool:=
 bif (decide ((iQ s.1 i).2.1=0)&&fN F 2 i c)||(!(decide ((iQ s.1 i).2.1=0))&&(!(jZ (iQ s.1 i))&&fN F 1 i c)) then
  bif decide ((mF m (iQ s.1 i) (decide ((iQ s.1 i).2.1=0))).2=0) then(ah.set s.1 i (mF m (iQ s.1 i) (decide ((iQ s.1 i).2.1=0))).1,ah.set s.2 i false) else s
 else s
def lV(x:bf)(w:cH):bf×cH:=
 match Fs x.2.2.2.1 w.1 x.2.2.2.1.length 0 with
 | none=>(x,nN w)
 | some k=>((x.1,x.2.1,x.2.2.1,(nC (r8 x.2.1 (pj x) (iQ w.1 (k:Int)).2.2.1) x.2.2.2.1.length 0 (x.2.2.2.1,x.2.2.2.2.1)).1,(nC (r8 x.2.1 (pj x) (iQ w.1 (k:Int)).2.2.1) x.2.2.2.1.length 0 (x.2.2.2.1,x.2.2.2.2.1)).2,x.2.2.2.2.2),nN w)
def Rz(l:List Node):Bool:=l.all fun n=>decide (0≤n.1∧n.1<(l.length:Int))
theorem yA{m:al}{F:List aM}{c:cy}{i:Int}{s:List Node×List Bool}:(r8 m F c i s).1.length=s.1.length∧(r8 m F c i s).2.length=s.2.length:=by
 unfold r8
 cases ((decide ((iQ s.1 i).2.1=0)&&fN F 2 i c)||(!(decide ((iQ s.1 i).2.1=0))&&(!(jZ (iQ s.1 i))&&fN F 1 i c)))
 ·exact⟨rfl,rfl⟩
 ·cases decide ((mF m (iQ s.1 i) (decide ((iQ s.1 i).2.1=0))).2=0)
  ·exact⟨rfl,rfl⟩
  ·exact⟨List.length_set ..,List.length_set ..⟩
theorem Ox{p:Og}{m:al}{F:List aM}{c:cy}{N:Nat}(h0:p.b0=(N:Int))(hm:p.b3=m)(hF:p.b4.2.2.2.2.2.2.2=F)(hc:p.iq=c)(hf:F.length≤1000000)(hN:N≤1000) :
  ∀(j k:Nat) (s:List Node×List Bool),N-k=j→k≤N→s.1.length=N→s.2.length=N→au (Cf ah) (.more (.c1 p (k:Int) s.1 s.2)) (((p.b2,p.b3,p.b4,(nC (r8 m F c) j k s).1,(nC (r8 m F c) j k s).2,p.b5,p.gT),p.nc,p.j6,p.mO,p.zV, [(p.b6,p.b7,p.b8,p.b9),(p.b10,p.b11,p.b12,p.b13)]),()):=by
 intro j
 induction j with
 | zero=>
   intro k s hj hk l1 l2
   have:k=N:=by omega
   subst this
   rw[ak,Cf,h0]
   exact(ai (by rw[ar];simp)).2 (.ret _)
 | succ j ih=>
   intro k s hj hk l1 l2
   have hk':k<N:=by omega
   rw[ak,Cf,h0,hm,hF,hc]
   have i1:=aO (l:=s.1) (i:=k) (by omega)
   have i2:=aO (l:=s.2) (i:=k) (by omega)
   refine(aj (by rw[ar];exact aK (by omega))).2 (af.2 ⟨i1,?_⟩)
   rw[bU (i:=k) (by omega),nC]
   have e:∀(b:Bool),ah.k mZ (m,(iQ s.1 (k:Int)),b)=mF m (iQ s.1 (k:Int)) b:=fun _=>rfl
   have e2:∀q:Int,ah.k eG (((),F,()),q,(k:Int),c)=fN F q (k:Int) c:=fun _=>rfl
   rw[show ah.k fB (iQ s.1 (k:Int))=jZ (iQ s.1 (k:Int)) from rfl,e,e,e2,e2]
   have hs:=yA (m:=m) (F:=F) (c:=c) (i:=(k:Int)) (s:=s)
   have keep:r8 m F c (k:Int) s=s→au (Cf ah) (.more (.c1 p ((k+1:Nat):Int) s.1 s.2)) (((p.b2,m,p.b4,(nC (r8 m F c) j (k+1) (r8 m F c (k:Int) s)).1,(nC (r8 m F c) j (k+1) (r8 m F c (k:Int) s)).2,p.b5,p.gT),p.nc,p.j6,p.mO,p.zV, [(p.b6,p.b7,p.b8,p.b9),(p.b10,p.b11,p.b12,p.b13)]),()):=fun h=>by
    have nx:=ih (k+1) s (by omega) (by omega) l1 l2
    rw[hm] at nx
    rw[h];exact nx
   have go:∀b:Bool,(decide ((iQ s.1 (k:Int)).2.1=0))=b→((decide ((iQ s.1 (k:Int)).2.1=0)&&fN F 2 (k:Int) c)||(!(decide ((iQ s.1 (k:Int)).2.1=0))&&(!(jZ (iQ s.1 (k:Int)))&&fN F 1 (k:Int) c)))=true→
     au (Cf ah) (.need (ah.k (@tt (al×Node×Bool)) (m,(iQ s.1 (k:Int)),b)) (.need (ah.k (@tt (al×Node×Bool)) (m,(iQ s.1 (k:Int)),b)) (.br (ah.c .eql (mF m (iQ s.1 (k:Int)) b).2 0)
      (.need (ah.and (ah.c .leq 0 (k:Int)) (ah.c .lss (k:Int) (ah.l s.1))) (.need (ah.and (ah.c .leq 0 (k:Int)) (ah.c .lss (k:Int) (ah.l s.2))) (.more (.c1 p ((k+1:Nat):Int) (ah.set s.1 (k:Int) (mF m (iQ s.1 (k:Int)) b).1) (ah.set s.2 (k:Int) false)))))
      (.more (.c1 p ((k+1:Nat):Int) s.1 s.2))))) (((p.b2,m,p.b4,(nC (r8 m F c) j (k+1) (r8 m F c (k:Int) s)).1,(nC (r8 m F c) j (k+1) (r8 m F c (k:Int) s)).2,p.b5,p.gT),p.nc,p.j6,p.mO,p.zV, [(p.b6,p.b7,p.b8,p.b9),(p.b10,p.b11,p.b12,p.b13)]),()):=fun b hb ht=>by
    refine af.2 ⟨rfl,af.2 ⟨rfl,aB (p:=(mF m (iQ s.1 (k:Int)) b).2=0) aN (fun g=>af.2 ⟨i1,af.2 ⟨i2,?_⟩⟩) fun g=>keep ?_⟩⟩
    ·have hx:r8 m F c (k:Int) s=(ah.set s.1 (k:Int) (mF m (iQ s.1 (k:Int)) b).1,ah.set s.2 (k:Int) false):=by
      rw[r8,ht,cond_true,hb,aK g,cond_true]
     rw[hx] at hs ⊢
     have nx:=ih (k+1) (ah.set s.1 (k:Int) (mF m (iQ s.1 (k:Int)) b).1,ah.set s.2 (k:Int) false) (by omega) (by omega) (hs.1.trans l1) (hs.2.trans l2)
     rw[hm] at nx
     exact nx
    ·rw[r8,ht,cond_true,hb,aX g,cond_false]
   refine aB (p:=(iQ s.1 (k:Int)).2.1=0) aN (fun g0=>af.2 ⟨vq hf,aB (p:=¬(iQ s.1 (k:Int)).2.1=0) aU (fun g=>absurd g0 g) fun _=>?_⟩) fun g0=>aB (p:=¬(iQ s.1 (k:Int)).2.1=0) aU (fun _=>af.2 ⟨rfl,?_⟩) fun g=>absurd g0 g
   ·cases hg:fN F 2 (k:Int) c
    ·exact(aj rfl).2 (keep (by rw[r8,hg,aK g0];rfl))
    ·exact(ai rfl).2 (go true (aK g0) (by rw[hg,aK g0];rfl))
   ·cases hi:jZ (iQ s.1 (k:Int))
    ·refine(aj rfl).2 (af.2 ⟨vq hf,?_⟩)
     cases hg:fN F 1 (k:Int) c
     ·exact(aj rfl).2 (keep (by rw[r8,hg,hi,aX g0];rfl))
     ·exact(ai rfl).2 (go false (aX g0) (by rw[hg,hi,aX g0];rfl))
    ·exact(ai rfl).2 (keep (by rw[r8,hi,aX g0];rfl))
theorem Qu{p:Oa}{x:bf}{w:cH}(hp:p=⟨(x.2.2.2.1.length:Int),x.1,x.2.1,x.2.2.1,x.2.2.2.2.2.1,(ah.n aG w.2.2.2.2 0:Seen).1,(ah.n aG w.2.2.2.2 0:Seen).2.1,(ah.n aG w.2.2.2.2 0:Seen).2.2.1,(ah.n aG w.2.2.2.2 0:Seen).2.2.2,(ah.n aG w.2.2.2.2 1:Seen).1,(ah.n aG w.2.2.2.2 1:Seen).2.1,(ah.n aG w.2.2.2.2 1:Seen).2.2.1,(ah.n aG w.2.2.2.2 1:Seen).2.2.2,x.2.2.2.1,x.2.2.2.2.1,x.2.2.2.2.2.2,w.1,w.2.1,w.2.2.1,w.2.2.2.1⟩)
  (h:GH x w) (hid:Rz x.2.2.2.1=true):∀(j k:Nat),x.2.2.2.1.length-k=j→k≤x.2.2.2.1.length→
    au (Cf ah) (.more (.c0 p (k:Int))) ((match Fs x.2.2.2.1 w.1 j k with
     | none=>(x,nN w)
     | some k=>((x.1,x.2.1,x.2.2.1,(nC (r8 x.2.1 (pj x) (iQ w.1 (k:Int)).2.2.1) x.2.2.2.1.length 0 (x.2.2.2.1,x.2.2.2.2.1)).1,(nC (r8 x.2.1 (pj x) (iQ w.1 (k:Int)).2.2.1) x.2.2.2.1.length 0 (x.2.2.2.1,x.2.2.2.2.1)).2,x.2.2.2.2.2),nN w)),()):=by
 subst hp
 obtain⟨z1,z2,z3,z4,z5,z6,z7,z8,z9⟩:=h
 intro j
 induction j with
 | zero=>
   intro k hj hk
   have:k=x.2.2.2.1.length:=by omega
   subst this
   rw[ak,Cf,Fs]
   exact(ai (by rw[ar];simp)).2 (.ret _)
 | succ j ih=>
   intro k hj hk
   have hk':k<x.2.2.2.1.length:=by omega
   rw[ak,Cf,Fs]
   have e0:(iQ x.2.2.2.1 (k:Int))=x.2.2.2.1[k]:=getD_in hk' _
   have hin:0≤(iQ x.2.2.2.1 (k:Int)).1∧(iQ x.2.2.2.1 (k:Int)).1<(w.1.length:Int):=by
    rw[e0,z2]
    exact of_decide_eq_true (List.all_eq_true.1 hid _ (List.getElem_mem hk'))
   refine(aj (by rw[ar];exact aK (by simp only;omega))).2 (af.2 ⟨aO hk',?_⟩)
   rw[bU (i:=k) (by omega)]
   have nx:=ih (k+1) (by omega) (by omega)
   refine aB (p:=(iQ x.2.2.2.1 (k:Int)).2.1=4) aN (fun g1=>af.2 ⟨dM hin,?_⟩) fun g=>by rw[aX g];exact nx
   refine aB (p:=(iQ w.1 (iQ x.2.2.2.1 (k:Int)).1).2.1=4) aN (fun g2=>?_) fun g=>by rw[aX g,aK g1];exact nx
   rw[aK g1,aK g2]
   refine(ai (by rw[ar];simp)).2 (af.2 ⟨aO (l:=w.1) (by omega),?_⟩)
   exact Ox (m:=x.2.1) (F:=pj x) (c:=(iQ w.1 (k:Int)).2.2.1) (N:=x.2.2.2.1.length) rfl rfl rfl rfl z6 z9 _ 0 (x.2.2.2.1,x.2.2.2.2.1) rfl (by omega) rfl z1
theorem Xx{x:bf}{w:cH}(h:GH x w)(hid:Rz x.2.2.2.1=true):au (Cf ah) (aeC ah x w) (lV x w,()):=
 Qu rfl h hid _ 0 rfl (by omega)
def yN:(bf×cH)×Unit→(bf×cH)×Unit:=fun((x,w),_)=>(lV x w,())
def wO:(bf×cH)×Unit→Bool:=fun((x,w),_)=>decide (GH x w)&&Rz x.2.2.2.1
def adq:bL:=⟨[.ptr [.d .bool,.d aR,.d gW,.own aF,.own .bool,.d yI,.own dN],.kv [.own aF,.own .bool,.own .bool,.own .bool,.d (.arr 2 aG)]], [], [],wO,yN,false⟩
theorem aeP:bL.Sound Tryz.prog 118 adq:=bQ ap bR true 31 iz mz (pc JF pz) [⟨118,5, [[0,5,31,32,33]]⟩,⟨194,2, [[0,1,7,8], [0,3]]⟩] [] (fun A ((x2,w),())=>aeC A x2 w) Cf Zi (fc Tryz.func118 (fc Tryz.func194 (fc Tryz.func195 fz))) (sc sL (sc W6 sz)) (fun A y=>match y with |.c0 p a1=>⟨95,by kernel_rfl,by kernel_rfl⟩|.c1 p b1 fe bI=>⟨114,by kernel_rfl,by kernel_rfl⟩) fun(((x2,w),()):(bf×cH)×Unit) hp hv h=>Xx (of_decide_eq_true ((cd _ _).mp hp).1) ((cd _ _).mp hp).2
abbrev pT(A:aI)(x2:bf)(i:Int):=(A.k WY (x2.2.1,(A.n aF x2.2.2.2.1 i:Node)))
abbrev CX(A:aI)(w:cH):=([(A.n aG w.2.2.2.2 0:Seen),(A.n aG w.2.2.2.2 1:Seen)]:List Seen)
abbrev A6(A:aI)(x2:bf)(i:Int):=(A.and (A.c .leq 0 i) (A.c .lss i (A.l x2.2.2.2.1)))
abbrev Dy(A:aI)(x2:bf)(w:cH):LT ((bf×cH)×Unit) Empty:=(.ret ((x2,w.1,w.2.1,w.2.2.1,w.2.2.2.1,(CX A w)),()))
def vQ(A:aI)(x2:bf)(w:cH)(i:Int):LT ((bf×cH)×Unit) Empty:=.need (A.and (A.c .leq 0 i) (A.c .lss i (A.l w.2.2.2.1))) (.br (A.n .bool w.2.2.2.1 i:Bool) (Dy A x2 w) (.need (A6 A x2 i) (.need (A.k (@tt Node) (A.n aF x2.2.2.2.1 i:Node)) (.br (A.not (A.k fB (A.n aF x2.2.2.2.1 i:Node))) (Dy A x2 w) (.need (A6 A x2 i) (.need (A.k (@tt (al×Node)) (x2.2.1,(A.n aF x2.2.2.2.1 i:Node))) (.need (A.k (@tt (al×Node)) (x2.2.1,(A.n aF x2.2.2.2.1 i:Node))) (.need (A6 A x2 i) (.br (A.c .neq (pT A x2 i).2 0) (Dy A x2 w) (.need (A6 A x2 i) (.br (A.c .eql (pT A x2 i).1.2.2.1.2.1 0) (.need (A.k DU (pT A x2 i).1) (.need (A.c .leq (A.l (A.p x2.2.2.2.2.2.2 ([((pT A x2 i).1.2.2.1.1,(A.k Bd (pT A x2 i).1))]:List gn))) 651562446089) (.ret (((x2.1,x2.2.1,x2.2.2.1,(A.set x2.2.2.2.1 i (pT A x2 i).1),x2.2.2.2.2.1,x2.2.2.2.2.2.1,(A.p x2.2.2.2.2.2.2 ([((pT A x2 i).1.2.2.1.1,(A.k Bd (pT A x2 i).1))]:List gn))),w.1,w.2.1,w.2.2.1,w.2.2.2.1,(CX A w)),())))) (.ret (((x2.1,x2.2.1,x2.2.2.1,(A.set x2.2.2.2.1 i (pT A x2 i).1),x2.2.2.2.2),w.1,w.2.1,w.2.2.1,w.2.2.2.1,(CX A w)),())))))))))))))
def xL:(bf×cH)×Int→(bf×cH)×Unit:=fun((x2,w),i)=>(vQ ah x2 w i).val (Ty.bi [oD,TD],Ty.bi [])
def E5:(bf×cH)×Int→Bool:=fun((x2,w),i)=>(vQ ah x2 w i).pre
def agi:bL:=⟨[.ptr [.d .bool,.d aR,.d gW,.own aF,.own .bool,.d yI,.own dN],.kv [.own aF,.own .bool,.own .bool,.own .bool,.d (.arr 2 aG)]], [yI], [],E5,xL,false⟩
theorem aeG:bL.Sound Tryz.prog 119 agi:=bQ ap bR true 96 iz mz pz [] [] (fun A ((x2,w),i)=>vQ A x2 w i) (fun _=>Empty.elim) Empty.elim (fc Tryz.func119 fz) (sc sL (sc afW (sc Xc sz))) (fun _ y=>y.elim) fun(((x2,w),i):(bf×cH)×Int) hp hv h=>LT.runs (LT.gg (by kernel_rfl)) hp
def j5(m:al)(l:List Node):Prop:=∀(i:Nat) (n:Node),l[i]? = some n→bo m n=0∧n.1=(i:Int)
theorem z_{m:al}{l:List Node}(h:j5 m l){i:Int}(hi:0≤i∧i<(l.length:Int)):bo m (iQ l i)=0∧(iQ l i).1=i:=by
 obtain⟨k,rfl⟩:=Int.eq_ofNat_of_zero_le hi.1
 have hk:k<l.length:=by omega
 rw[show iQ l (k:Int)=l[k] from getD_in hk _]
 exact h k _ (uX hk)
theorem Kt{m:al}{l:List Node}(h:j5 m l){i:Int}(hi:0≤i){n:Node}(hn:bo m n=0∧n.1=i):j5 m (ah.set l i n):=by
 obtain⟨k,rfl⟩:=Int.eq_ofNat_of_zero_le hi
 intro j n' hj
 rw[yp,gS,List.getElem?_set] at hj
 split at hj
 ·rename_i e
  split at hj
  ·cases hj;exact⟨hn.1,by omega⟩
  ·cases hj
 ·exact h j n' hj
theorem gb{α:Type}{l:List α}{i:Int}{v:α}:(ah.set l i v).length=l.length:=List.length_set ..
def CJ(x:bf):Prop:=∀s∈x.2.2.2.2.2.2,bo x.2.1 s.2=0
structure ja(k:Nat)(x x':bf):Prop where
 made:x'.1=x.1
 m:x'.2.1=x.2.1
 s:x'.2.2.1=x.2.2.1
 len:x'.2.2.2.1.length=x.2.2.2.1.length
 aW:x'.2.2.2.2.1.length=x.2.2.2.2.1.length
 slot:x'.2.2.2.2.2.1=x.2.2.2.2.2.1
 r7:x'.2.2.2.2.2.2.length≤x.2.2.2.2.2.2.length+k
 L9:j5 x.2.1 x.2.2.2.1→j5 x.2.1 x'.2.2.2.1
 Qz:j5 x.2.1 x.2.2.2.1→CJ x→∀s∈x'.2.2.2.2.2.2,bo x.2.1 s.2=0
structure lX(w w':cH):Prop where
 was:w'.1=w.1
 aW:w'.2.1=w.2.1
 off:w'.2.2.1.length=w.2.2.1.length
 later:w'.2.2.2.1.length=w.2.2.2.1.length
theorem ja.refl{x:bf}{k:Nat}:ja k x x:=⟨rfl,rfl,rfl,rfl,rfl,rfl,Nat.le_add_right _ _,fun h=>h,fun _ h=>h⟩
theorem ja.trans{j k:Nat}{x y z:bf}(h1:ja j x y)(h2:ja k y z):ja (j+k) x z:=
 ⟨h2.made.trans h1.made,h2.m.trans h1.m,h2.s.trans h1.s,h2.len.trans h1.len,h2.aW.trans h1.aW,h2.slot.trans h1.slot,by have:=h1.r7;have:=h2.r7;omega,fun h=>by rw[←h1.m];exact h2.L9 (by rw[h1.m];exact h1.L9 h),fun h k=>by rw[←h1.m];exact h2.Qz (by rw[h1.m];exact h1.L9 h) (by rw[CJ,h1.m];exact h1.Qz h k)⟩
theorem lX.refl{w:cH}:lX w w:=⟨rfl,rfl,rfl,rfl⟩
theorem lX.th{w w':cH}(h:lX (nN w) w'):lX w w':=⟨h.was,h.aW,h.off,h.later⟩
theorem lX.trans{a b c:cH}(h1:lX a b)(h2:lX b c):lX a c:=⟨h2.was.trans h1.was,h2.aW.trans h1.aW,h2.off.trans h1.off,h2.later.trans h1.later⟩
theorem ja.nodes{x:bf}{l:List Node}{c:List Bool}{k:Nat}(hl:l.length=x.2.2.2.1.length)(hc:c.length=x.2.2.2.2.1.length)(h:j5 x.2.1 x.2.2.2.1→j5 x.2.1 l):ja k x (x.1,x.2.1,x.2.2.1,l,c,x.2.2.2.2.2):=
 ⟨rfl,rfl,rfl,hl,hc,rfl,Nat.le_add_right _ _,h,fun _ h=>h⟩
theorem ja.set{x:bf}{i:Int}{n:Node}{c:List Bool}{k:Nat}(hi:0≤i∧i<(x.2.2.2.1.length:Int))(hc:c.length=x.2.2.2.2.1.length)(h:bo x.2.1 (iQ x.2.2.2.1 i)=0→bo x.2.1 n=0∧n.1=(iQ x.2.2.2.1 i).1):ja k x (x.1,x.2.1,x.2.2.1,ah.set x.2.2.2.1 i n,c,x.2.2.2.2.2):=
 ja.nodes gb hc fun hn=>by
  obtain⟨a,b⟩:=z_ hn hi
  exact Kt hn hi.1 ⟨(h a).1,(h a).2.trans b⟩
theorem Ji{n:Int}(h:n=0)(k:(n==0)=false:=by decide):False:=by subst h;cases k
theorem RG{m:al}{n:Node}{on:Bool}(h:(mF m n on).2=0):(mF m n on).1.1=n.1:=by
 unfold mF at h ⊢
 by_cases h0:bo m n=0
 ·rw[aK h0,cond_true] at h ⊢
  cases on
  ·unfold jK at h ⊢
   cases hm:du m
   ·rw[hm] at h;exact(Ji (n:=70) h).elim
   ·rw[hm] at h
    cases hd:decide (0≤n.1∧n.1≤m.1-1)
    ·rw[hd] at h;exact(Ji (n:=2) h).elim
    ·rfl
  ·cases hd:decide (n.2.1=0)
   ·rw[hd] at h;exact(Ji (n:=181) h).elim
   ·rfl
 ·rw[aX h0] at h;exact absurd h h0
theorem E6{n:Node}{r:cr×Int}(h:(zP n r).2=0):(zP n r).1.1=n.1:=by
 unfold zP at h ⊢
 by_cases h0:r.2=0
 ·rw[aK h0];rfl
 ·rw[aX h0] at h;exact absurd h h0
theorem Y9{m:al}{n:Node}{o:bl}(h:(tO m n o).2=0):(tO m n o).1.1=n.1:=by
 unfold tO at h ⊢
 by_cases h0:bo m n=0
 ·rw[aK h0,cond_true] at h ⊢
  cases hd:decide (1≤o.2.2.2.1∧o.2.2.2.1≤3)
  ·rw[hd] at h;exact(Ji (n:=2) h).elim
  rw[hd,cond_true] at h
  rw[cond_true]
  cases hi:jZ n
  ·rfl
  rw[hi,cond_true] at h
  rw[cond_true]
  cases h1:decide (o.2.2.2.1=1)
  ·rw[h1,cond_false] at h
   rw[cond_false]
   cases h2:decide (o.2.2.2.1=2)
   ·rw[h2,cond_false] at h;exact E6 h
   ·rw[h2,cond_true] at h;exact E6 h
  ·rw[h1,cond_true] at h;exact E6 h
 ·rw[aX h0] at h;exact absurd h h0
theorem abt{m:al}{n:Node}(h:(B4 m n).2=0):(B4 m n).1.1=n.1:=by
 unfold B4 at h ⊢
 by_cases h0:bo m n=0
 ·rw[aK h0,cond_true] at h ⊢
  cases hi:jZ n
  ·rw[hi] at h;exact(Ji (n:=181) h).elim
  ·rw[cond_true];cases decide ((kF n.2.2.1 m.1).1.2.1=0)<;>rfl
 ·rw[aX h0] at h;exact absurd h h0
theorem Xk{m:al}{n:Node}(h:(Av m n).2.2.2=0):(Av m n).1.1=n.1:=by
 unfold Av at h ⊢
 by_cases h0:bo m n=0
 ·rw[aK h0,cond_true] at h ⊢
  cases hd:decide (n.2.1=1)
  ·rw[hd] at h;exact(Ji (n:=181) h).elim
  ·rw[cond_true]
   cases decide (0<n.2.2.2.2.1-1)
   ·rw[cond_false];cases (ah.n .bool m.2.2.2.2.2.2.1 n.1:Bool)<;>rfl
   ·rfl
 ·rw[aX h0] at h;exact absurd h h0
theorem Za{n:Node}:(AA n).1=n.1:=by unfold AA;cases decide (n.2.1=4) && !(Jm n.2.2.2.1)<;>rfl
theorem aaF{m:al}{n:Node}{o:lQ}:(L_ m n o).1=n.1:=by
 unfold L_
 rw[Za]
 cases decide (o.1=3)<;>rfl
theorem Ya{m:al}{n:Node}{seen:List Seen}(h:(As m n seen).2.2=0):(As m n seen).1.1=n.1:=by
 unfold As at h ⊢
 by_cases h0:bo m n=0
 ·rw[aK h0,cond_true] at h ⊢
  cases hi:jZ n&&decide (¬n.2.2.1.2.1=n.1)
  ·rw[hi] at h;exact(Ji (n:=181) h).elim
  ·rw[hi,cond_true] at h
   rw[cond_true]
   by_cases h1:(EM n seen).2=0
   ·rw[aK h1,cond_true];exact aaF
   ·rw[aX h1] at h;exact absurd h h1
 ·rw[aX h0] at h;exact absurd h h0
theorem UM{m:al}{n:Node}:(CV m n).1.1=n.1:=by
 unfold CV
 cases decide ((nJ n).2=2)
 ·cases decide ((nJ n).2=3)
  ·cases decide ((nJ n).2=4)<;>rfl
  ·rfl
 ·rfl
theorem ahf{m:al}{n:Node}(h:(ML m n).2.2.2=0):(ML m n).1.1=n.1:=by
 unfold ML at h ⊢
 by_cases h0:bo m n=0
 ·rw[aK h0,cond_true] at h ⊢
  cases hi:jZ n&&decide (n.2.2.1.2.1=n.1)
  ·rw[hi] at h;exact(Ji (n:=181) h).elim
  ·exact UM
 ·rw[aX h0] at h;exact absurd h h0
theorem Oz{m:al}{n:Node}{seen:List Seen}{once:Bool}(h:(wJ m n seen once).2.2.2=0):(wJ m n seen once).1.1=n.1:=by
 unfold wJ at h ⊢
 by_cases h0:bo m n=0
 ·rw[aK h0,cond_true] at h ⊢
  cases h1:decide (n.2.1=1)
  ·rw[h1] at h;exact(Ji (n:=181) h).elim
  rw[h1,cond_true] at h
  rw[cond_true]
  cases h2:decide ((seen.length:Int)=2)
  ·rw[h2] at h;exact(Ji (n:=2) h).elim
  rw[cond_true]
  cases (fK m.1 seen).2.2
  ·rfl
  rw[cond_true]
  cases decide ((fK m.1 seen).1.1=1)
  ·cases LA m n (fK m.1 seen).1<;>rfl
  rw[cond_true]
  cases decide ((fK m.1 seen).1.2.2.2.1=n.1)
  ·cases (once && !n.2.2.2.2.2.1)<;>rfl
  ·rfl
 ·rw[aX h0] at h;exact absurd h h0
theorem RQ{m:al}{i:Int}{c:cy}{l:List bl}:∀{n:Node},bo m n=0→bo m (s5 m i c l n)=0∧(s5 m i c l n).1=n.1:=by
 induction l with
 | nil=>intro n h;exact⟨h,rfl⟩
 | cons o l ih=>
   intro n h
   rw[s5]
   cases decide (o.1=i)&&(decide (o.2.1=c.1)&&decide (o.2.2.1=c.2.1))
   ·exact ih h
   ·rw[cond_true]
    by_cases h0:(tO m n o).2=0
    ·rw[aK h0,cond_true]
     obtain⟨a,b⟩:=ih (Vy h h0)
     exact⟨a,b.trans (Y9 h0)⟩
    ·rw[aX h0];exact ih h
theorem Sx{x:bf}{w:cH}{i:Int}(hi:0≤i∧i<(x.2.2.2.1.length:Int)):ja 0 x (kV x w i).1∧lX w (kV x w i).2:=by
 unfold kV
 cases jZ (yC x i)
 ·exact⟨.refl,rfl,rfl,rfl,rfl⟩
 rw[cond_true]
 cases fN (pj x) 1 i (yC x i).2.2.1
 ·exact⟨ja.set hi rfl fun h=>RQ h,rfl,rfl,rfl,rfl⟩
 ·refine⟨?_,rfl,rfl,gb,rfl⟩
  rw[cond_true]
  by_cases h0:(mF x.2.1 (yC x i) false).2=0
  ·rw[aK h0];exact ja.set hi gb fun h=>⟨JE h h0,RG h0⟩
  ·rw[aX h0];exact ja.nodes rfl gb fun h=>h
theorem afw{m:al}{F:List aM}{c:cy}{N:Nat}:∀(j k:Nat) (s:List Node×List Bool),s.1.length=N→k+j≤N→j5 m s.1→j5 m (nC (r8 m F c) j k s).1:=by
 intro j
 induction j with
 | zero=>intro k s _ _ h;exact h
 | succ j ih=>
   intro k s hl hk h
   rw[nC]
   refine ih (k+1) _ (yA.1.trans hl) (by omega) ?_
   unfold r8
   cases ((decide ((iQ s.1 (k:Int)).2.1=0)&&fN F 2 (k:Int) c)||(!(decide ((iQ s.1 (k:Int)).2.1=0))&&(!(jZ (iQ s.1 (k:Int)))&&fN F 1 (k:Int) c)))
   ·exact h
   ·rw[cond_true]
    by_cases h0:(mF m (iQ s.1 (k:Int)) (decide ((iQ s.1 (k:Int)).2.1=0))).2=0
    ·rw[aK h0,cond_true]
     obtain⟨a,b⟩:=z_ h (i:=(k:Int)) ⟨by omega,by omega⟩
     exact Kt h (by omega) ⟨JE a h0,(RG h0).trans b⟩
    ·rw[aX h0];exact h
theorem K1{m:al}{F:List aM}{c:cy}:∀(j k:Nat) (s:List Node×List Bool),(nC (r8 m F c) j k s).1.length=s.1.length∧(nC (r8 m F c) j k s).2.length=s.2.length:=by
 intro j
 induction j with
 | zero=>intro k s;exact⟨rfl,rfl⟩
 | succ j ih=>
   intro k s
   rw[nC]
   obtain⟨a,b⟩:=ih (k+1) (r8 m F c (k:Int) s)
   exact⟨a.trans yA.1,b.trans yA.2⟩
theorem No{x:bf}{w:cH}:ja 0 x (lV x w).1∧lX w (lV x w).2:=by
 unfold lV
 cases Fs x.2.2.2.1 w.1 x.2.2.2.1.length 0 with
 | none=>exact⟨.refl,rfl,rfl,rfl,rfl⟩
 | some k=>exact⟨ja.nodes (K1 _ _ _).1 (K1 _ _ _).2 fun h=>afw _ _ _ rfl (by simp only;omega) h,rfl,rfl,rfl,rfl⟩
theorem K0{x:bf}{i:Int}(hi:0≤i∧i<(x.2.2.2.1.length:Int)):jF (fun r=>ja 0 x r.1) (wo ah x i):=by
 unfold wo CU Bb y5
 intro _
 refine⟨fun _ _=>ja.nodes rfl gb fun h=>h,fun _=>?_⟩
 intro _ _ _ _ _ _
 refine⟨fun _=>.refl,fun h _=>?_⟩
 have h0:(ML x.2.1 (iQ x.2.2.2.1 i)).2.2.2=0:=by
  have:ah.c .neq (ML x.2.1 (iQ x.2.2.2.1 i)).2.2.2 0=false:=h
  rw[aU] at this
  exact Decidable.not_not.1 (of_decide_eq_false this)
 exact ja.set hi rfl fun h=>⟨Zv h h0,ahf h0⟩
theorem Vh{x:bf}{w:cH}{i:Int}(h541:ja 0 x (bX (x,i)).1):jF (fun r=>ja 0 x r.1.1∧lX w r.1.2) (vt ah x w i):=by
 have hA:∀a b:Seen,ja 0 x x∧lX w (w.1,w.2.1,w.2.2.1,w.2.2.2.1, [a,b]):=fun _ _=>⟨.refl,rfl,rfl,rfl,rfl⟩
 have hB:∀a b:Seen,ja 0 x (bX (x,i)).1∧lX w (w.1,w.2.1,w.2.2.1,w.2.2.2.1, [a,b]):=fun _ _=>⟨h541,rfl,rfl,rfl,rfl⟩
 unfold vt y8 Br w8 xq
 simp only[jF]
 repeat' first|exact hA _ _|exact hB _ _|apply And.intro|intro _
theorem TS{x:bf}{w:cH}{i:Int}(hi:0≤i∧i<(x.2.2.2.1.length:Int)):jF (fun r=>ja 0 x r.1.1∧lX w r.1.2) (wv ah x w i):=by
 have hA:∀a b:Seen,ja 0 x x∧lX w (w.1,w.2.1,w.2.2.1,w.2.2.2.1, [a,b]):=fun _ _=>⟨.refl,rfl,rfl,rfl,rfl⟩
 unfold wv zy oU sw
 intro _ _ _ _
 refine⟨fun _=>hA _ _,fun h1=>?_⟩
 have e1:(wJ x.2.1 (iQ x.2.2.2.1 i) [(ah.n aG w.2.2.2.2 0:Seen),(ah.n aG w.2.2.2.2 1:Seen)] true).2.2.2=0:=by
  have:ah.c .neq (wJ x.2.1 (iQ x.2.2.2.1 i) [(ah.n aG w.2.2.2.2 0:Seen),(ah.n aG w.2.2.2.2 1:Seen)] true).2.2.2 0=false:=h1
  rw[aU] at this
  exact Decidable.not_not.1 (of_decide_eq_false this)
 refine⟨fun _=>?_,fun _=>?_⟩
 ·intro _ _ _
  refine⟨fun _=>hA _ _,fun h2=>?_⟩
  intro _ _ _
  have e2:(Av x.2.1 (wJ x.2.1 (iQ x.2.2.2.1 i) [(ah.n aG w.2.2.2.2 0:Seen),(ah.n aG w.2.2.2.2 1:Seen)] true).1).2.2.2=0:=by
   have:ah.c .neq (Av x.2.1 (wJ x.2.1 (iQ x.2.2.2.1 i) [(ah.n aG w.2.2.2.2 0:Seen),(ah.n aG w.2.2.2.2 1:Seen)] true).1).2.2.2 0=false:=h2
   rw[aU] at this
   exact Decidable.not_not.1 (of_decide_eq_false this)
  exact⟨ja.set hi gb fun h=>⟨TF (J9 h e1) e2,(Xk e2).trans (Oz e1)⟩,rfl,rfl,rfl,gb⟩
 ·intro _
  exact⟨ja.set hi rfl fun h=>⟨J9 h e1,Oz e1⟩,rfl,rfl,rfl,rfl⟩
theorem eq0{a:Int}(h:ah.c .eql a 0=true):a=0:=by rw[aN] at h;exact of_decide_eq_true h
theorem ne0{a:Int}(h:ah.c .neq a 0=false):a=0:=by rw[aU] at h;exact Decidable.not_not.1 (of_decide_eq_false h)
theorem VA{x:bf}{w:cH}{i:Int}(hi:0≤i∧i<(x.2.2.2.1.length:Int))(h543:ja 0 x (iR ((x,nN w),i)).1.1∧lX w (iR ((x,nN w),i)).1.2):jF (fun r=>ja 0 x r.1.1∧lX w r.1.2) (vg ah x w i):=by
 have hA:∀a b:Seen,ja 0 x x∧lX w (w.1,w.2.1,w.2.2.1,w.2.2.2.1, [a,b]):=fun _ _=>⟨.refl,rfl,rfl,rfl,rfl⟩
 have hC:∀a b:Seen,ja 0 x (iR ((x,nN w),i)).1.1∧lX w ((iR ((x,nN w),i)).1.2.1,(iR ((x,nN w),i)).1.2.2.1,(iR ((x,nN w),i)).1.2.2.2.1,(iR ((x,nN w),i)).1.2.2.2.2.1, [a,b]):=fun _ _=>⟨h543.1,h543.2.was,h543.2.aW,h543.2.off,h543.2.later⟩
 have hB:∀(seen:List Seen) (a b:Seen),ah.c .eql (As x.2.1 (iQ x.2.2.2.1 i) seen).2.2 0=true→ja 0 x (x.1,x.2.1,x.2.2.1,ah.set x.2.2.2.1 i (As x.2.1 (iQ x.2.2.2.1 i) seen).1,x.2.2.2.2.1,x.2.2.2.2.2)∧lX w (w.1,w.2.1,w.2.2.1,w.2.2.2.1, [a,b]):=fun seen _ _ h=>
  ⟨ja.set hi rfl fun k=>⟨SI k (eq0 h),Ya (eq0 h)⟩,rfl,rfl,rfl,rfl⟩
 unfold vg zX xt mQ su jh
 simp only[jF]
 repeat' first|exact hA _ _|exact hC _ _|exact hB _ _ _ (by assumption)|apply And.intro|intro _
theorem SV{x:bf}{w:cH}{i:Int}(hi:0≤i∧i<(x.2.2.2.1.length:Int)):jF (fun r=>ja 1 x r.1.1∧lX w r.1.2) (vQ ah x w i):=by
 have hA:∀a b:Seen,ja 1 x x∧lX w (w.1,w.2.1,w.2.2.1,w.2.2.2.1, [a,b]):=fun _ _=>⟨.refl,rfl,rfl,rfl,rfl⟩
 unfold vQ Dy A6 CX pT
 intro _
 refine⟨fun _=>hA _ _,fun _=>?_⟩
 intro _ _
 refine⟨fun _=>hA _ _,fun _=>?_⟩
 intro _ _ _ _
 refine⟨fun _=>hA _ _,fun h1=>?_⟩
 have e1:(B4 x.2.1 (iQ x.2.2.2.1 i)).2=0:=ne0 h1
 have key:=ja.set (k:=1) hi (c:=x.2.2.2.2.1) rfl fun h=>⟨Fa h e1,abt e1⟩
 intro _
 refine⟨fun _=>?_,fun _=>⟨key,rfl,rfl,rfl,rfl⟩⟩
 intro _ _
 exact⟨⟨rfl,rfl,rfl,key.len,rfl,rfl,by show(_ ++ [_]).length≤_;rw[gm];exact Nat.le_refl _,key.L9,fun hn hg s hs=>(ku.1 hs).elim (hg s) fun k=>by rw[List.mem_singleton.1 k];exact Fa (z_ hn hi).1 e1⟩,rfl,rfl,rfl,rfl⟩
def tY{R Y:Type}:LT R Y→Prop
 | .ret _=>True
 | .more _=>False
 | .br b t e=>(b=true→tY t)∧(b=false→tY e)
 | .need b t=>b=true∧tY t
 | .eqs _ t=>tY t
 | .and _ _=>False
 | .bad _ _=>False
theorem iJ{R Y:Type}:∀{t:LT R Y},tY t→t.pre=true
 | .ret _,_=>rfl
 | .more _,h=>h.elim
 | .br b t e,h=>by
   cases b with
   | true=>exact iJ (t:=t) (h.1 rfl)
   | false=>exact iJ (t:=e) (h.2 rfl)
 | .need b t,h=>by rw[LT.pre,h.1,iJ (t:=t) h.2];rfl
 | .eqs _ t,h=>iJ (t:=t) h
 | .and _ _,h=>h.elim
 | .bad _ _,h=>h.elim
theorem ER{x:bf}{i:Int}(hi:0≤i∧i<(x.2.2.2.1.length:Int))(hc:x.2.2.2.2.1.length=x.2.2.2.1.length):(wo ah x i).pre=true:=by
 have i1:=dM (l:=x.2.2.2.1) hi
 have i3:=dM (l:=x.2.2.2.2.1) (i:=i) (by omega)
 refine iJ ?_
 unfold wo CU Bb y5
 simp only[tY]
 repeat' first|exact i1|exact i3|exact trivial|rfl|apply And.intro|intro _
theorem J8{x:bf}{w:cH}{i:Int}(h:GH x w)(hi:0≤i∧i<(x.2.2.2.1.length:Int)):(vt ah x w i).pre=true:=by
 obtain⟨z1,z2,z3,z4,z5,z6,z7,z8,z9⟩:=h
 have i1:=dM (l:=w.1) (i:=i) (by omega)
 have i2:=dM (l:=w.2.2.1) (i:=i) (by omega)
 have h541:ah.k Hu (x,i)=true:=ER hi z1
 have hs:(bX (x,i)).1.2.2.1=x.2.2.1:=(fv (ER hi z1) (K0 hi)).s
 have f1:∀(k n:Int) (c:cy),ah.k kY (((),(bX (x,i)).1.2.2.1.2.2.2.2.2.2.2,()),k,n,c)=true:=fun k n c=>vq (by rw[hs];exact z6)
 have f2:∀(k:Int) (c:cy),ah.k wK (((),(bX (x,i)).1.2.2.1.2.2.2.2.2.2.2,()),k,c)=true:=fun k c=>UC (by rw[hs];exact z6)
 refine iJ ?_
 unfold vt y8 Br w8 xq
 simp only[tY]
 repeat' first|exact i1|exact i2|exact h541|exact f1 _ _ _|exact f2 _ _|exact trivial|rfl|apply And.intro|intro _
theorem JH{x:bf}{w:cH}{i:Int}(h:GH x w)(hi:0≤i∧i<(x.2.2.2.1.length:Int)):(wv ah x w i).pre=true:=by
 obtain⟨z1,z2,z3,z4,z5,z6,z7,z8,z9⟩:=h
 have i1:=dM (l:=x.2.2.2.1) hi
 have i2:=dM (l:=w.2.2.2.1) (i:=i) (by omega)
 have i3:=dM (l:=x.2.2.2.2.1) (i:=i) (by omega)
 refine iJ ?_
 unfold wv zy oU sw
 simp only[tY]
 repeat' first|exact i1|exact i2|exact i3|exact trivial|rfl|apply And.intro|intro _
theorem K5{x:bf}{w:cH}{i:Int}(h:GH x w)(hi:0≤i∧i<(x.2.2.2.1.length:Int)):(vg ah x w i).pre=true:=by
 have h543:ah.k H7 ((x,nN w),i)=true:=JH (w:=nN w) h hi
 obtain⟨z1,z2,z3,z4,z5,z6,z7,z8,z9⟩:=h
 have i1:=dM (l:=x.2.2.2.1) hi
 have i2:=dM (l:=w.1) (i:=i) (by omega)
 have i3:=dM (l:=w.2.1) (i:=i) (by omega)
 have f1:∀(k n:Int) (c:cy),ah.k kY (((),x.2.2.1.2.2.2.2.2.2.2,()),k,n,c)=true:=fun k n c=>vq z6
 refine iJ ?_
 unfold vg zX xt mQ su jh
 simp only[tY]
 repeat' first|exact i1|exact i2|exact i3|exact h543|exact f1 _ _ _|exact trivial|rfl|apply And.intro|intro _
theorem JI{m:al}{n:Node}(h:bo m n=0):Ja n=true:=by
 obtain⟨hm,hn⟩:=a_ h
 have h1:=(bT.1 hn).2.2.2.2.2.1
 have h2:=(cY hm).1
 exact aK (by omega)
theorem Ku{x:bf}{w:cH}{i:Int}(h:GH x w)(hi:0≤i∧i<(x.2.2.2.1.length:Int))(hn:j5 x.2.1 x.2.2.2.1):(vQ ah x w i).pre=true:=by
 obtain⟨z1,z2,z3,z4,z5,z6,z7,z8,z9⟩:=h
 have i1:=dM (l:=x.2.2.2.1) hi
 have i2:=dM (l:=w.2.2.2.1) (i:=i) (by omega)
 refine iJ ?_
 unfold vQ Dy A6 CX pT
 refine⟨i2,fun _=>trivial,fun _=>⟨i1,rfl,fun _=>trivial,fun _=>⟨i1,rfl,rfl,i1,fun _=>trivial,fun h1=>⟨i1,fun _=>⟨?_,?_,trivial⟩,fun _=>trivial⟩⟩⟩⟩
 ·exact JI (Fa (z_ hn hi).1 (ne0 h1))
 ·rw[ao,bF,f_,gm]
  exact aK (by simp only[List.length_cons,List.length_nil];omega)
theorem aiu{x:bf}{i:Int}(hi:0≤i∧i<(x.2.2.2.1.length:Int))(hc:x.2.2.2.2.1.length=x.2.2.2.1.length):ja 0 x (bX (x,i)).1:=fv (ER hi hc) (K0 hi)
theorem aii{x:bf}{w:cH}{i:Int}(h:GH x w)(hi:0≤i∧i<(x.2.2.2.1.length:Int)):ja 0 x (xO ((x,w),i)).1.1∧lX w (xO ((x,w),i)).1.2:=fv (J8 h hi) (Vh (aiu hi h.1))
theorem aiO{x:bf}{w:cH}{i:Int}(h:GH x w)(hi:0≤i∧i<(x.2.2.2.1.length:Int)):ja 0 x (iR ((x,w),i)).1.1∧lX w (iR ((x,w),i)).1.2:=fv (JH h hi) (TS hi)
theorem ahO{x:bf}{w:cH}{i:Int}(h:GH x w)(hi:0≤i∧i<(x.2.2.2.1.length:Int)):ja 0 x (uV ((x,w),i)).1.1∧lX w (uV ((x,w),i)).1.2:=fv (K5 h hi) (VA hi ((aiO (w:=nN w) h hi).imp id fun k=>⟨k.was,k.aW,k.off,k.later⟩))
theorem ai9{x:bf}{w:cH}{i:Int}(h:GH x w)(hi:0≤i∧i<(x.2.2.2.1.length:Int))(hn:j5 x.2.1 x.2.2.2.1):ja 1 x (xL ((x,w),i)).1.1∧lX w (xL ((x,w),i)).1.2:=fv (Ku h hi hn) (SV hi)
structure Zb where
 (a0:Int)
structure aaI where
 (b0:Int)
structure tu where
 (c0:Int) (c2:Bool) (c3:al) (c4:fj) (c5 c6 c7 c8:Int) (c9:List Int) (c10 c11 c12:Int) (c13:List Int) (c14:List Node) (yG:List Bool) (c16:List gn) (MI:List Node) (MJ c19 c20:List Bool)
structure Zx where
 (d0:Int)
structure Ye where
 (e0:Int)
inductive xV where
 | c0 (p:Zb) (a1:Int) (a2:Bool) (a3:al) (a4:fj) (a5:Int) (a6:Int) (a7:Int) (a8:Int) (a9:List Int) (cB:Int) (da:Int) (a12:Int) (kE:List Int) (jv:List Node) (lJ:List Bool) (a16:List gn) (a17:List Node) (lK:List Bool) (mh:List Bool) (a20:List Bool)
 | c1 (p:aaI) (b1:Int) (b2:Bool) (b3:al) (b4:fj) (b5:Int) (b6:Int) (b7:Int) (b8:Int) (b9:List Int) (b10:Int) (b11:Int) (b12:Int) (b13:List Int) (iq:List Node) (fe:List Bool) (bI:List gn) (gT:List Node) (nc:List Bool) (j6:List Bool) (mO:List Bool)
 | c2 (p:tu)
 | c3 (p:Zx) (d1:Int) (d2:Bool) (d3:al) (d4:fj) (d5:Int) (d6:Int) (d7:Int) (d8:Int) (d9:List Int) (lN:Int) (l9:Int) (d12:Int) (d13:List Int) (d14:List Node) (iw:List Bool) (jy:List gn) (d17:List Node) (d18:List Bool) (d19:List Bool) (d20:List Bool)
 | c4 (p:Ye) (e1:Int) (e2:Bool) (e3:al) (e4:fj) (e5:Int) (e6:Int) (e7:Int) (e8:Int) (e9:List Int) (e10:Int) (e11:Int) (e12:Int) (e13:List Int) (e14:List Node) (e15:List Bool) (e16:List gn) (e17:List Node) (e18:List Bool) (e19:List Bool) (e20:List Bool)
noncomputable def Zk:xV→eD
 | .c0 p a1 a2 a3 a4 a5 a6 a7 a8 a9 cB da a12 kE jv lJ a16 a17 lK mh a20=>⟨[⟨58,78,(en [(0,.ptr 0 0),(2,.ptr 1 0),(4,.fn 115 [.ptr 0 0] []),(37,.agg [.fn 115 [.ptr 0 0] [],.fn 116 [.ptr 0 0] [],.fn 117 [.ptr 0 0] []]),(38,.int .i64 true 0),(45,vi p.a0),(46,vi a1)]),[.inLoop (cw Tryz.f58 [1,0,1,0,0,1,1,0,0,1,1,0,0]),.inBlock 2,.inBlock 1,.code (cw Tryz.f58 [1,0,1,0,0,1,1,1]),.inLoop (cw Tryz.f58 [1,0,1,0,0]),.inBlock 0,.code (cw Tryz.f58 [1,1])],[],none⟩],[.flat false ([vb a2]++dc aR a3++dc gW a4 ++ [.own 2,.own 3,vi a5,.own 4]),.flat false [.own 5,.own 6,.own 7,.own 8,vi a6,vi a7,vi a8,.sl yU a9,vi cB,vi da,vi a12,.sl yU kE],.arr false aF jv,.arr false .bool lJ,.arr false dN a16,.arr false aF a17,.arr false .bool lK,.arr false .bool mh,.arr false .bool a20,.dead]⟩
 | .c1 p b1 b2 b3 b4 b5 b6 b7 b8 b9 b10 b11 b12 b13 iq fe bI gT nc j6 mO=>⟨[⟨58,78,(en [(0,.ptr 0 0),(2,.ptr 1 0),(4,.fn 116 [.ptr 0 0] []),(37,.agg [.fn 115 [.ptr 0 0] [],.fn 116 [.ptr 0 0] [],.fn 117 [.ptr 0 0] []]),(38,.int .i64 true 1),(45,vi p.b0),(46,vi b1)]),[.inLoop (cw Tryz.f58 [1,0,1,0,0,1,1,0,0,1,1,0,0]),.inBlock 2,.inBlock 1,.code (cw Tryz.f58 [1,0,1,0,0,1,1,1]),.inLoop (cw Tryz.f58 [1,0,1,0,0]),.inBlock 0,.code (cw Tryz.f58 [1,1])],[],none⟩],[.flat false ([vb b2]++dc aR b3++dc gW b4 ++ [.own 2,.own 3,vi b5,.own 4]),.flat false [.own 5,.own 6,.own 7,.own 8,vi b6,vi b7,vi b8,.sl yU b9,vi b10,vi b11,vi b12,.sl yU b13],.arr false aF iq,.arr false .bool fe,.arr false dN bI,.arr false aF gT,.arr false .bool nc,.arr false .bool j6,.arr false .bool mO,.dead]⟩
 | .c2 p=>⟨[⟨58,78,(en [(0,.ptr 0 0),(2,.ptr 1 0),(4,.fn 117 [.ptr 0 0] []),(37,.agg [.fn 115 [.ptr 0 0] [],.fn 116 [.ptr 0 0] [],.fn 117 [.ptr 0 0] []]),(38,.int .i64 true 2),(45,vi p.c0),(46,vi 0)]),[.inLoop (cw Tryz.f58 [1,0,1,0,0,1,1,0,0,1,1,0,0]),.inBlock 2,.inBlock 1,.code (cw Tryz.f58 [1,0,1,0,0,1,1,1]),.inLoop (cw Tryz.f58 [1,0,1,0,0]),.inBlock 0,.code (cw Tryz.f58 [1,1])],[],none⟩],[.flat false ([vb p.c2]++dc aR p.c3++dc gW p.c4 ++ [.own 2,.own 3,vi p.c5,.own 4]),.flat false [.own 5,.own 6,.own 7,.own 8,vi p.c6,vi p.c7,vi p.c8,.sl yU p.c9,vi p.c10,vi p.c11,vi p.c12,.sl yU p.c13],.arr false aF p.c14,.arr false .bool p.yG,.arr false dN p.c16,.arr false aF p.MI,.arr false .bool p.MJ,.arr false .bool p.c19,.arr false .bool p.c20,.dead]⟩
 | .c3 p d1 d2 d3 d4 d5 d6 d7 d8 d9 lN l9 d12 d13 d14 iw jy d17 d18 d19 d20=>⟨[⟨58,78,(en [(0,.ptr 0 0),(2,.ptr 1 0),(4,.fn 117 [.ptr 0 0] []),(37,.agg [.fn 115 [.ptr 0 0] [],.fn 116 [.ptr 0 0] [],.fn 117 [.ptr 0 0] []]),(38,.int .i64 true 2),(45,vi p.d0),(46,vi d1)]),[.inLoop (cw Tryz.f58 [1,0,1,0,0,1,1,0,0,1,1,0,0]),.inBlock 2,.inBlock 1,.code (cw Tryz.f58 [1,0,1,0,0,1,1,1]),.inLoop (cw Tryz.f58 [1,0,1,0,0]),.inBlock 0,.code (cw Tryz.f58 [1,1])],[],none⟩],[.flat false ([vb d2]++dc aR d3++dc gW d4 ++ [.own 2,.own 3,vi d5,.own 4]),.flat true [.own 5,.own 6,.own 7,.own 8,vi d6,vi d7,vi d8,.sl yU d9,vi lN,vi l9,vi d12,.sl yU d13],.arr false aF d14,.arr false .bool iw,.arr false dN jy,.arr false aF d17,.arr false .bool d18,.arr false .bool d19,.arr false .bool d20,.dead]⟩
 | .c4 p e1 e2 e3 e4 e5 e6 e7 e8 e9 e10 e11 e12 e13 e14 e15 e16 e17 e18 e19 e20=>⟨[⟨58,78,(en [(0,.ptr 0 0),(2,.ptr 1 0),(62,vi p.e0),(63,vi e1)]),[.inLoop (cw Tryz.f58 [1,1,1,0,1,0,0]),.inBlock 4,.code (cw Tryz.f58 [1,1,1,1])],[],none⟩],[.flat false ([vb e2]++dc aR e3++dc gW e4 ++ [.own 2,.own 3,vi e5,.own 4]),.flat true [.own 5,.own 6,.own 7,.own 8,vi e6,vi e7,vi e8,.sl yU e9,vi e10,vi e11,vi e12,.sl yU e13],.arr false aF e14,.arr false .bool e15,.arr false dN e16,.arr false aF e17,.arr false .bool e18,.arr false .bool e19,.arr false .bool e20,.dead]⟩
abbrev xn(A:aI)(x2:bf):LT (bf×Unit) xV:=(.more (.c0 ⟨(A.l x2.2.2.2.1)⟩ 0 x2.1 x2.2.1 x2.2.2.1 x2.2.2.2.2.2.1 0 0 0 ([]:List Int) 0 0 0 ([]:List Int) x2.2.2.2.1 x2.2.2.2.2.1 x2.2.2.2.2.2.2 x2.2.2.2.1 x2.2.2.2.2.1 (A.r (A.l x2.2.2.2.1) false) (A.r (A.l x2.2.2.2.1) false)))
abbrev pY(A:aI)(x2:bf):=(A.and (A.c .eql (A.l x2.2.2.2.1) (A.l x2.2.2.2.1)) (A.and (A.c .leq 0 (A.l x2.2.2.2.1)) (A.c .leq (A.l x2.2.2.2.1) 140737488355328)))
abbrev M_(A:aI)(x2:bf):LT (bf×Unit) xV:=(.need (pY A x2) (.and (.need (A.c .neq (A.l x2.2.2.2.1) 0) (.need (A.not (A.c .eql (A.l x2.2.2.2.1) 0)) (.need (A.c .leq (A.l x2.2.2.2.1) 676622540169) (.and (.need (A.c .neq (A.l x2.2.2.2.2.1) 0) (.need (A.not (A.c .eql (A.l x2.2.2.2.2.1) 0)) (.need (A.c .leq (A.l x2.2.2.2.2.1) 140737488355328) (.need (pY A x2) (xn A x2))))) (.need (pY A x2) (.need (A.c .neq (A.l x2.2.2.2.2.1) 0) (.need (A.not (A.c .eql (A.l x2.2.2.2.2.1) 0)) (.need (A.c .leq (A.l x2.2.2.2.2.1) 140737488355328) (xn A x2))))))))) (.need (pY A x2) (.need (A.c .neq (A.l x2.2.2.2.1) 0) (.need (A.not (A.c .eql (A.l x2.2.2.2.1) 0)) (.need (A.c .leq (A.l x2.2.2.2.1) 676622540169) (.need (A.c .neq (A.l x2.2.2.2.2.1) 0) (.need (A.not (A.c .eql (A.l x2.2.2.2.2.1) 0)) (.need (A.c .leq (A.l x2.2.2.2.2.1) 140737488355328) (xn A x2))))))))))
abbrev QU(A:aI)(x2:bf):LT (bf×Unit) xV:=(.need (pY A x2) (.and (.need (A.c .neq (A.l x2.2.2.2.2.1) 0) (.need (A.not (A.c .eql (A.l x2.2.2.2.2.1) 0)) (.need (A.c .leq (A.l x2.2.2.2.2.1) 140737488355328) (.need (pY A x2) (xn A x2))))) (.need (pY A x2) (.need (A.c .neq (A.l x2.2.2.2.2.1) 0) (.need (A.not (A.c .eql (A.l x2.2.2.2.2.1) 0)) (.need (A.c .leq (A.l x2.2.2.2.2.1) 140737488355328) (xn A x2)))))))
def Y3(A:aI)(x2:bf):LT (bf×Unit) xV:=.and (.need (A.c .neq (A.l x2.2.2.2.1) 0) (.need (A.not (A.c .eql (A.l x2.2.2.2.1) 0)) (.need (A.c .leq (A.l x2.2.2.2.1) 676622540169) (.and (.need (A.c .neq (A.l x2.2.2.2.2.1) 0) (.need (A.not (A.c .eql (A.l x2.2.2.2.2.1) 0)) (.need (A.c .leq (A.l x2.2.2.2.2.1) 140737488355328) (.and (.need (pY A x2) (.need (pY A x2) (xn A x2))) (.need (pY A x2) (.need (pY A x2) (xn A x2))))))) (.and (QU A x2) (QU A x2)))))) (.and (M_ A x2) (M_ A x2))
abbrev eP(A:aI)(a1:Int)(a2:Bool)(a3:al)(a4:fj)(a5:Int)(a6:Int)(a7:Int)(a8:Int)(a9:List Int)(cB:Int)(da:Int)(a12:Int)(kE:List Int)(jv:List Node)(lJ:List Bool)(a16:List gn)(a17:List Node)(lK:List Bool)(mh:List Bool)(a20:List Bool):=(A.k CG (((a2,a3,a4,jv,lJ,a5,a16),a17,lK,mh,a20,([(a6,a7,a8,a9),(cB,da,a12,kE)]:List Seen)),a1))
abbrev eT(A:aI)(b1:Int)(b2:Bool)(b3:al)(b4:fj)(b5:Int)(b6:Int)(b7:Int)(b8:Int)(b9:List Int)(b10:Int)(b11:Int)(b12:Int)(b13:List Int)(iq:List Node)(fe:List Bool)(bI:List gn)(gT:List Node)(nc:List Bool)(j6:List Bool)(mO:List Bool):=(A.k xO (((b2,b3,b4,iq,fe,b5,bI),gT,nc,j6,mO,([(b6,b7,b8,b9),(b10,b11,b12,b13)]:List Seen)),b1))
abbrev gY(A:aI)(p:tu):=(A.k yN (((p.c2,p.c3,p.c4,p.c14,p.yG,p.c5,p.c16),p.MI,p.MJ,p.c19,p.c20,([(p.c6,p.c7,p.c8,p.c9),(p.c10,p.c11,p.c12,p.c13)]:List Seen)),()))
abbrev iH(A:aI)(p:tu):=(A.k uV (((p.c2,p.c3,p.c4,p.c14,p.yG,p.c5,p.c16),p.MI,p.MJ,p.c19,p.c20,([(p.c6,p.c7,p.c8,p.c9),(p.c10,p.c11,p.c12,p.c13)]:List Seen)),0))
abbrev yk(A:aI)(p:tu):=(A.n aG (iH A p).1.2.2.2.2.2 0:Seen)
abbrev yz(A:aI)(p:tu):=(A.n aG (iH A p).1.2.2.2.2.2 1:Seen)
abbrev yx(A:aI)(p:tu):=(A.n aG (gY A p).1.2.2.2.2.2 0:Seen)
abbrev yt(A:aI)(p:tu):=(A.n aG (gY A p).1.2.2.2.2.2 1:Seen)
abbrev dX(A:aI)(d2:Bool)(d3:al)(d4:fj)(d5:Int)(d6:Int)(d7:Int)(d8:Int)(d9:List Int)(lN:Int)(l9:Int)(d12:Int)(d13:List Int)(d14:List Node)(iw:List Bool)(jy:List gn)(d17:List Node)(d18:List Bool)(d19:List Bool)(d20:List Bool):=(A.k yN (((d2,d3,d4,d14,iw,d5,jy),d17,d18,d19,d20,([(d6,d7,d8,d9),(lN,l9,d12,d13)]:List Seen)),()))
abbrev eQ(A:aI)(d1:Int)(d2:Bool)(d3:al)(d4:fj)(d5:Int)(d6:Int)(d7:Int)(d8:Int)(d9:List Int)(lN:Int)(l9:Int)(d12:Int)(d13:List Int)(d14:List Node)(iw:List Bool)(jy:List gn)(d17:List Node)(d18:List Bool)(d19:List Bool)(d20:List Bool):=(A.k uV (((d2,d3,d4,d14,iw,d5,jy),d17,d18,d19,d20,([(d6,d7,d8,d9),(lN,l9,d12,d13)]:List Seen)),d1))
abbrev eO(A:aI)(e1:Int)(e2:Bool)(e3:al)(e4:fj)(e5:Int)(e6:Int)(e7:Int)(e8:Int)(e9:List Int)(e10:Int)(e11:Int)(e12:Int)(e13:List Int)(e14:List Node)(e15:List Bool)(e16:List gn)(e17:List Node)(e18:List Bool)(e19:List Bool)(e20:List Bool):=(A.k xL (((e2,e3,e4,e14,e15,e5,e16),e17,e18,e19,e20,([(e6,e7,e8,e9),(e10,e11,e12,e13)]:List Seen)),e1))
def s6(A:aI):xV→LT (bf×Unit) xV
 | .c0 p a1 a2 a3 a4 a5 a6 a7 a8 a9 cB da a12 kE jv lJ a16 a17 lK mh a20=>.br (A.c .lss a1 p.a0) (.need (A.k EU (((a2,a3,a4,jv,lJ,a5,a16),a17,lK,mh,a20,([(a6,a7,a8,a9),(cB,da,a12,kE)]:List Seen)),a1)) (.more (.c0 p (A.b .add .i64 a1 1) (eP A a1 a2 a3 a4 a5 a6 a7 a8 a9 cB da a12 kE jv lJ a16 a17 lK mh a20).1.1.1 (eP A a1 a2 a3 a4 a5 a6 a7 a8 a9 cB da a12 kE jv lJ a16 a17 lK mh a20).1.1.2.1 (eP A a1 a2 a3 a4 a5 a6 a7 a8 a9 cB da a12 kE jv lJ a16 a17 lK mh a20).1.1.2.2.1 (eP A a1 a2 a3 a4 a5 a6 a7 a8 a9 cB da a12 kE jv lJ a16 a17 lK mh a20).1.1.2.2.2.2.2.1 (A.n aG (eP A a1 a2 a3 a4 a5 a6 a7 a8 a9 cB da a12 kE jv lJ a16 a17 lK mh a20).1.2.2.2.2.2 0:Seen).1 (A.n aG (eP A a1 a2 a3 a4 a5 a6 a7 a8 a9 cB da a12 kE jv lJ a16 a17 lK mh a20).1.2.2.2.2.2 0:Seen).2.1 (A.n aG (eP A a1 a2 a3 a4 a5 a6 a7 a8 a9 cB da a12 kE jv lJ a16 a17 lK mh a20).1.2.2.2.2.2 0:Seen).2.2.1 (A.n aG (eP A a1 a2 a3 a4 a5 a6 a7 a8 a9 cB da a12 kE jv lJ a16 a17 lK mh a20).1.2.2.2.2.2 0:Seen).2.2.2 (A.n aG (eP A a1 a2 a3 a4 a5 a6 a7 a8 a9 cB da a12 kE jv lJ a16 a17 lK mh a20).1.2.2.2.2.2 1:Seen).1 (A.n aG (eP A a1 a2 a3 a4 a5 a6 a7 a8 a9 cB da a12 kE jv lJ a16 a17 lK mh a20).1.2.2.2.2.2 1:Seen).2.1 (A.n aG (eP A a1 a2 a3 a4 a5 a6 a7 a8 a9 cB da a12 kE jv lJ a16 a17 lK mh a20).1.2.2.2.2.2 1:Seen).2.2.1 (A.n aG (eP A a1 a2 a3 a4 a5 a6 a7 a8 a9 cB da a12 kE jv lJ a16 a17 lK mh a20).1.2.2.2.2.2 1:Seen).2.2.2 (eP A a1 a2 a3 a4 a5 a6 a7 a8 a9 cB da a12 kE jv lJ a16 a17 lK mh a20).1.1.2.2.2.1 (eP A a1 a2 a3 a4 a5 a6 a7 a8 a9 cB da a12 kE jv lJ a16 a17 lK mh a20).1.1.2.2.2.2.1 (eP A a1 a2 a3 a4 a5 a6 a7 a8 a9 cB da a12 kE jv lJ a16 a17 lK mh a20).1.1.2.2.2.2.2.2 (eP A a1 a2 a3 a4 a5 a6 a7 a8 a9 cB da a12 kE jv lJ a16 a17 lK mh a20).1.2.1 (eP A a1 a2 a3 a4 a5 a6 a7 a8 a9 cB da a12 kE jv lJ a16 a17 lK mh a20).1.2.2.1 (eP A a1 a2 a3 a4 a5 a6 a7 a8 a9 cB da a12 kE jv lJ a16 a17 lK mh a20).1.2.2.2.1 (eP A a1 a2 a3 a4 a5 a6 a7 a8 a9 cB da a12 kE jv lJ a16 a17 lK mh a20).1.2.2.2.2.1))) (.more (.c1 ⟨(A.l jv)⟩ 0 a2 a3 a4 a5 a6 a7 a8 a9 cB da a12 kE jv lJ a16 a17 lK mh a20))
 | .c1 p b1 b2 b3 b4 b5 b6 b7 b8 b9 b10 b11 b12 b13 iq fe bI gT nc j6 mO=>.br (A.c .lss b1 p.b0) (.need (A.k E0 (((b2,b3,b4,iq,fe,b5,bI),gT,nc,j6,mO,([(b6,b7,b8,b9),(b10,b11,b12,b13)]:List Seen)),b1)) (.more (.c1 p (A.b .add .i64 b1 1) (eT A b1 b2 b3 b4 b5 b6 b7 b8 b9 b10 b11 b12 b13 iq fe bI gT nc j6 mO).1.1.1 (eT A b1 b2 b3 b4 b5 b6 b7 b8 b9 b10 b11 b12 b13 iq fe bI gT nc j6 mO).1.1.2.1 (eT A b1 b2 b3 b4 b5 b6 b7 b8 b9 b10 b11 b12 b13 iq fe bI gT nc j6 mO).1.1.2.2.1 (eT A b1 b2 b3 b4 b5 b6 b7 b8 b9 b10 b11 b12 b13 iq fe bI gT nc j6 mO).1.1.2.2.2.2.2.1 (A.n aG (eT A b1 b2 b3 b4 b5 b6 b7 b8 b9 b10 b11 b12 b13 iq fe bI gT nc j6 mO).1.2.2.2.2.2 0:Seen).1 (A.n aG (eT A b1 b2 b3 b4 b5 b6 b7 b8 b9 b10 b11 b12 b13 iq fe bI gT nc j6 mO).1.2.2.2.2.2 0:Seen).2.1 (A.n aG (eT A b1 b2 b3 b4 b5 b6 b7 b8 b9 b10 b11 b12 b13 iq fe bI gT nc j6 mO).1.2.2.2.2.2 0:Seen).2.2.1 (A.n aG (eT A b1 b2 b3 b4 b5 b6 b7 b8 b9 b10 b11 b12 b13 iq fe bI gT nc j6 mO).1.2.2.2.2.2 0:Seen).2.2.2 (A.n aG (eT A b1 b2 b3 b4 b5 b6 b7 b8 b9 b10 b11 b12 b13 iq fe bI gT nc j6 mO).1.2.2.2.2.2 1:Seen).1 (A.n aG (eT A b1 b2 b3 b4 b5 b6 b7 b8 b9 b10 b11 b12 b13 iq fe bI gT nc j6 mO).1.2.2.2.2.2 1:Seen).2.1 (A.n aG (eT A b1 b2 b3 b4 b5 b6 b7 b8 b9 b10 b11 b12 b13 iq fe bI gT nc j6 mO).1.2.2.2.2.2 1:Seen).2.2.1 (A.n aG (eT A b1 b2 b3 b4 b5 b6 b7 b8 b9 b10 b11 b12 b13 iq fe bI gT nc j6 mO).1.2.2.2.2.2 1:Seen).2.2.2 (eT A b1 b2 b3 b4 b5 b6 b7 b8 b9 b10 b11 b12 b13 iq fe bI gT nc j6 mO).1.1.2.2.2.1 (eT A b1 b2 b3 b4 b5 b6 b7 b8 b9 b10 b11 b12 b13 iq fe bI gT nc j6 mO).1.1.2.2.2.2.1 (eT A b1 b2 b3 b4 b5 b6 b7 b8 b9 b10 b11 b12 b13 iq fe bI gT nc j6 mO).1.1.2.2.2.2.2.2 (eT A b1 b2 b3 b4 b5 b6 b7 b8 b9 b10 b11 b12 b13 iq fe bI gT nc j6 mO).1.2.1 (eT A b1 b2 b3 b4 b5 b6 b7 b8 b9 b10 b11 b12 b13 iq fe bI gT nc j6 mO).1.2.2.1 (eT A b1 b2 b3 b4 b5 b6 b7 b8 b9 b10 b11 b12 b13 iq fe bI gT nc j6 mO).1.2.2.2.1 (eT A b1 b2 b3 b4 b5 b6 b7 b8 b9 b10 b11 b12 b13 iq fe bI gT nc j6 mO).1.2.2.2.2.1))) (.more (.c2 ⟨(A.l iq),b2,b3,b4,b5,b6,b7,b8,b9,b10,b11,b12,b13,iq,fe,bI,gT,nc,j6,mO⟩))
 | .c2 p=>.br (A.c .lss 0 p.c0) (.need (A.k wU (((p.c2,p.c3,p.c4,p.c14,p.yG,p.c5,p.c16),p.MI,p.MJ,p.c19,p.c20,([(p.c6,p.c7,p.c8,p.c9),(p.c10,p.c11,p.c12,p.c13)]:List Seen)),0)) (.more (.c3 ⟨p.c0⟩ (A.b .add .i64 0 1) (iH A p).1.1.1 (iH A p).1.1.2.1 (iH A p).1.1.2.2.1 (iH A p).1.1.2.2.2.2.2.1 (yk A p).1 (yk A p).2.1 (yk A p).2.2.1 (yk A p).2.2.2 (yz A p).1 (yz A p).2.1 (yz A p).2.2.1 (yz A p).2.2.2 (iH A p).1.1.2.2.2.1 (iH A p).1.1.2.2.2.2.1 (iH A p).1.1.2.2.2.2.2.2 (iH A p).1.2.1 (iH A p).1.2.2.1 (iH A p).1.2.2.2.1 (iH A p).1.2.2.2.2.1))) (.need (A.k wO (((p.c2,p.c3,p.c4,p.c14,p.yG,p.c5,p.c16),p.MI,p.MJ,p.c19,p.c20,([(p.c6,p.c7,p.c8,p.c9),(p.c10,p.c11,p.c12,p.c13)]:List Seen)),())) (.more (.c4 ⟨(A.l (gY A p).1.1.2.2.2.1)⟩ 0 (gY A p).1.1.1 (gY A p).1.1.2.1 (gY A p).1.1.2.2.1 (gY A p).1.1.2.2.2.2.2.1 (yx A p).1 (yx A p).2.1 (yx A p).2.2.1 (yx A p).2.2.2 (yt A p).1 (yt A p).2.1 (yt A p).2.2.1 (yt A p).2.2.2 (gY A p).1.1.2.2.2.1 (gY A p).1.1.2.2.2.2.1 (gY A p).1.1.2.2.2.2.2.2 (gY A p).1.2.1 (gY A p).1.2.2.1 (gY A p).1.2.2.2.1 (gY A p).1.2.2.2.2.1)))
 | .c3 p d1 d2 d3 d4 d5 d6 d7 d8 d9 lN l9 d12 d13 d14 iw jy d17 d18 d19 d20=>.br (A.c .lss d1 p.d0) (.need (A.k wU (((d2,d3,d4,d14,iw,d5,jy),d17,d18,d19,d20,([(d6,d7,d8,d9),(lN,l9,d12,d13)]:List Seen)),d1)) (.more (.c3 p (A.b .add .i64 d1 1) (eQ A d1 d2 d3 d4 d5 d6 d7 d8 d9 lN l9 d12 d13 d14 iw jy d17 d18 d19 d20).1.1.1 (eQ A d1 d2 d3 d4 d5 d6 d7 d8 d9 lN l9 d12 d13 d14 iw jy d17 d18 d19 d20).1.1.2.1 (eQ A d1 d2 d3 d4 d5 d6 d7 d8 d9 lN l9 d12 d13 d14 iw jy d17 d18 d19 d20).1.1.2.2.1 (eQ A d1 d2 d3 d4 d5 d6 d7 d8 d9 lN l9 d12 d13 d14 iw jy d17 d18 d19 d20).1.1.2.2.2.2.2.1 (A.n aG (eQ A d1 d2 d3 d4 d5 d6 d7 d8 d9 lN l9 d12 d13 d14 iw jy d17 d18 d19 d20).1.2.2.2.2.2 0:Seen).1 (A.n aG (eQ A d1 d2 d3 d4 d5 d6 d7 d8 d9 lN l9 d12 d13 d14 iw jy d17 d18 d19 d20).1.2.2.2.2.2 0:Seen).2.1 (A.n aG (eQ A d1 d2 d3 d4 d5 d6 d7 d8 d9 lN l9 d12 d13 d14 iw jy d17 d18 d19 d20).1.2.2.2.2.2 0:Seen).2.2.1 (A.n aG (eQ A d1 d2 d3 d4 d5 d6 d7 d8 d9 lN l9 d12 d13 d14 iw jy d17 d18 d19 d20).1.2.2.2.2.2 0:Seen).2.2.2 (A.n aG (eQ A d1 d2 d3 d4 d5 d6 d7 d8 d9 lN l9 d12 d13 d14 iw jy d17 d18 d19 d20).1.2.2.2.2.2 1:Seen).1 (A.n aG (eQ A d1 d2 d3 d4 d5 d6 d7 d8 d9 lN l9 d12 d13 d14 iw jy d17 d18 d19 d20).1.2.2.2.2.2 1:Seen).2.1 (A.n aG (eQ A d1 d2 d3 d4 d5 d6 d7 d8 d9 lN l9 d12 d13 d14 iw jy d17 d18 d19 d20).1.2.2.2.2.2 1:Seen).2.2.1 (A.n aG (eQ A d1 d2 d3 d4 d5 d6 d7 d8 d9 lN l9 d12 d13 d14 iw jy d17 d18 d19 d20).1.2.2.2.2.2 1:Seen).2.2.2 (eQ A d1 d2 d3 d4 d5 d6 d7 d8 d9 lN l9 d12 d13 d14 iw jy d17 d18 d19 d20).1.1.2.2.2.1 (eQ A d1 d2 d3 d4 d5 d6 d7 d8 d9 lN l9 d12 d13 d14 iw jy d17 d18 d19 d20).1.1.2.2.2.2.1 (eQ A d1 d2 d3 d4 d5 d6 d7 d8 d9 lN l9 d12 d13 d14 iw jy d17 d18 d19 d20).1.1.2.2.2.2.2.2 (eQ A d1 d2 d3 d4 d5 d6 d7 d8 d9 lN l9 d12 d13 d14 iw jy d17 d18 d19 d20).1.2.1 (eQ A d1 d2 d3 d4 d5 d6 d7 d8 d9 lN l9 d12 d13 d14 iw jy d17 d18 d19 d20).1.2.2.1 (eQ A d1 d2 d3 d4 d5 d6 d7 d8 d9 lN l9 d12 d13 d14 iw jy d17 d18 d19 d20).1.2.2.2.1 (eQ A d1 d2 d3 d4 d5 d6 d7 d8 d9 lN l9 d12 d13 d14 iw jy d17 d18 d19 d20).1.2.2.2.2.1))) (.need (A.k wO (((d2,d3,d4,d14,iw,d5,jy),d17,d18,d19,d20,([(d6,d7,d8,d9),(lN,l9,d12,d13)]:List Seen)),())) (.more (.c4 ⟨(A.l (dX A d2 d3 d4 d5 d6 d7 d8 d9 lN l9 d12 d13 d14 iw jy d17 d18 d19 d20).1.1.2.2.2.1)⟩ 0 (dX A d2 d3 d4 d5 d6 d7 d8 d9 lN l9 d12 d13 d14 iw jy d17 d18 d19 d20).1.1.1 (dX A d2 d3 d4 d5 d6 d7 d8 d9 lN l9 d12 d13 d14 iw jy d17 d18 d19 d20).1.1.2.1 (dX A d2 d3 d4 d5 d6 d7 d8 d9 lN l9 d12 d13 d14 iw jy d17 d18 d19 d20).1.1.2.2.1 (dX A d2 d3 d4 d5 d6 d7 d8 d9 lN l9 d12 d13 d14 iw jy d17 d18 d19 d20).1.1.2.2.2.2.2.1 (A.n aG (dX A d2 d3 d4 d5 d6 d7 d8 d9 lN l9 d12 d13 d14 iw jy d17 d18 d19 d20).1.2.2.2.2.2 0:Seen).1 (A.n aG (dX A d2 d3 d4 d5 d6 d7 d8 d9 lN l9 d12 d13 d14 iw jy d17 d18 d19 d20).1.2.2.2.2.2 0:Seen).2.1 (A.n aG (dX A d2 d3 d4 d5 d6 d7 d8 d9 lN l9 d12 d13 d14 iw jy d17 d18 d19 d20).1.2.2.2.2.2 0:Seen).2.2.1 (A.n aG (dX A d2 d3 d4 d5 d6 d7 d8 d9 lN l9 d12 d13 d14 iw jy d17 d18 d19 d20).1.2.2.2.2.2 0:Seen).2.2.2 (A.n aG (dX A d2 d3 d4 d5 d6 d7 d8 d9 lN l9 d12 d13 d14 iw jy d17 d18 d19 d20).1.2.2.2.2.2 1:Seen).1 (A.n aG (dX A d2 d3 d4 d5 d6 d7 d8 d9 lN l9 d12 d13 d14 iw jy d17 d18 d19 d20).1.2.2.2.2.2 1:Seen).2.1 (A.n aG (dX A d2 d3 d4 d5 d6 d7 d8 d9 lN l9 d12 d13 d14 iw jy d17 d18 d19 d20).1.2.2.2.2.2 1:Seen).2.2.1 (A.n aG (dX A d2 d3 d4 d5 d6 d7 d8 d9 lN l9 d12 d13 d14 iw jy d17 d18 d19 d20).1.2.2.2.2.2 1:Seen).2.2.2 (dX A d2 d3 d4 d5 d6 d7 d8 d9 lN l9 d12 d13 d14 iw jy d17 d18 d19 d20).1.1.2.2.2.1 (dX A d2 d3 d4 d5 d6 d7 d8 d9 lN l9 d12 d13 d14 iw jy d17 d18 d19 d20).1.1.2.2.2.2.1 (dX A d2 d3 d4 d5 d6 d7 d8 d9 lN l9 d12 d13 d14 iw jy d17 d18 d19 d20).1.1.2.2.2.2.2.2 (dX A d2 d3 d4 d5 d6 d7 d8 d9 lN l9 d12 d13 d14 iw jy d17 d18 d19 d20).1.2.1 (dX A d2 d3 d4 d5 d6 d7 d8 d9 lN l9 d12 d13 d14 iw jy d17 d18 d19 d20).1.2.2.1 (dX A d2 d3 d4 d5 d6 d7 d8 d9 lN l9 d12 d13 d14 iw jy d17 d18 d19 d20).1.2.2.2.1 (dX A d2 d3 d4 d5 d6 d7 d8 d9 lN l9 d12 d13 d14 iw jy d17 d18 d19 d20).1.2.2.2.2.1)))
 | .c4 p e1 e2 e3 e4 e5 e6 e7 e8 e9 e10 e11 e12 e13 e14 e15 e16 e17 e18 e19 e20=>.br (A.c .lss e1 p.e0) (.need (A.k E5 (((e2,e3,e4,e14,e15,e5,e16),e17,e18,e19,e20,([(e6,e7,e8,e9),(e10,e11,e12,e13)]:List Seen)),e1)) (.more (.c4 p (A.b .add .i64 e1 1) (eO A e1 e2 e3 e4 e5 e6 e7 e8 e9 e10 e11 e12 e13 e14 e15 e16 e17 e18 e19 e20).1.1.1 (eO A e1 e2 e3 e4 e5 e6 e7 e8 e9 e10 e11 e12 e13 e14 e15 e16 e17 e18 e19 e20).1.1.2.1 (eO A e1 e2 e3 e4 e5 e6 e7 e8 e9 e10 e11 e12 e13 e14 e15 e16 e17 e18 e19 e20).1.1.2.2.1 (eO A e1 e2 e3 e4 e5 e6 e7 e8 e9 e10 e11 e12 e13 e14 e15 e16 e17 e18 e19 e20).1.1.2.2.2.2.2.1 (A.n aG (eO A e1 e2 e3 e4 e5 e6 e7 e8 e9 e10 e11 e12 e13 e14 e15 e16 e17 e18 e19 e20).1.2.2.2.2.2 0:Seen).1 (A.n aG (eO A e1 e2 e3 e4 e5 e6 e7 e8 e9 e10 e11 e12 e13 e14 e15 e16 e17 e18 e19 e20).1.2.2.2.2.2 0:Seen).2.1 (A.n aG (eO A e1 e2 e3 e4 e5 e6 e7 e8 e9 e10 e11 e12 e13 e14 e15 e16 e17 e18 e19 e20).1.2.2.2.2.2 0:Seen).2.2.1 (A.n aG (eO A e1 e2 e3 e4 e5 e6 e7 e8 e9 e10 e11 e12 e13 e14 e15 e16 e17 e18 e19 e20).1.2.2.2.2.2 0:Seen).2.2.2 (A.n aG (eO A e1 e2 e3 e4 e5 e6 e7 e8 e9 e10 e11 e12 e13 e14 e15 e16 e17 e18 e19 e20).1.2.2.2.2.2 1:Seen).1 (A.n aG (eO A e1 e2 e3 e4 e5 e6 e7 e8 e9 e10 e11 e12 e13 e14 e15 e16 e17 e18 e19 e20).1.2.2.2.2.2 1:Seen).2.1 (A.n aG (eO A e1 e2 e3 e4 e5 e6 e7 e8 e9 e10 e11 e12 e13 e14 e15 e16 e17 e18 e19 e20).1.2.2.2.2.2 1:Seen).2.2.1 (A.n aG (eO A e1 e2 e3 e4 e5 e6 e7 e8 e9 e10 e11 e12 e13 e14 e15 e16 e17 e18 e19 e20).1.2.2.2.2.2 1:Seen).2.2.2 (eO A e1 e2 e3 e4 e5 e6 e7 e8 e9 e10 e11 e12 e13 e14 e15 e16 e17 e18 e19 e20).1.1.2.2.2.1 (eO A e1 e2 e3 e4 e5 e6 e7 e8 e9 e10 e11 e12 e13 e14 e15 e16 e17 e18 e19 e20).1.1.2.2.2.2.1 (eO A e1 e2 e3 e4 e5 e6 e7 e8 e9 e10 e11 e12 e13 e14 e15 e16 e17 e18 e19 e20).1.1.2.2.2.2.2.2 (eO A e1 e2 e3 e4 e5 e6 e7 e8 e9 e10 e11 e12 e13 e14 e15 e16 e17 e18 e19 e20).1.2.1 (eO A e1 e2 e3 e4 e5 e6 e7 e8 e9 e10 e11 e12 e13 e14 e15 e16 e17 e18 e19 e20).1.2.2.1 (eO A e1 e2 e3 e4 e5 e6 e7 e8 e9 e10 e11 e12 e13 e14 e15 e16 e17 e18 e19 e20).1.2.2.2.1 (eO A e1 e2 e3 e4 e5 e6 e7 e8 e9 e10 e11 e12 e13 e14 e15 e16 e17 e18 e19 e20).1.2.2.2.2.1))) (.ret ((e2,e3,e4,e14,e15,(A.b .add .i64 e5 1),e16),()))
def gA(i:Int)(s:bf×cH):bf×cH:=(CG ((s.1,nN s.2),i)).1
def gB(i:Int)(s:bf×cH):bf×cH:=(xO ((s.1,nN s.2),i)).1
def gC(i:Int)(s:bf×cH):bf×cH:=(uV ((s.1,nN s.2),i)).1
def gD(s:bf×cH):bf×cH:=(yN ((s.1,nN s.2),())).1
def gE(i:Int)(s:bf×cH):bf×cH:=(xL ((s.1,nN s.2),i)).1
def kx(s:bf×cH):Nat:=s.1.2.2.2.1.length
def im(x:bf):cH:=(x.2.2.2.1,x.2.2.2.2.1,List.replicate x.2.2.2.1.length false,List.replicate x.2.2.2.1.length false, [(0,0,0,([]:List Int)),(0,0,0,([]:List Int))])
def Fj(s:bf×cH):bf:=(s.1.1,s.1.2.1,s.1.2.2.1,s.1.2.2.2.1,s.1.2.2.2.2.1,ah.b .add .i64 s.1.2.2.2.2.2.1 1,s.1.2.2.2.2.2.2)
def rD(s:bf×cH):bf:=Fj (nC gE (kx (gD s)) 0 (gD s))
def rC(s:bf×cH):bf:=rD (nC gC (kx s) 0 s)
def rB(s:bf×cH):bf:=rC (nC gB (kx s) 0 s)
def nt(x:bf):bf:=rB (nC gA x.2.2.2.1.length 0 (x,im x))
def mkA(n i:Int)(s:bf×cH):xV:=.c0 ⟨n⟩ i s.1.1 s.1.2.1 s.1.2.2.1 s.1.2.2.2.2.2.1 (ah.n aG s.2.2.2.2.2 0:Seen).1 (ah.n aG s.2.2.2.2.2 0:Seen).2.1 (ah.n aG s.2.2.2.2.2 0:Seen).2.2.1 (ah.n aG s.2.2.2.2.2 0:Seen).2.2.2 (ah.n aG s.2.2.2.2.2 1:Seen).1 (ah.n aG s.2.2.2.2.2 1:Seen).2.1 (ah.n aG s.2.2.2.2.2 1:Seen).2.2.1 (ah.n aG s.2.2.2.2.2 1:Seen).2.2.2 s.1.2.2.2.1 s.1.2.2.2.2.1 s.1.2.2.2.2.2.2 s.2.1 s.2.2.1 s.2.2.2.1 s.2.2.2.2.1
def mkB(n i:Int)(s:bf×cH):xV:=.c1 ⟨n⟩ i s.1.1 s.1.2.1 s.1.2.2.1 s.1.2.2.2.2.2.1 (ah.n aG s.2.2.2.2.2 0:Seen).1 (ah.n aG s.2.2.2.2.2 0:Seen).2.1 (ah.n aG s.2.2.2.2.2 0:Seen).2.2.1 (ah.n aG s.2.2.2.2.2 0:Seen).2.2.2 (ah.n aG s.2.2.2.2.2 1:Seen).1 (ah.n aG s.2.2.2.2.2 1:Seen).2.1 (ah.n aG s.2.2.2.2.2 1:Seen).2.2.1 (ah.n aG s.2.2.2.2.2 1:Seen).2.2.2 s.1.2.2.2.1 s.1.2.2.2.2.1 s.1.2.2.2.2.2.2 s.2.1 s.2.2.1 s.2.2.2.1 s.2.2.2.2.1
def mkC(n:Int)(s:bf×cH):xV:=.c2 ⟨n,s.1.1,s.1.2.1,s.1.2.2.1,s.1.2.2.2.2.2.1,(ah.n aG s.2.2.2.2.2 0:Seen).1,(ah.n aG s.2.2.2.2.2 0:Seen).2.1,(ah.n aG s.2.2.2.2.2 0:Seen).2.2.1,(ah.n aG s.2.2.2.2.2 0:Seen).2.2.2,(ah.n aG s.2.2.2.2.2 1:Seen).1,(ah.n aG s.2.2.2.2.2 1:Seen).2.1,(ah.n aG s.2.2.2.2.2 1:Seen).2.2.1,(ah.n aG s.2.2.2.2.2 1:Seen).2.2.2,s.1.2.2.2.1,s.1.2.2.2.2.1,s.1.2.2.2.2.2.2,s.2.1,s.2.2.1,s.2.2.2.1,s.2.2.2.2.1⟩
def mkD(n i:Int)(s:bf×cH):xV:=.c3 ⟨n⟩ i s.1.1 s.1.2.1 s.1.2.2.1 s.1.2.2.2.2.2.1 (ah.n aG s.2.2.2.2.2 0:Seen).1 (ah.n aG s.2.2.2.2.2 0:Seen).2.1 (ah.n aG s.2.2.2.2.2 0:Seen).2.2.1 (ah.n aG s.2.2.2.2.2 0:Seen).2.2.2 (ah.n aG s.2.2.2.2.2 1:Seen).1 (ah.n aG s.2.2.2.2.2 1:Seen).2.1 (ah.n aG s.2.2.2.2.2 1:Seen).2.2.1 (ah.n aG s.2.2.2.2.2 1:Seen).2.2.2 s.1.2.2.2.1 s.1.2.2.2.2.1 s.1.2.2.2.2.2.2 s.2.1 s.2.2.1 s.2.2.2.1 s.2.2.2.2.1
def mkE(n i:Int)(s:bf×cH):xV:=.c4 ⟨n⟩ i s.1.1 s.1.2.1 s.1.2.2.1 s.1.2.2.2.2.2.1 (ah.n aG s.2.2.2.2.2 0:Seen).1 (ah.n aG s.2.2.2.2.2 0:Seen).2.1 (ah.n aG s.2.2.2.2.2 0:Seen).2.2.1 (ah.n aG s.2.2.2.2.2 0:Seen).2.2.2 (ah.n aG s.2.2.2.2.2 1:Seen).1 (ah.n aG s.2.2.2.2.2 1:Seen).2.1 (ah.n aG s.2.2.2.2.2 1:Seen).2.2.1 (ah.n aG s.2.2.2.2.2 1:Seen).2.2.2 s.1.2.2.2.1 s.1.2.2.2.2.1 s.1.2.2.2.2.2.2 s.2.1 s.2.2.1 s.2.2.2.1 s.2.2.2.2.1
theorem phA{N:Nat}{Q:bf×cH→Prop}(hN:N≤1000)(hQ:∀(i:Nat) s,i<N→Q s→ah.k EU ((s.1,nN s.2),(i:Int))=true∧Q (gA i s))(hT:∀s,Q s→au (s6 ah) (.more (mkB (kx s:Int) 0 s)) (rB s,())) :
  ∀(j i:Nat) (s:bf×cH),N-i=j→i≤N→Q s→au (s6 ah) (.more (mkA (N:Int) (i:Int) s)) (rB (nC gA j i s),()):=by
 intro j
 induction j with
 | zero=>
   intro i s hj hi hs
   have:i=N:=by omega
   subst this
   exact ak.2 ((ai (by rw[aC];simp)).2 (hT s hs))
 | succ j ih=>
   intro i s hj hi hs
   obtain⟨h1,h2⟩:=hQ i s (by omega) hs
   refine ak.2 ((aj (by rw[aC];exact aK (by omega))).2 (af.2 ⟨h1,?_⟩))
   have:=ih (i+1) (gA i s) (by omega) (by omega) h2
   rw[bU (i:=i) (by omega)]
   exact this
theorem phB{N:Nat}{Q:bf×cH→Prop}(hN:N≤1000)(hQ:∀(i:Nat) s,i<N→Q s→ah.k E0 ((s.1,nN s.2),(i:Int))=true∧Q (gB i s))(hT:∀s,Q s→au (s6 ah) (.more (mkC (kx s:Int) s)) (rC s,())) :
  ∀(j i:Nat) (s:bf×cH),N-i=j→i≤N→Q s→au (s6 ah) (.more (mkB (N:Int) (i:Int) s)) (rC (nC gB j i s),()):=by
 intro j
 induction j with
 | zero=>
   intro i s hj hi hs
   have:i=N:=by omega
   subst this
   exact ak.2 ((ai (by rw[aC];simp)).2 (hT s hs))
 | succ j ih=>
   intro i s hj hi hs
   obtain⟨h1,h2⟩:=hQ i s (by omega) hs
   refine ak.2 ((aj (by rw[aC];exact aK (by omega))).2 (af.2 ⟨h1,?_⟩))
   have:=ih (i+1) (gB i s) (by omega) (by omega) h2
   rw[bU (i:=i) (by omega)]
   exact this
theorem phD{N:Nat}{Q:bf×cH→Prop}(hN:N≤1000)(hQ:∀(i:Nat) s,i<N→Q s→ah.k wU ((s.1,nN s.2),(i:Int))=true∧Q (gC i s))(hP:∀s,Q s→ah.k wO ((s.1,nN s.2),())=true)(hT:∀s,Q s→au (s6 ah) (.more (mkE (kx (gD s):Int) 0 (gD s))) (rD s,())) :
  ∀(j i:Nat) (s:bf×cH),N-i=j→i≤N→Q s→au (s6 ah) (.more (mkD (N:Int) (i:Int) s)) (rD (nC gC j i s),()):=by
 intro j
 induction j with
 | zero=>
   intro i s hj hi hs
   have:i=N:=by omega
   subst this
   exact ak.2 ((ai (by rw[aC];simp)).2 (af.2 ⟨hP s hs,hT s hs⟩))
 | succ j ih=>
   intro i s hj hi hs
   obtain⟨h1,h2⟩:=hQ i s (by omega) hs
   refine ak.2 ((aj (by rw[aC];exact aK (by omega))).2 (af.2 ⟨h1,?_⟩))
   have:=ih (i+1) (gC i s) (by omega) (by omega) h2
   rw[bU (i:=i) (by omega)]
   exact this
theorem phE{N:Nat}{Q:bf×cH→Nat→Prop}(hN:N≤1000)(hQ:∀(i:Nat) s,i<N→Q s i→ah.k E5 ((s.1,nN s.2),(i:Int))=true∧Q (gE i s) (i+1)) :
  ∀(j i:Nat) (s:bf×cH),N-i=j→i≤N→Q s i→au (s6 ah) (.more (mkE (N:Int) (i:Int) s)) (Fj (nC gE j i s),()):=by
 intro j
 induction j with
 | zero=>
   intro i s hj hi hs
   have:i=N:=by omega
   subst this
   exact ak.2 ((ai (by rw[aC];simp)).2 (.ret _))
 | succ j ih=>
   intro i s hj hi hs
   obtain⟨h1,h2⟩:=hQ i s (by omega) hs
   refine ak.2 ((aj (by rw[aC];exact aK (by omega))).2 (af.2 ⟨h1,?_⟩))
   have:=ih (i+1) (gE i s) (by omega) (by omega) h2
   rw[bU (i:=i) (by omega)]
   exact this
theorem phC{N:Nat}{Q:bf×cH→Prop}(hN:N≤1000)(h1:1≤N)(hl:∀s,Q s→kx s=N)(hQ:∀(i:Nat) s,i<N→Q s→ah.k wU ((s.1,nN s.2),(i:Int))=true∧Q (gC i s))(hP:∀s,Q s→ah.k wO ((s.1,nN s.2),())=true)(hT:∀s,Q s→au (s6 ah) (.more (mkE (kx (gD s):Int) 0 (gD s))) (rD s,()))
  {s:bf×cH} (hs:Q s):au (s6 ah) (.more (mkC (kx s:Int) s)) (rC s,()):=by
 obtain⟨h2,h3⟩:=hQ 0 s (by omega) hs
 rw[rC,hl s hs]
 obtain⟨k,rfl⟩:∃k,N=k+1:=⟨N-1,by omega⟩
 refine ak.2 ((aj (by show ah.c .lss ((0:Nat):Int) ((k+1:Nat):Int)=true;rw[aC];exact aK (by omega))).2 (af.2 ⟨h2,?_⟩))
 exact phD hN hQ hP hT k 1 (gC ((0:Nat):Int) s) (by omega) (by omega) h3
def Xt(m:al)(l:List Node):Bool:=(List.range l.length).all fun i=>decide (bo m (iQ l (i:Int))=0∧(iQ l (i:Int)).1=(i:Int))
theorem Ps{m:al}{l:List Node}:Xt m l=true↔j5 m l:=by
 unfold Xt
 rw[List.all_eq_true]
 refine⟨fun h i n hi=>?_,fun h i hi=>aK (z_ h ⟨by omega,by have:=List.mem_range.1 hi;omega⟩)⟩
 obtain⟨hl,he⟩:=List.getElem?_eq_some_iff.1 hi
 have:=of_decide_eq_true (h i (List.mem_range.2 hl))
 rw[show iQ l (i:Int)=l[i] from getD_in hl _,he] at this
 exact this
structure V2(x:bf):Prop where
 L9:j5 x.2.1 x.2.2.2.1
 rest:x.2.2.2.2.1.length=x.2.2.2.1.length∧1≤x.2.2.2.1.length∧x.2.2.2.1.length≤1000∧x.2.2.1.2.2.2.2.2.2.2.length≤1000000∧x.2.2.1.2.2.2.2.2.2.1.length≤1000000∧x.2.2.2.2.2.2.length+x.2.2.2.1.length≤1000000
def X_(x:bf):Bool:=Xt x.2.1 x.2.2.2.1&&decide (x.2.2.2.2.1.length=x.2.2.2.1.length∧1≤x.2.2.2.1.length∧x.2.2.2.1.length≤1000∧x.2.2.1.2.2.2.2.2.2.2.length≤1000000∧x.2.2.1.2.2.2.2.2.2.1.length≤1000000∧x.2.2.2.2.2.2.length+x.2.2.2.1.length≤1000000)
theorem G5{x:bf}:X_ x=true↔V2 x:=by
 unfold X_
 rw[cd,Ps,jV]
 exact⟨fun h=>⟨h.1,h.2⟩,fun h=>⟨h.L9,h.rest⟩⟩
theorem G0{x:bf}(h:V2 x){s:bf×cH}{k:Nat}(h1:ja k x s.1)(h2:lX (im x) s.2)(hk:k≤x.2.2.2.1.length):GH s.1 (nN s.2):=by
 obtain⟨a,b,c,d,e,f⟩:=h.rest
 have l1:=h1.len
 have l2:=h1.aW
 have l3:=h1.r7
 have l4:s.2.1.length=x.2.2.2.1.length:=by rw[h2.was];rfl
 have l5:s.2.2.1.length=x.2.2.2.2.1.length:=by rw[h2.aW];rfl
 have l6:s.2.2.2.1.length=x.2.2.2.1.length:=h2.off.trans pQ
 have l7:s.2.2.2.2.1.length=x.2.2.2.1.length:=h2.later.trans pQ
 refine⟨by omega,by show s.2.1.length=_;omega,by show s.2.2.1.length=_;omega,by show s.2.2.2.1.length=_;omega,by show s.2.2.2.2.1.length=_;omega,by rw[h1.s];exact d,by rw[h1.s];exact e,by omega,by omega⟩
theorem aaG{m:al}{l:List Node}(h:j5 m l):Rz l=true:=List.all_eq_true.2 fun n hn=>by
 obtain⟨i,hi⟩:=List.getElem?_of_mem hn
 have:=(h i n hi).2
 have:=(List.getElem?_eq_some_iff.1 hi).1
 exact aK (by omega)
structure Stp(x x':bf):Prop where
 made:x'.1=x.1
 m:x'.2.1=x.2.1
 s:x'.2.2.1=x.2.2.1
 len:x'.2.2.2.1.length=x.2.2.2.1.length
 aW:x'.2.2.2.2.1.length=x.2.2.2.2.1.length
 slot:x'.2.2.2.2.2.1=ah.b .add .i64 x.2.2.2.2.2.1 1
 r7:x'.2.2.2.2.2.2.length≤x.2.2.2.2.2.2.length+x.2.2.2.1.length
 L9:j5 x.2.1 x'.2.2.2.1
 Qz:CJ x→CJ x'
theorem um{α:Type}{f:Int→α→α}{Q:α→Nat→Prop}{N:Nat}(h:∀(i:Nat) s,i<N→Q s i→Q (f i s) (i+1)):∀(j i:Nat) (s:α),i+j=N→Q s i→Q (nC f j i s) N:=by
 intro j
 induction j with
 | zero=>intro i s hi hs;rw[show i=N by omega] at hs;exact hs
 | succ j ih=>intro i s hi hs;exact ih (i+1) _ (by omega) (h i s (by omega) hs)
section
variable {x:bf} (h:V2 x)
include h
theorem qA(i:Nat)(s:bf×cH)(hi:i<x.2.2.2.1.length)(hs:ja 0 x s.1∧lX (im x) s.2):ah.k EU ((s.1,nN s.2),(i:Int))=true∧(ja 0 x (gA i s).1∧lX (im x) (gA i s).2):=by
 have hz:=G0 h hs.1 hs.2 (Nat.zero_le _)
 have hi':0≤(i:Int)∧(i:Int)<(s.1.2.2.2.1.length:Int):=⟨by omega,by rw[hs.1.len];omega⟩
 obtain⟨a,b⟩:=Sx (w:=nN s.2) hi'
 exact⟨aK ⟨hz,hi'⟩,hs.1.trans a,hs.2.trans b.th⟩
theorem qB(i:Nat)(s:bf×cH)(hi:i<x.2.2.2.1.length)(hs:ja 0 x s.1∧lX (im x) s.2):ah.k E0 ((s.1,nN s.2),(i:Int))=true∧(ja 0 x (gB i s).1∧lX (im x) (gB i s).2):=by
 have hz:=G0 h hs.1 hs.2 (Nat.zero_le _)
 have hi':0≤(i:Int)∧(i:Int)<(s.1.2.2.2.1.length:Int):=⟨by omega,by rw[hs.1.len];omega⟩
 obtain⟨a,b⟩:=aii hz hi'
 exact⟨J8 hz hi',hs.1.trans a,hs.2.trans b.th⟩
theorem qC(i:Nat)(s:bf×cH)(hi:i<x.2.2.2.1.length)(hs:ja 0 x s.1∧lX (im x) s.2):ah.k wU ((s.1,nN s.2),(i:Int))=true∧(ja 0 x (gC i s).1∧lX (im x) (gC i s).2):=by
 have hz:=G0 h hs.1 hs.2 (Nat.zero_le _)
 have hi':0≤(i:Int)∧(i:Int)<(s.1.2.2.2.1.length:Int):=⟨by omega,by rw[hs.1.len];omega⟩
 obtain⟨a,b⟩:=ahO hz hi'
 exact⟨K5 hz hi',hs.1.trans a,hs.2.trans b.th⟩
theorem Jg{s:bf×cH}{k:Nat}(h1:ja k x s.1):j5 s.1.2.1 s.1.2.2.2.1:=by rw[h1.m];exact h1.L9 h.L9
theorem qP(s:bf×cH)(hs:ja 0 x s.1∧lX (im x) s.2):ah.k wO ((s.1,nN s.2),())=true∧(ja 0 x (gD s).1∧lX (im x) (gD s).2):=by
 have hz:=G0 h hs.1 hs.2 (Nat.zero_le _)
 obtain⟨a,b⟩:=No (x:=s.1) (w:=nN s.2)
 refine⟨?_,hs.1.trans a,hs.2.trans b.th⟩
 show(decide (GH s.1 (nN s.2))&&Rz s.1.2.2.2.1)=true
 rw[aK hz,aaG (Jg h hs.1)];rfl
theorem qE(i:Nat)(s:bf×cH)(hi:i<x.2.2.2.1.length)(hs:ja i x s.1∧lX (im x) s.2):ah.k E5 ((s.1,nN s.2),(i:Int))=true∧(ja (i+1) x (gE i s).1∧lX (im x) (gE i s).2):=by
 have hz:=G0 h hs.1 hs.2 (by omega)
 have hi':0≤(i:Int)∧(i:Int)<(s.1.2.2.2.1.length:Int):=⟨by omega,by rw[hs.1.len];omega⟩
 obtain⟨a,b⟩:=ai9 hz hi' (Jg h hs.1)
 exact⟨Ku hz hi' (Jg h hs.1),hs.1.trans a,hs.2.trans b.th⟩
theorem step1:au (s6 ah) (Y3 ah x) (nt x,()):=by
 obtain⟨a,b,c,d,e,f⟩:=h.rest
 have hlen:∀s:bf×cH,(ja 0 x s.1∧lX (im x) s.2)→kx s=x.2.2.2.1.length:=fun s hs=>hs.1.len
 have tE:∀s:bf×cH,(ja 0 x s.1∧lX (im x) s.2)→au (s6 ah) (.more (mkE (kx (gD s):Int) 0 (gD s))) (rD s,()):=fun s hs=>by
  have hd:=(qP h s hs).2
  rw[rD,hlen _ hd]
  exact phE (Q:=fun s k=>ja k x s.1∧lX (im x) s.2) c (fun i s hi hs=>qE h i s hi hs) _ 0 _ (by omega) (by omega) hd
 have tC:∀s:bf×cH,(ja 0 x s.1∧lX (im x) s.2)→au (s6 ah) (.more (mkC (kx s:Int) s)) (rC s,()):=fun s hs=>
  phC (Q:=fun s=>ja 0 x s.1∧lX (im x) s.2) c b hlen (fun i s hi hs=>qC h i s hi hs) (fun s hs=>(qP h s hs).1) tE hs
 have tB:∀s:bf×cH,(ja 0 x s.1∧lX (im x) s.2)→au (s6 ah) (.more (mkB (kx s:Int) 0 s)) (rB s,()):=fun s hs=>by
  rw[rB,hlen s hs]
  exact phB (Q:=fun s=>ja 0 x s.1∧lX (im x) s.2) c (fun i s hi hs=>qB h i s hi hs) tC _ 0 s (by omega) (by omega) hs
 have base:au (s6 ah) (.more (mkA (x.2.2.2.1.length:Int) 0 (x,im x))) (nt x,()):=
  phA (Q:=fun s=>ja 0 x s.1∧lX (im x) s.2) c (fun i s hi hs=>qA h i s hi hs) tB _ 0 (x,im x) (by omega) (by omega) ⟨.refl,.refl⟩
 have n1:ah.c .neq (ah.l x.2.2.2.1) 0=true:=by rw[aT,bF];exact bne_iff_ne.2 (by omega)
 have n2:ah.not (ah.c .eql (ah.l x.2.2.2.1) 0)=true:=by rw[eY,aD,bF,beq_eq_false_iff_ne.2 (by omega)];rfl
 have n3:ah.c .leq (ah.l x.2.2.2.1) 676622540169=true:=by rw[ao,bF];exact aK (by omega)
 have n4:ah.c .neq (ah.l x.2.2.2.2.1) 0=true:=by rw[aT,bF];exact bne_iff_ne.2 (by omega)
 have n5:ah.not (ah.c .eql (ah.l x.2.2.2.2.1) 0)=true:=by rw[eY,aD,bF,beq_eq_false_iff_ne.2 (by omega)];rfl
 have n6:ah.c .leq (ah.l x.2.2.2.2.1) 140737488355328=true:=by rw[ao,bF];exact aK (by omega)
 have n7:ah.and (ah.c .eql (ah.l x.2.2.2.1) (ah.l x.2.2.2.1)) (ah.and (ah.c .leq 0 (ah.l x.2.2.2.1)) (ah.c .leq (ah.l x.2.2.2.1) 140737488355328))=true:=by
  rw[bF,aD,ao,ao,aJ,aJ];simp;omega
 unfold Y3 QU M_ pY xn
 repeat' first|exact base|apply au.and|refine af.2 ⟨n1,?_⟩|refine af.2 ⟨n2,?_⟩|refine af.2 ⟨n3,?_⟩|refine af.2 ⟨n4,?_⟩|refine af.2 ⟨n5,?_⟩|refine af.2 ⟨n6,?_⟩|refine af.2 ⟨n7,?_⟩
theorem zq:Stp x (nt x):=by
 have hs0:ja 0 x (x,im x).1∧lX (im x) (x,im x).2:=⟨.refl,.refl⟩
 have hA:=um (f:=gA) (Q:=fun s _=>ja 0 x s.1∧lX (im x) s.2) (N:=x.2.2.2.1.length) (fun i s hi hs=>(qA h i s hi hs).2) _ 0 (x,im x) (Nat.zero_add _) hs0
 have hB:=um (f:=gB) (Q:=fun s _=>ja 0 x s.1∧lX (im x) s.2) (N:=x.2.2.2.1.length) (fun i s hi hs=>(qB h i s hi hs).2) _ 0 _ (Nat.zero_add _) hA
 have hC:=um (f:=gC) (Q:=fun s _=>ja 0 x s.1∧lX (im x) s.2) (N:=x.2.2.2.1.length) (fun i s hi hs=>(qC h i s hi hs).2) _ 0 _ (Nat.zero_add _) hB
 have hD:=(qP h _ hC).2
 have hE:=um (f:=gE) (Q:=fun s k=>ja k x s.1∧lX (im x) s.2) (N:=x.2.2.2.1.length) (fun i s hi hs=>(qE h i s hi hs).2) _ 0 _ (Nat.zero_add _) hD
 have e:nt x=Fj (nC gE x.2.2.2.1.length 0 (gD (nC gC x.2.2.2.1.length 0 (nC gB x.2.2.2.1.length 0 (nC gA x.2.2.2.1.length 0 (x,im x)))))):=by
  show Fj (nC gE (kx (gD (nC gC (kx (nC gB (kx (nC gA _ 0 _)) 0 _)) 0 _))) 0 _)=_
  have l1:kx (nC gA x.2.2.2.1.length 0 (x,im x))=x.2.2.2.1.length:=hA.1.len
  rw[l1]
  have l2:kx (nC gB x.2.2.2.1.length 0 (nC gA x.2.2.2.1.length 0 (x,im x)))=x.2.2.2.1.length:=hB.1.len
  rw[l2]
  have l3:kx (gD (nC gC x.2.2.2.1.length 0 (nC gB x.2.2.2.1.length 0 (nC gA x.2.2.2.1.length 0 (x,im x)))))=x.2.2.2.1.length:=hD.1.len
  rw[l3]
 rw[e]
 obtain⟨k,_⟩:=hE
 exact⟨k.made,k.m,k.s,k.len,k.aW,by show ah.b .add .i64 _ 1=_;rw[k.slot],k.r7,k.L9 h.L9,fun hg=>by rw[CJ,show(Fj _).2.1=x.2.1 from k.m];exact k.Qz h.L9 hg⟩
end
def uR:bf×Unit→bf×Unit:=fun(x,_)=>(nt x,())
def Jp:bf×Unit→Bool:=fun(x,_)=>X_ x
def afU:bL:=⟨[.ptr [.d .bool,.d aR,.d gW,.own aF,.own .bool,.d yI,.own dN]], [], [],Jp,uR,false⟩
theorem aeI:bL.Sound Tryz.prog 58 afU:=Ct ap bR 117 iz (mc ahv (mc agZ (mc agy (mc aeP (mc aeG mz))))) pz [⟨58,5, [[0,2,4,37,45,46,65574]]⟩,⟨58,12, [[0,2,62,63]]⟩,⟨113,1000007, []⟩,⟨114,1000007, []⟩] [] (fun A (x2,())=>Y3 A x2) s6 Zk (fc Tryz.func58 (fc Tryz.func113 (fc Tryz.func114 fz))) sz (fun A y=>match y with |.c0 p a1 a2 a3 a4 a5 a6 a7 a8 a9 cB da a12 kE jv lJ a16 a17 lK mh a20=>⟨44,by kernel_rfl,by kernel_rfl⟩|.c1 p b1 b2 b3 b4 b5 b6 b7 b8 b9 b10 b11 b12 b13 iq fe bI gT nc j6 mO=>⟨44,by kernel_rfl,by kernel_rfl⟩|.c2 p=>⟨44,by kernel_rfl,by kernel_rfl⟩|.c3 p d1 d2 d3 d4 d5 d6 d7 d8 d9 lN l9 d12 d13 d14 iw jy d17 d18 d19 d20=>⟨44,by kernel_rfl,by kernel_rfl⟩|.c4 p e1 e2 e3 e4 e5 e6 e7 e8 e9 e10 e11 e12 e13 e14 e15 e16 e17 e18 e19 e20=>⟨31,by kernel_rfl,by kernel_rfl⟩) fun((x2,()):bf×Unit) hp hv h=>step1 (G5.1 hp)
def Od(a b:Int):Int:=bif decide (a<b) then -1 else bif decide (b<a) then 1 else 0
def Zg:List Int→Int
 | []=>0
 | a::l=>bif decide (a=0) then Zg l else a
def aat(A:aI)(x2:Int):LT Bool Empty:=.ret (A.c .neq x2 x2)
def Fo:Int→Bool:=fun x2=>(aat ah x2).val (Ty.bi [.bool])
def Wl:ax:=⟨[yI], [.bool],(@tt Int),Fo⟩
theorem adM:ax.jD Tryz.prog 206 Wl∧Sd 206 Wl:=mD ap bR true 17 [] [] (fun A x2=>aat A x2) (fun _=>Empty.elim) Empty.elim (fc Tryz.func206 fz) szD (fun _ y=>y.elim) fun(x2:Int) hp h=>LT.runs (d:=Ty.bi [.bool]) (LT.gg (by kernel_rfl)) (by
 show(aat ah x2).pre=true
 rfl)
def abN(A:aI)(x2:Int)(y2:Int):LT Int Empty:=.need (A.k (@tt Int) x2) (.need (A.k (@tt Int) y2) (.br (A.k Fo x2) (.br (A.k Fo y2) (.ret 0) (.ret (-1))) (.br (A.k Fo y2) (.ret 1) (.br (A.c .lss x2 y2) (.ret (-1)) (.br (A.c .gtr x2 y2) (.ret 1) (.ret 0))))))
theorem Nj{x:Int}:ah.k Fo x=false:=by
 show ah.c .neq x x=false
 rw[aU];exact aX fun h=>h rfl
theorem aiM{a b:Int}:au Empty.elim (abN ah a b) (Od a b):=by
 unfold abN
 refine af.2 ⟨rfl,af.2 ⟨rfl,(ai Nj).2 ((ai Nj).2 ?_)⟩⟩
 unfold Od
 by_cases h1:a<b
 ·rw[aK h1];exact(aj (by rw[ar];exact aK h1)).2 (.ret _)
 ·rw[aX h1]
  refine(ai (by rw[ar];exact aX h1)).2 ?_
  by_cases h2:b<a
  ·rw[aK h2];exact(aj (show ah.c .gtr a b=true from aK h2)).2 (.ret _)
  ·rw[aX h2];exact(ai (show ah.c .gtr a b=false from aX h2)).2 (.ret _)
def jb:(Int×Int)→Int:=fun(a,b)=>Od a b
def OZ:ax:=⟨[yI,yI], [yI],(@tt (Int×Int)),jb⟩
theorem W7:ax.jD Tryz.prog 138 OZ∧Sd 138 OZ:=mD ap bR true 58 [] [] (fun A (x2,y2)=>abN A x2 y2) (fun _=>Empty.elim) Empty.elim (fc Tryz.func138 fz) (scD adM szD) (fun _ y=>y.elim) fun(x2,y2) hp h=>aiM
theorem agt:Sd 138 OZ:=W7.2
structure Ow where
 (a1:List Int) (a2:Int)
inductive Ui where
 | c0 (p:Ow) (a3:Int)
noncomputable def YD:Ui→eD
 | .c0 p a3=>⟨[⟨137,18,(en [(3,vi 0),(6,.sl yI p.a1),(7,vi p.a2),(8,vi a3)]),[.inLoop (cw Tryz.f137 [1,1,0,1,0,0]),.inBlock 0,.code (cw Tryz.f137 [1,1,1])],[],none⟩],[.dead]⟩
def af0(A:aI)(vals:List Int):LT Int Ui:=.more (.c0 ⟨vals,(A.l vals)⟩ 0)
def RP(A:aI):Ui→LT Int Ui
 | .c0 p a3=>.br (A.c .lss a3 p.a2) (.need (A.and (A.c .leq 0 a3) (A.c .lss a3 (A.l p.a1))) (.br (A.c .neq (A.n yI p.a1 a3:Int) 0) (.ret (A.n yI p.a1 a3:Int)) (.more (.c0 p (A.b .add .i64 a3 1))))) (.ret 0)
theorem Ti{p:Ow}{l:List Int}(h0:p.a1=l)(h1:p.a2=(l.length:Int))(hl:l.length≤140737488355328) :
  ∀(j i:Nat),l.length-i=j→i≤l.length→au (RP ah) (.more (.c0 p (i:Int))) (Zg (l.drop i)):=by
 intro j
 induction j with
 | zero=>
   intro i hj hi
   have:i=l.length:=by omega
   subst this
   rw[ak,RP,h1,List.drop_length]
   exact(ai (by rw[ar];simp)).2 (.ret _)
 | succ j ih=>
   intro i hj hi
   have hi':i<l.length:=by omega
   have nx:=ih (i+1) (by omega) (by omega)
   rw[ak,RP,h0,h1]
   refine(aj (by rw[ar];exact aK (by omega))).2 (af.2 ⟨aO hi',?_⟩)
   rw[show(ah.n yI l (i:Int):Int)=l[i] from getD_in hi' _,pV hi',Zg,bU (i:=i) (by omega)]
   by_cases h:l[i]=0
   ·rw[aK h]
    exact(ai (by rw[aU];exact aX fun k=>k h)).2 nx
   ·rw[aX h]
    exact(aj (by rw[aU];exact aK h)).2 (.ret _)
theorem or1{l:List Int}(h:Ty.cN [.slice (.int .i64)] l):au (RP ah) (af0 ah l) (Zg l):=
 Ti (l:=l) rfl rfl h.1 l.length 0 rfl (by omega)
def Sn:(List Int)→Int:=fun l=>Zg l
def RA:ax:=⟨[DG], [yI],(@tt (List Int)),Sn⟩
theorem Wn:ax.jD Tryz.prog 137 RA∧Sd 137 RA:=mD ap bR true 23 [⟨137,3, [[3,6,7,8]]⟩] [] (fun A vals=>af0 A vals) RP YD (fc Tryz.func137 fz) szD (fun A y=>match y with |.c0 p a3=>⟨34,by kernel_rfl,by kernel_rfl⟩) fun vals hp h=>or1 h
theorem abW:Sd 137 RA:=Wn.2
def aaP(A:aI)(a:aM)(b:aM):LT Int Empty:=.need (A.k (@tt (Int×Int)) (a.2.2.2.1,b.2.2.2.1)) (.need (A.k (@tt (Int×Int)) (a.2.2.2.2.1,b.2.2.2.2.1)) (.need (A.k (@tt (Int×Int)) (a.1,b.1)) (.need (A.k (@tt (Int×Int)) (a.2.1,b.2.1)) (.need (A.k (@tt (Int×Int)) (a.2.2.1,b.2.2.1)) (.need (A.k (@tt (Int×Int)) (a.2.2.2.2.2.1,b.2.2.2.2.2.1)) (.need (A.k (@tt (Int×Int)) (a.2.2.2.2.2.2,b.2.2.2.2.2.2)) (.need (A.k (@tt (List Int)) [(A.k jb (a.2.2.2.1,b.2.2.2.1)),(A.k jb (a.2.2.2.2.1,b.2.2.2.2.1)),(A.k jb (a.1,b.1)),(A.k jb (a.2.1,b.2.1)),(A.k jb (a.2.2.1,b.2.2.1)),(A.k jb (a.2.2.2.2.2.1,b.2.2.2.2.2.1)),(A.k jb (a.2.2.2.2.2.2,b.2.2.2.2.2.2))]) (.ret (A.k Sn [(A.k jb (a.2.2.2.1,b.2.2.2.1)),(A.k jb (a.2.2.2.2.1,b.2.2.2.2.1)),(A.k jb (a.1,b.1)),(A.k jb (a.2.1,b.2.1)),(A.k jb (a.2.2.1,b.2.2.1)),(A.k jb (a.2.2.2.2.2.1,b.2.2.2.2.2.1)),(A.k jb (a.2.2.2.2.2.2,b.2.2.2.2.2.2))])))))))))
def NL:(aM×aM)→Int:=fun(a,b)=>(aaP ah a b).val (Ty.bi [yI])
def V9:ax:=⟨[aQ,aQ], [yI],(@tt (aM×aM)),NL⟩
theorem acK:ax.jD Tryz.prog 202 V9∧Sd 202 V9:=mD ap bR true 53 [] [] (fun A (a,b)=>aaP A a b) (fun _=>Empty.elim) Empty.elim (fc Tryz.func202 fz) (scD Wn (scD W7 szD)) (fun _ y=>y.elim) fun((a,b):aM×aM) hp h=>LT.runs (d:=Ty.bi [yI]) (LT.gg (by kernel_rfl)) (by
 show(aaP ah a b).pre=true
 rfl)
section
open Go.Sort
theorem xJ(w:World)(b:Nat)(f:Array Value→Array Value)(b':Nat):(mapBlock w b f).heap[b']? = if b=b' then w.heap[b']?.map (onCells f) else w.heap[b']? :=by
 unfold mapBlock
 simp[Array.getElem?_modify]
variable {α:Type} [Inhabited α] {enc:α→List Value} {k:Nat}
theorem qD{w:World}{b off n:Nat}{d:Array α}{os:Array Obj}{b':Nat}(h:b'<w.heap.size)(hne:b'≠b):(sortWorldK enc k w b off n d os).heap[b']? = w.heap[b']? :=by
 show((mapBlock (Sort.ahead w n) b (Sort.putCells id off (flatK enc k d))).heap++os)[b']? = _
 rw[Array.getElem?_append_left (by simpa [mapBlock,Sort.ahead] using h),xJ,if_neg (Ne.symm hne)]
 rfl
theorem y7{w:World}{b off n:Nat}{d:Array α}{os:Array Obj}{vs:Array Value}{T:TypeId}{fr:Nat×Nat}(h:w.heap[b]? = some (.cells vs T fr)) :
  (sortWorldK enc k w b off n d os).heap[b]? = some (.cells (Sort.putCells id off (flatK enc k d) vs) T fr):=by
 have hlt:=(Array.getElem?_eq_some_iff.1 h).1
 show((mapBlock (Sort.ahead w n) b (Sort.putCells id off (flatK enc k d))).heap++os)[b]? = _
 rw[Array.getElem?_append_left (by simpa [mapBlock,Sort.ahead] using hlt),xJ,if_pos rfl]
 show(w.heap[b]?).map _=_
 rw[h];rfl
theorem wE{off:Nat}{F vs:Array Value}:(Sort.putCells id off F vs).size=vs.size:=by simp[Sort.putCells]
theorem SX{off j:Nat}{F vs:Array Value}(h1:off≤j)(h2:j<off+F.size)(h3:j<vs.size):(Sort.putCells id off F vs).toList[j]? = some F[j-off]! :=by
 have h4:j<(Sort.putCells id off F vs).size:=by rw[wE];exact h3
 rw[Array.getElem?_toList,Array.getElem?_eq_getElem h4]
 congr 1
 simp only[Sort.putCells,Array.getElem_mapIdx]
 rw[if_pos ⟨h1,h2⟩];rfl
theorem KW{d:Array α}{i r:Nat}(hi:i<d.size)(hr:r<k):(flatK enc k d)[i*k+r]! = (enc d[i]!)[r]! :=by
 have h1:(i*k+r)/k=i:=by rw[Nat.mul_comm,Nat.mul_add_div (by omega),Nat.div_eq_of_lt hr,Nat.add_zero]
 have h2:(i*k+r)%k=r:=by rw[Nat.mul_comm,Nat.mul_add_mod,Nat.mod_eq_of_lt hr]
 have h3:i*k+r<d.size*k:=by
  have:=Nat.mul_le_mul_right k (show i+1≤d.size from hi)
  rw[Nat.add_mul,Nat.one_mul] at this;omega
 rw[get_flatK _ _ _ _ h3,h1,h2]
theorem LW(hk:∀x,(enc x).length=k){d:Array α}{vs:Array Value}{off:Nat}(h:off+d.size*k≤vs.size){i:Nat}(hi:i<d.size) :
  ((Sort.putCells id off (flatK enc k d) vs).toList.drop (off+i*k)).take k=enc d[i]! :=by
 have h3:i*k+k≤d.size*k:=by
  have:=Nat.mul_le_mul_right k (show i+1≤d.size from hi)
  rwa [Nat.add_mul,Nat.one_mul] at this
 apply List.ext_getElem?
 intro r
 by_cases hr:r<k
 ·rw[List.getElem?_take_of_lt hr,List.getElem?_drop,SX (by omega) (by rw[size_flatK];omega) (by omega),show off+i*k+r-off=i*k+r by omega,KW hi hr]
  have h2:r<(enc d[i]!).length:=by rw[hk];exact hr
  rw[getElem!_pos (enc d[i]!) r h2,uX h2]
 ·rw[List.getElem?_take_eq_none (by omega),List.getElem?_eq_none (by rw[hk];omega)]
theorem Le(hk:∀x,(enc x).length=k){w:World}{b off:Nat}{d:Array α}{vs:Array Value}{T:TypeId}(hb:w.heap[b]? = some (.cells vs T (0,0)))(h:off+d.size*k≤vs.size)
  (hd:∀i,i<d.size→(vs.toList.drop (off+i*k)).take k=enc d[i]!):HoldsK enc k w b off d:=by
 intro j hj
 rw[size_flatK] at hj
 have hk0:0<k:=by
  rcases Nat.eq_zero_or_pos k with e|e
  ·subst e;simp at hj
  ·exact e
 have hi:j/k<d.size:=(Nat.div_lt_iff_lt_mul hk0).2 hj
 have hr:j%k<k:=Nat.mod_lt _ hk0
 have e:j/k*k+j%k=j:=Nat.div_add_mod' j k
 refine⟨?_,?_⟩
 ·unfold World.cell?
  simp only[hb]
  have h1:off+j<vs.size:=by omega
  show(if (none:Option _).isSome then none else vs[off+j]?)=_
  rw[Option.isSome_none,if_neg (by decide),Array.getElem?_eq_getElem h1]
  congr 1
  show vs[off+j]=(flatK enc k d)[j]!
  have e0:(flatK enc k d)[j]! = (enc d[j/k]!)[j%k]! :=by rw[←KW hi hr,e]
  rw[e0,←hd _ hi]
  have h2:j%k<((vs.toList.drop (off+j/k*k)).take k).length:=by rw[hd _ hi,hk];exact hr
  rw[getElem!_pos ((vs.toList.drop (off+j/k*k)).take k) (j%k) h2,List.getElem_take,List.getElem_drop,Array.getElem_toList]
  congr 1
  omega
 ·unfold World.frozen?
  simp[hb]
end
section
open Go.Lib Go.RowKit Go.Shelf Go.Sort
theorem Lr{P:Program}{ρ:Shelf.Ren}(L:SlLaysF0.n6 P ρ)(t:Ty){c:FuncId}{fn:Ty.Ts [t,t]→Ty.Ts [.int .i64]}(hc:ax.jD P c ⟨[t,t], [.int .i64],fun _=>true,fn⟩)(eg:∀args w,(callFunc c args).run P w=.ok (.enter c args) w)
  (aE:∀w,(isAgg (ρ.t 24)).run P w=.ok true w) (zE:∀w,(Go.sizeOf (ρ.t 24)).run P w=.ok t.size w) (hso:t.mg=true) (hag:t.isAgg=true)
  {lt:t.T→t.T→Bool} (hlt:∀x y,lt x y=decide ((show Int from fn (x,y))<0)) (hO:SWO lt) (hT:∀x y,lt x y=false→lt y x=false→x=y) {F:Func} (hF:P.funcs[ρ.f 6]? = some F) (hb:F.body.isSome=true) (hn:(F.name == "runtime.NumGoroutine")=false) :
  dG.Sound P (ρ.f 6) ⟨t, [], [c], [],fun _=>true,fun x=>(x.1.mergeSort fun a b=>!(lt b a),())⟩:=by
 refine⟨fun w I x y v aa B hI hv hB hy _=>?_,F,hF,hb,hn⟩
 have haa:aa=[]:=hy
 subst haa
 rcases gV.1 hv with ⟨rfl,rfl,a,e⟩|⟨hne,b,dl,cap,rfl,e,h1,h2,vs,T,fr,h3,h4,h5,h6⟩
 ·cases e
  refine(AnyF.slices_SortFunc_none L a 0 (.func (.func c) #[] #[]) w).mono ?_
  rintro e w' ⟨rfl,rfl⟩
  exact⟨_,rfl,rfl,rfl,rfl,Nat.le_refl _,fun _ _ _=>rfl,I,fun b hb=>⟨.inl hb,hI b hb⟩,fun b us T fr h=>⟨us,T,fr,h,rfl⟩,gV.2 (.inl ⟨by simp,rfl,a,rfl⟩),rfl⟩
 ·cases e
  have h4:fr=(0,0):=h4
  subst h4
  have hbl:b<w.heap.size:=(Array.getElem?_eq_some_iff.1 h3).1
  have hx0:0<x.length:=List.length_pos_iff.2 hne
  let α:Type:={p:List Value×t.T // aS w I t p.1 p.2}
  let el:(i:Nat)→i<x.length→α:=fun i hi=>⟨((vs.toList.drop (dl+i*t.size)).take t.size,x[i]),h6 i _ (uX hi)⟩
  haveI:Inhabited α:=⟨el 0 hx0⟩
  let enc:α→List Value:=fun p=>p.1.1
  let cf:α→α→Int:=fun p q=>fn (p.1.2,q.1.2)
  have hk:∀p,(enc p).length=t.size:=fun p=>aS.length t p.2
  have h1c:∀p,∀v∈enc p,v.oneCell'=true:=fun p=>aS.oneCell t hso p.2
  have hlo:∀p q,ltOf cf p q=lt p.1.2 q.1.2:=fun p q=>(hlt _ _).symm
  have hO':SWO (ltOf cf):=⟨fun p=>by rw[hlo];exact hO.irrefl _,fun p q r a b=>by rw[hlo] at a b ⊢;exact hO.trans _ _ _ a b,fun p q r a b=>by rw[hlo] at a b ⊢;exact hO.ntrans _ _ _ a b⟩
  let d:Array α:=Array.ofFn (n:=x.length) fun i=>el i.1 i.2
  have hds:d.size=x.length:=Array.size_ofFn
  have hdi:∀i (hi:i<x.length),d[i]! = el i hi:=fun i hi=>by
   rw[getElem!_pos d i (by rw[hds];exact hi)]
   exact Array.getElem_ofFn _
  have hfit:dl+d.size*t.size≤vs.size:=by
   have h7:=Nat.mul_le_mul_right t.size h1
   rw[hds]
   exact Nat.le_trans (Nat.add_le_add_left h7 dl) h5
  have hH:HoldsK enc t.size w b dl d:=Le hk h3 hfit fun i hi=>by rw[hds] at hi;rw[hdi i hi]
  have hIb:¬I b:=hB b (List.mem_singleton.2 rfl)
  have keepI:∀(n:Nat) (dk:Array α) (os:Array Obj) (b':Nat),I b'→I b'∧(sortWorldK enc t.size w b dl n dk os).heap[b']? = w.heap[b']? :=fun n dk os b' hb'=>⟨hb',qD (hI b' hb') fun e=>hIb (e▸hb')⟩
  have hcmp:CmpLays P c #[] enc t.size cf b dl d.size w:=by
   intro m os dk hdk p q
   have hag':∀p:α,gJ (sortWorldK enc t.size w b dl m dk os) I t (.agg (enc p).toArray) p.1.2:=fun p=>by
    unfold gJ
    rw[if_pos hag]
    exact⟨_,rfl,aS.mono (keepI m dk os) t p.2⟩
   refine(hc (sortWorldK enc t.size w b dl m dk os) I (p.1.2,q.1.2) #[.agg (enc p).toArray,.agg (enc q).toArray] (fun b' hb'=>Nat.lt_of_lt_of_le (hI b' hb') (size_sortWorldK_c enc t.size w b dl m dk os)) ⟨_,_,rfl,hag' p,_,rfl,hag' q⟩ rfl).mono ?_
   rintro e w' ⟨g0,v,rfl,g1,g2,g3,g4,g5,I',_,g7⟩
   have g7:gJ w' I' (.int .i64) v (cf p q):=g7
   have g7:v=.int .i64 (cf p q):=by
    unfold gJ at g7
    rw[if_neg (by decide)] at g7
    have:=g7.1
    simpa using this
   refine⟨by rw[g7],w'.drawn-(sortWorldK enc t.size w b dl m dk os).drawn,w'.heap.extract (sortWorldK enc t.size w b dl m dk os).heap.size w'.heap.size,?_⟩
   generalize sortWorldK enc t.size w b dl m dk os=W at *
   cases w' with
   | mk hp tp dr o out=>
     cases W with
     | mk hp2 tp2 dr2 o2 out2=>
       simp only at g0 g1 g2 g3 g4 g5
       subst g1;subst g2;subst g3
       unfold Sort.grow World.drewN
       simp only[World.mk.injEq,true_and,and_true]
       refine⟨?_,by omega⟩
       apply Array.ext
       ·simp;omega
       ·intro i i1 i2
        by_cases hi:i<hp2.size
        ·rw[Array.getElem_append_left hi]
         have:=g5 i hi
         rw[Array.getElem?_eq_getElem i1,Array.getElem?_eq_getElem hi] at this
         exact Option.some.inj this
        ·rw[Array.getElem_append_right (by omega),Array.getElem_extract]
         congr 1
         omega
  have hsz:d.size<4611686018427387904:=by
   rw[hds]
   exact Nat.lt_of_le_of_lt h2 (by decide)
  have call:=AnyQ.slices_SortFunc L t.size aE zE enc hk h1c cf hO' c #[] b dl cap d w eg hcmp hH hbl hsz
  rw[hds] at call
  refine call.mono ?_
  rintro e w' ⟨rfl,d',n,os,hp,hs,rfl⟩
  obtain⟨p1,_,p3⟩:=hp
  have p1:d'.size=x.length:=p1.trans hds
  have e1:d'.extract 0 x.length=d':=by rw[←p1];exact Array.extract_size
  have e2:d.extract 0 x.length=d:=by rw[←hds];exact Array.extract_size
  rw[e1,e2] at p3
  have hdx:d.toList.map (fun p=>p.1.2)=x:=by
   apply List.ext_getElem
   ·rw[List.length_map,Array.length_toList,hds]
   ·intro i i1 i2
    rw[List.getElem_map,Array.getElem_toList]
    exact congrArg (fun p:α=>p.1.2) (Array.getElem_ofFn (f:=fun i:Fin x.length=>el i.1 i.2) (by rw[List.length_map,Array.length_toList] at i1;exact i1))
  have hsorted:d'.toList.map (fun p=>p.1.2)=x.mergeSort fun a b=>!(lt b a):=by
   haveI:Inhabited t.T:=⟨x[0]⟩
   have perm:(d'.toList.map fun p=>p.1.2).Perm x:=by
    have:=p3.map (fun p:α=>p.1.2)
    rwa [hdx] at this
   have hl:=perm.length_eq
   have:=sorted_unique_holds (lt:=lt) hO hT x.toArray (d'.toList.map fun p=>p.1.2).toArray ⟨by simp[p1],fun i hi=>by
     have:x.length≤i:=by
      rcases hi with h|h
      ·omega
      ·simpa using h
     simp[p1,this],by simpa [p1,List.take_of_length_le] using perm⟩ fun i j _ hij hj=>by
     have hj:j<x.length:=by simpa using hj
     have:=hs i j (Nat.zero_le _) hij hj
     rw[hlo] at this
     rw[getElem!_pos _ j (by simp[p1];exact hj),getElem!_pos _ i (by simp[p1];omega)]
     rw[getElem!_pos d' j (by rw[p1];exact hj),getElem!_pos d' i (by rw[p1];omega)] at this
     simpa using this
   simpa using this
  have hlen:(x.mergeSort fun a b=>!(lt b a)).length=x.length:=List.length_mergeSort _
  refine⟨_,rfl,rfl,rfl,rfl,size_sortWorldK_c enc t.size w b dl n d' os,fun b' hb' hne'=>qD hb' fun e=>hne' (List.mem_singleton.2 e),I,fun b' hb'=>⟨.inl hb',Nat.lt_of_lt_of_le (hI b' hb') (size_sortWorldK_c enc t.size w b dl n d' os)⟩,fun b' us T' dL hb'=>?_,gV.2 (.inr ⟨?_,b,dl,cap,rfl,?_,?_,?_,_,T,(0,0),y7 h3,rfl,?_,fun i z hz=>?_⟩),rfl⟩
  ·by_cases e:b'=b
   ·subst e
    rw[h3] at hb'
    cases hb'
    exact⟨_,_,_,y7 h3,wE⟩
   ·exact⟨us,T',dL,by rw[qD (Array.getElem?_eq_some_iff.1 hb').1 e];exact hb',rfl⟩
  ·intro h
   have h:x.mergeSort (fun a b=>!(lt b a))=[]:=h
   rw[h] at hlen
   simp at hlen;omega
  ·show[_]=[Value.slice _ (x.mergeSort fun a b=>!(lt b a)).length _];rw[hlen]
  ·show(x.mergeSort fun a b=>!(lt b a)).length≤_;rw[hlen];exact h1
  ·show(x.mergeSort fun a b=>!(lt b a)).length≤_;rw[hlen];exact h2
  ·rw[wE];exact h5
  ·have hz:(x.mergeSort fun a b=>!(lt b a))[i]? = some z:=hz
   rw[←hsorted,List.getElem?_map,Option.map_eq_some_iff] at hz
   obtain⟨p,hp,rfl⟩:=hz
   obtain⟨hi,hp⟩:=List.getElem?_eq_some_iff.1 hp
   rw[Array.length_toList] at hi
   rw[Array.getElem_toList] at hp
   rw[LW hk (by rw[p1,←hds];exact hfit) hi,getElem!_pos d' i hi,hp]
   exact aS.mono (keepI n d' os) t p.2
end
def IG(f:aM):List Int:=[f.2.2.2.1,f.2.2.2.2.1,f.1,f.2.1,f.2.2.1,f.2.2.2.2.2.1,f.2.2.2.2.2.2]
def lexB:List Int→List Int→Bool
 | a::l,b::m=>decide (a<b)||(decide (a=b)&&lexB l m)
 | _,_=>false
theorem R5:∀(l m:List Int),l.length=m.length→decide (Zg (List.zipWith Od l m)<0)=lexB l m
 | [], [],_=>rfl
 | a::l,b::m,h=>by
   have ih:=R5 l m (by simpa using h)
   rw[List.zipWith_cons_cons,Zg,lexB]
   unfold Od
   by_cases h1:a<b
   ·rw[aK h1];rfl
   ·rw[aX h1,cond_false,Bool.false_or]
    by_cases h2:b<a
    ·rw[aK h2,aX (show ¬a=b by omega)];rfl
    ·rw[aX h2,aK (show a=b by omega),Bool.true_and]
     exact ih
theorem yw:∀l:List Int,lexB l l=false
 | []=>rfl
 | a::l=>by rw[lexB,yw l,aX (Int.lt_irrefl a),Bool.and_false];rfl
theorem Eo:∀(l m:List Int),l.length=m.length→lexB l m=false→lexB m l=false→l=m
 | [], [],_,_,_=>rfl
 | a::l,b::m,h,h1,h2=>by
   rw[lexB,Bool.or_eq_false_iff] at h1 h2
   have e:a=b:=by
    have:=of_decide_eq_false h1.1
    have:=of_decide_eq_false h2.1
    omega
   subst e
   rw[aK rfl,Bool.true_and] at h1 h2
   rw[Eo l m (by simpa using h) h1.2 h2.2]
theorem lex_trans:∀(l m n:List Int),lexB l m=true→lexB m n=true→lexB l n=true
 | [],_,_,h,_=>by simp[lexB] at h
 | _::_, [],_,h,_=>by simp[lexB] at h
 | _::_,_::_, [],_,h=>by simp[lexB] at h
 | a::l,b::m,c::n,h1,h2=>by
   rw[lexB,Bool.or_eq_true,cd,jV,jV] at h1 h2 ⊢
   rcases h1 with h1|⟨h1,k1⟩<;>rcases h2 with h2|⟨h2,k2⟩
   ·exact .inl (by omega)
   ·exact .inl (by omega)
   ·exact .inl (by omega)
   ·exact .inr ⟨by omega,lex_trans l m n k1 k2⟩
theorem IX(l m n:List Int)(hl:l.length=m.length)(hm:m.length=n.length)(h1:lexB l m=false)(h2:lexB m n=false):lexB l n=false:=by
 cases h3:lexB l n with
 | false=>rfl
 | true=>
   exfalso
   cases h4:lexB m l with
   | true=>rw[lex_trans m l n h4 h3] at h2;cases h2
   | false=>rw[Eo l m hl h1 h4,h2] at h3;cases h3
def dP(a b:aM):Bool:=lexB (IG a) (IG b)
theorem OU(a b:aM):dP a b=decide ((show Int from NL (a,b))<0):=(R5 (IG a) (IG b) rfl).symm
theorem Rl{a b:aM}(h:IG a=IG b):a=b:=by
 obtain⟨a1,a2,a3,a4,a5,a6,a7⟩:=a
 obtain⟨b1,b2,b3,b4,b5,b6,b7⟩:=b
 simp only[IG,List.cons.injEq,and_true] at h
 obtain⟨h1,h2,h3,h4,h5,h6,h7⟩:=h
 rw[h1,h2,h3,h4,h5,h6,h7]
theorem Dw:Sort.SWO dP:=⟨fun a=>yw _,fun a b c=>lex_trans _ _ _,fun a b c=>IX _ _ _ rfl rfl⟩
theorem Cv(a b:aM)(h1:dP a b=false)(h2:dP b a=false):a=b:=Rl (Eo _ _ rfl h1 h2)
def Yt:Shelf.Ren:=⟨fun x=>match x with|6=>201|14=>262|15=>263|20=>299|21=>300|22=>301|23=>302|24=>303|25=>304|26=>305|27=>306|28=>307|29=>308|46=>330|47=>331|48=>332|49=>333|50=>334|57=>347|n=>n,fun x=>match x with|0=>0|3=>3|4=>4|5=>5|9=>9|22=>55|24=>66|25=>259|39=>128|45=>337|46=>338|50=>243|53=>275|55=>274|66=>353|70=>357|76=>369|77=>187|n=>n,fun x=>x⟩
theorem UW:SlLaysF0.n6 Tryz.prog Yt:=
 {mixed:=by kernel_rfl,f6:=⟨Tryz.f201.name,by kernel_rfl,Tryz.func201.trans (congrArg some (by kernel_rfl))⟩,f14:=⟨Tryz.f262.name,by kernel_rfl,Tryz.func262.trans (congrArg some (by kernel_rfl))⟩,f15:=Tryz.func263.trans (congrArg some (by kernel_rfl)),f20:=⟨Tryz.f299.name,by kernel_rfl,Tryz.func299.trans (congrArg some (by kernel_rfl))⟩,f21:=⟨Tryz.f300.name,by kernel_rfl,Tryz.func300.trans (congrArg some (by kernel_rfl))⟩,f22:=⟨Tryz.f301.name,by kernel_rfl,Tryz.func301.trans (congrArg some (by kernel_rfl))⟩,f23:=⟨Tryz.f302.name,by kernel_rfl,Tryz.func302.trans (congrArg some (by kernel_rfl))⟩,f24:=⟨Tryz.f303.name,by kernel_rfl,Tryz.func303.trans (congrArg some (by kernel_rfl))⟩,f25:=⟨Tryz.f304.name,by kernel_rfl,Tryz.func304.trans (congrArg some (by kernel_rfl))⟩,f26:=⟨Tryz.f305.name,by kernel_rfl,Tryz.func305.trans (congrArg some (by kernel_rfl))⟩,f27:=⟨Tryz.f306.name,by kernel_rfl,Tryz.func306.trans (congrArg some (by kernel_rfl))⟩,f28:=Tryz.func307.trans (congrArg some (by kernel_rfl)),f29:=Tryz.func308.trans (congrArg some (by kernel_rfl)),f46:=⟨Tryz.f330.name,by kernel_rfl,Tryz.func330.trans (congrArg some (by kernel_rfl))⟩,f47:=Tryz.func331.trans (congrArg some (by kernel_rfl)),f48:=Tryz.func332.trans (congrArg some (by kernel_rfl)),f49:=⟨Tryz.f333.name,by kernel_rfl,Tryz.func333.trans (congrArg some (by kernel_rfl))⟩,f50:=⟨Tryz.f334.name,by kernel_rfl,Tryz.func334.trans (congrArg some (by kernel_rfl))⟩,f57:=⟨Tryz.f347.name,by kernel_rfl,Tryz.func347.trans (congrArg some (by kernel_rfl))⟩,t0:=Tryz.underlying0,a0:=Tryz.isAgg0,z0:=Tryz.sizeOf0,v0:=Tryz.zeroValue0,t3:=Tryz.underlying3,a3:=Tryz.isAgg3,z3:=Tryz.sizeOf3,v3:=Tryz.zeroValue3,t4:=Tryz.underlying4,a4:=Tryz.isAgg4,z4:=Tryz.sizeOf4,v4:=Tryz.zeroValue4,t5:=Tryz.underlying5,a5:=Tryz.isAgg5,z5:=Tryz.sizeOf5,v5:=Tryz.zeroValue5,t9:=Tryz.underlying9,a9:=Tryz.isAgg9,z9:=Tryz.sizeOf9,v9:=Tryz.zeroValue9,t22:=Tryz.underlying55,a22:=Tryz.isAgg55,z22:=Tryz.sizeOf55,v22:=Tryz.zeroValue55,t25:=Tryz.underlying259,a25:=Tryz.isAgg259,z25:=Tryz.sizeOf259,v25:=Tryz.zeroValue259,t39:=Tryz.underlying128,a39:=Tryz.isAgg128,z39:=Tryz.sizeOf128,v39:=Tryz.zeroValue128,t45:=Tryz.underlying337,a45:=Tryz.isAgg337,z45:=Tryz.sizeOf337,v45:=Tryz.zeroValue337,t46:=Tryz.underlying338,a46:=Tryz.isAgg338,z46:=Tryz.sizeOf338,v46:=Tryz.zeroValue338,t50:=Tryz.underlying243,a50:=Tryz.isAgg243,z50:=Tryz.sizeOf243,v50:=Tryz.zeroValue243,t53:=Tryz.underlying275,a53:=Tryz.isAgg275,z53:=Tryz.sizeOf275,v53:=Tryz.zeroValue275,t55:=Tryz.underlying274,a55:=Tryz.isAgg274,z55:=Tryz.sizeOf274,v55:=Tryz.zeroValue274,t66:=Tryz.underlying353,a66:=Tryz.isAgg353,z66:=Tryz.sizeOf353,v66:=Tryz.zeroValue353,t70:=Tryz.underlying357,a70:=Tryz.isAgg357,z70:=Tryz.sizeOf357,v70:=Tryz.zeroValue357,t76:=Tryz.underlying369,a76:=Tryz.isAgg369,z76:=Tryz.sizeOf369,v76:=Tryz.zeroValue369,t77:=Tryz.underlying187,a77:=Tryz.isAgg187,z77:=Tryz.sizeOf187,v77:=Tryz.zeroValue187}
def xE:List aM×Unit→List aM×Unit:=fun x=>(x.1.mergeSort fun a b=>!(dP b a),())
def ad6:dG:=⟨aQ, [], [202], [],fun _=>true,xE⟩
theorem aeJ:dG.Sound Tryz.prog 201 ad6:=
 Lr UW aQ (fn:=NL) acK.1 (enters_of Tryz.func202 (by kernel_rfl) rfl) Tryz.isAgg66 Tryz.sizeOf66 (by kernel_rfl) (by kernel_rfl) OU Dw Cv Tryz.func201 (by kernel_rfl) (by kernel_rfl)
abbrev W8(A:aI)(x2:Int)(y2:Int):=(A.b .add .u64 (A.b .mul .u64 (A.b .shr .u64 x2 32) (A.b .and .u64 y2 4294967295)) (A.b .shr .u64 (A.b .mul .u64 (A.b .and .u64 x2 4294967295) (A.b .and .u64 y2 4294967295)) 32))
def ZW(A:aI)(x2:Int)(y2:Int):LT (Int×Int) Empty:=.ret ((A.b .add .u64 (A.b .add .u64 (A.b .mul .u64 (A.b .shr .u64 x2 32) (A.b .shr .u64 y2 32)) (A.b .shr .u64 (W8 A x2 y2) 32)) (A.b .shr .u64 (A.b .add .u64 (A.b .and .u64 (W8 A x2 y2) 4294967295) (A.b .mul .u64 (A.b .and .u64 x2 4294967295) (A.b .shr .u64 y2 32))) 32)),(A.b .mul .u64 x2 y2))
def W1:(Int×Int)→(Int×Int):=fun(x2,y2)=>(ZW ah x2 y2).val (Ty.bi [(.int .u64),(.int .u64)])
def afD:ax:=⟨[(.int .u64),(.int .u64)], [(.int .u64),(.int .u64)],(@tt (Int×Int)),W1⟩
theorem ac9:Sd 259 afD:=aH ap bR true 92 [] (fun A (x2,y2)=>ZW A x2 y2) (fc Tryz.func259 fz) sz (fun((x2,y2):Int×Int) hp h=>by
 show(ZW ah x2 y2).pre=true
 rfl)
def XW(A:aI)(x2:Int)(y2:Int):LT (Int×Int) Empty:=.need (A.k (@tt (Int×Int)) (x2,y2)) (.ret (A.k W1 (x2,y2)))
def vG:(Int×Int)→(Int×Int):=fun(x2,y2)=>(XW ah x2 y2).val (Ty.bi [(.int .u64),(.int .u64)])
def afe:ax:=⟨[(.int .u64),(.int .u64)], [(.int .u64),(.int .u64)],(@tt (Int×Int)),vG⟩
theorem WN:Sd 198 afe:=aH ap bR true 32 [] (fun A (x2,y2)=>XW A x2 y2) (fc Tryz.func198 fz) (sc ac9 sz) (fun((x2,y2):Int×Int) hp h=>by
 show(XW ah x2 y2).pre=true
 rfl)
structure RL where
 (a1:List Int) (a2 a3 a4:Int)
structure Rw where
 (b0:List Int) (b1 b2 b3:Int)
inductive VU where
 | c0 (p:RL) (a0:Int) (a5:List Int)
 | c1 (p:Rw) (b4:Int) (b5:List Int)
noncomputable def Zh:VU→eD
 | .c0 p a0 a5=>⟨[⟨199,48,(en [(7,.own 0),(8,vi a0)]),[.inLoop (cw Tryz.f199 [1,1,1,1,1,1,0,0,0]),.inBlock 0,.code (cw Tryz.f199 [1,1,1,1,1,1,1])],[],none⟩,⟨131,37,(en [(0,.sl yI p.a1),(1,vi p.a2),(2,vi p.a3),(3,vi p.a4)]),[.ops (ow Tryz.f131 [1,0]) ((ow Tryz.f131 [1,0]).toList.drop 3),.code (cw Tryz.f131 [1,1])],[],none⟩],[.arr false yI a5,.dead]⟩
 | .c1 p b4 b5=>⟨[⟨131,37,(en [(0,.sl yI p.b0),(2,vi p.b1),(3,vi p.b2),(11,.own 0),(20,vi p.b3),(21,vi b4)]),[.inLoop (cw Tryz.f131 [1,1,0,1,0,0]),.inBlock 0,.code (cw Tryz.f131 [1,1,1])],[],none⟩],[.arr false yI b5,.dead]⟩
abbrev xu(A:aI)(n:Int):=(A.v .i64 (A.k vG (1,(A.v .u64 n))).2)
def XC(A:aI)(l:List Int)(n:Int)(least:Int)(most:Int)(missing:Int):LT (List Int) VU:=.br (A.c .lss n 0) (.bad 117 "slices.go:516") (.need (A.k (@tt (Int×Int)) (1,(A.v .u64 n))) (.br (A.c .gtr (A.k vG (1,(A.v .u64 n))).1 0) (.bad 117 "slices.go:522") (.br (A.c .gtr (A.k vG (1,(A.v .u64 n))).2 9223372036854775807) (.bad 117 "slices.go:522") (.need (A.and (A.c .eql (xu A n) (xu A n)) (A.and (A.c .leq 0 (xu A n)) (A.c .leq (xu A n) 17592186044416))) (.more (.c0 ⟨l,n,least,most⟩ (A.mn (A.l [missing]) (A.l (A.r (xu A n) (0:Int)))) (A.spl (A.r (xu A n) (0:Int)) 0 (A.s [missing] 0 (A.mn (A.l [missing]) (A.l (A.r (xu A n) (0:Int))))))))))))
def Mc(A:aI):VU→LT (List Int) VU
 | .c0 p a0 a5=>.br (A.c .lss a0 (A.l a5)) (.need (A.and (A.c .leq 0 a0) (A.and (A.c .leq a0 (A.l a5)) (A.c .leq (A.l a5) (A.l a5)))) (.need (A.and (A.c .leq 0 0) (A.and (A.c .leq 0 a0) (A.c .leq a0 (A.l a5)))) (.more (.c0 p (A.b .add .i64 a0 (A.mn (A.l (A.s a5 0 (A.b .add .i64 0 (A.b .sub .i64 a0 0)))) (A.b .sub .i64 (A.l a5) a0))) (A.spl a5 a0 (A.s (A.s a5 0 (A.b .add .i64 0 (A.b .sub .i64 a0 0))) 0 (A.mn (A.l (A.s a5 0 (A.b .add .i64 0 (A.b .sub .i64 a0 0)))) (A.b .sub .i64 (A.l a5) a0)))))))) (.more (.c1 ⟨p.a1,p.a3,p.a4,(A.mn p.a2 (A.l p.a1))⟩ 0 a5))
 | .c1 p b4 b5=>.br (A.c .lss b4 p.b3) (.need (A.and (A.c .leq 0 b4) (A.c .lss b4 (A.l p.b0))) (.need (A.and (A.c .leq 0 b4) (A.c .lss b4 (A.l b5))) (.more (.c1 p (A.b .add .i64 b4 1) (A.set b5 b4 (A.mn (A.mx (A.n yI p.b0 b4:Int) p.b1) p.b2)))))) (.ret b5)
theorem NT:∀n:Fin 1025,ah.k vG (1,ah.v .u64 (n.val:Int))=((0,(n.val:Int)):Int×Int):=by decide +kernel
theorem E8{i j:Nat}(h:j≤i)(hi:i<4611686018427387904):ah.b .sub .i64 (i:Int) (j:Int)=((i-j:Nat):Int):=by
 rw[cu,iZ (by omega) (by omega)];omega
theorem nj{i j:Nat}:ah.mn (i:Int) (j:Int)=((min i j:Nat):Int):=by
 rw[ov];split<;>omega
theorem Sp{p:RL}{v:Int}{N:Nat}{r:List Int}(hN:N≤1024)(hT:au (Mc ah) (.more (.c1 ⟨p.a1,p.a3,p.a4,ah.mn p.a2 (ah.l p.a1)⟩ 0 (List.replicate N v))) r):∀(j k:Nat),N-k≤j→(N≠0→1≤k)→k≤N→
  au (Mc ah) (.more (.c0 p (k:Int) (List.replicate k v++List.replicate (N-k) 0))) r:=by
 have fin:∀k,k=N→au (Mc ah) (.more (.c0 p (k:Int) (List.replicate k v++List.replicate (N-k) 0))) r:=by
  rintro k rfl
  rw[Nat.sub_self,List.replicate_zero,List.append_nil]
  refine ak.2 ((ai ?_).2 hT)
  rw[bF,aC];simp
 intro j
 induction j with
 | zero=>intro k h1 h2 h3;exact fin k (by omega)
 | succ j ih=>
   intro k h1 h2 h3
   by_cases hk:k=N
   ·exact fin k hk
   have hlen:(List.replicate k v++List.replicate (N-k) (0:Int)).length=N:=by
    rw[gm,pQ,pQ];omega
   have h2':=h2 (by omega)
   have e0:ah.b .add .i64 0 (ah.b .sub .i64 (k:Int) 0)=(k:Int):=by
    rw[show(0:Int)=((0:Nat):Int) from rfl,E8 (Nat.zero_le _) (by omega),eH (by omega)];omega
   have e1:ah.s (List.replicate k v++List.replicate (N-k) (0:Int)) 0 (k:Int)=List.replicate k v:=by
    rw[fP,gS,List.take_left' (by rw[pQ])];rfl
   have e2:ah.b .sub .i64 (N:Int) (k:Int)=((N-k:Nat):Int):=E8 h3 (by omega)
   refine ak.2 ((aj ?_).2 (af.2 ⟨?_,af.2 ⟨?_,?_⟩⟩))
   ·rw[bF,aC,hlen];exact aK (by omega)
   ·rw[bF,hlen,aJ,aJ,ao,ao,ao];simp;omega
   ·rw[bF,hlen,aJ,aJ,ao,ao,ao];simp;omega
   ·rw[e0,e1,bF,bF,hlen,pQ,e2,nj,eH (by omega),fP,gS]
    have e3:ah.spl (List.replicate k v++List.replicate (N-k) (0:Int)) (k:Int) (((List.replicate k v).take (min k (N-k))).drop (0:Int).toNat)=List.replicate (k+min k (N-k)) v++List.replicate (N-(k+min k (N-k))) 0:=by
     rw[jr,gS,List.take_left' (by rw[pQ]),List.take_replicate]
     show List.replicate k v++List.replicate _ v++List.drop (k+(List.replicate _ v).length) _=_
     rw[pQ,List.drop_append,List.drop_replicate,List.drop_replicate,pQ,Nat.min_assoc,List.replicate_append_replicate]
     rw[show k-(k+min k (min (N-k) k))=0 by omega,List.replicate_zero,List.nil_append]
     congr 2<;>omega
    rw[e3]
    exact ih (k+min k (N-k)) (by omega) (fun _=>by omega) (by omega)
def vX(lo hi x:Int):Int:=ah.mn (ah.mx x lo) hi
def rowP(l:List Int)(n:Nat)(lo hi ms:Int):List Int:=(l.take n).map (vX lo hi)++List.replicate (n-l.length) ms
theorem Oi{p:Rw}{l:List Int}{N:Nat}{lo hi ms:Int}(h0:p.b0=l)(h1:p.b1=lo)(h2:p.b2=hi)(h3:p.b3=((min N l.length:Nat):Int))(hN:N≤1024) :
  ∀(j i:Nat),min N l.length-i=j→i≤min N l.length→au (Mc ah) (.more (.c1 p (i:Int) ((l.take i).map (vX lo hi)++List.replicate (N-i) ms))) (rowP l N lo hi ms):=by
 intro j
 induction j with
 | zero=>
   intro i hj hi
   refine ak.2 ((ai ?_).2 (ay ?_ (.ret _)))
   ·rw[h3,aC];exact aX (by omega)
   ·unfold rowP
    rcases Nat.le_total N l.length with h|h
    ·rw[show i=N by omega,Nat.sub_self,show N-l.length=0 by omega]
    ·rw[show i=l.length by omega,List.take_of_length_le (Nat.le_refl _),List.take_of_length_le h]
 | succ j ih=>
   intro i hj hi'
   have hil:i<l.length:=by omega
   have hlen:((l.take i).map (vX lo hi)++List.replicate (N-i) ms).length=N:=by
    rw[gm,List.length_map,List.length_take,pQ];omega
   refine ak.2 ((aj ?_).2 (af.2 ⟨?_,af.2 ⟨?_,?_⟩⟩))
   ·rw[h3,aC];exact aK (by omega)
   ·rw[h0];exact aO hil
   ·exact aO (by rw[hlen];omega)
   ·rw[h0,h1,h2,show(ah.n yI l (i:Int):Int)=l[i] from getD_in hil _,bU (by omega),yp,gS]
    have e:((l.take i).map (vX lo hi)++List.replicate (N-i) ms).set i (ah.mn (ah.mx l[i] lo) hi)=(l.take (i+1)).map (vX lo hi)++List.replicate (N-(i+1)) ms:=by
     have hl:((l.take i).map (vX lo hi)).length=i:=by rw[List.length_map,List.length_take];omega
     rw[List.set_append,hl,if_neg (Nat.lt_irrefl _),Nat.sub_self,show N-i=N-(i+1)+1 by omega,List.replicate_succ,List.set_cons_zero,List.take_succ_eq_append_getElem hil,List.map_append,List.append_assoc]
     rfl
    rw[e]
    exact ih (i+1) (by omega) (by omega)
theorem Y5{l:List Int}{n lo hi ms:Int}(h:0≤n∧n≤1024):au (Mc ah) (XC ah l n lo hi ms) (rowP l n.toNat lo hi ms):=by
 obtain⟨N,rfl⟩:=Int.eq_ofNat_of_zero_le h.1
 have hN:N≤1024:=by omega
 rw[gS]
 have row:=Oi (p:=⟨l,lo,hi,ah.mn (N:Int) (ah.l l)⟩) (l:=l) (ms:=ms) rfl rfl rfl (by rw[bF,nj]) hN (min N l.length) 0 (by omega) (by omega)
 have key:=Sp (p:=⟨l,(N:Int),lo,hi⟩) (v:=ms) hN row N (min 1 N) (by omega) (fun h=>by omega) (by omega)
 have hm:=NT ⟨N,by omega⟩
 simp only at hm
 have hc:ah.v .i64 (N:Int)=(N:Int):=iZ (by omega) (by omega)
 unfold XC xu
 rw[hm,hc]
 refine(ai ?_).2 (af.2 ⟨rfl,(ai rfl).2 ((ai ?_).2 (af.2 ⟨?_,?_⟩))⟩)
 ·rw[ar];exact aX (by omega)
 ·show decide ((N:Int) > 9223372036854775807)=false;exact aX (by omega)
 ·rw[aJ,aJ,aD,ao,ao];simp;omega
 ·have e:ah.r (N:Int) (0:Int)=List.replicate N 0:=by rw[nV,gS]
  rw[e,bF,bF,pQ,nj]
  have e2:ah.spl (List.replicate N (0:Int)) 0 (ah.s [ms] 0 ((min [ms].length N:Nat):Int))=List.replicate (min 1 N) ms++List.replicate (N-min 1 N) 0:=by
   rcases Nat.eq_zero_or_pos N with rfl|hN
   ·rfl
   ·obtain⟨M,rfl⟩:∃M,N=M+1:=⟨N-1,by omega⟩
    have h1:min 1 (M+1)=1:=by omega
    rw[jr,fP,List.length_singleton,h1]
    simp[List.replicate_succ]
  rw[e2]
  exact key
def GG:(List Int×Int×Int×Int×Int)→(List Int):=fun(l,n,lo,hi,ms)=>rowP l n.toNat lo hi ms
def mY:(List Int×Int×Int×Int×Int)→Bool:=fun(_,n,_,_,_)=>decide (0≤n∧n≤1024)
def acD:ax:=⟨[DG,yI,yI,yI,yI], [DG],mY,GG⟩
theorem ab4:Sd 131 acD:=aP ap bR true 71 [⟨131,3, [[0,2,3,11,20,21]]⟩,⟨199,8, [[7,8], [0,1,2,3]]⟩] [] (fun A (l,n,least,most,missing)=>XC A l n least most missing) Mc Zh (fc Tryz.func131 (fc Tryz.func199 fz)) (sc WN sz) (fun A y=>match y with |.c0 p a0 a5=>⟨35,by kernel_rfl,by kernel_rfl⟩|.c1 p b4 b5=>⟨39,by kernel_rfl,by kernel_rfl⟩) fun((l,n,least,most,missing):List Int×Int×Int×Int×Int) hp h=>Y5 (of_decide_eq_true hp)
inductive Vd where
 | c0 (a0:Int) (a1:List Bool)
noncomputable def Yy:Vd→eD
 | .c0 a0 a1=>⟨[⟨130,48,(en [(7,.own 0),(8,vi a0)]),[.inLoop (cw Tryz.f130 [1,1,1,1,1,1,0,0,0]),.inBlock 0,.code (cw Tryz.f130 [1,1,1,1,1,1,1])],[],none⟩],[.arr false .bool a1,.dead]⟩
abbrev xb(A:aI)(x2:List Bool)(count:Int):=(A.v .i64 (A.k vG ((A.v .u64 (A.l x2)),(A.v .u64 count))).2)
def Y1(A:aI)(x2:List Bool)(count:Int):LT (Bool×(List Bool)×Unit) Vd:=.br (A.c .lss count 0) (.bad 117 "slices.go:516") (.need (A.k (@tt (Int×Int)) ((A.v .u64 (A.l x2)),(A.v .u64 count))) (.br (A.c .gtr (A.k vG ((A.v .u64 (A.l x2)),(A.v .u64 count))).1 0) (.bad 117 "slices.go:522") (.br (A.c .gtr (A.k vG ((A.v .u64 (A.l x2)),(A.v .u64 count))).2 9223372036854775807) (.bad 117 "slices.go:522") (.need (A.and (A.c .eql (xb A x2 count) (xb A x2 count)) (A.and (A.c .leq 0 (xb A x2 count)) (A.c .leq (xb A x2 count) 140737488355328))) (.more (.c0 (A.mn (A.l x2) (A.l (A.r (xb A x2 count) false))) (A.spl (A.r (xb A x2 count) false) 0 (A.s x2 0 (A.mn (A.l x2) (A.l (A.r (xb A x2 count) false)))))))))))
def Tb(A:aI):Vd→LT (Bool×(List Bool)×Unit) Vd
 | .c0 a0 a1=>.br (A.c .lss a0 (A.l a1)) (.need (A.and (A.c .leq 0 a0) (A.and (A.c .leq a0 (A.l a1)) (A.c .leq (A.l a1) (A.l a1)))) (.need (A.and (A.c .leq 0 0) (A.and (A.c .leq 0 a0) (A.c .leq a0 (A.l a1)))) (.more (.c0 (A.b .add .i64 a0 (A.mn (A.l (A.s a1 0 (A.b .add .i64 0 (A.b .sub .i64 a0 0)))) (A.b .sub .i64 (A.l a1) a0))) (A.spl a1 a0 (A.s (A.s a1 0 (A.b .add .i64 0 (A.b .sub .i64 a0 0))) 0 (A.mn (A.l (A.s a1 0 (A.b .add .i64 0 (A.b .sub .i64 a0 0)))) (A.b .sub .i64 (A.l a1) a0)))))))) (.ret (true,a1,()))
theorem LU{v:Bool}{N:Nat}(hN:N≤1024):∀(j k:Nat),N-k≤j→(N≠0→1≤k)→k≤N→
  au (Tb ah) (.more (.c0 (k:Int) (List.replicate k v++List.replicate (N-k) false))) (true,List.replicate N v,()):=by
 have fin:∀k,k=N→au (Tb ah) (.more (.c0 (k:Int) (List.replicate k v++List.replicate (N-k) false))) (true,List.replicate N v,()):=by
  rintro k rfl
  rw[Nat.sub_self,List.replicate_zero,List.append_nil]
  refine ak.2 ((ai ?_).2 (.ret _))
  rw[bF,aC];simp
 intro j
 induction j with
 | zero=>intro k h1 h2 h3;exact fin k (by omega)
 | succ j ih=>
   intro k h1 h2 h3
   by_cases hk:k=N
   ·exact fin k hk
   have hlen:(List.replicate k v++List.replicate (N-k) false).length=N:=by
    rw[gm,pQ,pQ];omega
   have h2':=h2 (by omega)
   have e0:ah.b .add .i64 0 (ah.b .sub .i64 (k:Int) 0)=(k:Int):=by
    rw[show(0:Int)=((0:Nat):Int) from rfl,E8 (Nat.zero_le _) (by omega),eH (by omega)];omega
   have e1:ah.s (List.replicate k v++List.replicate (N-k) false) 0 (k:Int)=List.replicate k v:=by
    rw[fP,gS,List.take_left' (by rw[pQ])];rfl
   have e2:ah.b .sub .i64 (N:Int) (k:Int)=((N-k:Nat):Int):=E8 h3 (by omega)
   refine ak.2 ((aj ?_).2 (af.2 ⟨?_,af.2 ⟨?_,?_⟩⟩))
   ·rw[bF,aC,hlen];exact aK (by omega)
   ·rw[bF,hlen,aJ,aJ,ao,ao,ao];simp;omega
   ·rw[bF,hlen,aJ,aJ,ao,ao,ao];simp;omega
   ·rw[e0,e1,bF,bF,hlen,pQ,e2,nj,eH (by omega),fP,gS]
    have e3:ah.spl (List.replicate k v++List.replicate (N-k) false) (k:Int) (((List.replicate k v).take (min k (N-k))).drop (0:Int).toNat)=List.replicate (k+min k (N-k)) v++List.replicate (N-(k+min k (N-k))) false:=by
     rw[jr,gS,List.take_left' (by rw[pQ]),List.take_replicate]
     show List.replicate k v++List.replicate _ v++List.drop (k+(List.replicate _ v).length) _=_
     rw[pQ,List.drop_append,List.drop_replicate,List.drop_replicate,pQ,Nat.min_assoc,List.replicate_append_replicate]
     rw[show k-(k+min k (min (N-k) k))=0 by omega,List.replicate_zero,List.nil_append]
     congr 2<;>omega
    rw[e3]
    exact ih (k+min k (N-k)) (by omega) (fun _=>by omega) (by omega)
theorem abR{l:List Bool}{n:Int}(h:l.length=1∧0≤n∧n≤1024):au (Tb ah) (Y1 ah l n) (true,List.replicate n.toNat (l.getD 0 false),()):=by
 obtain⟨N,rfl⟩:=Int.eq_ofNat_of_zero_le h.2.1
 obtain⟨v,rfl⟩:=List.length_eq_one_iff.1 h.1
 have hN:N≤1024:=by omega
 rw[gS]
 have key:=LU (v:=v) hN N (min 1 N) (by omega) (fun h=>by omega) (by omega)
 have hm:=NT ⟨N,by omega⟩
 simp only at hm
 have hm:ah.k vG (ah.v .u64 (ah.l [v]),ah.v .u64 (N:Int))=((0,(N:Int)):Int×Int):=hm
 have hc:ah.v .i64 (N:Int)=(N:Int):=iZ (by omega) (by omega)
 unfold Y1 xb
 rw[hm,hc]
 refine(ai ?_).2 (af.2 ⟨rfl,(ai rfl).2 ((ai ?_).2 (af.2 ⟨?_,?_⟩))⟩)
 ·rw[ar];exact aX (by omega)
 ·show decide ((N:Int) > 9223372036854775807)=false;exact aX (by omega)
 ·rw[aJ,aJ,aD,ao,ao];simp;omega
 ·have e:ah.r (N:Int) false=List.replicate N false:=by rw[nV,gS]
  rw[e,bF,bF,pQ,nj]
  have e2:ah.spl (List.replicate N false) 0 (ah.s [v] 0 ((min [v].length N:Nat):Int))=List.replicate (min 1 N) v++List.replicate (N-min 1 N) false:=by
   rcases Nat.eq_zero_or_pos N with rfl|hN
   ·rfl
   ·obtain⟨M,rfl⟩:∃M,N=M+1:=⟨N-1,by omega⟩
    have h1:min 1 (M+1)=1:=by omega
    rw[jr,fP]
    simp[List.replicate_succ]
  rw[e2]
  exact key
def Qh:(List Bool×Int)→Bool×(List Bool)×Unit:=fun(l,n)=>(true,List.replicate n.toNat (l.getD 0 false),())
def AR:(List Bool×Int)→Bool:=fun(l,n)=>decide (l.length=1∧0≤n∧n≤1024)
def adk:kl:=⟨[(.slice .bool),yI],.own .bool,false, [],AR,Qh⟩
theorem abZ:kl.Sound Tryz.prog 130 adk:=u_ ap bR true 61 oz iz mz pz [⟨130,8, [[7,8]]⟩] [] (fun A (x2,count)=>Y1 A x2 count) Tb Yy (fc Tryz.func130 fz) (sc WN sz) (fun A y=>match y with |.c0 a0 a1=>⟨30,by kernel_rfl,by kernel_rfl⟩) fun((x2,count):(List Bool×Int)) hp h=>abR (of_decide_eq_true hp)
def VD(A:aI)(m:al)(o:bl):LT Bool Empty:=.br (A.c .geq o.1 0) (.br (A.not (A.c .lss o.1 m.1)) (.ret false) (.br (A.c .geq o.2.2.1 0) (.br (A.not (A.c .lss o.2.2.1 m.1)) (.ret false) (.br (A.c .lss o.2.1 0) (.ret false) (.br (A.c .geq o.2.1 16) (.ret false) (.br (A.c .eql o.2.2.2.1 1) (.br (A.c .eql o.2.2.2.2.1 0) (.ret (A.c .leq (A.l o.2.2.2.2.2) 8)) (.ret false)) (.br (A.c .eql o.2.2.2.1 2) (.br (A.c .eql o.2.2.2.2.1 0) (.ret (A.c .eql (A.l o.2.2.2.2.2) 0)) (.ret false)) (.br (A.c .eql o.2.2.2.1 3) (.br (A.c .geq o.2.2.2.2.1 (-1)) (.br (A.c .lss o.2.2.2.2.1 (A.l m.2.2.2.2.2.2.2)) (.ret (A.c .eql (A.l o.2.2.2.2.2) 0)) (.ret false)) (.ret false)) (.ret false))))))) (.ret false))) (.ret false)
def mq:(al×bl)→Bool:=fun(m,o)=>(VD ah m o).val (Ty.bi [.bool])
def aeN:ax:=⟨[aR,bA], [.bool],(@tt (al×bl)),mq⟩
theorem aeT:Sd 133 aeN:=aH ap bR true 125 [] (fun A (m,o)=>VD A m o) (fc Tryz.func133 (fc Tryz.func204 fz)) sz (fun((m,o):al×bl) hp h=>by
 show(VD ah m o).pre=true
 simp only[VD,LT.pre,Gk,bne_iff_ne,beq_iff_eq,bne_eq_false_iff_eq,beq_eq_false_iff_ne]
 simp only[Ty.cN,Ty.has,ml,x_] at h
 (repeat' (first|intro _|constructor))<;>(try omega))
abbrev Gm(A:aI)(m:al)(kind:Int):LT (List (Int×Int)×Bool) Empty:=(.br (A.c .eql kind 5) (.ret ([(0,0),(0,1),(0,(A.b .sub .i64 m.1 1)),(0,0),(0,0)],true)) (.br (A.c .eql kind 12) (.ret ([(0,0),(0,1),(0,0),(0,0),(0,0)],true)) (.br (A.c .eql kind 7) (.ret ([(0,(A.b .sub .i64 m.1 1)),(0,0),(0,0),(0,200),(0,0)],true)) (.br (A.c .eql kind 8) (.ret ([(0,(A.b .sub .i64 m.1 1)),(0,0),(0,0),((A.u .neg .i64 m.2.2.1),m.2.2.1),(0,0)],true)) (.br (A.c .eql kind 9) (.ret ([(0,(A.b .sub .i64 m.1 1)),(0,0),(0,(A.b .sub .i64 m.1 1)),(0,(A.b .sub .i64 m.2.1 1)),(1,m.2.1)],true)) (.br (A.c .eql kind 10) (.ret ([(0,(A.b .sub .i64 m.1 1)),(0,0),(0,(A.b .sub .i64 m.1 1)),(0,(A.b .sub .i64 m.1 1)),(0,0)],true)) (.ret ([(0,0),(0,0),(0,0),(0,0),(0,0)],false))))))))
abbrev GR(A:aI)(m:al)(kind:Int):LT (List (Int×Int)×Bool) Empty:=(.br (A.c .eql kind 3) (.br (A.c .eql kind 3) (.ret ([(0,(A.b .sub .i64 m.1 1)),(0,0),(0,0),(0,0),(0,0)],true)) (Gm A m kind)) (.br (A.c .eql kind 4) (.br (A.c .eql kind 4) (.ret ([(0,(A.b .sub .i64 m.1 1)),(0,0),(0,0),(0,0),(0,0)],true)) (Gm A m kind)) (.br (A.c .eql kind 11) (.ret ([(0,(A.b .sub .i64 m.1 1)),(0,0),(0,0),(0,0),(0,0)],true)) (Gm A m kind))))
abbrev GJ(A:aI)(m:al):LT (List (Int×Int)×Bool) Empty:=(.ret ([(0,(A.b .sub .i64 m.1 1)),(0,0),(0,(A.b .sub .i64 m.1 1)),(0,0),(0,0)],true))
def L5(A:aI)(m:al)(kind:Int):LT (List (Int×Int)×Bool) Empty:=.br (A.c .eql kind 1) (.br (A.c .eql kind 1) (GJ A m) (GR A m kind)) (.br (A.c .eql kind 2) (.br (A.c .eql kind 2) (GJ A m) (GR A m kind)) (.br (A.c .eql kind 6) (GJ A m) (GR A m kind)))
def e_:(al×Int)→(List (Int×Int)×Bool):=fun(m,kind)=>(L5 ah m kind).val (Ty.bi [(.arr 5 (.struct [yI,yI])),.bool])
def acj:ax:=⟨[aR,yI], [(.arr 5 (.struct [yI,yI])),.bool],(@tt (al×Int)),e_⟩
theorem ad9:Sd 260 acj:=aH ap bR true 159 [] (fun A (m,kind)=>L5 A m kind) (fc Tryz.func260 fz) sz (fun((m,kind):al×Int) hp h=>by
 show(L5 ah m kind).pre=true
 simp only[L5,GJ,GR,Gm,LT.pre,Gk,bne_iff_ne,beq_iff_eq,bne_eq_false_iff_eq,beq_eq_false_iff_ne]
 simp only[Ty.cN,Ty.has,ml,x_] at h
 (repeat' (first|intro _|constructor))<;>(try omega))
def Vn(A:aI)(lleast:Int)(lmost:Int)(n:Int):LT Bool Empty:=.br (A.c .geq n lleast) (.ret (A.c .leq n lmost)) (.ret false)
def ij:((Int×Int)×Int)→Bool:=fun((lleast,lmost),n)=>(Vn ah lleast lmost n).val (Ty.bi [.bool])
def acs:ax:=⟨[(.struct [yI,yI]),yI], [.bool],(@tt ((Int×Int)×Int)),ij⟩
theorem af8:Sd 261 acs:=aH ap bR true 25 [] (fun A ((lleast,lmost),n)=>Vn A lleast lmost n) (fc Tryz.func261 fz) sz (fun(((lleast,lmost),n):(Int×Int)×Int) hp h=>by
 show(Vn ah lleast lmost n).pre=true
 simp only[Vn,LT.pre,Gk,bne_iff_ne,beq_iff_eq,bne_eq_false_iff_eq,beq_eq_false_iff_ne]
 simp only[Ty.cN,Ty.has,ml,x_] at h
 (repeat' (first|intro _|constructor))<;>(try omega))
abbrev Jt(A:aI)(m:al)(f:aM):LT Bool Empty:=(.need (A.k (@tt ((Int×Int)×Int)) ((A.n (.struct [yI,yI]) (A.k e_ (m,f.1)).1 0:Int×Int),f.2.1)) (.br (A.not (A.k ij ((A.n (.struct [yI,yI]) (A.k e_ (m,f.1)).1 0:Int×Int),f.2.1))) (.ret false) (.need (A.k (@tt ((Int×Int)×Int)) ((A.n (.struct [yI,yI]) (A.k e_ (m,f.1)).1 1:Int×Int),f.2.2.1)) (.br (A.not (A.k ij ((A.n (.struct [yI,yI]) (A.k e_ (m,f.1)).1 1:Int×Int),f.2.2.1))) (.ret false) (.need (A.k (@tt ((Int×Int)×Int)) ((A.n (.struct [yI,yI]) (A.k e_ (m,f.1)).1 2:Int×Int),f.2.2.2.2.1)) (.br (A.not (A.k ij ((A.n (.struct [yI,yI]) (A.k e_ (m,f.1)).1 2:Int×Int),f.2.2.2.2.1))) (.ret false) (.need (A.k (@tt ((Int×Int)×Int)) ((A.n (.struct [yI,yI]) (A.k e_ (m,f.1)).1 3:Int×Int),f.2.2.2.2.2.1)) (.br (A.not (A.k ij ((A.n (.struct [yI,yI]) (A.k e_ (m,f.1)).1 3:Int×Int),f.2.2.2.2.2.1))) (.ret false) (.need (A.k (@tt ((Int×Int)×Int)) ((A.n (.struct [yI,yI]) (A.k e_ (m,f.1)).1 4:Int×Int),f.2.2.2.2.2.2)) (.br (A.not (A.k ij ((A.n (.struct [yI,yI]) (A.k e_ (m,f.1)).1 4:Int×Int),f.2.2.2.2.2.2))) (.ret false) (.ret true)))))))))))
def Mz(A:aI)(m:al)(f:aM):LT Bool Empty:=.need (A.k (@tt (al×Int)) (m,f.1)) (.br (A.not (A.k e_ (m,f.1)).2) (.ret false) (.br (A.c .lss f.2.2.2.1 0) (.ret false) (.br (A.c .geq f.2.2.2.1 16) (.ret false) (.br (A.c .eql f.1 10) (.br (A.c .eql f.2.2.2.2.1 f.2.1) (.ret false) (Jt A m f)) (Jt A m f)))))
def gl:(al×aM)→Bool:=fun(m,f)=>(Mz ah m f).val (Ty.bi [.bool])
def afP:ax:=⟨[aR,aQ], [.bool],(@tt (al×aM)),gl⟩
theorem afV:Sd 200 afP:=aH ap bR true 250 [] (fun A (m,f)=>Mz A m f) (fc Tryz.func200 fz) (sc ad9 (sc af8 sz)) (fun((m,f):al×aM) hp h=>by
 show(Mz ah m f).pre=true
 simp only[Mz,Jt,LT.pre,aA,dU,jd,Bool.true_and,implies_true,and_self])
structure QM where
 (a0:List aM) (a1:Int) (a3:al)
structure RU where
 (b0:List aM) (b1:Int) (b3:al)
structure MP where
 (c1:List aM)
structure NF where
 (d1 d2:Int)
inductive UJ where
 | c0 (p:QM) (a2:Int)
 | c1 (p:RU) (b2:Int) (b4:List aM)
 | c2 (p:MP) (c0:Int)
 | c3 (p:NF) (d0:Int) (d3:Int) (d4:List aM)
noncomputable def abw:UJ→eD
 | .c0 p a2=>⟨[⟨132,29,(en [(2,.ptr 0 0),(5,.dp true),(11,.sl aQ p.a0),(12,vi p.a1),(13,vi a2)]),[.inLoop (cw Tryz.f132 [1,1,1,0,1,0,0]),.inBlock 0,.code (cw Tryz.f132 [1,1,1,1])],[],none⟩],[.flat false (dc aR p.a3),.dead]⟩
 | .c1 p b2 b4=>⟨[⟨132,29,(en [(2,.ptr 0 0),(5,.own 1),(11,.sl aQ p.b0),(12,vi p.b1),(13,vi b2)]),[.inLoop (cw Tryz.f132 [1,1,1,0,1,0,0]),.inBlock 0,.code (cw Tryz.f132 [1,1,1,1])],[],none⟩],[.flat false (dc aR p.b3),.arr false aQ b4,.dead]⟩
 | .c2 p c0=>⟨[⟨203,61,(en [(0,.own 0),(3,vi c0)]),[.inLoop (cw Tryz.f203 [1,1,0,1,0,0]),.inBlock 0,.code (cw Tryz.f203 [1,1,1])],[],none⟩,⟨132,29,.leaf,[.ops (ow Tryz.f132 [1,1,1,1,1,0]) ((ow Tryz.f132 [1,1,1,1,1,0]).toList.drop 1),.code .ret],[],none⟩],[.arr false aQ p.c1,.dead]⟩
 | .c3 p d0 d3 d4=>⟨[⟨203,61,(en [(0,.own 0),(3,vi d0),(4,.nD 0 7 false p.d1 p.d2),(5,vi d3)]),[.inLoop (cw Tryz.f203 [1,1,0,1,0,0,1,0,0,1,0,1,0,1,0,0]),.inBlock 2,.code (cw Tryz.f203 [1,1,0,1,0,0,1,0,0,1,0,1,1]),.inBlock 1,.code (cw Tryz.f203 [1,1,0,1,0,0,1,1]),.inLoop (cw Tryz.f203 [1,1,0,1,0,0]),.inBlock 0,.code (cw Tryz.f203 [1,1,1])],[],none⟩,⟨132,29,.leaf,[.ops (ow Tryz.f132 [1,1,1,1,1,0]) ((ow Tryz.f132 [1,1,1,1,1,0]).toList.drop 1),.code .ret],[],none⟩],[.arr false aQ d4,.dead]⟩
def abx(A:aI)(m:al)(l:List aM):LT (List aM) UJ:=.need (A.k (@tt al) m) (.br (A.c .neq (A.k fX m) 0) (.ret ([]:List aM)) (.more (.c0 ⟨l,(A.l l),m⟩ 0)))
def IK(A:aI):UJ→LT (List aM) UJ
 | .c0 p a2=>.br (A.c .lss a2 p.a1) (.need (A.and (A.c .leq 0 a2) (A.c .lss a2 (A.l p.a0))) (.need (A.k (@tt (al×aM)) (p.a3,(A.n aQ p.a0 a2:aM))) (.br (A.k gl (p.a3,(A.n aQ p.a0 a2:aM))) (.need (A.c .leq (A.l (([(A.n aQ p.a0 a2:aM)]:List aM):List aM)) 2513169434916) (.more (.c1 ⟨p.a0,p.a1,p.a3⟩ (A.b .add .i64 a2 1) ([(A.n aQ p.a0 a2:aM)]:List aM)))) (.more (.c0 p (A.b .add .i64 a2 1)))))) (.need (A.k (fun _=>true) (([]:List aM),())) (.ret ([]:List aM)))
 | .c1 p b2 b4=>.br (A.c .lss b2 p.b1) (.need (A.and (A.c .leq 0 b2) (A.c .lss b2 (A.l p.b0))) (.need (A.k (@tt (al×aM)) (p.b3,(A.n aQ p.b0 b2:aM))) (.br (A.k gl (p.b3,(A.n aQ p.b0 b2:aM))) (.need (A.c .leq (A.l (A.p b4 ([(A.n aQ p.b0 b2:aM)]:List aM))) 2513169434916) (.more (.c1 p (A.b .add .i64 b2 1) (A.p b4 ([(A.n aQ p.b0 b2:aM)]:List aM))))) (.more (.c1 p (A.b .add .i64 b2 1) b4))))) (.need (A.k (fun _=>true) (b4,())) (.br (A.c .lss (A.l (A.k xE (b4,())).1) 2) (.ret (A.k xE (b4,())).1) (.more (.c2 ⟨(A.k xE (b4,())).1⟩ 1))))
 | .c2 p c0=>.br (A.c .lss c0 (A.l p.c1)) (.need (A.and (A.c .leq 0 c0) (A.c .lss c0 (A.l p.c1))) (.need (A.and (A.c .leq 0 (A.b .sub .i64 c0 1)) (A.c .lss (A.b .sub .i64 c0 1) (A.l p.c1))) (.br (A.and (A.c .eql (A.n aQ p.c1 c0:aM).1 (A.n aQ p.c1 (A.b .sub .i64 c0 1):aM).1) (A.and (A.c .eql (A.n aQ p.c1 c0:aM).2.1 (A.n aQ p.c1 (A.b .sub .i64 c0 1):aM).2.1) (A.and (A.c .eql (A.n aQ p.c1 c0:aM).2.2.1 (A.n aQ p.c1 (A.b .sub .i64 c0 1):aM).2.2.1) (A.and (A.c .eql (A.n aQ p.c1 c0:aM).2.2.2.1 (A.n aQ p.c1 (A.b .sub .i64 c0 1):aM).2.2.2.1) (A.and (A.c .eql (A.n aQ p.c1 c0:aM).2.2.2.2.1 (A.n aQ p.c1 (A.b .sub .i64 c0 1):aM).2.2.2.2.1) (A.and (A.c .eql (A.n aQ p.c1 c0:aM).2.2.2.2.2.1 (A.n aQ p.c1 (A.b .sub .i64 c0 1):aM).2.2.2.2.2.1) (A.and (A.c .eql (A.n aQ p.c1 c0:aM).2.2.2.2.2.2 (A.n aQ p.c1 (A.b .sub .i64 c0 1):aM).2.2.2.2.2.2) true))))))) (.need (A.and (A.c .leq 0 c0) (A.and (A.c .leq c0 (A.l p.c1)) (A.c .leq (A.l p.c1) (A.l p.c1)))) (.more (.c3 ⟨c0,(A.b .sub .i64 (A.l p.c1) c0)⟩ c0 1 p.c1))) (.more (.c2 p (A.b .add .i64 c0 1)))))) (.ret p.c1)
 | .c3 p d0 d3 d4=>.br (A.c .lss d3 p.d2) (.need (A.and (A.c .leq 0 d3) (A.c .lss d3 p.d2)) (.need (A.and (A.c .leq 0 (A.b .sub .i64 d3 1)) (A.c .lss (A.b .sub .i64 d3 1) p.d2)) (.br (A.not (A.and (A.c .eql (A.n aQ d4 (A.b .add .i64 p.d1 d3):aM).1 (A.n aQ d4 (A.b .add .i64 p.d1 (A.b .sub .i64 d3 1)):aM).1) (A.and (A.c .eql (A.n aQ d4 (A.b .add .i64 p.d1 d3):aM).2.1 (A.n aQ d4 (A.b .add .i64 p.d1 (A.b .sub .i64 d3 1)):aM).2.1) (A.and (A.c .eql (A.n aQ d4 (A.b .add .i64 p.d1 d3):aM).2.2.1 (A.n aQ d4 (A.b .add .i64 p.d1 (A.b .sub .i64 d3 1)):aM).2.2.1) (A.and (A.c .eql (A.n aQ d4 (A.b .add .i64 p.d1 d3):aM).2.2.2.1 (A.n aQ d4 (A.b .add .i64 p.d1 (A.b .sub .i64 d3 1)):aM).2.2.2.1) (A.and (A.c .eql (A.n aQ d4 (A.b .add .i64 p.d1 d3):aM).2.2.2.2.1 (A.n aQ d4 (A.b .add .i64 p.d1 (A.b .sub .i64 d3 1)):aM).2.2.2.2.1) (A.and (A.c .eql (A.n aQ d4 (A.b .add .i64 p.d1 d3):aM).2.2.2.2.2.1 (A.n aQ d4 (A.b .add .i64 p.d1 (A.b .sub .i64 d3 1)):aM).2.2.2.2.2.1) (A.and (A.c .eql (A.n aQ d4 (A.b .add .i64 p.d1 d3):aM).2.2.2.2.2.2 (A.n aQ d4 (A.b .add .i64 p.d1 (A.b .sub .i64 d3 1)):aM).2.2.2.2.2.2) true)))))))) (.need (A.and (A.c .leq 0 d3) (A.c .lss d3 p.d2)) (.need (A.and (A.c .leq 0 d0) (A.c .lss d0 (A.l d4))) (.more (.c3 p (A.b .add .i64 d0 1) (A.b .add .i64 d3 1) (A.set d4 d0 (A.n aQ d4 (A.b .add .i64 p.d1 d3):aM)))))) (.more (.c3 p d0 (A.b .add .i64 d3 1) d4))))) (.need (A.and (A.c .leq 0 d0) (A.and (A.c .leq d0 (A.l d4)) (A.c .leq (A.l d4) (A.l d4)))) (.need (A.and (A.c .leq 0 0) (A.and (A.c .leq 0 d0) (A.c .leq d0 (A.l (A.spl d4 d0 (A.r (A.b .sub .i64 (A.l d4) d0) (Ty.dZ aQ:aM))))))) (.ret (A.s (A.spl d4 d0 (A.r (A.b .sub .i64 (A.l d4) d0) (Ty.dZ aQ:aM))) 0 (A.b .add .i64 0 (A.b .sub .i64 d0 0))))))
def nf(a:aM):List aM→List aM
 | []=>[]
 | b::l=>if b=a then nf a l else b::nf b l
def kL:List aM→List aM
 | []=>[]
 | a::l=>a::nf a l
theorem Da:∀(l:List aM) (a x:aM),nf a (l ++ [x])=if x=(a::l).getLast (List.cons_ne_nil _ _) then nf a l else nf a l ++ [x]
 | [],a,x=>by
   show(if x=a then[] else[x])=_
   rfl
 | b::l,a,x=>by
   have ih:=Da l b x
   rw[List.getLast_cons (List.cons_ne_nil b l)]
   show(if b=a then nf a (l ++ [x]) else b::nf b (l ++ [x]))=_
   by_cases h:b=a
   ·subst h
    rw[if_pos rfl,ih]
    show _=if _ then(if b=b then nf b l else _) else(if b=b then nf b l else _) ++ [x]
    rw[if_pos rfl]
   ·rw[if_neg h,ih]
    show _=if _ then(if b=a then nf a l else b::nf b l) else(if b=a then nf a l else b::nf b l) ++ [x]
    rw[if_neg h]
    split<;>rfl
theorem yR{L:List aM}{n:Nat}(h0:1≤n)(h:n<L.length):kL (L.take (n+1))=if L[n]=L[n-1]'(by omega) then kL (L.take n) else kL (L.take n) ++ [L[n]]:=by
 cases L with
 | nil=>simp at h
 | cons a l=>
   obtain⟨k,rfl⟩:∃k,n=k+1:=⟨n-1,by omega⟩
   have hk:k<l.length:=by simpa using h
   rw[List.take_succ_cons,List.take_succ_cons,List.take_succ_eq_append_getElem hk]
   show a::nf a (l.take k ++ [l[k]])=if _ then a::nf a (l.take k) else a::nf a (l.take k) ++ [_]
   rw[Da]
   have e1:(a::l)[k+1]=l[k]:=rfl
   have e2:(a::l.take k).getLast (List.cons_ne_nil _ _)=(a::l)[k+1-1]'(by simp;omega):=by
    apply Option.some.inj
    rw[←List.getLast?_eq_some_getLast,List.getLast?_eq_getElem?,show(a::l.take k).length-1=k by simp;omega,show a::l.take k=(a::l).take (k+1) from rfl,List.getElem?_take_of_lt (Nat.lt_succ_self k),uX (by simp;omega)]
    rfl
   rw[e2,e1]
   split<;>rfl
def gZ(m:al)(l:List aM):List aM:=bif decide (fX m=0) then kL ((l.filter fun f=>gl (m,f)).mergeSort fun a b=>!(dP b a)) else[]
theorem EK{a b:aM}:ah.and (ah.c .eql a.1 b.1) (ah.and (ah.c .eql a.2.1 b.2.1) (ah.and (ah.c .eql a.2.2.1 b.2.2.1) (ah.and (ah.c .eql a.2.2.2.1 b.2.2.2.1) (ah.and (ah.c .eql a.2.2.2.2.1 b.2.2.2.2.1) (ah.and (ah.c .eql a.2.2.2.2.2.1 b.2.2.2.2.2.1) (ah.and (ah.c .eql a.2.2.2.2.2.2 b.2.2.2.2.2.2) true))))))=decide (a=b):=by
 obtain⟨a1,a2,a3,a4,a5,a6,a7⟩:=a
 obtain⟨b1,b2,b3,b4,b5,b6,b7⟩:=b
 simp only[aN,aJ,Bool.and_true,Prod.mk.injEq,Bool.decide_and]
theorem V6{d:List aM}{z:aM}{k n:Nat}(h:k+n=d.length):(ah.spl d (k:Int) (ah.r (n:Int) z)).length=d.length:=by
 rw[nV,jr,gS,gS,gm,gm,List.length_take,List.length_drop,pQ];omega
theorem P2{L:List aM}{i:Nat}(h:i<L.length):(ah.n aQ L (i:Int):aM)=L[i]:=getD_in h _
theorem Pf{p:NF}{L:List aM}{k0:Nat}(h0:p.d1=(k0:Int))(h1:p.d2=((L.length-k0:Nat):Int))(hk0:k0≤L.length)(hL:L.length≤1000000) :
  ∀(j k k2:Nat) (d:List aM),L.length-k0-k2=j→k2≤L.length-k0→1≤k2→1≤k→k+1≤k0+k2→d.length=L.length→d.take k=kL (L.take (k0+k2))→d.drop k=L.drop k→
   au (IK ah) (.more (.c3 p (k:Int) (k2:Int) d)) (kL L):=by
 intro j
 induction j with
 | zero=>
   intro k k2 d hj hk2 hk21 hk hkk hd ht _
   have e:k0+k2=L.length:=by omega
   have ez:ah.b .add .i64 0 (ah.b .sub .i64 (k:Int) 0)=(k:Int):=by
    rw[show(0:Int)=((0:Nat):Int) from rfl,E8 (Nat.zero_le _) (by omega),eH (by omega)];omega
   refine ak.2 ((ai ?_).2 (af.2 ⟨?_,af.2 ⟨?_,ay ?_ (.ret _)⟩⟩))
   ·rw[h1,aC];exact aX (by omega)
   ·rw[bF,hd,aJ,aJ,ao,ao,ao];simp;omega
   ·have hl:(ah.spl d (k:Int) (ah.r (ah.b .sub .i64 (ah.l d) (k:Int)) (Ty.dZ aQ:aM))).length=L.length:=by
     rw[bF,hd,E8 (by omega) (by omega)];exact(V6 (by omega)).trans hd
    rw[bF (l:=ah.spl _ _ _),hl,aJ,aJ,ao,ao,ao];simp;omega
   ·rw[ez,fP,jr,gS,List.append_assoc,List.take_left' (by rw[List.length_take];omega),ht,e,List.take_of_length_le (Nat.le_refl _)]
    rfl
 | succ j ih=>
   intro k k2 d hj hk2 hk21 hk hkk hd ht hdr
   have hlt:k0+k2<L.length:=by omega
   have at0:∀i,k≤i→(hi:i<L.length)→(ah.n aQ d (i:Int):aM)=L[i]:=fun i hi hl=>by
    rw[P2 (by omega)]
    have:=congrArg (fun l=>l[i-k]?) hdr
    simp only[List.getElem?_drop,show k+(i-k)=i by omega] at this
    rw[uX (by omega),uX hl] at this
    exact Option.some.inj this
   have e1:ah.b .add .i64 p.d1 (k2:Int)=((k0+k2:Nat):Int):=by rw[h0,eH (i:=k0) (j:=k2) (by omega)]
   have e2:ah.b .sub .i64 (k2:Int) 1=((k2-1:Nat):Int):=E8 (i:=k2) (j:=1) (by omega) (by omega)
   have e3:ah.b .add .i64 p.d1 ((k2-1:Nat):Int)=((k0+k2-1:Nat):Int):=by rw[h0,eH (i:=k0) (j:=k2-1) (by omega)];congr 1;omega
   have a1:=at0 (k0+k2) (by omega) hlt
   have a2:=at0 (k0+k2-1) (by omega) (by omega)
   have sn:=yR (L:=L) (n:=k0+k2) (by omega) hlt
   have hin:ah.and (ah.c .leq 0 (k2:Int)) (ah.c .lss (k2:Int) p.d2)=true:=by rw[h1,aC,aJ,ao];simp;omega
   have hin2:ah.and (ah.c .leq 0 ((k2-1:Nat):Int)) (ah.c .lss ((k2-1:Nat):Int) p.d2)=true:=by rw[h1,aC,aJ,ao];simp;omega
   refine ak.2 ((aj ?_).2 (af.2 ⟨hin,af.2 ⟨by rw[e2];exact hin2,?_⟩⟩))
   ·rw[h1,aC];exact aK (by omega)
   rw[e2,e1,e3,a1,a2,EK,bU (i:=k2) (by omega),bU (i:=k) (by omega)]
   by_cases he:L[k0+k2]=L[k0+k2-1]
   ·rw[aK he]
    refine(ai rfl).2 (ih k (k2+1) d (by omega) (by omega) (by omega) hk (by omega) hd ?_ hdr)
    rw[show k0+(k2+1)=k0+k2+1 by omega,sn,if_pos he];exact ht
   ·rw[aX he]
    refine(aj rfl).2 (af.2 ⟨hin,af.2 ⟨aO (by omega),?_⟩⟩)
    rw[yp,gS]
    have hkd:k<d.length:=by omega
    refine ih (k+1) (k2+1) _ (by omega) (by omega) (by omega) (by omega) (by omega) (by rw[List.length_set];exact hd) ?_ ?_
    ·rw[show k0+(k2+1)=k0+k2+1 by omega,sn,if_neg he,←ht,List.take_succ_eq_append_getElem (by rw[List.length_set];exact hkd),List.getElem_set_self,List.take_set_of_le (Nat.le_refl _)]
    ·rw[List.drop_set_of_lt (Nat.lt_succ_self _)]
     have:=congrArg (List.drop 1) hdr
     rw[List.drop_drop,List.drop_drop] at this
     exact this
theorem NJ{p:MP}{L:List aM}(h0:p.c1=L)(hL:L.length≤1000000):∀(j i:Nat),L.length-i=j→i≤L.length→1≤i→kL (L.take i)=L.take i→
  au (IK ah) (.more (.c2 p (i:Int))) (kL L):=by
 intro j
 induction j with
 | zero=>
   intro i hj hi h1 hc
   have:i=L.length:=by omega
   subst this
   rw[List.take_of_length_le (Nat.le_refl _)] at hc
   refine ak.2 ((ai ?_).2 (ay ?_ (.ret _)))
   ·rw[h0,bF,aC];simp
   ·rw[h0,hc]
 | succ j ih=>
   intro i hj hi h1 hc
   have hlt:i<L.length:=by omega
   have e2:ah.b .sub .i64 (i:Int) 1=((i-1:Nat):Int):=E8 (i:=i) (j:=1) (by omega) (by omega)
   have sn:=yR (L:=L) (n:=i) h1 hlt
   refine ak.2 ((aj ?_).2 (af.2 ⟨by rw[h0];exact aO hlt,af.2 ⟨by rw[h0,e2];exact aO (by omega),?_⟩⟩))
   ·rw[h0,bF,aC];exact aK hlt
   rw[h0,e2,P2 hlt,P2 (show i-1<L.length by omega),EK,bU (by omega)]
   by_cases he:L[i]=L[i-1]
   ·rw[aK he]
    refine(aj rfl).2 (af.2 ⟨?_,?_⟩)
    ·rw[bF,aJ,aJ,ao,ao,ao];simp;omega
    ·rw[bF,E8 (by omega) (by omega)]
     have:=Pf (p:=⟨(i:Int),((L.length-i:Nat):Int)⟩) (L:=L) (k0:=i) rfl rfl hi hL _ i 1 L rfl (by omega) (Nat.le_refl _) h1 (Nat.le_refl _) rfl (by rw[sn,if_pos he,hc]) rfl
     exact this
   ·rw[aX he]
    refine(ai rfl).2 (ih (i+1) (by omega) (by omega) (by omega) ?_)
    rw[sn,if_neg he,hc,List.take_succ_eq_append_getElem hlt]
theorem Ig{L:List aM}:(L.mergeSort fun a b=>!(dP b a)).length=L.length:=List.length_mergeSort _
theorem N7{L:List aM}(hL:L.length≤1000000):au (IK ah) (.need (ah.k (fun _=>true) ((L,()):List aM×Unit)) (.br (ah.c .lss (ah.l (ah.k xE (L,())).1) 2) (.ret (ah.k xE (L,())).1) (.more (.c2 ⟨(ah.k xE (L,())).1⟩ 1)))) (kL (L.mergeSort fun a b=>!(dP b a))):=by
 have e:(ah.k xE (L,())).1=L.mergeSort fun a b=>!(dP b a):=rfl
 rw[e]
 have hl:=Ig (L:=L)
 generalize L.mergeSort (fun a b=>!(dP b a))=M at hl ⊢
 refine af.2 ⟨rfl,?_⟩
 by_cases h:M.length<2
 ·refine(aj ?_).2 (ay ?_ (.ret _))
  ·rw[bF,ar];exact aK (by omega)
  ·match M,h with
   | [],_=>rfl
   | [a],_=>rfl
   | _::_::_,h=>simp at h;omega
 ·refine(ai ?_).2 ?_
  ·rw[bF,ar];exact aX (by omega)
  ·refine NJ (L:=M) rfl (by omega) _ 1 rfl (by omega) (Nat.le_refl _) ?_
   match M,h with
   | [],h=>simp at h
   | a::l,_=>rfl
theorem LQ{p:RU}{L:List aM}{m:al}(h0:p.b0=L)(h1:p.b1=(L.length:Int))(h3:p.b3=m)(hL:L.length≤1000000) :
  ∀(j i:Nat),L.length-i=j→i≤L.length→au (IK ah) (.more (.c1 p (i:Int) ((L.take i).filter fun f=>gl (m,f)))) (kL ((L.filter fun f=>gl (m,f)).mergeSort fun a b=>!(dP b a))):=by
 intro j
 induction j with
 | zero=>
   intro i hj hi
   have:i=L.length:=by omega
   subst this
   rw[List.take_of_length_le (Nat.le_refl _)]
   refine ak.2 ((ai ?_).2 (N7 (Nat.le_trans (List.length_filter_le _ _) hL)))
   rw[h1,aC];simp
 | succ j ih=>
   intro i hj hi
   have hlt:i<L.length:=by omega
   refine ak.2 ((aj ?_).2 (af.2 ⟨by rw[h0];exact aO hlt,af.2 ⟨rfl,?_⟩⟩))
   ·rw[h1,aC];exact aK hlt
   have nx:=ih (i+1) (by omega) (by omega)
   rw[List.take_succ_eq_append_getElem hlt,List.filter_append] at nx
   rw[h0,h3,P2 hlt,bU (by omega)]
   cases hf:gl (m,L[i])
   ·refine(ai (show ah.k gl (m,L[i])=false from hf)).2 ?_
    rwa [List.filter_cons_of_neg (p:=fun f=>gl (m,f)) (by rw[hf];simp),List.filter_nil,List.append_nil] at nx
   ·refine(aj (show ah.k gl (m,L[i])=true from hf)).2 (af.2 ⟨?_,?_⟩)
    ·have:=List.length_filter_le (fun f=>gl (m,f)) (L.take i)
     rw[List.length_take] at this
     rw[bF,f_,gm,List.length_singleton,ao]
     exact aK (by omega)
    ·rw[List.filter_cons_of_pos (p:=fun f=>gl (m,f)) hf,List.filter_nil] at nx
     exact nx
theorem II{p:QM}{L:List aM}{m:al}(h0:p.a0=L)(h1:p.a1=(L.length:Int))(h3:p.a3=m)(hL:L.length≤1000000) :
  ∀(j i:Nat),L.length-i=j→i≤L.length→(L.take i).filter (fun f=>gl (m,f))=[]→au (IK ah) (.more (.c0 p (i:Int))) (kL ((L.filter fun f=>gl (m,f)).mergeSort fun a b=>!(dP b a))):=by
 intro j
 induction j with
 | zero=>
   intro i hj hi hf
   have:i=L.length:=by omega
   subst this
   rw[List.take_of_length_le (Nat.le_refl _)] at hf
   rw[hf]
   refine ak.2 ((ai ?_).2 (af.2 ⟨rfl,ay ?_ (.ret _)⟩))
   ·rw[h1,aC];simp
   ·rw[List.mergeSort_nil];rfl
 | succ j ih=>
   intro i hj hi hz
   have hlt:i<L.length:=by omega
   refine ak.2 ((aj ?_).2 (af.2 ⟨by rw[h0];exact aO hlt,af.2 ⟨rfl,?_⟩⟩))
   ·rw[h1,aC];exact aK hlt
   rw[h0,h3,P2 hlt,bU (by omega)]
   have ft:(L.take (i+1)).filter (fun f=>gl (m,f))=[L[i]].filter fun f=>gl (m,f):=by
    rw[List.take_succ_eq_append_getElem hlt,List.filter_append,hz,List.nil_append]
   cases hf:gl (m,L[i])
   ·refine(ai (show ah.k gl (m,L[i])=false from hf)).2 (ih (i+1) (by omega) (by omega) ?_)
    rw[ft,List.filter_cons_of_neg (p:=fun f=>gl (m,f)) (by rw[hf];simp),List.filter_nil]
   ·refine(aj (show ah.k gl (m,L[i])=true from hf)).2 (af.2 ⟨by kernel_rfl,?_⟩)
    have nx:=LQ (p:=⟨L,p.a1,m⟩) (L:=L) (m:=m) rfl h1 rfl hL _ (i+1) rfl (by omega)
    rw[ft,List.filter_cons_of_pos (p:=fun f=>gl (m,f)) hf,List.filter_nil] at nx
    exact nx
theorem adT{m:al}{l:List aM}(h:l.length≤1000000):au (IK ah) (abx ah m l) (gZ m l):=by
 unfold abx gZ
 refine af.2 ⟨rfl,?_⟩
 by_cases hm:fX m=0
 ·rw[aK hm]
  refine(ai (by rw[aU];exact aX fun k=>k hm)).2 ?_
  exact II (p:=⟨l,(l.length:Int),m⟩) (L:=l) rfl rfl rfl h _ 0 rfl (Nat.zero_le _) rfl
 ·rw[aX hm]
  exact(aj (by rw[aU];exact aK hm)).2 (.ret _)
def p9:(al×List aM)→(List aM):=fun(m,l)=>gZ m l
def yO:(al×List aM)→Bool:=fun(_,l)=>decide (l.length≤1000000)
def aed:ax:=⟨[aR,(.slice aQ)], [(.slice aQ)],yO,p9⟩
theorem agh:Sd 132 aed:=pG ap bR true 33  (ic aeJ iz) mz pz [⟨132,5, [[2,5,11,12,13]]⟩,⟨203,4, [[0,3], []]⟩,⟨203,9, [[0,3,4,5], []]⟩] [] (fun A (m,l)=>abx A m l) IK abw (fc Tryz.func132 (fc Tryz.func203 fz)) (sc CF (sc afV sz)) (fun A y=>match y with |.c0 p a2=>⟨42,by kernel_rfl,by kernel_rfl⟩|.c1 p b2 b4=>⟨42,by kernel_rfl,by kernel_rfl⟩|.c2 p c0=>⟨46,by kernel_rfl,by kernel_rfl⟩|.c3 p d0 d3 d4=>⟨54,by kernel_rfl,by kernel_rfl⟩) fun((m,l):al×List aM) hp h=>adT (of_decide_eq_true hp)
def X7(A:aI)(a:bl)(b:bl):LT Int Empty:=.need (A.k (@tt (Int×Int)) (a.2.1,b.2.1)) (.need (A.k (@tt (Int×Int)) (a.2.2.1,b.2.2.1)) (.need (A.k (@tt (Int×Int)) (a.1,b.1)) (.need (A.k (@tt (List Int)) [(A.k jb (a.2.1,b.2.1)),(A.k jb (a.2.2.1,b.2.2.1)),(A.k jb (a.1,b.1))]) (.ret (A.k Sn [(A.k jb (a.2.1,b.2.1)),(A.k jb (a.2.2.1,b.2.2.1)),(A.k jb (a.1,b.1))])))))
def FD:(bl×bl)→Int:=fun(a,b)=>(X7 ah a b).val (Ty.bi [yI])
def ac1:ax:=⟨[bA,bA], [yI],(@tt (bl×bl)),FD⟩
theorem Wx:Sd 136 ac1:=aH ap bR true 33 [] (fun A (a,b)=>X7 A a b) (fc Tryz.func136 fz) (sc abW (sc agt sz)) (fun((a,b):bl×bl) hp h=>by
 show(X7 ah a b).pre=true
 rfl)
def Ex{Y:Type}(s:Y→LT (List bl×Unit) Y)(N:Nat)(t:LT (List bl×Unit) Y):Prop:=∃r:List bl,r.length=N∧au s t (r,())
section
variable {Y:Type} {s:Y→LT (List bl×Unit) Y} {N:Nat} {t e:LT (List bl×Unit) Y} {a b:Int}
theorem Ex.ret{r:List bl}(h:r.length=N):Ex s N (.ret (r,())):=⟨r,h,.ret _⟩
theorem Ex.more{y:Y}(h:Ex s N (s y)):Ex s N (.more y):=h.elim fun r k=>⟨r,k.1,.more k.2⟩
theorem Ex.need{b:Bool}(hb:b=true)(h:Ex s N t):Ex s N (.need b t):=h.elim fun r k=>⟨r,k.1,.need hb k.2⟩
theorem Ex.br{b:Bool}(h1:b=true→Ex s N t)(h2:b=false→Ex s N e):Ex s N (.br b t e):=by
 cases b
 ·exact(h2 rfl).elim fun r k=>⟨r,k.1,.br k.2⟩
 ·exact(h1 rfl).elim fun r k=>⟨r,k.1,.br k.2⟩
theorem Ex.lss(h1:a<b→Ex s N t)(h2:b≤a→Ex s N e):Ex s N (.br (ah.c .lss a b) t e):=
 Ex.br (fun h=>h1 (of_decide_eq_true (p:=a<b) h)) fun h=>h2 (Int.not_lt.1 (of_decide_eq_false (p:=a<b) h))
theorem Ex.gtr(h1:b<a→Ex s N t)(h2:a≤b→Ex s N e):Ex s N (.br (ah.c .gtr a b) t e):=
 Ex.br (fun h=>h1 (of_decide_eq_true (p:=b<a) h)) fun h=>h2 (Int.not_lt.1 (of_decide_eq_false (p:=b<a) h))
theorem Ex.leq(h1:a≤b→Ex s N t)(h2:b<a→Ex s N e):Ex s N (.br (ah.c .leq a b) t e):=
 Ex.br (fun h=>h1 (of_decide_eq_true (p:=a≤b) h)) fun h=>h2 (Int.not_le.1 (of_decide_eq_false (p:=a≤b) h))
theorem Ex.eql(h1:a=b→Ex s N t)(h2:¬a=b→Ex s N e):Ex s N (.br (ah.c .eql a b) t e):=by
 rw[aN];exact Ex.br (fun h=>h1 (of_decide_eq_true h)) fun h=>h2 (of_decide_eq_false h)
theorem Ex.neq(h1:¬a=b→Ex s N t)(h2:a=b→Ex s N e):Ex s N (.br (ah.c .neq a b) t e):=by
 rw[aU];exact Ex.br (fun h=>h1 (of_decide_eq_true h)) fun h=>h2 (Decidable.not_not.1 (of_decide_eq_false h))
end
def pW{Y:Type}(s:Y→LT (List bl×Unit) Y)(t:LT (List bl×Unit) Y)(d:List bl):List bl:=
 match d with
 | []=>[]
 | _::_=>open Classical in if h:Ex s d.length t then h.choose else d
theorem kU{Y:Type}{s:Y→LT (List bl×Unit) Y}{t:LT (List bl×Unit) Y}{d:List bl}:(pW s t d).length=d.length:=by
 cases d with
 | nil=>rfl
 | cons a l=>
   rw[pW]
   split
   ·rename_i h;exact h.choose_spec.1
   ·rfl
theorem oH{Y:Type}{s:Y→LT (List bl×Unit) Y}{t:LT (List bl×Unit) Y}{d:List bl}(h:Ex s d.length t):(pW s t d).length=d.length∧au s t (pW s t d,()):=by
 refine⟨kU,?_⟩
 cases d with
 | nil=>
   obtain⟨r,h1,h2⟩:=h
   cases List.length_eq_zero_iff.1 h1
   exact h2
 | cons a l=>
   rw[pW,dif_pos h]
   exact h.choose_spec.2
theorem D9{l:List bl}{i j:Int}{v:bl}(h:0≤i∧i<(l.length:Int)):ah.and (ah.c .leq 0 i) (ah.c .lss i (ah.l (ah.set l j v)))=true:=dM (by rw[gb];exact h)
theorem rY{x y:Int}(h:-4611686018427387904≤x+y∧x+y<4611686018427387904):ah.b .add .i64 x y=x+y:=by rw[ck,iZ (by omega) (by omega)]
theorem qj{x y:Int}(h:-4611686018427387904≤x-y∧x-y<4611686018427387904):ah.b .sub .i64 x y=x-y:=by rw[Go.Ev.cu,iZ (by omega) (by omega)]
structure PI where
 (a0 a1 a2:Int)
inductive TM where
 | c0 (p:PI) (a3:Int) (a4:List bl)
noncomputable def YB:TM→eD
 | .c0 p a3 a4=>⟨[⟨335,38,(en [(0,.own 0),(1,vi p.a0),(2,vi p.a1),(3,vi p.a2),(10,vi a3)]),[.inLoop (cw Tryz.f335 [1,0,0]),.inBlock 0],[],none⟩],[.arr false bA a4,.dead]⟩
def aaU(A:aI)(data:List bl)(a:Int)(b:Int)(n:Int):LT (List bl×Unit) TM:=.more (.c0 ⟨a,b,n⟩ 0 data)
def TY(A:aI):TM→LT (List bl×Unit) TM
 | .c0 p a3 a4=>.br (A.c .lss a3 p.a2) (.need (A.and (A.c .leq 0 (A.b .add .i64 p.a1 a3)) (A.c .lss (A.b .add .i64 p.a1 a3) (A.l a4))) (.need (A.and (A.c .leq 0 (A.b .add .i64 p.a0 a3)) (A.c .lss (A.b .add .i64 p.a0 a3) (A.l a4))) (.need (A.and (A.c .leq 0 (A.b .add .i64 p.a0 a3)) (A.c .lss (A.b .add .i64 p.a0 a3) (A.l a4))) (.need (A.and (A.c .leq 0 (A.b .add .i64 p.a1 a3)) (A.c .lss (A.b .add .i64 p.a1 a3) (A.l (A.set a4 (A.b .add .i64 p.a0 a3) (A.n bA a4 (A.b .add .i64 p.a1 a3):bl))))) (.more (.c0 p (A.b .add .i64 a3 1) (A.set (A.set a4 (A.b .add .i64 p.a0 a3) (A.n bA a4 (A.b .add .i64 p.a1 a3):bl)) (A.b .add .i64 p.a1 a3) (A.n bA a4 (A.b .add .i64 p.a0 a3):bl)))))))) (.ret (a4,()))
theorem Z3{p:PI}{N:Nat}(h0:0≤p.a0)(h1:0≤p.a1)(h2:p.a0+p.a2≤N)(h3:p.a1+p.a2≤N)(hN:N≤1000000):∀(j:Nat) (k:Int) (d:List bl),(p.a2-k).toNat≤j→0≤k→d.length=N→Ex (TY ah) N (.more (.c0 p k d)):=by
 intro j
 induction j with
 | zero=>intro k d hj hk hd;exact Ex.more (Ex.lss (fun h=>by omega) fun _=>Ex.ret hd)
 | succ j ih=>
   intro k d hj hk hd
   refine Ex.more (Ex.lss (fun h=>?_) fun _=>Ex.ret hd)
   rw[rY (x:=p.a1) (y:=k) (by omega),rY (x:=p.a0) (y:=k) (by omega),rY (x:=k) (y:=1) (by omega)]
   exact Ex.need (dM (by omega)) (Ex.need (dM (by omega)) (Ex.need (dM (by omega)) (Ex.need (D9 (by omega)) (ih (k+1) _ (by omega) (by omega) (gb.trans (gb.trans hd))))))
theorem ZO{d:List bl}{a b n:Int}(h:0≤a∧0≤n∧a+n≤b∧b+n≤(d.length:Int)∧d.length≤1000000):Ex (TY ah) d.length (aaU ah d a b n):=
 Z3 (p:=⟨a,b,n⟩) (by simp only;omega) (by simp only;omega) (by simp only;omega) (by simp only;omega) (by omega) _ 0 d (Nat.le_refl _) (Int.le_refl 0) rfl
def FE:List bl×(Int×Int×Int)→List bl×Unit:=fun(d,a,b,n)=>(pW (TY ah) (aaU ah d a b n) d,())
def AS:List bl×(Int×Int×Int)→Bool:=fun(d,a,b,n)=>decide (0≤a∧0≤n∧a+n≤b∧b+n≤(d.length:Int)∧d.length≤1000000)
def ads:dG:=⟨bA, [yI,yI,yI], [136], [],AS,FE⟩
theorem ada:dG.Sound Tryz.prog 335 ads:=iG ap bR true 12 iz [⟨335,1, [[0,1,2,3,10]]⟩] [] (fun A (data,(a,b,n))=>aaU A data a b n) TY YB (fc Tryz.func335 fz) sz (fun A y=>match y with |.c0 p a3 a4=>⟨49,by kernel_rfl,by kernel_rfl⟩) fun((data,(a,b,n)):List bl×(Int×Int×Int)) hp hv h=>oH (ZO (of_decide_eq_true hp))
structure N0 where
 (a0:Int)
inductive Vx where
 | c0 (p:N0) (a1:Int) (a2:Int) (a3:List bl)
noncomputable def abM:Vx→eD
 | .c0 p a1 a2 a3=>⟨[⟨309,58,(en [(0,.own 0),(2,vi p.a0),(4,.fn 136 [] []),(10,vi a1),(11,vi a2)]),[.inLoop (cw Tryz.f309 [1,1,0,0,0]),.inBlock 0,.code (cw Tryz.f309 [1,1,1])],[],none⟩],[.arr false bA a3,.dead]⟩
def VY(A:aI)(data:List bl)(a:Int)(m:Int)(b:Int):LT (List bl×Unit) Vx:=.more (.c0 ⟨m⟩ (A.b .sub .i64 m a) (A.b .sub .i64 b m) data)
def S8(A:aI):Vx→LT (List bl×Unit) Vx
 | .c0 p a1 a2 a3=>.br (A.c .neq a1 a2) (.br (A.c .gtr a1 a2) (.need (A.k AS (a3,(A.b .sub .i64 p.a0 a1),p.a0,a2)) (.more (.c0 p (A.b .sub .i64 a1 a2) a2 (A.k FE (a3,(A.b .sub .i64 p.a0 a1),p.a0,a2)).1))) (.need (A.k AS (a3,(A.b .sub .i64 p.a0 a1),(A.b .sub .i64 (A.b .add .i64 p.a0 a2) a1),a1)) (.more (.c0 p a1 (A.b .sub .i64 a2 a1) (A.k FE (a3,(A.b .sub .i64 p.a0 a1),(A.b .sub .i64 (A.b .add .i64 p.a0 a2) a1),a1)).1)))) (.need (A.k AS (a3,(A.b .sub .i64 p.a0 a1),p.a0,a1)) (.ret ((A.k FE (a3,(A.b .sub .i64 p.a0 a1),p.a0,a1)).1,())))
theorem DZ{d:List bl}{a b n:Int}(h:0≤a∧0≤n∧a+n≤b∧b+n≤(d.length:Int)∧d.length≤1000000):ah.k AS (d,a,b,n)=true:=aK h
theorem IV{d:List bl}{a b n:Int}:(ah.k FE (d,a,b,n)).1.length=d.length:=kU
theorem abm{p:N0}{N:Nat}(hN:N≤1000000):∀(f:Nat) (i j:Int) (d:List bl),(i+j).toNat≤f→1≤i→1≤j→i≤p.a0→p.a0+j≤N→d.length=N→Ex (S8 ah) N (.more (.c0 p i j d)):=by
 intro f
 induction f with
 | zero=>intro i j d h1 h2 h3;omega
 | succ f ih=>
   intro i j d h1 h2 h3 h4 h5 hd
   refine Ex.more (Ex.neq (fun h=>Ex.gtr (fun g=>?_) fun g=>?_) fun h=>?_)
   ·rw[qj (x:=p.a0) (y:=i) (by omega),qj (x:=i) (y:=j) (by omega)]
    exact Ex.need (DZ (by omega)) (ih (i-j) j _ (by omega) (by omega) h3 (by omega) h5 (IV.trans hd))
   ·rw[rY (x:=p.a0) (y:=j) (by omega),qj (x:=p.a0) (y:=i) (by omega),qj (x:=p.a0+j) (y:=i) (by omega),qj (x:=j) (y:=i) (by omega)]
    exact Ex.need (DZ (by omega)) (ih i (j-i) _ (by omega) h2 (by omega) h4 (by omega) (IV.trans hd))
   ·rw[qj (x:=p.a0) (y:=i) (by omega)]
    exact Ex.need (DZ (by omega)) (Ex.ret (IV.trans hd))
theorem Zu{d:List bl}{a m b:Int}(h:0≤a∧a<m∧m<b∧b≤(d.length:Int)∧d.length≤1000000):Ex (S8 ah) d.length (VY ah d a m b):=by
 unfold VY
 rw[qj (x:=m) (y:=a) (by omega),qj (x:=b) (y:=m) (by omega)]
 exact abm (p:=⟨m⟩) (by omega) _ (m-a) (b-m) d (Nat.le_refl _) (by omega) (by omega) (by simp only;omega) (by simp only;omega) rfl
def ny:List bl×(Int×Int×Int)→List bl×Unit:=fun(d,a,m,b)=>(pW (S8 ah) (VY ah d a m b) d,())
def Hw:List bl×(Int×Int×Int)→Bool:=fun(d,a,m,b)=>decide (0≤a∧a<m∧m<b∧b≤(d.length:Int)∧d.length≤1000000)
def acp:dG:=⟨bA, [yI,yI,yI], [136], [],Hw,ny⟩
theorem afn:dG.Sound Tryz.prog 309 acp:=iG ap bR true 23 (ic ada iz) [⟨309,2, [[0,2,4,10,11]]⟩] [] (fun A (data,(a,m,b))=>VY A data a m b) S8 abM (fc Tryz.func309 fz) sz (fun A y=>match y with |.c0 p a1 a2 a3=>⟨45,by kernel_rfl,by kernel_rfl⟩) fun((data,(a,m,b)):List bl×(Int×Int×Int)) hp hv h=>oH (Zu (of_decide_eq_true hp))
structure XO where
 (a0 a1 a2:Int) (a3:List bl)
structure aaN where
 (b0 b1 b2:Int)
inductive Te where
 | c0 (p:XO)
 | c1 (p:aaN) (b3:Int) (b4:List bl)
noncomputable def aaJ:Te→eD
 | .c0 p=>⟨[⟨264,53,(en [(0,.own 0),(1,vi p.a0),(2,vi p.a1),(3,.fn 136 [] []),(8,vi p.a2)]),[.inLoop (cw Tryz.f264 [1,0,0]),.inBlock 0],[],none⟩],[.arr false bA p.a3,.dead]⟩
 | .c1 p b3 b4=>⟨[⟨264,53,(en [(0,.own 0),(1,vi p.b0),(2,vi p.b1),(3,.fn 136 [] []),(8,vi p.b2),(9,vi b3)]),[.inLoop (cw Tryz.f264 [1,0,0,1,0,0,1,0,0]),.inBlock 2,.inBlock 1,.code (cw Tryz.f264 [1,0,0,1,1]),.inLoop (cw Tryz.f264 [1,0,0]),.inBlock 0],[],none⟩],[.arr false bA b4,.dead]⟩
def VT(A:aI)(data:List bl)(a:Int)(b:Int):LT (List bl×Unit) Te:=.more (.c0 ⟨a,b,(A.b .add .i64 a 1),data⟩)
def K8(A:aI):Te→LT (List bl×Unit) Te
 | .c0 p=>.br (A.c .lss p.a2 p.a1) (.more (.c1 ⟨p.a0,p.a1,p.a2⟩ p.a2 p.a3)) (.ret (p.a3,()))
 | .c1 p b3 b4=>.br (A.c .gtr b3 p.b0) (.need (A.and (A.c .leq 0 b3) (A.c .lss b3 (A.l b4))) (.need (A.and (A.c .leq 0 (A.b .sub .i64 b3 1)) (A.c .lss (A.b .sub .i64 b3 1) (A.l b4))) (.need (A.k (@tt (bl×bl)) ((A.n bA b4 b3:bl),(A.n bA b4 (A.b .sub .i64 b3 1):bl))) (.br (A.c .lss (A.k FD ((A.n bA b4 b3:bl),(A.n bA b4 (A.b .sub .i64 b3 1):bl))) 0) (.need (A.and (A.c .leq 0 (A.b .sub .i64 b3 1)) (A.c .lss (A.b .sub .i64 b3 1) (A.l b4))) (.need (A.and (A.c .leq 0 b3) (A.c .lss b3 (A.l b4))) (.need (A.and (A.c .leq 0 b3) (A.c .lss b3 (A.l b4))) (.need (A.and (A.c .leq 0 (A.b .sub .i64 b3 1)) (A.c .lss (A.b .sub .i64 b3 1) (A.l (A.set b4 b3 (A.n bA b4 (A.b .sub .i64 b3 1):bl))))) (.more (.c1 p (A.b .sub .i64 b3 1) (A.set (A.set b4 b3 (A.n bA b4 (A.b .sub .i64 b3 1):bl)) (A.b .sub .i64 b3 1) (A.n bA b4 b3:bl)))))))) (.more (.c0 ⟨p.b0,p.b1,(A.b .add .i64 p.b2 1),b4⟩)))))) (.more (.c0 ⟨p.b0,p.b1,(A.b .add .i64 p.b2 1),b4⟩))
theorem Xw{N:Nat}(hN:N≤1000000){a b:Int}(h0:0≤a)(hb:b≤N):∀(f:Nat) (i:Int) (d:List bl),(b-i).toNat≤f→a<i→d.length=N→Ex (K8 ah) N (.more (.c0 ⟨a,b,i,d⟩)):=by
 intro f
 induction f with
 | zero=>intro i d hf hi hd;exact Ex.more (Ex.lss (fun h=>by have:i<b:=h;omega) fun _=>Ex.ret hd)
 | succ f ih=>
   intro i d hf hi hd
   refine Ex.more (Ex.lss (fun h=>?_) fun _=>Ex.ret hd)
   have h:i<b:=h
   have nx:∀e:List bl,e.length=N→Ex (K8 ah) N (.more (.c0 ⟨a,b,ah.b .add .i64 i 1,e⟩)):=fun e he=>by
    rw[rY (x:=i) (y:=1) (by omega)]
    exact ih (i+1) e (by omega) (by omega) he
   have inn:∀(g:Nat) (j:Int) (e:List bl),(j-a).toNat≤g→a≤j→j≤i→e.length=N→Ex (K8 ah) N (.more (.c1 ⟨a,b,i⟩ j e)):=by
    intro g
    induction g with
    | zero=>intro j e hg hj hji he;exact Ex.more (Ex.gtr (fun h=>by have:a<j:=h;omega) fun _=>nx e he)
    | succ g ihg=>
      intro j e hg hj hji he
      refine Ex.more (Ex.gtr (fun h=>?_) fun _=>nx e he)
      have h:a<j:=h
      rw[qj (x:=j) (y:=1) (by omega)]
      exact Ex.need (dM (by omega)) (Ex.need (dM (by omega)) (Ex.need rfl (Ex.br (fun _=>Ex.need (dM (by omega)) (Ex.need (dM (by omega)) (Ex.need (dM (by omega)) (Ex.need (D9 (by omega)) (ihg (j-1) _ (by omega) (by omega) (by omega) (gb.trans (gb.trans he))))))) fun _=>nx e he)))
   exact inn _ i d (Nat.le_refl _) (by omega) (Int.le_refl i) hd
theorem aba{d:List bl}{a b:Int}(h:0≤a∧a≤b∧b≤(d.length:Int)∧d.length≤1000000):Ex (K8 ah) d.length (VT ah d a b):=by
 unfold VT
 rw[rY (x:=a) (y:=1) (by omega)]
 exact Xw (by omega) h.1 h.2.2.1 _ (a+1) d (Nat.le_refl _) (by omega) rfl
def Kl:List bl×(Int×Int)→List bl×Unit:=fun(d,a,b)=>(pW (K8 ah) (VT ah d a b) d,())
def EB:List bl×(Int×Int)→Bool:=fun(d,a,b)=>decide (0≤a∧a≤b∧b≤(d.length:Int)∧d.length≤1000000)
def afC:dG:=⟨bA, [yI,yI], [136], [],EB,Kl⟩
theorem aeR:dG.Sound Tryz.prog 264 afC:=iG ap bR true 14 iz [⟨264,1, [[0,1,2,3,8]]⟩,⟨264,4, [[0,1,2,3,8,9]]⟩] [] (fun A (data,(a,b))=>VT A data a b) K8 aaJ (fc Tryz.func264 fz) (sc Wx sz) (fun A y=>match y with |.c0 p=>⟨24,by kernel_rfl,by kernel_rfl⟩|.c1 p b3 b4=>⟨57,by kernel_rfl,by kernel_rfl⟩) fun((data,(a,b)):List bl×(Int×Int)) hp hv h=>oH (aba (of_decide_eq_true hp))
theorem VI{i j:Nat}(h:i+j<4611686018427387904):ah.v .i64 (ah.b .shr .u64 (ah.v .u64 (ah.b .add .i64 (i:Int) (j:Int))) 1)=(((i+j)/2:Nat):Int):=by
 rw[eH h]
 have e:ah.v .u64 ((i+j:Nat):Int)=((i+j:Nat):Int):=Tl (by omega) (by omega)
 rw[e]
 have:=QQ (a:=((i+j:Nat):Int)) (n:=1) (by omega) (by omega)
 rw[show((1:Nat):Int)=1 from rfl] at this
 rw[this,gS]
 exact iZ (by omega) (by omega)
theorem S_{i j:Int}(h0:0≤i)(h1:0≤j)(h2:i+j≤4000000):∃c:Int,ah.v .i64 (ah.b .shr .u64 (ah.v .u64 (ah.b .add .i64 i j)) 1)=c∧2*c≤i+j∧i+j≤2*c+1:=by
 obtain⟨i,rfl⟩:=Int.eq_ofNat_of_zero_le h0
 obtain⟨j,rfl⟩:=Int.eq_ofNat_of_zero_le h1
 exact⟨_,VI (by omega),by omega,by omega⟩
abbrev N1:Type:=List bl×Int×Int×Int→List bl×Unit
def eX(k:Nat):List bl×Int×Int×Int→Bool:=fun(d,a,m,b)=>decide (0≤a∧a<m∧m<b∧b≤(d.length:Int)∧d.length≤1000000∧b-a≤(k:Int))
def PQ(k:Nat)(F:N1):dG:=⟨bA, [yI,yI,yI], [136], [],eX k,F⟩
structure RJ where
 (a0:Int) (a3:List bl)
structure Sr where
 (b0:Int) (b3:List bl)
structure O3 where
 (c0 c1 c2 c3 c4 c7:Int) (c8:List bl)
structure abH where
 (d0:Int)
structure Y_ where
 (e0:Int)
inductive Vq where
 | c0 (p:RJ) (a1:Int) (a2:Int)
 | c1 (p:Sr) (b1:Int) (b2:Int)
 | c2 (p:O3) (c5:Int) (c6:Int)
 | c3 (p:abH) (d1:Int) (d2:List bl)
 | c4 (p:Y_) (e1:Int) (e2:List bl)
noncomputable def abO:Vq→eD
 | .c0 p a1 a2=>⟨[⟨265,220,(en [(0,.own 0),(1,vi p.a0),(4,.fn 136 [] []),(10,vi a1),(11,vi a2)]),[.inLoop (cw Tryz.f265 [0,1,0,1,1,0,0,0]),.inBlock 0,.code (cw Tryz.f265 [0,1,0,1,1,1]),.code (cw Tryz.f265 [1])],[],none⟩],[.arr false bA p.a3,.dead]⟩
 | .c1 p b1 b2=>⟨[⟨265,220,(en [(0,.own 0),(2,vi p.b0),(4,.fn 136 [] []),(14,vi b1),(15,vi b2)]),[.inLoop (cw Tryz.f265 [1,0,1,0,1,1,0,0,0]),.inBlock 4,.code (cw Tryz.f265 [1,0,1,0,1,1,1]),.code (cw Tryz.f265 [1,1])],[],none⟩],[.arr false bA p.b3,.dead]⟩
 | .c2 p c5 c6=>⟨[⟨265,220,(en [(0,.own 0),(1,vi p.c0),(2,vi p.c1),(3,vi p.c2),(4,.fn 136 [] []),(18,vi p.c3),(19,vi p.c4),(20,vi c5),(21,vi c6),(22,vi p.c7)]),[.inLoop (cw Tryz.f265 [1,1,1,1,1,1,1,0,0,0]),.inBlock 8,.code (cw Tryz.f265 [1,1,1,1,1,1,1,1])],[],none⟩],[.arr false bA p.c8,.dead]⟩
 | .c3 p d1 d2=>⟨[⟨265,220,(en [(0,.own 0),(10,vi p.d0),(13,vi d1)]),[.inLoop (cw Tryz.f265 [0,1,0,1,1,1,0,1,0,0]),.inBlock 2,.code .ret,.code (cw Tryz.f265 [1])],[],none⟩],[.arr false bA d2,.dead]⟩
 | .c4 p e1 e2=>⟨[⟨265,220,(en [(0,.own 0),(14,vi p.e0),(17,vi e1)]),[.inLoop (cw Tryz.f265 [1,0,1,0,1,1,1,0,1,0,0]),.inBlock 6,.code .ret,.code (cw Tryz.f265 [1,1])],[],none⟩],[.arr false bA e2,.dead]⟩
abbrev sF(A:aI)(a:Int)(b:Int):=(A.v .i64 (A.b .shr .u64 (A.v .u64 (A.b .add .i64 a b)) 1))
def MY(A:aI)(data:List bl)(a:Int)(m:Int)(b:Int):LT (List bl×Unit) Vq:=.br (A.c .eql (A.b .sub .i64 m a) 1) (.more (.c0 ⟨a,data⟩ m b)) (.br (A.c .eql (A.b .sub .i64 b m) 1) (.more (.c1 ⟨m,data⟩ a m)) (.br (A.c .gtr m (sF A a b)) (.more (.c2 ⟨a,m,b,(sF A a b),(A.b .add .i64 (sF A a b) m),(A.b .sub .i64 (A.b .add .i64 (sF A a b) m) 1),data⟩ (A.b .sub .i64 (A.b .add .i64 (sF A a b) m) b) (sF A a b))) (.more (.c2 ⟨a,m,b,(sF A a b),(A.b .add .i64 (sF A a b) m),(A.b .sub .i64 (A.b .add .i64 (sF A a b) m) 1),data⟩ a m))))
def qg(F:N1)(k:Nat)(A:aI):Vq→LT (List bl×Unit) Vq
 | .c0 p a1 a2=>.br (A.c .lss a1 a2) (.need (A.and (A.c .leq 0 (A.v .i64 (A.b .shr .u64 (A.v .u64 (A.b .add .i64 a1 a2)) 1))) (A.c .lss (A.v .i64 (A.b .shr .u64 (A.v .u64 (A.b .add .i64 a1 a2)) 1)) (A.l p.a3))) (.need (A.and (A.c .leq 0 p.a0) (A.c .lss p.a0 (A.l p.a3))) (.need (A.k (@tt (bl×bl)) ((A.n bA p.a3 (A.v .i64 (A.b .shr .u64 (A.v .u64 (A.b .add .i64 a1 a2)) 1)):bl),(A.n bA p.a3 p.a0:bl))) (.br (A.c .lss (A.k FD ((A.n bA p.a3 (A.v .i64 (A.b .shr .u64 (A.v .u64 (A.b .add .i64 a1 a2)) 1)):bl),(A.n bA p.a3 p.a0:bl))) 0) (.more (.c0 p (A.b .add .i64 (A.v .i64 (A.b .shr .u64 (A.v .u64 (A.b .add .i64 a1 a2)) 1)) 1) a2)) (.more (.c0 p a1 (A.v .i64 (A.b .shr .u64 (A.v .u64 (A.b .add .i64 a1 a2)) 1)))))))) (.more (.c3 ⟨a1⟩ p.a0 p.a3))
 | .c1 p b1 b2=>.br (A.c .lss b1 b2) (.need (A.and (A.c .leq 0 p.b0) (A.c .lss p.b0 (A.l p.b3))) (.need (A.and (A.c .leq 0 (A.v .i64 (A.b .shr .u64 (A.v .u64 (A.b .add .i64 b1 b2)) 1))) (A.c .lss (A.v .i64 (A.b .shr .u64 (A.v .u64 (A.b .add .i64 b1 b2)) 1)) (A.l p.b3))) (.need (A.k (@tt (bl×bl)) ((A.n bA p.b3 p.b0:bl),(A.n bA p.b3 (A.v .i64 (A.b .shr .u64 (A.v .u64 (A.b .add .i64 b1 b2)) 1)):bl))) (.br (A.not (A.c .lss (A.k FD ((A.n bA p.b3 p.b0:bl),(A.n bA p.b3 (A.v .i64 (A.b .shr .u64 (A.v .u64 (A.b .add .i64 b1 b2)) 1)):bl))) 0)) (.more (.c1 p (A.b .add .i64 (A.v .i64 (A.b .shr .u64 (A.v .u64 (A.b .add .i64 b1 b2)) 1)) 1) b2)) (.more (.c1 p b1 (A.v .i64 (A.b .shr .u64 (A.v .u64 (A.b .add .i64 b1 b2)) 1)))))))) (.more (.c4 ⟨b1⟩ p.b0 p.b3))
 | .c2 p c5 c6=>.br (A.c .lss c5 c6) (.need (A.and (A.c .leq 0 (A.b .sub .i64 p.c7 (A.v .i64 (A.b .shr .u64 (A.v .u64 (A.b .add .i64 c5 c6)) 1)))) (A.c .lss (A.b .sub .i64 p.c7 (A.v .i64 (A.b .shr .u64 (A.v .u64 (A.b .add .i64 c5 c6)) 1))) (A.l p.c8))) (.need (A.and (A.c .leq 0 (A.v .i64 (A.b .shr .u64 (A.v .u64 (A.b .add .i64 c5 c6)) 1))) (A.c .lss (A.v .i64 (A.b .shr .u64 (A.v .u64 (A.b .add .i64 c5 c6)) 1)) (A.l p.c8))) (.need (A.k (@tt (bl×bl)) ((A.n bA p.c8 (A.b .sub .i64 p.c7 (A.v .i64 (A.b .shr .u64 (A.v .u64 (A.b .add .i64 c5 c6)) 1))):bl),(A.n bA p.c8 (A.v .i64 (A.b .shr .u64 (A.v .u64 (A.b .add .i64 c5 c6)) 1)):bl))) (.br (A.not (A.c .lss (A.k FD ((A.n bA p.c8 (A.b .sub .i64 p.c7 (A.v .i64 (A.b .shr .u64 (A.v .u64 (A.b .add .i64 c5 c6)) 1))):bl),(A.n bA p.c8 (A.v .i64 (A.b .shr .u64 (A.v .u64 (A.b .add .i64 c5 c6)) 1)):bl))) 0)) (.more (.c2 p (A.b .add .i64 (A.v .i64 (A.b .shr .u64 (A.v .u64 (A.b .add .i64 c5 c6)) 1)) 1) c6)) (.more (.c2 p c5 (A.v .i64 (A.b .shr .u64 (A.v .u64 (A.b .add .i64 c5 c6)) 1)))))))) (.br (A.c .lss c5 p.c1) (.br (A.c .lss p.c1 (A.b .sub .i64 p.c4 c5)) (.need (A.k Hw (p.c8,c5,p.c1,(A.b .sub .i64 p.c4 c5))) (.br (A.c .lss p.c0 c5) (.br (A.c .lss c5 p.c3) (.need (A.k (eX k) ((A.k ny (p.c8,c5,p.c1,(A.b .sub .i64 p.c4 c5))).1,p.c0,c5,p.c3)) (.br (A.c .lss p.c3 (A.b .sub .i64 p.c4 c5)) (.br (A.c .lss (A.b .sub .i64 p.c4 c5) p.c2) (.need (A.k (eX k) ((A.k F ((A.k ny (p.c8,c5,p.c1,(A.b .sub .i64 p.c4 c5))).1,p.c0,c5,p.c3)).1,p.c3,(A.b .sub .i64 p.c4 c5),p.c2)) (.ret ((A.k F ((A.k F ((A.k ny (p.c8,c5,p.c1,(A.b .sub .i64 p.c4 c5))).1,p.c0,c5,p.c3)).1,p.c3,(A.b .sub .i64 p.c4 c5),p.c2)).1,()))) (.ret ((A.k F ((A.k ny (p.c8,c5,p.c1,(A.b .sub .i64 p.c4 c5))).1,p.c0,c5,p.c3)).1,()))) (.ret ((A.k F ((A.k ny (p.c8,c5,p.c1,(A.b .sub .i64 p.c4 c5))).1,p.c0,c5,p.c3)).1,())))) (.br (A.c .lss p.c3 (A.b .sub .i64 p.c4 c5)) (.br (A.c .lss (A.b .sub .i64 p.c4 c5) p.c2) (.need (A.k (eX k) ((A.k ny (p.c8,c5,p.c1,(A.b .sub .i64 p.c4 c5))).1,p.c3,(A.b .sub .i64 p.c4 c5),p.c2)) (.ret ((A.k F ((A.k ny (p.c8,c5,p.c1,(A.b .sub .i64 p.c4 c5))).1,p.c3,(A.b .sub .i64 p.c4 c5),p.c2)).1,()))) (.ret ((A.k ny (p.c8,c5,p.c1,(A.b .sub .i64 p.c4 c5))).1,()))) (.ret ((A.k ny (p.c8,c5,p.c1,(A.b .sub .i64 p.c4 c5))).1,())))) (.br (A.c .lss p.c3 (A.b .sub .i64 p.c4 c5)) (.br (A.c .lss (A.b .sub .i64 p.c4 c5) p.c2) (.need (A.k (eX k) ((A.k ny (p.c8,c5,p.c1,(A.b .sub .i64 p.c4 c5))).1,p.c3,(A.b .sub .i64 p.c4 c5),p.c2)) (.ret ((A.k F ((A.k ny (p.c8,c5,p.c1,(A.b .sub .i64 p.c4 c5))).1,p.c3,(A.b .sub .i64 p.c4 c5),p.c2)).1,()))) (.ret ((A.k ny (p.c8,c5,p.c1,(A.b .sub .i64 p.c4 c5))).1,()))) (.ret ((A.k ny (p.c8,c5,p.c1,(A.b .sub .i64 p.c4 c5))).1,()))))) (.br (A.c .lss p.c0 c5) (.br (A.c .lss c5 p.c3) (.need (A.k (eX k) (p.c8,p.c0,c5,p.c3)) (.br (A.c .lss p.c3 (A.b .sub .i64 p.c4 c5)) (.br (A.c .lss (A.b .sub .i64 p.c4 c5) p.c2) (.need (A.k (eX k) ((A.k F (p.c8,p.c0,c5,p.c3)).1,p.c3,(A.b .sub .i64 p.c4 c5),p.c2)) (.ret ((A.k F ((A.k F (p.c8,p.c0,c5,p.c3)).1,p.c3,(A.b .sub .i64 p.c4 c5),p.c2)).1,()))) (.ret ((A.k F (p.c8,p.c0,c5,p.c3)).1,()))) (.ret ((A.k F (p.c8,p.c0,c5,p.c3)).1,())))) (.br (A.c .lss p.c3 (A.b .sub .i64 p.c4 c5)) (.br (A.c .lss (A.b .sub .i64 p.c4 c5) p.c2) (.need (A.k (eX k) (p.c8,p.c3,(A.b .sub .i64 p.c4 c5),p.c2)) (.ret ((A.k F (p.c8,p.c3,(A.b .sub .i64 p.c4 c5),p.c2)).1,()))) (.ret (p.c8,()))) (.ret (p.c8,())))) (.br (A.c .lss p.c3 (A.b .sub .i64 p.c4 c5)) (.br (A.c .lss (A.b .sub .i64 p.c4 c5) p.c2) (.need (A.k (eX k) (p.c8,p.c3,(A.b .sub .i64 p.c4 c5),p.c2)) (.ret ((A.k F (p.c8,p.c3,(A.b .sub .i64 p.c4 c5),p.c2)).1,()))) (.ret (p.c8,()))) (.ret (p.c8,()))))) (.br (A.c .lss p.c0 c5) (.br (A.c .lss c5 p.c3) (.need (A.k (eX k) (p.c8,p.c0,c5,p.c3)) (.br (A.c .lss p.c3 (A.b .sub .i64 p.c4 c5)) (.br (A.c .lss (A.b .sub .i64 p.c4 c5) p.c2) (.need (A.k (eX k) ((A.k F (p.c8,p.c0,c5,p.c3)).1,p.c3,(A.b .sub .i64 p.c4 c5),p.c2)) (.ret ((A.k F ((A.k F (p.c8,p.c0,c5,p.c3)).1,p.c3,(A.b .sub .i64 p.c4 c5),p.c2)).1,()))) (.ret ((A.k F (p.c8,p.c0,c5,p.c3)).1,()))) (.ret ((A.k F (p.c8,p.c0,c5,p.c3)).1,())))) (.br (A.c .lss p.c3 (A.b .sub .i64 p.c4 c5)) (.br (A.c .lss (A.b .sub .i64 p.c4 c5) p.c2) (.need (A.k (eX k) (p.c8,p.c3,(A.b .sub .i64 p.c4 c5),p.c2)) (.ret ((A.k F (p.c8,p.c3,(A.b .sub .i64 p.c4 c5),p.c2)).1,()))) (.ret (p.c8,()))) (.ret (p.c8,())))) (.br (A.c .lss p.c3 (A.b .sub .i64 p.c4 c5)) (.br (A.c .lss (A.b .sub .i64 p.c4 c5) p.c2) (.need (A.k (eX k) (p.c8,p.c3,(A.b .sub .i64 p.c4 c5),p.c2)) (.ret ((A.k F (p.c8,p.c3,(A.b .sub .i64 p.c4 c5),p.c2)).1,()))) (.ret (p.c8,()))) (.ret (p.c8,())))))
 | .c3 p d1 d2=>.br (A.c .lss d1 (A.b .sub .i64 p.d0 1)) (.need (A.and (A.c .leq 0 (A.b .add .i64 d1 1)) (A.c .lss (A.b .add .i64 d1 1) (A.l d2))) (.need (A.and (A.c .leq 0 d1) (A.c .lss d1 (A.l d2))) (.need (A.and (A.c .leq 0 d1) (A.c .lss d1 (A.l d2))) (.need (A.and (A.c .leq 0 (A.b .add .i64 d1 1)) (A.c .lss (A.b .add .i64 d1 1) (A.l (A.set d2 d1 (A.n bA d2 (A.b .add .i64 d1 1):bl))))) (.more (.c3 p (A.b .add .i64 d1 1) (A.set (A.set d2 d1 (A.n bA d2 (A.b .add .i64 d1 1):bl)) (A.b .add .i64 d1 1) (A.n bA d2 d1:bl)))))))) (.ret (d2,()))
 | .c4 p e1 e2=>.br (A.c .gtr e1 p.e0) (.need (A.and (A.c .leq 0 (A.b .sub .i64 e1 1)) (A.c .lss (A.b .sub .i64 e1 1) (A.l e2))) (.need (A.and (A.c .leq 0 e1) (A.c .lss e1 (A.l e2))) (.need (A.and (A.c .leq 0 e1) (A.c .lss e1 (A.l e2))) (.need (A.and (A.c .leq 0 (A.b .sub .i64 e1 1)) (A.c .lss (A.b .sub .i64 e1 1) (A.l (A.set e2 e1 (A.n bA e2 (A.b .sub .i64 e1 1):bl))))) (.more (.c4 p (A.b .sub .i64 e1 1) (A.set (A.set e2 e1 (A.n bA e2 (A.b .sub .i64 e1 1):bl)) (A.b .sub .i64 e1 1) (A.n bA e2 e1:bl)))))))) (.ret (e2,()))
section
variable {k:Nat} {F:N1}
theorem TH{d:List bl}{a m b:Int}(h:0≤a∧a<m∧m<b∧b≤(d.length:Int)∧d.length≤1000000):ah.k Hw (d,a,m,b)=true:=aK h
theorem X2{d:List bl}{a m b:Int}:(ah.k ny (d,a,m,b)).1.length=d.length:=kU
theorem J_{d:List bl}{a m b:Int}(h:0≤a∧a<m∧m<b∧b≤(d.length:Int)∧d.length≤1000000∧b-a≤(k:Int)):ah.k (eX k) (d,a,m,b)=true:=aK h
theorem agF{N:Nat}(hN:N≤1000000){i:Int}(h0:0≤i)(hi:i≤N):∀(f:Nat) (j:Int) (d:List bl),(i-j).toNat≤f→0≤j→d.length=N→Ex (qg F k ah) N (.more (.c3 ⟨i⟩ j d)):=by
 intro f
 induction f with
 | zero=>
   intro j d hf hj hd
   refine Ex.more ?_
   rw[qg,qj (x:=i) (y:=1) (by omega)]
   exact Ex.lss (fun h=>by omega) fun _=>Ex.ret hd
 | succ f ih=>
   intro j d hf hj hd
   refine Ex.more ?_
   rw[qg,qj (x:=i) (y:=1) (by omega)]
   refine Ex.lss (fun h=>?_) fun _=>Ex.ret hd
   rw[rY (x:=j) (y:=1) (by omega)]
   exact Ex.need (dM (by omega)) (Ex.need (dM (by omega)) (Ex.need (dM (by omega)) (Ex.need (D9 (by omega)) (ih (j+1) _ (by omega) (by omega) (gb.trans (gb.trans hd))))))
theorem ahp{N:Nat}(hN:N≤1000000){i:Int}(hi:0≤i):∀(f:Nat) (j:Int) (d:List bl),(j-i).toNat≤f→j<N→d.length=N→Ex (qg F k ah) N (.more (.c4 ⟨i⟩ j d)):=by
 intro f
 induction f with
 | zero=>intro j d hf hj hd;exact Ex.more (Ex.gtr (fun h=>by have:i<j:=h;omega) fun _=>Ex.ret hd)
 | succ f ih=>
   intro j d hf hj hd
   refine Ex.more (Ex.gtr (fun h=>?_) fun _=>Ex.ret hd)
   have h:i<j:=h
   rw[qj (x:=j) (y:=1) (by omega)]
   exact Ex.need (dM (by omega)) (Ex.need (dM (by omega)) (Ex.need (dM (by omega)) (Ex.need (D9 (by omega)) (ih (j-1) _ (by omega) (by omega) (gb.trans (gb.trans hd))))))
theorem acf{p:RJ}{N:Nat}(hN:N≤1000000)(hd:p.a3.length=N)(h0:0≤p.a0∧p.a0<N):∀(f:Nat) (i j:Int),(j-i).toNat≤f→0≤i→i≤j→j≤N→Ex (qg F k ah) N (.more (.c0 p i j)):=by
 intro f
 have out:∀i:Int,0≤i→i≤N→Ex (qg F k ah) N (.more (.c3 ⟨i⟩ p.a0 p.a3)):=fun i h hi=>agF hN h hi _ p.a0 p.a3 (Nat.le_refl _) h0.1 hd
 induction f with
 | zero=>intro i j hf hi hij hj;exact Ex.more (Ex.lss (fun h=>by omega) fun _=>out i hi (by omega))
 | succ f ih=>
   intro i j hf hi hij hj
   refine Ex.more (Ex.lss (fun h=>?_) fun _=>out i hi (by omega))
   obtain⟨c,e,c1,c2⟩:=S_ hi (show 0≤j by omega) (by omega)
   rw[e,rY (x:=c) (y:=1) (by omega)]
   exact Ex.need (dM (by omega)) (Ex.need (dM (by omega)) (Ex.need rfl (Ex.br (fun _=>ih (c+1) j (by omega) (by omega) (by omega) hj) fun _=>ih i c (by omega) hi (by omega) (by omega))))
theorem acS{p:Sr}{N:Nat}(hN:N≤1000000)(hd:p.b3.length=N)(h0:0≤p.b0∧p.b0<N):∀(f:Nat) (i j:Int),(j-i).toNat≤f→0≤i→i≤j→j≤N→Ex (qg F k ah) N (.more (.c1 p i j)):=by
 intro f
 have out:∀i:Int,0≤i→Ex (qg F k ah) N (.more (.c4 ⟨i⟩ p.b0 p.b3)):=fun i hi=>ahp hN hi _ p.b0 p.b3 (Nat.le_refl _) h0.2 hd
 induction f with
 | zero=>intro i j hf hi hij hj;exact Ex.more (Ex.lss (fun h=>by omega) fun _=>out i hi)
 | succ f ih=>
   intro i j hf hi hij hj
   refine Ex.more (Ex.lss (fun h=>?_) fun _=>out i hi)
   obtain⟨c,e,c1,c2⟩:=S_ hi (show 0≤j by omega) (by omega)
   rw[e,rY (x:=c) (y:=1) (by omega)]
   exact Ex.need (dM (by omega)) (Ex.need (dM (by omega)) (Ex.need rfl (Ex.br (fun _=>ih (c+1) j (by omega) (by omega) (by omega) hj) fun _=>ih i c (by omega) hi (by omega) (by omega))))
theorem WU(hF:∀x,(F x).1.length=x.1.length){p:O3}{N:Nat}(hN:N≤1000000)(hd:p.c8.length=N){lo:Int}(g0:0≤p.c0∧p.c0<p.c1∧p.c1<p.c2∧p.c2≤N∧p.c2-p.c0≤(k:Int)+1)
  (g1:2*p.c3≤p.c0+p.c2∧p.c0+p.c2≤2*p.c3+1) (g2:p.c4=p.c3+p.c1) (g3:p.c7=p.c4-1) (g4:p.c0≤lo∧p.c4-lo≤p.c2) :
  ∀(f:Nat) (i j:Int),(j-i).toNat≤f→lo≤i→i≤j→j≤p.c1→j≤p.c3∨p.c1≤p.c3→Ex (qg F k ah) N (.more (.c2 p i j)):=by
 have hl:∀{d:List bl} {a m b:Int},(ah.k F (d,a,m,b)).1.length=d.length:=hF _
 have out:∀i:Int,lo≤i→i≤p.c1→i≤p.c3∨p.c1≤p.c3→Ex (qg F k ah) N (.more (.c2 p i i)):=fun i h1 h2 h3=>by
  refine Ex.more ?_
  rw[qg,qj (x:=p.c4) (y:=i) (by omega)]
  refine Ex.lss (fun h=>by omega) fun _=>?_
  have b1:∀{d:List bl},d.length=N→p.c3<p.c4-i→p.c4-i<p.c2→Ex (qg F k ah) N (.need (ah.k (eX k) (d,p.c3,p.c4-i,p.c2)) (.ret ((ah.k F (d,p.c3,p.c4-i,p.c2)).1,()))):=fun hd h4 h5=>Ex.need (J_ (by omega)) (Ex.ret (hl.trans hd))
  have b2:∀{d:List bl},d.length=N→Ex (qg F k ah) N (.br (ah.c .lss p.c3 (p.c4-i)) (.br (ah.c .lss (p.c4-i) p.c2) (.need (ah.k (eX k) (d,p.c3,p.c4-i,p.c2)) (.ret ((ah.k F (d,p.c3,p.c4-i,p.c2)).1,()))) (.ret (d,()))) (.ret (d,()))):=fun hd=>
   Ex.lss (fun h4=>Ex.lss (fun h5=>b1 hd h4 h5) fun _=>Ex.ret hd) fun _=>Ex.ret hd
  have b3:∀{d:List bl},d.length=N→Ex (qg F k ah) N (.br (ah.c .lss p.c0 i) (.br (ah.c .lss i p.c3) (.need (ah.k (eX k) (d,p.c0,i,p.c3)) (.br (ah.c .lss p.c3 (p.c4-i)) (.br (ah.c .lss (p.c4-i) p.c2) (.need (ah.k (eX k) ((ah.k F (d,p.c0,i,p.c3)).1,p.c3,p.c4-i,p.c2)) (.ret ((ah.k F ((ah.k F (d,p.c0,i,p.c3)).1,p.c3,p.c4-i,p.c2)).1,()))) (.ret ((ah.k F (d,p.c0,i,p.c3)).1,()))) (.ret ((ah.k F (d,p.c0,i,p.c3)).1,()))))
    (.br (ah.c .lss p.c3 (p.c4-i)) (.br (ah.c .lss (p.c4-i) p.c2) (.need (ah.k (eX k) (d,p.c3,p.c4-i,p.c2)) (.ret ((ah.k F (d,p.c3,p.c4-i,p.c2)).1,()))) (.ret (d,()))) (.ret (d,()))))
    (.br (ah.c .lss p.c3 (p.c4-i)) (.br (ah.c .lss (p.c4-i) p.c2) (.need (ah.k (eX k) (d,p.c3,p.c4-i,p.c2)) (.ret ((ah.k F (d,p.c3,p.c4-i,p.c2)).1,()))) (.ret (d,()))) (.ret (d,())))):=fun hd=>
   Ex.lss (fun h4=>Ex.lss (fun h5=>Ex.need (J_ (by omega)) (b2 (hl.trans hd))) fun _=>b2 hd) fun _=>b2 hd
  refine Ex.lss (fun h4=>Ex.lss (fun h5=>Ex.need (TH (by omega)) (b3 (X2.trans hd))) fun _=>b3 hd) fun _=>b3 hd
 intro f
 induction f with
 | zero=>intro i j hf hi hij hj hc;rw[show j=i by omega];exact out i hi (by omega) (by omega)
 | succ f ih=>
   intro i j hf hi hij hj hc
   by_cases he:i=j
   ·rw[he];exact out j (by omega) hj hc
   refine Ex.more (Ex.lss (fun h=>?_) fun h=>by omega)
   obtain⟨c,e,c1,c2⟩:=S_ (i:=i) (j:=j) (by omega) (by omega) (by omega)
   rw[e,rY (x:=c) (y:=1) (by omega),qj (x:=p.c7) (y:=c) (by omega)]
   exact Ex.need (dM (by omega)) (Ex.need (dM (by omega)) (Ex.need rfl (Ex.br (fun _=>ih (c+1) j (by omega) (by omega) (by omega) hj hc) fun _=>ih i c (by omega) hi (by omega) (by omega) (by omega))))
theorem abQ(hF:∀x,(F x).1.length=x.1.length){d:List bl}{a m b:Int}(h:0≤a∧a<m∧m<b∧b≤(d.length:Int)∧d.length≤1000000∧b-a≤((k+1:Nat):Int)):Ex (qg F k ah) d.length (MY ah d a m b):=by
 obtain⟨h1,h2,h3,h4,h5,h6⟩:=h
 have h6:b-a≤(k:Int)+1:=h6
 unfold MY sF
 obtain⟨c,e,c1,c2⟩:=S_ (i:=a) (j:=b) (by omega) (by omega) (by omega)
 rw[e,qj (x:=m) (y:=a) (by omega),qj (x:=b) (y:=m) (by omega),rY (x:=c) (y:=m) (by omega),qj (x:=c+m) (y:=1) (by omega),qj (x:=c+m) (y:=b) (by omega)]
 refine Ex.eql (fun _=>acf (p:=⟨a,d⟩) h5 rfl (by simp only;omega) _ m b (Nat.le_refl _) (by omega) (by omega) h4) fun _=>Ex.eql (fun _=>acS (p:=⟨m,d⟩) h5 rfl (by simp only;omega) _ a m (Nat.le_refl _) h1 (by omega) (by omega)) fun _=>Ex.gtr (fun g=>?_) fun g=>?_
 ·exact WU hF (p:=⟨a,m,b,c,c+m,c+m-1,d⟩) (lo:=c+m-b) h5 rfl (by simp only;omega) (by simp only;omega) rfl rfl (by simp only;omega) _ (c+m-b) c (Nat.le_refl _) (Int.le_refl _) (by omega) (by simp only;omega) (by simp only;omega)
 ·exact WU hF (p:=⟨a,m,b,c,c+m,c+m-1,d⟩) (lo:=a) h5 rfl (by simp only;omega) (by simp only;omega) rfl rfl (by simp only;omega) _ a m (Nat.le_refl _) (Int.le_refl _) (by omega) (by simp only;omega) (by simp only;omega)
end
theorem XX{k:Nat}{F:N1}(hF:∀x,(F x).1.length=x.1.length)(ih:dG.Sound Tryz.prog 265 (PQ k F)):dG.Sound Tryz.prog 265 (PQ (k+1) fun(d,a,m,b)=>(pW (qg F k ah) (MY ah d a m b) d,())):=iG ap bR true 76 (ic ih (ic afn iz)) [⟨265,3, [[0,1,4,10,11]]⟩,⟨265,9, [[0,10,13]]⟩,⟨265,15, [[0,2,4,14,15]]⟩,⟨265,21, [[0,14,17]]⟩,⟨265,33, [[0,1,2,3,4,18,19,20,21,22]]⟩] [] (fun A (data,(a,m,b))=>MY A data a m b) (qg F k) abO (fc Tryz.func265 fz) (sc Wx sz) (fun A y=>match y with |.c0 p a1 a2=>⟨47,by kernel_rfl,by kernel_rfl⟩|.c1 p b1 b2=>⟨48,by kernel_rfl,by kernel_rfl⟩|.c2 p c5 c6=>⟨84,by kernel_rfl,by kernel_rfl⟩|.c3 p d1 d2=>⟨44,by kernel_rfl,by kernel_rfl⟩|.c4 p e1 e2=>⟨43,by kernel_rfl,by kernel_rfl⟩) fun((data,(a,m,b)):List bl×(Int×Int×Int)) hp hv h=>oH (abQ hF (of_decide_eq_true hp))
def De:Nat→N1
 | 0=>fun x=>(x.1,())
 | k+1=>fun(d,a,m,b)=>(pW (qg (De k) k ah) (MY ah d a m b) d,())
theorem Sb:∀(k:Nat) (x:List bl×Int×Int×Int),(De k x).1.length=x.1.length
 | 0,_=>rfl
 | _+1,_=>kU
theorem Sy{x:List bl×Int×Int×Int}:eX 0 x=false:=by
 obtain⟨d,a,m,b⟩:=x
 exact aX (by omega)
theorem Xe:∀k,dG.Sound Tryz.prog 265 (PQ k (De k))
 | 0=>⟨fun w I x y v aa B _ _ _ _ hp=>Bool.noConfusion ((Sy (x:=(x,y))).symm.trans hp),Tryz.f265,Tryz.func265,by kernel_rfl,by kernel_rfl⟩
 | k+1=>XX (Sb k) (Xe k)
structure aa9 where
 (a0:Int)
structure abo where
 (b0 b1:Int) (b2:List bl)
structure ZI where
 (c0 c1:Int)
inductive T9 where
 | c0 (p:aa9) (a2:Int) (a3:Int) (a4:List bl)
 | c1 (p:abo)
 | c2 (p:ZI) (c2:Int) (c3:Int) (c4:List bl)
noncomputable def aaV:T9→eD
 | .c0 p a2 a3 a4=>⟨[⟨205,63,(en [(0,.own 0),(1,vi p.a0),(2,.fn 136 [] []),(6,vi 20),(7,vi a2),(8,vi a3)]),[.inLoop (cw Tryz.f205 [1,1,0,0,0]),.inBlock 0,.code (cw Tryz.f205 [1,1,1])],[],none⟩],[.arr false bA a4,.dead]⟩
 | .c1 p=>⟨[⟨205,63,(en [(0,.own 0),(1,vi p.b0),(2,.fn 136 [] []),(6,vi p.b1)]),[.inLoop (cw Tryz.f205 [1,1,1,1,0,0]),.inBlock 2],[],none⟩],[.arr false bA p.b2,.dead]⟩
 | .c2 p c2 c3 c4=>⟨[⟨205,63,(en [(0,.own 0),(1,vi p.c0),(2,.fn 136 [] []),(6,vi p.c1),(7,vi c2),(8,vi c3)]),[.inLoop (cw Tryz.f205 [1,1,1,1,0,0,1,0,1,0,0,0]),.inBlock 4,.code (cw Tryz.f205 [1,1,1,1,0,0,1,0,1,1]),.inBlock 3,.inLoop (cw Tryz.f205 [1,1,1,1,0,0]),.inBlock 2],[],none⟩],[.arr false bA c4,.dead]⟩
def aaB(A:aI)(data:List bl)(n:Int):LT (List bl×Unit) T9:=.more (.c0 ⟨n⟩ 0 20 data)
def Iy(A:aI):T9→LT (List bl×Unit) T9
 | .c0 p a2 a3 a4=>.br (A.c .leq a3 p.a0) (.need (A.k EB (a4,a2,a3)) (.more (.c0 p a3 (A.b .add .i64 a3 20) (A.k Kl (a4,a2,a3)).1))) (.need (A.k EB (a4,a2,p.a0)) (.more (.c1 ⟨p.a0,20,(A.k Kl (a4,a2,p.a0)).1⟩)))
 | .c1 p=>.br (A.c .lss p.b1 p.b0) (.more (.c2 ⟨p.b0,p.b1⟩ 0 (A.b .mul .i64 2 p.b1) p.b2)) (.ret (p.b2,()))
 | .c2 p c2 c3 c4=>.br (A.c .leq c3 p.c0) (.need (A.k (eX 1000000) (c4,c2,(A.b .add .i64 c2 p.c1),c3)) (.more (.c2 p c3 (A.b .add .i64 c3 (A.b .mul .i64 2 p.c1)) (A.k (De 1000000) (c4,c2,(A.b .add .i64 c2 p.c1),c3)).1))) (.br (A.c .lss (A.b .add .i64 c2 p.c1) p.c0) (.need (A.k (eX 1000000) (c4,c2,(A.b .add .i64 c2 p.c1),p.c0)) (.more (.c1 ⟨p.c0,(A.b .mul .i64 p.c1 2),(A.k (De 1000000) (c4,c2,(A.b .add .i64 c2 p.c1),p.c0)).1⟩))) (.more (.c1 ⟨p.c0,(A.b .mul .i64 p.c1 2),c4⟩)))
theorem ZD{N:Nat}(hN:N≤1000000){bs:Int}(h1:1≤bs∧bs≤1000000)(nx:∀d:List bl,d.length=N→Ex (Iy ah) N (.more (.c1 ⟨(N:Int),ah.b .mul .i64 bs 2,d⟩))):∀(f:Nat) (a:Int) (d:List bl),(N-a).toNat≤f→0≤a→a≤N→d.length=N→Ex (Iy ah) N (.more (.c2 ⟨(N:Int),bs⟩ a (a+2*bs) d)):=by
 have e:ah.b .mul .i64 2 bs=2*bs:=by rw[ib,iZ (by omega) (by omega)]
 have hl:∀{d:List bl} {a m b:Int},(ah.k (De 1000000) (d,a,m,b)).1.length=d.length:=Sb _ _
 have pr:∀{d:List bl} {a m b:Int},(0≤a∧a<m∧m<b∧b≤(d.length:Int)∧d.length≤1000000∧b-a≤((1000000:Nat):Int))→ah.k (eX 1000000) (d,a,m,b)=true:=fun h=>aK h
 intro f
 induction f with
 | zero=>
   intro a d hf ha hn hd
   refine Ex.more (Ex.leq (fun h=>by have:a+2*bs≤N:=h;omega) fun _=>?_)
   rw[show ah.b .add .i64 a bs=a+bs from rY (by omega)]
   exact Ex.lss (fun h=>by have:a+bs<N:=h;omega) fun _=>nx d hd
 | succ f ih=>
   intro a d hf ha hn hd
   refine Ex.more (Ex.leq (fun h=>?_) fun _=>?_)
   ·have h:a+2*bs≤N:=h
    rw[show ah.b .add .i64 a bs=a+bs from rY (by omega),show ah.b .mul .i64 2 bs=2*bs from e,rY (x:=a+2*bs) (y:=2*bs) (by omega)]
    exact Ex.need (pr (by omega)) (ih (a+2*bs) _ (by omega) (by omega) h (hl.trans hd))
   ·rw[show ah.b .add .i64 a bs=a+bs from rY (by omega)]
    exact Ex.lss (fun h=>by have h:a+bs<N:=h;exact Ex.need (pr (by simp only;omega)) (nx _ (hl.trans hd))) fun _=>nx d hd
theorem QB{N:Nat}(hN:N≤1000000):∀(f:Nat) (bs:Int) (d:List bl),(N-bs).toNat≤f→1≤bs→d.length=N→Ex (Iy ah) N (.more (.c1 ⟨(N:Int),bs,d⟩)):=by
 intro f
 induction f with
 | zero=>intro bs d hf hb hd;exact Ex.more (Ex.lss (fun h=>by have:bs<N:=h;omega) fun _=>Ex.ret hd)
 | succ f ih=>
   intro bs d hf hb hd
   refine Ex.more (Ex.lss (fun h=>?_) fun _=>Ex.ret hd)
   have h:bs<N:=h
   rw[show ah.b .mul .i64 2 bs=0+2*bs by rw[ib,iZ (by omega) (by omega)];omega]
   refine ZD hN ⟨hb,by omega⟩ (fun e he=>?_) _ 0 d (Nat.le_refl _) (Int.le_refl 0) (by omega) hd
   rw[show ah.b .mul .i64 bs 2=bs*2 by rw[ib,iZ (by omega) (by omega)]]
   exact ih (bs*2) e (by omega) (by omega) he
theorem abe{N:Nat}(hN:N≤1000000):∀(f:Nat) (a:Int) (d:List bl),(N-a).toNat≤f→0≤a→a≤N→d.length=N→Ex (Iy ah) N (.more (.c0 ⟨(N:Int)⟩ a (a+20) d)):=by
 have hl:∀{d:List bl} {a b:Int},(ah.k Kl (d,a,b)).1.length=d.length:=kU
 have pr:∀{d:List bl} {a b:Int},(0≤a∧a≤b∧b≤(d.length:Int)∧d.length≤1000000)→ah.k EB (d,a,b)=true:=fun h=>aK h
 intro f
 induction f with
 | zero=>intro a d hf ha hn hd;exact Ex.more (Ex.leq (fun h=>by have:a+20≤N:=h;omega) fun _=>Ex.need (pr (by simp only;omega)) (QB hN _ 20 _ (Nat.le_refl _) (by omega) (hl.trans hd)))
 | succ f ih=>
   intro a d hf ha hn hd
   refine Ex.more (Ex.leq (fun h=>?_) fun _=>Ex.need (pr (by simp only;omega)) (QB hN _ 20 _ (Nat.le_refl _) (by omega) (hl.trans hd)))
   have h:a+20≤N:=h
   rw[rY (x:=a+20) (y:=20) (by omega)]
   exact Ex.need (pr (by omega)) (ih (a+20) _ (by omega) (by omega) h (hl.trans hd))
theorem aaq{d:List bl}{n:Int}(h:n=(d.length:Int)∧d.length≤1000000):Ex (Iy ah) d.length (aaB ah d n):=by
 obtain⟨rfl,h⟩:=h
 exact abe h _ 0 d (Nat.le_refl _) (Int.le_refl 0) (by omega) rfl
def Of:List bl×Int→List bl×Unit:=fun(d,n)=>(pW (Iy ah) (aaB ah d n) d,())
def OT:List bl×Int→Bool:=fun(d,n)=>decide (n=(d.length:Int)∧d.length≤1000000)
def afI:dG:=⟨bA, [yI], [136], [],OT,Of⟩
theorem ahx:dG.Sound Tryz.prog 205 afI:=iG ap bR true 19 (ic aeR (ic (Xe 1000000) iz)) [⟨205,2, [[0,1,2,6,7,8]]⟩,⟨205,7, [[0,1,2,6]]⟩,⟨205,9, [[0,1,2,6,7,8]]⟩] [] (fun A (data,n)=>aaB A data n) Iy aaV (fc Tryz.func205 fz) sz (fun A y=>match y with |.c0 p a2 a3 a4=>⟨36,by kernel_rfl,by kernel_rfl⟩|.c1 p=>⟨26,by kernel_rfl,by kernel_rfl⟩|.c2 p c2 c3 c4=>⟨44,by kernel_rfl,by kernel_rfl⟩) fun((data,n):List bl×Int) hp hv h=>oH (aaq (of_decide_eq_true hp))
def aam(A:aI)(x2:List bl):LT (List bl×Unit) Empty:=.need (A.k OT (x2,(A.l x2))) (.ret ((A.k Of (x2,(A.l x2))).1,()))
theorem Zq{d:List bl}(h:d.length≤1000000):Ex Empty.elim d.length (aam ah d):=
 Ex.need (aK ⟨rfl,h⟩) (Ex.ret (show(ah.k Of (d,ah.l d)).1.length=d.length from kU))
def NG:List bl×Unit→List bl×Unit:=fun(d,_)=>(pW Empty.elim (aam ah d) d,())
def Ej:List bl×Unit→Bool:=fun(d,_)=>decide (d.length≤1000000)
def ab_:dG:=⟨bA, [], [136], [],Ej,NG⟩
theorem adw:dG.Sound Tryz.prog 135 ab_:=iG ap bR true 13 (ic ahx iz) [] [] (fun A (x2,())=>aam A x2) (fun _=>Empty.elim) Empty.elim (fc Tryz.func135 fz) sz (fun _ y=>y.elim) fun((x2,()):List bl×Unit) hp hv h=>oH (Zq (of_decide_eq_true hp))
def Ge(l:List bl):List bl:=(NG (l,())).1
def LS(A:aI)(m:al):LT (Int×Int) Empty:=.need (A.k (@tt al) m) (.br (A.c .neq (A.k fX m) 0) (.ret (0,(A.k fX m))) (.ret ((A.b .add .i64 (A.b .mul .i64 (A.b .mul .i64 14 m.1) m.2.2.2.2.1) 8),0)))
def iv:al→(Int×Int):=fun m=>(LS ah m).val (Ty.bi [yI,yI])
def acT:ax:=⟨[aR], [yI,yI],(@tt al),iv⟩
theorem acd:Sd 129 acT:=aH ap bR true 38 [] (fun A m=>LS A m) (fc Tryz.func129 fz) (sc CF sz) (fun(m:al) hp h=>by
 show(LS ah m).pre=true
 simp only[LS,LT.pre,Gk,bne_iff_ne,beq_iff_eq,bne_eq_false_iff_eq,beq_eq_false_iff_ne]
 simp only[Ty.cN,Ty.has,ml,x_] at h
 (repeat' (first|intro _|constructor))<;>(try omega))
theorem MM{m:al}(h:¬fX m=0):(iv m).2=fX m:=by
 show(LT.val (Ty.bi [yI,yI]) (LS ah m)).2=_
 simp only[LS,LT.val,aA,aT,bne_iff_ne.2 h];rfl
theorem yh{m:al}(h:(iv m).2=0):fX m=0:=Decidable.not_not.1 fun k=>k ((MM k).symm.trans h)
def LP(l:List Bool)(N:Nat):List Bool:=ah.spl (List.replicate N true) 0 (ah.s l 0 (ah.mn (ah.l l) (ah.l (List.replicate N true))))
def opC(o:bl):bl:=(o.1,o.2.1,o.2.2.1,o.2.2.2.1,o.2.2.2.2.1,jG o.2.2.2.2.2)
def IT(m:al)(l:List bl):List bl:=((l.filter fun o=>mq (m,o)).map opC).take 256
def bp(m:al)(s:fj):fj:=
 (ah.mn (ah.mx s.1 1) 16,LP s.2.1 m.1.toNat,rowP s.2.2.1 m.1.toNat 0 (iv m).1 0,rowP s.2.2.2.1 m.1.toNat 40 60 50,rowP s.2.2.2.2.1 m.1.toNat (ah.u .neg .i64 (ah.b .quo .i64 m.2.2.2.1 2)) (ah.b .quo .i64 m.2.2.2.1 2) 0,
   rowP s.2.2.2.2.2.1 (min s.2.2.2.2.2.1.length 1024) (ah.u .neg .i64 m.2.2.2.2.1) m.2.2.2.2.1 0,Ge (IT m s.2.2.2.2.2.2.1),(gZ m s.2.2.2.2.2.2.2).take 256)
def WX:fj:=(0, [], [], [], [], [], [], [])
def fD(m:al)(s:fj):fj×Int:=bif decide ((iv m).2=0) then(bp m s,0) else(WX,(iv m).2)
structure Rv where
 (a0:List bl) (a1:Int) (a3:al) (a5:Int) (a6 a7 a8 a9:List Int) (cB:List aM) (da:List Bool)
structure RR where
 (b0:List bl) (b1:Int) (b3:al) (b5:Int) (b6 b7 b8 b9:List Int) (b10:List aM) (b11:List Bool)
inductive Mp where
 | c0 (p:Rv) (a2:Int)
 | c1 (p:RR) (b2:Int) (b12:List bl)
noncomputable def aaZ:Mp→eD
 | .c0 p a2=>⟨[⟨65,112,(en [(2,.ptr 0 0),(4,.ptr 1 0),(9,.ptr 2 0),(82,.sl bA p.a0),(83,vi p.a1),(84,vi a2)]),[.inLoop (cw Tryz.f65 [1,1,1,1,1,1,1,0,1,0,0]),.inBlock 0,.code (cw Tryz.f65 [1,1,1,1,1,1,1,1])],[],none⟩],[.flat false (dc aR p.a3),.flat false [vi 0,.dp true,.dp true,.dp true,.dp true,.dp true,.dp true,.dp true],.flat false [vi p.a5,.own 3,.sl yI p.a6,.sl yI p.a7,.sl yI p.a8,.sl yI p.a9,.dp true,.sl aQ p.cB],.arr false .bool p.da,.dead]⟩
 | .c1 p b2 b12=>⟨[⟨65,112,(en [(2,.ptr 0 0),(4,.ptr 1 0),(9,.ptr 2 0),(82,.sl bA p.b0),(83,vi p.b1),(84,vi b2)]),[.inLoop (cw Tryz.f65 [1,1,1,1,1,1,1,0,1,0,0]),.inBlock 0,.code (cw Tryz.f65 [1,1,1,1,1,1,1,1])],[],none⟩],[.flat false (dc aR p.b3),.flat false [vi 0,.dp true,.dp true,.dp true,.dp true,.dp true,.dp true,.dp true],.flat false [vi p.b5,.own 3,.sl yI p.b6,.sl yI p.b7,.sl yI p.b8,.sl yI p.b9,.own 4,.sl aQ p.b10],.arr false .bool p.b11,.arr false bA b12,.dead]⟩
abbrev M0(A:aI)(m:al)(s:fj):LT (fj×Int) Mp:=(.need (A.and (A.c .leq 0 0) (A.and (A.c .leq 0 (A.mn (A.l (A.k p9 (m,s.2.2.2.2.2.2.2))) 256)) (A.c .leq (A.mn (A.l (A.k p9 (m,s.2.2.2.2.2.2.2))) 256) (A.l (A.k p9 (m,s.2.2.2.2.2.2.2)))))) (.more (.c0 ⟨s.2.2.2.2.2.2.1,(A.l s.2.2.2.2.2.2.1),m,(A.mn (A.mx s.1 1) 16),(A.k GG (s.2.2.1,m.1,0,(A.k iv m).1,0)),(A.k GG (s.2.2.2.1,m.1,40,60,50)),(A.k GG (s.2.2.2.2.1,m.1,(A.u .neg .i64 (A.b .quo .i64 m.2.2.2.1 2)),(A.b .quo .i64 m.2.2.2.1 2),0)),(A.k GG (s.2.2.2.2.2.1,(A.mn (A.l s.2.2.2.2.2.1) 1024),(A.u .neg .i64 m.2.2.2.2.1),m.2.2.2.2.1,0)),(A.s (A.k p9 (m,s.2.2.2.2.2.2.2)) 0 (A.mn (A.l (A.k p9 (m,s.2.2.2.2.2.2.2))) 256)),(A.spl (A.k Qh ([true],m.1)).2.1 0 (A.s s.2.1 0 (A.mn (A.l s.2.1) (A.l (A.k Qh ([true],m.1)).2.1))))⟩ 0)))
abbrev JU(A:aI)(m:al)(s:fj):=(A.k mY (s.2.2.2.2.1,m.1,(A.u .neg .i64 (A.b .quo .i64 m.2.2.2.1 2)),(A.b .quo .i64 m.2.2.2.1 2),0))
abbrev KU(A:aI)(m:al)(s:fj):=(A.k mY (s.2.2.2.2.2.1,(A.mn (A.l s.2.2.2.2.2.1) 1024),(A.u .neg .i64 m.2.2.2.2.1),m.2.2.2.2.1,0))
abbrev Nm(A:aI)(m:al)(s:fj):LT (fj×Int) Mp:=(.need (A.k AR ([true],m.1)) (.need (A.k mY (s.2.2.1,m.1,0,(A.k iv m).1,0)) (.need (A.k mY (s.2.2.2.1,m.1,40,60,50)) (.need (JU A m s) (.need (KU A m s) (.need (A.k yO (m,s.2.2.2.2.2.2.2)) (M0 A m s)))))))
def YI(A:aI)(m:al)(s:fj):LT (fj×Int) Mp:=.need (A.k (@tt al) m) (.br (A.c .neq (A.k iv m).2 0) (.ret ((0,([]:List Bool),([]:List Int),([]:List Int),([]:List Int),([]:List Int),([]:List bl),([]:List aM)),(A.k iv m).2)) (.and (.and (.need (A.k AR ([true],m.1)) (.need (A.k mY (s.2.2.1,m.1,0,(A.k iv m).1,0)) (.need (A.k mY (s.2.2.2.1,m.1,40,60,50)) (.need (JU A m s) (.need (KU A m s) (.need (A.k yO (m,s.2.2.2.2.2.2.2)) (.need (A.k yO (m,s.2.2.2.2.2.2.2)) (.need (KU A m s) (.need (JU A m s) (.need (A.k mY (s.2.2.2.1,m.1,40,60,50)) (.need (A.k mY (s.2.2.1,m.1,0,(A.k iv m).1,0)) (M0 A m s)))))))))))) (Nm A m s)) (Nm A m s)))
def MZ(A:aI):Mp→LT (fj×Int) Mp
 | .c0 p a2=>.br (A.c .lss a2 p.a1) (.need (A.and (A.c .leq 0 a2) (A.c .lss a2 (A.l p.a0))) (.need (A.k (@tt (al×bl)) (p.a3,(A.n bA p.a0 a2:bl))) (.br (A.k mq (p.a3,(A.n bA p.a0 a2:bl))) (.need (A.k (@tt (List Int)) (A.n bA p.a0 a2:bl).2.2.2.2.2) (.need (A.c .leq (A.l (([((A.n bA p.a0 a2:bl).1,(A.n bA p.a0 a2:bl).2.1,(A.n bA p.a0 a2:bl).2.2.1,(A.n bA p.a0 a2:bl).2.2.2.1,(A.n bA p.a0 a2:bl).2.2.2.2.1,(A.k jG (A.n bA p.a0 a2:bl).2.2.2.2.2))]:List bl):List bl)) 2199023255552) (.more (.c1 ⟨p.a0,p.a1,p.a3,p.a5,p.a6,p.a7,p.a8,p.a9,p.cB,p.da⟩ (A.b .add .i64 a2 1) ([((A.n bA p.a0 a2:bl).1,(A.n bA p.a0 a2:bl).2.1,(A.n bA p.a0 a2:bl).2.2.1,(A.n bA p.a0 a2:bl).2.2.2.1,(A.n bA p.a0 a2:bl).2.2.2.2.1,(A.k jG (A.n bA p.a0 a2:bl).2.2.2.2.2))]:List bl))))) (.more (.c0 p (A.b .add .i64 a2 1)))))) (.need (A.k Ej (([]:List bl),())) (.ret ((p.a5,p.da,p.a6,p.a7,p.a8,p.a9,([]:List bl),p.cB),0)))
 | .c1 p b2 b12=>.br (A.c .lss b2 p.b1) (.need (A.and (A.c .leq 0 b2) (A.c .lss b2 (A.l p.b0))) (.need (A.k (@tt (al×bl)) (p.b3,(A.n bA p.b0 b2:bl))) (.br (A.k mq (p.b3,(A.n bA p.b0 b2:bl))) (.br (A.c .lss (A.l b12) 256) (.need (A.k (@tt (List Int)) (A.n bA p.b0 b2:bl).2.2.2.2.2) (.need (A.c .leq (A.l (A.p b12 ([((A.n bA p.b0 b2:bl).1,(A.n bA p.b0 b2:bl).2.1,(A.n bA p.b0 b2:bl).2.2.1,(A.n bA p.b0 b2:bl).2.2.2.1,(A.n bA p.b0 b2:bl).2.2.2.2.1,(A.k jG (A.n bA p.b0 b2:bl).2.2.2.2.2))]:List bl))) 2199023255552) (.more (.c1 p (A.b .add .i64 b2 1) (A.p b12 ([((A.n bA p.b0 b2:bl).1,(A.n bA p.b0 b2:bl).2.1,(A.n bA p.b0 b2:bl).2.2.1,(A.n bA p.b0 b2:bl).2.2.2.1,(A.n bA p.b0 b2:bl).2.2.2.2.1,(A.k jG (A.n bA p.b0 b2:bl).2.2.2.2.2))]:List bl)))))) (.more (.c1 p (A.b .add .i64 b2 1) b12))) (.more (.c1 p (A.b .add .i64 b2 1) b12))))) (.need (A.k Ej (b12,())) (.ret ((p.b5,p.b11,p.b6,p.b7,p.b8,p.b9,(A.k NG (b12,())).1,p.b10),0)))
theorem ad0{L:List bl}{i:Nat}(h:i<L.length):(ah.n bA L (i:Int):bl)=L[i]:=getD_in h _
theorem U_{d:List bl}(h:d.length≤1000000):ah.k Ej (d,())=true:=aK h
theorem OG{p:RR}{m:al}{L:List bl}(h0:p.b0=L)(h1:p.b1=(L.length:Int))(h3:p.b3=m)(hL:L.length≤1000000):∀(j i:Nat) (acc:List bl),L.length-i=j→i≤L.length→acc.length≤256→
  au (MZ ah) (.more (.c1 p (i:Int) acc)) ((p.b5,p.b11,p.b6,p.b7,p.b8,p.b9,Ge ((acc++((L.drop i).filter fun o=>mq (m,o)).map opC).take 256),p.b10),0):=by
 intro j
 induction j with
 | zero=>
   intro i acc hj hi ha
   have:i=L.length:=by omega
   subst this
   refine ak.2 ((ai ?_).2 (af.2 ⟨U_ (by omega),ay ?_ (.ret _)⟩))
   ·rw[h1,aC];simp
   ·rw[List.drop_length,List.filter_nil,List.map_nil,List.append_nil,List.take_of_length_le ha];rfl
 | succ j ih=>
   intro i acc hj hi ha
   have hlt:i<L.length:=by omega
   refine ak.2 ((aj ?_).2 (af.2 ⟨by rw[h0];exact aO hlt,af.2 ⟨rfl,?_⟩⟩))
   ·rw[h1,aC];exact aK hlt
   rw[h0,h3,ad0 hlt,bU (by omega),pV hlt]
   cases hf:mq (m,L[i])
   ·refine(ai (show ah.k mq (m,L[i])=false from hf)).2 ?_
    rw[List.filter_cons_of_neg (p:=fun o=>mq (m,o)) (by rw[hf];simp)]
    exact ih (i+1) acc (by omega) (by omega) ha
   ·refine(aj (show ah.k mq (m,L[i])=true from hf)).2 ?_
    rw[List.filter_cons_of_pos (p:=fun o=>mq (m,o)) hf,List.map_cons]
    by_cases hc:acc.length<256
    ·refine(aj (by rw[bF,ar];exact aK (by omega))).2 (af.2 ⟨rfl,af.2 ⟨?_,?_⟩⟩)
     ·rw[bF,f_,gm,List.length_singleton,ao];exact aK (by omega)
     ·have nx:=ih (i+1) (acc ++ [opC L[i]]) (by omega) (by omega) (by rw[gm,List.length_singleton];omega)
      rw[List.append_assoc,List.singleton_append] at nx
      exact nx
    ·refine(ai (by rw[bF,ar];exact aX (by omega))).2 ?_
     have nx:=ih (i+1) acc (by omega) (by omega) ha
     rw[List.take_left' (by omega)] at nx ⊢
     exact nx
theorem Ld{p:Rv}{m:al}{L:List bl}(h0:p.a0=L)(h1:p.a1=(L.length:Int))(h3:p.a3=m)(hL:L.length≤1000000):∀(j i:Nat),L.length-i=j→i≤L.length→
  au (MZ ah) (.more (.c0 p (i:Int))) ((p.a5,p.da,p.a6,p.a7,p.a8,p.a9,Ge ((((L.drop i).filter fun o=>mq (m,o)).map opC).take 256),p.cB),0):=by
 intro j
 induction j with
 | zero=>
   intro i hj hi
   have:i=L.length:=by omega
   subst this
   refine ak.2 ((ai ?_).2 (af.2 ⟨rfl,ay ?_ (.ret _)⟩))
   ·rw[h1,aC];simp
   ·rw[List.drop_length,List.filter_nil,List.map_nil,List.take_nil,show Ge ([]:List bl)=[] from rfl]
 | succ j ih=>
   intro i hj hi
   have hlt:i<L.length:=by omega
   refine ak.2 ((aj ?_).2 (af.2 ⟨by rw[h0];exact aO hlt,af.2 ⟨rfl,?_⟩⟩))
   ·rw[h1,aC];exact aK hlt
   rw[h0,h3,ad0 hlt,bU (by omega),pV hlt]
   cases hf:mq (m,L[i])
   ·refine(ai (show ah.k mq (m,L[i])=false from hf)).2 ?_
    rw[List.filter_cons_of_neg (p:=fun o=>mq (m,o)) (by rw[hf];simp)]
    exact ih (i+1) (by omega) (by omega)
   ·refine(aj (show ah.k mq (m,L[i])=true from hf)).2 (af.2 ⟨rfl,af.2 ⟨rfl,?_⟩⟩)
    rw[List.filter_cons_of_pos (p:=fun o=>mq (m,o)) hf,List.map_cons]
    exact OG (p:=⟨L,p.a1,m,p.a5,p.a6,p.a7,p.a8,p.a9,p.cB,p.da⟩) (m:=m) (L:=L) rfl h1 rfl hL _ (i+1) [opC L[i]] rfl (by omega) (by simp)
theorem T8{N:Nat}(h:N≤1024):ah.k AR ([true],(N:Int))=true:=aK ⟨rfl,by omega,by omega⟩
theorem XA{m:al}{s:fj}(hf:s.2.2.2.2.2.2.2.length≤1000000)(ho:s.2.2.2.2.2.2.1.length≤1000000)(hd:s.2.2.2.2.2.1.length≤140737488355328):au (MZ ah) (YI ah m s) (fD m s):=by
 unfold YI Nm KU JU M0 fD
 refine af.2 ⟨rfl,?_⟩
 by_cases h:(iv m).2=0
 ·rw[aK h]
  refine(ai (by show ah.c .neq (iv m).2 0=false;rw[aU];exact aX fun k=>k h)).2 ?_
  have hb:=(cY (tM.1 (Aj.symm.trans (yh h)))).1
  obtain⟨N,hm⟩:=Int.eq_ofNat_of_zero_le (show 0≤m.1 by omega)
  have hN:N≤8:=by omega
  have w:∀(l:List Int) (a b c:Int),ah.k mY (l,m.1,a,b,c)=true:=fun l a b c=>aK (by omega)
  have ed:ah.mn (ah.l s.2.2.2.2.2.1) 1024=((min s.2.2.2.2.2.1.length 1024:Nat):Int):=nj (i:=s.2.2.2.2.2.1.length) (j:=1024)
  have w2:∀(l:List Int) (a b c:Int),ah.k mY (l,ah.mn (ah.l s.2.2.2.2.2.1) 1024,a,b,c)=true:=fun l a b c=>aK (by rw[ed];omega)
  have w3:ah.k yO (m,s.2.2.2.2.2.2.2)=true:=aK hf
  have w4:ah.and (ah.c .leq 0 0) (ah.and (ah.c .leq 0 (ah.mn (ah.l (ah.k p9 (m,s.2.2.2.2.2.2.2))) 256)) (ah.c .leq (ah.mn (ah.l (ah.k p9 (m,s.2.2.2.2.2.2.2))) 256) (ah.l (ah.k p9 (m,s.2.2.2.2.2.2.2)))))=true:=by
   have e:ah.mn (ah.l (ah.k p9 (m,s.2.2.2.2.2.2.2))) 256=((min (ah.k p9 (m,s.2.2.2.2.2.2.2)).length 256:Nat):Int):=nj (i:=(ah.k p9 (m,s.2.2.2.2.2.2.2)).length) (j:=256)
   rw[e,bF,aJ,aJ,ao,ao,ao];simp;omega
  have w5:ah.k AR ([true],m.1)=true:=by rw[hm];exact T8 (by omega)
  have key:=Ld (p:=⟨s.2.2.2.2.2.2.1,(s.2.2.2.2.2.2.1.length:Int),m,ah.mn (ah.mx s.1 1) 16,rowP s.2.2.1 m.1.toNat 0 (iv m).1 0,rowP s.2.2.2.1 m.1.toNat 40 60 50,rowP s.2.2.2.2.1 m.1.toNat (ah.u .neg .i64 (ah.b .quo .i64 m.2.2.2.1 2)) (ah.b .quo .i64 m.2.2.2.1 2) 0,rowP s.2.2.2.2.2.1 (ah.mn (ah.l s.2.2.2.2.2.1) 1024).toNat (ah.u .neg .i64 m.2.2.2.2.1) m.2.2.2.2.1 0,ah.s (gZ m s.2.2.2.2.2.2.2) 0 (ah.mn (ah.l (gZ m s.2.2.2.2.2.2.2)) 256),LP s.2.1 m.1.toNat⟩) (m:=m) (L:=s.2.2.2.2.2.2.1) rfl rfl rfl ho _ 0 rfl (Nat.zero_le _)
  have ef:ah.s (gZ m s.2.2.2.2.2.2.2) 0 (ah.mn (ah.l (gZ m s.2.2.2.2.2.2.2)) 256)=(gZ m s.2.2.2.2.2.2.2).take 256:=by
   rw[show ah.mn (ah.l (gZ m s.2.2.2.2.2.2.2)) 256=((min (gZ m s.2.2.2.2.2.2.2).length 256:Nat):Int) from nj (i:=(gZ m s.2.2.2.2.2.2.2).length) (j:=256),fP,gS]
   show List.drop 0 _=_
   rw[List.drop_zero,Nat.min_comm,←List.take_eq_take_min]
  have key:au (MZ ah) _ (bp m s,0):=ay (by unfold bp;rw[ef,ed,gS];rfl) key
  repeat' first
   | exact key
   | refine .and ?_ ?_
   | refine af.2 ⟨w5,?_⟩
   | refine af.2 ⟨w _ _ _ _,?_⟩
   | refine af.2 ⟨w2 _ _ _ _,?_⟩
   | refine af.2 ⟨w3,?_⟩
   | refine af.2 ⟨w4,?_⟩
 ·rw[aX h]
  exact(aj (by show ah.c .neq (iv m).2 0=true;rw[aU];exact aK h)).2 (.ret _)
def xm:(al×fj)→(fj×Int):=fun(m,s)=>fD m s
def Ei:(al×fj)→Bool:=fun(_,s)=>decide (s.2.2.2.2.2.2.2.length≤1000000∧s.2.2.2.2.2.2.1.length≤1000000∧s.2.2.2.2.2.1.length≤140737488355328)
def abU:ax:=⟨[aR,gW], [gW,yI],Ei,xm⟩
theorem agj:Sd 65 abU:=Ci ap bR true 119 (oc abZ oz) (ic adw iz) mz pz [⟨65,9, [[2,4,9,82,83,84]]⟩] [] (fun A (m,s)=>YI A m s) MZ aaZ (fc Tryz.func65 fz) (sc Cz (sc acd (sc ab4 (sc agh (sc aeT sz))))) (fun A y=>match y with |.c0 p a2=>⟨57,by kernel_rfl,by kernel_rfl⟩|.c1 p b2 b12=>⟨57,by kernel_rfl,by kernel_rfl⟩) fun((m,s):al×fj) hp h=>XA (of_decide_eq_true hp).1 (of_decide_eq_true hp).2.1 (of_decide_eq_true hp).2.2
theorem Np{m:al}{id:Int}(h:(jK m id).2=0):(jK m id).1.1=id:=by
 unfold jK at h ⊢
 cases h0:du m
 ·rw[h0] at h;exact(Ji (n:=70) h).elim
 rw[h0,cond_true] at h
 rw[cond_true]
 cases h1:decide (0≤id∧id≤m.1-1)
 ·rw[h1] at h;exact(Ji (n:=2) h).elim
 ·rfl
theorem ado{m:al}{n:Node}{s:Int}(h:(MH m n s).2=0):(MH m n s).1.1=n.1:=by
 unfold MH at h ⊢
 by_cases h0:bo m n=0
 ·rw[aK h0,cond_true] at h ⊢
  cases h1:decide (n.2.1=0)
  ·rw[h1] at h;exact(Ji (n:=181) h).elim
  rw[h1,cond_true] at h
  rw[cond_true]
  cases h2:decide (0≤s∧s≤ah.b .shl .i64 1 m.1-1)
  ·rw[h2] at h;exact(Ji (n:=2) h).elim
  rw[h2,cond_true] at h
  rw[cond_true]
  cases h3:lu s n.1
  ·rw[h3] at h;exact(Ji (n:=2) h).elim
  ·rfl
 ·rw[aX h0] at h;exact absurd h h0
def xZ:List Bool→Nat→Int→Int
 | [],_,s=>s
 | u::l,i,s=>xZ l (i+1) (bif u then ah.b .or .i64 s (ah.b .shl .i64 1 (i:Int)) else s)
def DD(m:al)(set i:Int)(u:Bool):Node×Int:=bif decide ((jK m i).2=0)&&u then MH m (jK m i).1 set else jK m i
def qd(m:al)(set:Int):List Bool→Nat→List Node→List Node×Int
 | [],_,acc=>(acc,0)
 | u::l,i,acc=>bif decide ((DD m set (i:Int) u).2=0) then qd m set l (i+1) (acc ++ [(DD m set (i:Int) u).1]) else([],(DD m set (i:Int) u).2)
theorem aaS{m:al}{set i:Int}{u:Bool}(h:(DD m set i u).2=0):bo m (DD m set i u).1=0∧(DD m set i u).1.1=i:=by
 unfold DD at h ⊢
 by_cases h0:(jK m i).2=0
 ·rw[aK h0,Bool.true_and] at h ⊢
  cases u
  ·exact⟨D8 h0,Np h0⟩
  ·exact⟨Y7 (D8 h0) h,(ado h).trans (Np h0)⟩
 ·rw[aX h0] at h;exact absurd h h0
theorem Uk{m:al}{set:Int}:∀(l:List Bool) (i:Nat) (acc:List Node),(qd m set l i acc).2=0→acc.length=i→j5 m acc→j5 m (qd m set l i acc).1∧(qd m set l i acc).1.length=i+l.length:=by
 intro l
 induction l with
 | nil=>intro i acc _ hl h;exact⟨h,hl⟩
 | cons u l ih=>
   intro i acc h hl hn
   rw[qd] at h ⊢
   by_cases h0:(DD m set (i:Int) u).2=0
   ·rw[aK h0,cond_true] at h ⊢
    obtain⟨a,b⟩:=aaS h0
    obtain⟨c,d⟩:=ih (i+1) _ h (by rw[gm,hl];rfl) fun j n hj=>by
     rw[List.getElem?_append] at hj
     split at hj
     ·exact hn j n hj
     ·rename_i hlt
      have:j-acc.length=0:=by
       by_cases h:j-acc.length=0
       ·exact h
       ·rw[List.getElem?_eq_none (by simp;omega)] at hj;cases hj
      rw[this] at hj
      cases hj
      exact⟨a,by rw[b];omega⟩
    exact⟨c,by rw[d,List.length_cons];omega⟩
   ·rw[aX h0] at h;exact absurd h h0
def aja(m:al)(c:fj)(l:List Node):bf:=(true,m,c,l,List.replicate m.1.toNat false,0, [])
def oB(m:al)(c:fj):Bool×bf×Int:=
 bif decide ((qd m (xZ c.2.1 0 0) c.2.1 0 []).2=0) then(true,aja m c (qd m (xZ c.2.1 0 0) c.2.1 0 []).1,0) else(false,Ty.dZ oD,(qd m (xZ c.2.1 0 0) c.2.1 0 []).2)
def nG(m:al)(s:fj):Bool×bf×Int:=bif decide ((fD m s).2=0) then oB m (fD m s).1 else(false,Ty.dZ oD,(fD m s).2)
theorem JO{l:List Bool}{N:Nat}:(LP l N).length=N:=by
 unfold LP
 rw[jr,bF,bF,nj,fP,gS,pQ]
 show((List.replicate N true).take 0++(l.take (min l.length N)).drop 0++(List.replicate N true).drop (0+((l.take (min l.length N)).drop 0).length)).length=N
 rw[List.take_zero,List.nil_append,List.drop_zero,gm,List.length_drop,pQ,List.length_take]
 omega
structure Mid(x:bf)(k:Nat):Prop where
 inv:V2 x
 made:x.1=true
 slot:x.2.2.2.2.2.1=(k:Int)
 len:(x.2.2.2.1.length:Int)=x.2.1.1
 num:1≤x.2.1.1∧x.2.1.1≤8
 cK:1≤x.2.2.1.1∧x.2.2.1.1≤16
 r7:x.2.2.2.2.2.2.length≤k*8
 snp:CJ x
theorem Vi{m:al}{s:fj}(h:(nG m s).1=false):¬(nG m s).2.2=0:=by
 unfold nG at h ⊢
 by_cases h0:(fD m s).2=0
 ·rw[aK h0,cond_true] at h ⊢
  unfold oB at h ⊢
  by_cases h1:(qd m (xZ (fD m s).1.2.1 0 0) (fD m s).1.2.1 0 []).2=0
  ·rw[aK h1] at h;cases h
  ·rw[aX h1];exact h1
 ·rw[aX h0];exact h0
theorem Kx{m:al}{s:fj}(h:(nG m s).1=true):(nG m s).2.2=0∧(nG m s).2.1.2.1=m∧Mid (nG m s).2.1 0:=by
 unfold nG at h ⊢
 by_cases h0:(fD m s).2=0
 ·rw[aK h0,cond_true] at h ⊢
  have hc:(iv m).2=0:=by
   unfold fD at h0
   by_cases hq:(iv m).2=0
   ·exact hq
   ·rw[aX hq] at h0;exact h0
  have e:(fD m s).1=bp m s:=by unfold fD;rw[aK hc];rfl
  rw[e] at h ⊢
  have hm:=(cY (tM.1 (Aj.symm.trans (yh hc)))).1
  unfold oB at h ⊢
  by_cases h1:(qd m (xZ (bp m s).2.1 0 0) (bp m s).2.1 0 []).2=0
  ·rw[aK h1,cond_true]
   obtain⟨a,b⟩:=Uk _ 0 [] h1 rfl fun i n hi=>by cases hi
   have hl:(bp m s).2.1.length=m.1.toNat:=JO
   rw[hl,Nat.zero_add] at b
   generalize (qd m (xZ (bp m s).2.1 0 0) (bp m s).2.1 0 []).1=l at a b
   refine⟨rfl,rfl,⟨a,?_⟩,rfl,rfl,?_,?_,?_,Nat.zero_le _,fun s hs=>by cases hs⟩
   ·refine⟨by show(List.replicate _ _).length=l.length;rw[pQ,b],by show 1≤l.length;omega,by show l.length≤1000;omega,?_,?_,by show 0+l.length≤_;omega⟩
    ·show(List.take 256 _).length≤_;rw[List.length_take];omega
    ·show(Ge (IT m s.2.2.2.2.2.2.1)).length≤_
     rw[show(Ge (IT m s.2.2.2.2.2.2.1)).length=(IT m s.2.2.2.2.2.2.1).length from kU,IT,List.length_take];omega
   ·show(l.length:Int)=m.1;omega
   ·show 1≤m.1∧m.1≤8;omega
   ·show 1≤ah.mn (ah.mx s.1 1) 16∧ah.mn (ah.mx s.1 1) 16≤16
    rw[ov,IU]
    split<;>split<;>omega
  ·rw[aX h1] at h;cases h
 ·rw[aX h0] at h;cases h
theorem mid_step{x:bf}{k:Nat}(h:Mid x k)(hk:k≤1000):Mid (nt x) (k+1):=by
 have st:=zq h.inv
 obtain⟨a,b,c,d,e,f⟩:=h.inv.rest
 have h1:=st.len
 have h2:=st.aW
 have h3:=st.r7
 have h4:=h.r7
 have h5:=h.len
 have h6:=h.num
 refine⟨⟨by rw[st.m];exact st.L9,by omega,by omega,by omega,by rw[st.s];exact d,by rw[st.s];exact e,by omega⟩,st.made.trans h.made,?_,by rw[h1,st.m];exact h.len,by rw[st.m];exact h.num,by rw[st.s];exact h.cK,by omega,st.Qz h.snp⟩
 rw[st.slot,h.slot,bU (by omega)]
def QV:Nat→bf→bf
 | 0,x=>x
 | k+1,x=>QV k (nt x)
structure M1 where
 (a1:List Bool) (a2:Int) (a4:al) (a5:fj) (a7:al) (a8:fj) (cB:List Bool)
structure Nw where
 (b0:Int) (b1:List Bool) (b2:Int) (b4 b6:al) (b7:fj) (b9:List Bool)
structure SA where
 (c0:Int) (c1:List Bool) (c2:Int) (c4 c6:al) (c7:fj) (c10:List Bool)
inductive RF where
 | c0 (p:M1) (a0:Int) (a3:Int)
 | c1 (p:Nw)
 | c2 (p:SA) (c3:Int) (c9:List Node)
noncomputable def Z0:RF→eD
 | .c0 p a0 a3=>⟨[⟨25,87,(en [(2,.ptr 0 0),(6,.ptr 1 0),(8,.ptr 2 0),(9,vi a0),(33,.sl .bool p.a1),(34,vi p.a2),(35,vi a3)]),[.inLoop (cw Tryz.f25 [1,1,1,1,1,0,1,0,0]),.inBlock 0,.code (cw Tryz.f25 [1,1,1,1,1,1])],[],none⟩],[.flat false (dc aR p.a4),.flat false (dc gW p.a5),.flat false ([vb true]++dc aR p.a7++dc gW p.a8 ++ [.dp true,.own 3,vi 0,.dp true]),.arr false .bool p.cB,.dead]⟩
 | .c1 p=>⟨[⟨25,87,(en [(2,.ptr 0 0),(8,.ptr 1 0),(9,vi p.b0),(47,.sl .bool p.b1),(48,vi p.b2),(49,vi 0)]),[.inLoop (cw Tryz.f25 [1,1,1,1,1,1,0,1,0,0]),.inBlock 2,.code (cw Tryz.f25 [1,1,1,1,1,1,1])],[],none⟩],[.flat false (dc aR p.b4),.flat false ([vb true]++dc aR p.b6++dc gW p.b7 ++ [.dp true,.own 2,vi 0,.dp true]),.arr false .bool p.b9,.dead]⟩
 | .c2 p c3 c9=>⟨[⟨25,87,(en [(2,.ptr 0 0),(8,.ptr 1 0),(9,vi p.c0),(47,.sl .bool p.c1),(48,vi p.c2),(49,vi c3)]),[.inLoop (cw Tryz.f25 [1,1,1,1,1,1,0,1,0,0]),.inBlock 2,.code (cw Tryz.f25 [1,1,1,1,1,1,1])],[],none⟩],[.flat false (dc aR p.c4),.flat false ([vb true]++dc aR p.c6++dc gW p.c7 ++ [.own 2,.own 3,vi 0,.dp true]),.arr false aF c9,.arr false .bool p.c10,.dead]⟩
def abI(A:aI)(m:al)(s:fj):LT (Bool×bf×Int) RF:=.need (A.k Ei (m,s)) (.br (A.c .neq (A.k xm (m,s)).2 0) (.ret (false,(Ty.dZ oD:bf),(A.k xm (m,s)).2)) (.need (A.and (A.c .eql m.1 m.1) (A.and (A.c .leq 0 m.1) (A.c .leq m.1 140737488355328))) (.more (.c0 ⟨(A.k xm (m,s)).1.2.1,(A.l (A.k xm (m,s)).1.2.1),m,(A.k xm (m,s)).1,m,(A.k xm (m,s)).1,(A.r m.1 false)⟩ 0 0))))
def wD(A:aI):RF→LT (Bool×bf×Int) RF
 | .c0 p a0 a3=>.br (A.c .lss a3 p.a2) (.need (A.and (A.c .leq 0 a3) (A.c .lss a3 (A.l p.a1))) (.br (A.n .bool p.a1 a3:Bool) (.need (A.c .leq 0 a3) (.more (.c0 p (A.b .or .i64 a0 (A.b .shl .i64 1 a3)) (A.b .add .i64 a3 1)))) (.more (.c0 p a0 (A.b .add .i64 a3 1))))) (.more (.c1 ⟨a0,p.a5.2.1,(A.l p.a5.2.1),p.a4,p.a7,p.a8,p.cB⟩))
 | .c1 p=>.br (A.c .lss 0 p.b2) (.need (A.and (A.c .leq 0 0) (A.c .lss 0 (A.l p.b1))) (.need (A.k (@tt (al×Int)) (p.b4,0)) (.br (A.c .eql (A.k cX (p.b4,0)).2 0) (.br (A.n .bool p.b1 0:Bool) (.need (A.k (@tt (al×Node×Int)) (p.b4,(A.k cX (p.b4,0)).1,p.b0)) (.br (A.c .neq (A.k oR (p.b4,(A.k cX (p.b4,0)).1,p.b0)).2 0) (.ret (false,(Ty.dZ oD:bf),(A.k oR (p.b4,(A.k cX (p.b4,0)).1,p.b0)).2)) (.need (A.c .leq (A.l (([(A.k oR (p.b4,(A.k cX (p.b4,0)).1,p.b0)).1]:List Node):List Node)) 676622540169) (.more (.c2 ⟨p.b0,p.b1,p.b2,p.b4,p.b6,p.b7,p.b9⟩ (A.b .add .i64 0 1) ([(A.k oR (p.b4,(A.k cX (p.b4,0)).1,p.b0)).1]:List Node)))))) (.br (A.c .neq (A.k cX (p.b4,0)).2 0) (.ret (false,(Ty.dZ oD:bf),(A.k cX (p.b4,0)).2)) (.need (A.c .leq (A.l (([(A.k cX (p.b4,0)).1]:List Node):List Node)) 676622540169) (.more (.c2 ⟨p.b0,p.b1,p.b2,p.b4,p.b6,p.b7,p.b9⟩ (A.b .add .i64 0 1) ([(A.k cX (p.b4,0)).1]:List Node)))))) (.br (A.c .neq (A.k cX (p.b4,0)).2 0) (.ret (false,(Ty.dZ oD:bf),(A.k cX (p.b4,0)).2)) (.need (A.c .leq (A.l (([(A.k cX (p.b4,0)).1]:List Node):List Node)) 676622540169) (.more (.c2 ⟨p.b0,p.b1,p.b2,p.b4,p.b6,p.b7,p.b9⟩ (A.b .add .i64 0 1) ([(A.k cX (p.b4,0)).1]:List Node)))))))) (.ret (true,(true,p.b6,p.b7,([]:List Node),p.b9,0,([]:List gn)),0))
 | .c2 p c3 c9=>.br (A.c .lss c3 p.c2) (.need (A.and (A.c .leq 0 c3) (A.c .lss c3 (A.l p.c1))) (.need (A.k (@tt (al×Int)) (p.c4,c3)) (.br (A.c .eql (A.k cX (p.c4,c3)).2 0) (.br (A.n .bool p.c1 c3:Bool) (.need (A.k (@tt (al×Node×Int)) (p.c4,(A.k cX (p.c4,c3)).1,p.c0)) (.br (A.c .neq (A.k oR (p.c4,(A.k cX (p.c4,c3)).1,p.c0)).2 0) (.ret (false,(Ty.dZ oD:bf),(A.k oR (p.c4,(A.k cX (p.c4,c3)).1,p.c0)).2)) (.need (A.c .leq (A.l (A.p c9 ([(A.k oR (p.c4,(A.k cX (p.c4,c3)).1,p.c0)).1]:List Node))) 676622540169) (.more (.c2 p (A.b .add .i64 c3 1) (A.p c9 ([(A.k oR (p.c4,(A.k cX (p.c4,c3)).1,p.c0)).1]:List Node))))))) (.br (A.c .neq (A.k cX (p.c4,c3)).2 0) (.ret (false,(Ty.dZ oD:bf),(A.k cX (p.c4,c3)).2)) (.need (A.c .leq (A.l (A.p c9 ([(A.k cX (p.c4,c3)).1]:List Node))) 676622540169) (.more (.c2 p (A.b .add .i64 c3 1) (A.p c9 ([(A.k cX (p.c4,c3)).1]:List Node))))))) (.br (A.c .neq (A.k cX (p.c4,c3)).2 0) (.ret (false,(Ty.dZ oD:bf),(A.k cX (p.c4,c3)).2)) (.need (A.c .leq (A.l (A.p c9 ([(A.k cX (p.c4,c3)).1]:List Node))) 676622540169) (.more (.c2 p (A.b .add .i64 c3 1) (A.p c9 ([(A.k cX (p.c4,c3)).1]:List Node))))))))) (.ret (true,(true,p.c6,p.c7,c9,p.c10,0,([]:List gn)),0))
theorem M7{l:List Bool}{i:Nat}(h:l.length≤i){s:Int}:xZ (l.drop i) i s=s:=by rw[List.drop_eq_nil_of_le h];rfl
theorem SC{p:M1}{l:List Bool}{q:Int→Bool×bf×Int}(h1:p.a1=l)(h2:p.a2=(l.length:Int))(hl:l.length≤1000)
  (T:∀z,au (wD ah) (.more (.c1 ⟨z,p.a5.2.1,ah.l p.a5.2.1,p.a4,p.a7,p.a8,p.cB⟩)) (q z)) :
  ∀(j i:Nat) (z:Int),l.length-i=j→i≤l.length→au (wD ah) (.more (.c0 p z (i:Int))) (q (xZ (l.drop i) i z)):=by
 intro j
 induction j with
 | zero=>
   intro i z hj hi
   rw[M7 (by omega),ak,wD,h2]
   exact(ai (by rw[ar];exact aX (by omega))).2 (T z)
 | succ j ih=>
   intro i z hj hi
   have hi':i<l.length:=by omega
   rw[ak,wD,h1,h2]
   refine(aj (by rw[ar];exact aK (by omega))).2 (af.2 ⟨aO hi',?_⟩)
   rw[show(ah.n .bool l (i:Int):Bool)=l[i] from getD_in hi' _,pV hi',xZ,bU (i:=i) (by omega)]
   cases l[i]
   ·exact(ai rfl).2 (ih (i+1) z (by omega) (by omega))
   ·exact(aj rfl).2 (af.2 ⟨by rw[ao];exact aK (by omega),ih (i+1) _ (by omega) (by omega)⟩)
theorem Ki{m:al}{S i:Int}{u:Bool}{K:Node→LT (Bool×bf×Int) RF}{R:Bool×bf×Int}
  (hE:¬(DD m S i u).2=0→R=(false,Ty.dZ oD,(DD m S i u).2)) (hK:(DD m S i u).2=0→au (wD ah) (K (DD m S i u).1) R) :
  au (wD ah) (.need (ah.k (@tt (al×Int)) (m,i)) (.br (ah.c .eql (ah.k cX (m,i)).2 0)
   (.br u (.need (ah.k (@tt (al×Node×Int)) (m,(ah.k cX (m,i)).1,S)) (.br (ah.c .neq (ah.k oR (m,(ah.k cX (m,i)).1,S)).2 0) (.ret (false,(Ty.dZ oD:bf),(ah.k oR (m,(ah.k cX (m,i)).1,S)).2)) (K (ah.k oR (m,(ah.k cX (m,i)).1,S)).1)))
     (.br (ah.c .neq (ah.k cX (m,i)).2 0) (.ret (false,(Ty.dZ oD:bf),(ah.k cX (m,i)).2)) (K (ah.k cX (m,i)).1)))
   (.br (ah.c .neq (ah.k cX (m,i)).2 0) (.ret (false,(Ty.dZ oD:bf),(ah.k cX (m,i)).2)) (K (ah.k cX (m,i)).1)))) R:=by
 rw[show ah.k cX (m,i)=jK m i from rfl,show ah.k oR (m,(jK m i).1,S)=MH m (jK m i).1 S from rfl]
 refine af.2 ⟨rfl,?_⟩
 unfold DD at hE hK
 by_cases h:(jK m i).2=0
 ·rw[aK h,Bool.true_and] at hE hK
  refine(aj (by rw[aN];exact aK h)).2 ?_
  cases u
  ·refine(ai rfl).2 ((ai (by rw[aU];exact aX fun k=>k h)).2 (hK h))
  ·refine(aj rfl).2 (af.2 ⟨rfl,?_⟩)
   refine aB (p:=¬(MH m (jK m i).1 S).2=0) aU (fun g=>?_) fun g=>hK (Decidable.not_not.1 g)
   rw[hE g];exact .ret _
 ·rw[aX h,Bool.false_and] at hE hK
  refine(ai (by rw[aN];exact aX h)).2 ((aj (by rw[aU];exact aK h)).2 ?_)
  rw[hE h];exact .ret _
def Rx(m:al)(c:fj)(aW:List Bool)(r:List Node×Int):Bool×bf×Int:=bif decide (r.2=0) then(true,(true,m,c,r.1,aW,0, []),0) else(false,Ty.dZ oD,r.2)
theorem GY{m:al}{c:fj}{aW:List Bool}{e:Int}(h:¬e=0):Rx m c aW ([],e)=(false,Ty.dZ oD,e):=by unfold Rx;rw[aX h];rfl
theorem Dg{m:al}{S:Int}{u:Bool}{l:List Bool}{i:Nat}{acc:List Node}:qd m S (u::l) i acc=bif decide ((DD m S (i:Int) u).2=0) then qd m S l (i+1) (acc ++ [(DD m S (i:Int) u).1]) else([],(DD m S (i:Int) u).2):=rfl
theorem Jz{l:List Node}(h:l.length≤1001):ah.c .leq (ah.l l) 676622540169=true:=by rw[ao,bF];exact aK (by omega)
theorem O_{p:SA}{m:al}{l:List Bool}{S:Int}(h0:p.c0=S)(h1:p.c1=l)(h2:p.c2=(l.length:Int))(h4:p.c4=m)(hl:l.length≤1000) :
  ∀(j i:Nat) (acc:List Node),l.length-i=j→i≤l.length→acc.length≤i→au (wD ah) (.more (.c2 p (i:Int) acc)) (Rx p.c6 p.c7 p.c10 (qd m S (l.drop i) i acc)):=by
 intro j
 induction j with
 | zero=>
   intro i acc hj hi ha
   rw[List.drop_eq_nil_of_le (by omega),ak,wD,h2]
   exact(ai (by rw[ar];exact aX (by omega))).2 (.ret _)
 | succ j ih=>
   intro i acc hj hi ha
   have hi':i<l.length:=by omega
   rw[ak,wD,h0,h1,h2,h4]
   refine(aj (by rw[ar];exact aK (by omega))).2 (af.2 ⟨aO hi',?_⟩)
   rw[show(ah.n .bool l (i:Int):Bool)=l[i] from getD_in hi' _,pV hi',Dg,bU (i:=i) (by omega)]
   refine Ki (m:=m) (S:=S) (i:=(i:Int)) (u:=l[i]) (K:=fun n=>.need (ah.c .leq (ah.l (ah.p acc ([n]:List Node))) 676622540169) (.more (.c2 p ((i+1:Nat):Int) (ah.p acc ([n]:List Node))))) (fun h=>?_) fun h=>?_
   ·rw[aX h];exact GY h
   ·rw[aK h]
    have hn:(ah.p acc [(DD m S (i:Int) l[i]).1]:List Node).length≤i+1:=by rw[f_,gm,List.length_singleton];omega
    exact af.2 ⟨Jz (by omega),ih (i+1) _ (by omega) (by omega) hn⟩
theorem Mf{p:Nw}{m:al}{l:List Bool}{S:Int}(h0:p.b0=S)(h1:p.b1=l)(h2:p.b2=(l.length:Int))(h4:p.b4=m)(hl:l.length≤1000) :
  au (wD ah) (.more (.c1 p)) (Rx p.b6 p.b7 p.b9 (qd m S l 0 [])):=by
 rw[ak,wD,h0,h1,h2,h4]
 cases l with
 | nil=>exact(ai rfl).2 (.ret _)
 | cons u l=>
   refine(aj (by rw[ar,List.length_cons];exact aK (by omega))).2 (af.2 ⟨aO (i:=0) (Nat.zero_lt_succ _),?_⟩)
   rw[Dg]
   refine Ki (m:=m) (S:=S) (i:=0) (u:=u) (K:=fun n=>.need (ah.c .leq (ah.l (([n]:List Node):List Node)) 676622540169) (.more (.c2 ⟨S,u::l,((u::l).length:Int),m,p.b6,p.b7,p.b9⟩ (ah.b .add .i64 0 1) ([n]:List Node)))) (fun h=>?_) fun h=>?_
   ·rw[show decide ((DD m S ((0:Nat):Int) u).2=0)=false from aX h];exact GY h
   ·rw[show decide ((DD m S ((0:Nat):Int) u).2=0)=true from aK h]
    exact af.2 ⟨Jz (Nat.le_add_left 1 _),O_ (p:=⟨S,u::l,((u::l).length:Int),m,p.b6,p.b7,p.b9⟩) (l:=u::l) rfl rfl rfl rfl hl l.length 1 [(DD m S ((0:Nat):Int) u).1] (by rw[List.length_cons];omega) (by rw[List.length_cons];omega) (Nat.le_refl 1)⟩
theorem ZE{m:al}{s:fj}(h:ah.k Ei (m,s)=true):au (wD ah) (abI ah m s) (nG m s):=by
 unfold abI nG
 refine af.2 ⟨h,?_⟩
 rw[show ah.k xm (m,s)=fD m s from rfl]
 by_cases h0:(fD m s).2=0
 ·rw[aK h0,cond_true]
  have hc:(iv m).2=0:=by
   unfold fD at h0
   by_cases hq:(iv m).2=0
   ·exact hq
   ·rw[aX hq] at h0;exact h0
  have e:(fD m s).1=bp m s:=by unfold fD;rw[aK hc];rfl
  have hm:=(cY (tM.1 (Aj.symm.trans (yh hc)))).1
  have hl:(bp m s).2.1.length=m.1.toNat:=JO
  refine(ai (by rw[aU];exact aX fun k=>k h0)).2 (af.2 ⟨?_,?_⟩)
  ·rw[aJ,aJ,aD,ao,ao];simp;omega
  rw[e]
  have key:=SC (p:=⟨(bp m s).2.1,ah.l (bp m s).2.1,m,bp m s,m,bp m s,ah.r m.1 false⟩) (l:=(bp m s).2.1) (q:=fun z=>Rx m (bp m s) (ah.r m.1 false) (qd m z (bp m s).2.1 0 [])) rfl rfl (by omega) (fun z=>Mf (m:=m) (l:=(bp m s).2.1) rfl rfl rfl rfl (by omega)) _ 0 0 rfl (Nat.zero_le _)
  exact key
 ·rw[aX h0]
  exact(aj (by rw[aU];exact aK h0)).2 (.ret _)
def ob:(al×fj)→Bool×bf×Int:=fun(m,s)=>nG m s
def zh:(al×fj)→Bool:=fun x=>Ei x
def ac3:kl:=⟨[aR,gW],.ptr [.d .bool,.d aR,.d gW,.own aF,.own .bool,.d yI,.own dN],true, [yI],zh,ob⟩
theorem ahe:kl.Sound Tryz.prog 25 ac3:=u_ ap bR true 58 oz iz mz pz [⟨25,7, [[2,6,8,9,33,34,35]]⟩,⟨25,13, [[2,8,9,47,48,49]]⟩] [] (fun A (m,s)=>abI A m s) wD Z0 (fc Tryz.func25 fz) (sc Wd (sc adh (sc agj sz))) (fun A y=>match y with |.c0 p a0 a3=>⟨40,by kernel_rfl,by kernel_rfl⟩|.c1 p=>⟨82,by kernel_rfl,by kernel_rfl⟩|.c2 p c3 c9=>⟨82,by kernel_rfl,by kernel_rfl⟩) fun((m,s):(al×fj)) hp h=>ZE hp
def aa_(A:aI)(x2:bf):LT (bf×Bool) Empty:=.br (A.not x2.1) (.ret (x2,true)) (.ret (x2,(A.c .geq x2.2.2.2.2.2.1 (A.b .mul .i64 x2.2.2.1.1 x2.2.1.1))))
def vu(x:bf):Bool:=bif x.1 then ah.c .geq x.2.2.2.2.2.1 (ah.b .mul .i64 x.2.2.1.1 x.2.1.1) else true
theorem Va{x:bf}:au Empty.elim (aa_ ah x) (x,vu x):=by
 unfold aa_ vu
 cases h:x.1
 ·exact(aj rfl).2 (.ret _)
 ·exact(ai rfl).2 (.ret _)
def nP:bf×Unit→bf×Bool:=fun(x,_)=>(x,vu x)
def aec:bL:=⟨[.ptr [.d .bool,.d aR,.d gW,.own aF,.own .bool,.d yI,.own dN]], [], [.bool],(@tt (bf×Unit)),nP,false⟩
theorem adb:bL.Sound Tryz.prog 26 aec:=bQ ap bR true 52 iz mz pz [] [] (fun A (x2,())=>aa_ A x2) (fun _=>Empty.elim) Empty.elim (fc Tryz.func26 (fc Tryz.func67 fz)) sz (fun _ y=>y.elim) fun((x2,()):bf×Unit) hp hv h=>Va
structure aag where
 (a0:Int) (a2:Bool) (a3:al) (a4:fj) (a5:Int) (a6:List gn) (a7:List Node) (a8:List Bool)
structure Qd where
 (b0:Int) (b2:Bool) (b3:al) (b4:fj) (b5:Int) (b7:List gn) (b8:List Node) (b9:List Bool)
inductive Um where
 | c0 (p:aag)
 | c1 (p:Qd) (b1:Int) (b6:List gn)
noncomputable def aa6:Um→eD
 | .c0 p=>⟨[⟨36,28,(en [(3,.dp true),(11,.own 1),(12,vi p.a0),(13,vi 0)]),[.inLoop (cw Tryz.f36 [1,1,0,1,0,1,0,0]),.inBlock 0,.code (cw Tryz.f36 [1,1,1])],[],none⟩],[.flat false ([vb p.a2]++dc aR p.a3++dc gW p.a4 ++ [.own 2,.own 3,vi p.a5,.own 1]),.arr false dN p.a6,.arr false aF p.a7,.arr false .bool p.a8,.dead]⟩
 | .c1 p b1 b6=>⟨[⟨36,28,(en [(3,.own 1),(11,.own 2),(12,vi p.b0),(13,vi b1)]),[.inLoop (cw Tryz.f36 [1,1,0,1,0,1,0,0]),.inBlock 0,.code (cw Tryz.f36 [1,1,1])],[],none⟩],[.flat false ([vb p.b2]++dc aR p.b3++dc gW p.b4 ++ [.own 3,.own 4,vi p.b5,.own 2]),.arr false dN b6,.arr false dN p.b7,.arr false aF p.b8,.arr false .bool p.b9,.dead]⟩
def XP(A:aI)(x2:bf):LT (bf×(List gn)) Um:=.br x2.1 (.more (.c0 ⟨(A.l x2.2.2.2.2.2.2),x2.1,x2.2.1,x2.2.2.1,x2.2.2.2.2.2.1,x2.2.2.2.2.2.2,x2.2.2.2.1,x2.2.2.2.2.1⟩)) (.ret (x2,([]:List gn)))
def Lq(A:aI):Um→LT (bf×(List gn)) Um
 | .c0 p=>.br (A.c .lss 0 p.a0) (.need (A.and (A.c .leq 0 0) (A.c .lss 0 (A.l p.a6))) (.need (A.k DU (A.n dN p.a6 0:gn).2) (.need (A.c .leq (A.l (([((A.n dN p.a6 0:gn).1,(A.k Bd (A.n dN p.a6 0:gn).2))]:List gn):List gn)) 651562446089) (.more (.c1 ⟨p.a0,p.a2,p.a3,p.a4,p.a5,p.a6,p.a7,p.a8⟩ (A.b .add .i64 0 1) ([((A.n dN p.a6 0:gn).1,(A.k Bd (A.n dN p.a6 0:gn).2))]:List gn)))))) (.ret ((p.a2,p.a3,p.a4,p.a7,p.a8,p.a5,p.a6),([]:List gn)))
 | .c1 p b1 b6=>.br (A.c .lss b1 p.b0) (.need (A.and (A.c .leq 0 b1) (A.c .lss b1 (A.l p.b7))) (.need (A.k DU (A.n dN p.b7 b1:gn).2) (.need (A.c .leq (A.l (A.p b6 ([((A.n dN p.b7 b1:gn).1,(A.k Bd (A.n dN p.b7 b1:gn).2))]:List gn))) 651562446089) (.more (.c1 p (A.b .add .i64 b1 1) (A.p b6 ([((A.n dN p.b7 b1:gn).1,(A.k Bd (A.n dN p.b7 b1:gn).2))]:List gn))))))) (.ret ((p.b2,p.b3,p.b4,p.b8,p.b9,p.b5,p.b7),b6))
def Af(x:bf):List gn:=bif x.1 then x.2.2.2.2.2.2 else[]
theorem KQ{l:List gn}(h:l.length≤1000001):ah.c .leq (ah.l l) 651562446089=true:=by rw[ao,bF];exact aK (by omega)
theorem IE{p:Qd}{l:List gn}(h0:p.b0=(l.length:Int))(h7:p.b7=l)(hl:l.length≤1000000)(hc:∀n∈l,Ja n.2=true):∀(j i:Nat) (acc:List gn),l.length-i=j→i≤l.length→acc.length≤i→
  au (Lq ah) (.more (.c1 p (i:Int) acc)) ((p.b2,p.b3,p.b4,p.b8,p.b9,p.b5,l),acc++l.drop i):=by
 intro j
 induction j with
 | zero=>
   intro i acc hj hi ha
   rw[List.drop_eq_nil_of_le (by omega),List.append_nil,ak,Lq,h0,h7]
   exact(ai (by rw[ar];exact aX (by omega))).2 (.ret _)
 | succ j ih=>
   intro i acc hj hi ha
   have hi':i<l.length:=by omega
   rw[ak,Lq,h0,h7]
   refine(aj (by rw[ar];exact aK (by omega))).2 (af.2 ⟨aO hi',?_⟩)
   rw[show(ah.n dN l (i:Int):gn)=l[i] from getD_in hi' _,pV hi',bU (i:=i) (by omega)]
   have hn:(ah.p acc [l[i]]:List gn).length≤i+1:=by rw[f_,gm,List.length_singleton];omega
   refine af.2 ⟨hc _ (List.getElem_mem hi'),af.2 ⟨KQ (show(ah.p acc [l[i]]:List gn).length≤1000001 by omega),?_⟩⟩
   have nx:=ih (i+1) _ (by omega) (by omega) hn
   rw[f_,List.append_assoc] at nx
   exact nx
theorem Sl{x:bf}(hl:x.2.2.2.2.2.2.length≤1000000)(hc:∀n∈x.2.2.2.2.2.2,Ja n.2=true):au (Lq ah) (XP ah x) (x,Af x):=by
 obtain⟨x1,x2,x3,x4,x5,x6,l⟩:=x
 unfold XP Af
 cases x1
 ·exact(ai rfl).2 (.ret _)
 refine(aj rfl).2 ?_
 rw[ak,Lq]
 cases l with
 | nil=>exact(ai rfl).2 (.ret _)
 | cons n l=>
   have hl:(n::l).length≤1000000:=hl
   have hc:∀k∈n::l,Ja k.2=true:=hc
   refine(aj (by show ah.c .lss 0 (ah.l (n::l))=true;rw[bF,ar,List.length_cons];exact aK (by omega))).2 (af.2 ⟨aO (i:=0) (Nat.zero_lt_succ _),af.2 ⟨hc n (List.mem_cons_self ..),af.2 ⟨KQ (Nat.le_add_left 1 _),?_⟩⟩⟩)
   exact IE (p:=⟨((n::l).length:Int),true,x2,x3,x6,n::l,x4,x5⟩) rfl rfl hl hc l.length 1 [n] (by rw[List.length_cons];omega) (by rw[List.length_cons];omega) (Nat.le_refl 1)
def R8:bf×Unit→bf×(List gn):=fun(x,_)=>(x,Af x)
def IA:bf×Unit→Bool:=fun(x,_)=>decide (x.2.2.2.2.2.2.length≤1000000)&&x.2.2.2.2.2.2.all fun s=>Ja s.2
def ahA:bL:=⟨[.ptr [.d .bool,.d aR,.d gW,.own aF,.own .bool,.d yI,.own dN]], [], [(.slice dN)],IA,R8,false⟩
theorem afo:bL.Sound Tryz.prog 36 ahA:=bQ ap bR true 49 iz mz pz [⟨36,4, [[3,11,12,13]]⟩] [] (fun A (x2,())=>XP A x2) Lq aa6 (fc Tryz.func36 (fc Tryz.func67 fz)) (sc Xc sz) (fun A y=>match y with |.c0 p=>⟨39,by kernel_rfl,by kernel_rfl⟩|.c1 p b1 b6=>⟨39,by kernel_rfl,by kernel_rfl⟩) fun((x2,()):bf×Unit) hp hv h=>Sl (of_decide_eq_true ((cd _ _).mp hp).1) (List.all_eq_true.1 ((cd _ _).mp hp).2)
inductive TO where
 | c0 (a0:Bool) (a1:al) (a2:fj) (a3:Int) (a4:List Node) (a5:List Bool) (a6:List gn)
 | c1
noncomputable def aa0:TO→eD
 | .c0 a0 a1 a2 a3 a4 a5 a6=>⟨[⟨20,24,(en [(6,.ptr 0 0)]),[.inLoop (cw Tryz.f20 [1,1,1,0,0,0]),.inBlock 0,.code (cw Tryz.f20 [1,1,1,1])],[],none⟩],[.flat false ([vb a0]++dc aR a1++dc gW a2 ++ [.own 1,.own 2,vi a3,.own 3]),.arr false aF a4,.arr false .bool a5,.arr false dN a6,.dead]⟩
 | .c1=>⟨[⟨20,24,(en [(6,.fS)]),[.inLoop (cw Tryz.f20 [1,1,1,0,0,0]),.inBlock 0,.code (cw Tryz.f20 [1,1,1,1])],[],none⟩],[.dead]⟩
def aar(A:aI)(m:al)(s:fj):LT (List gn×Int) TO:=.need (A.k zh (m,s)) (.br (A.k ob (m,s)).1 (.br (A.c .neq (A.k ob (m,s)).2.2 0) (.ret (([]:List gn),(A.k ob (m,s)).2.2)) (.more (.c0 (A.k ob (m,s)).2.1.1 (A.k ob (m,s)).2.1.2.1 (A.k ob (m,s)).2.1.2.2.1 (A.k ob (m,s)).2.1.2.2.2.2.2.1 (A.k ob (m,s)).2.1.2.2.2.1 (A.k ob (m,s)).2.1.2.2.2.2.1 (A.k ob (m,s)).2.1.2.2.2.2.2.2))) (.br (A.c .neq (A.k ob (m,s)).2.2 0) (.ret (([]:List gn),(A.k ob (m,s)).2.2)) (.more (.c1))))
def PY(A:aI):TO→LT (List gn×Int) TO
 | .c0 a0 a1 a2 a3 a4 a5 a6=>.need (A.k (@tt (bf×Unit)) ((a0,a1,a2,a4,a5,a3,a6),())) (.br (A.not (A.k nP ((a0,a1,a2,a4,a5,a3,a6),())).2) (.need (A.k Jp ((A.k nP ((a0,a1,a2,a4,a5,a3,a6),())).1,())) (.more (.c0 (A.k uR ((A.k nP ((a0,a1,a2,a4,a5,a3,a6),())).1,())).1.1 (A.k uR ((A.k nP ((a0,a1,a2,a4,a5,a3,a6),())).1,())).1.2.1 (A.k uR ((A.k nP ((a0,a1,a2,a4,a5,a3,a6),())).1,())).1.2.2.1 (A.k uR ((A.k nP ((a0,a1,a2,a4,a5,a3,a6),())).1,())).1.2.2.2.2.2.1 (A.k uR ((A.k nP ((a0,a1,a2,a4,a5,a3,a6),())).1,())).1.2.2.2.1 (A.k uR ((A.k nP ((a0,a1,a2,a4,a5,a3,a6),())).1,())).1.2.2.2.2.1 (A.k uR ((A.k nP ((a0,a1,a2,a4,a5,a3,a6),())).1,())).1.2.2.2.2.2.2))) (.need (A.k IA ((A.k nP ((a0,a1,a2,a4,a5,a3,a6),())).1,())) (.ret ((A.k R8 ((A.k nP ((a0,a1,a2,a4,a5,a3,a6),())).1,())).2,0))))
 | .c1=>.bad 194 "model.go:104"
def ox(x:bf):Nat:=(x.2.2.1.1*x.2.1.1).toNat
theorem Mid.cnt{x:bf}{k:Nat}(h:Mid x k):ah.b .mul .i64 x.2.2.1.1 x.2.1.1=(ox x:Int)∧1≤ox x∧ox x≤128:=by
 obtain⟨a1,a2⟩:=h.cK
 obtain⟨b1,b2⟩:=h.num
 unfold ox
 generalize x.2.2.1.1=r at *
 generalize x.2.1.1=n at *
 obtain⟨r,rfl⟩:=Int.eq_ofNat_of_zero_le (show 0≤r by omega)
 obtain⟨n,rfl⟩:=Int.eq_ofNat_of_zero_le (show 0≤n by omega)
 have h1:r*n≤16*8:=Nat.mul_le_mul (by omega) (by omega)
 have h2:1*1≤r*n:=Nat.mul_le_mul (by omega) (by omega)
 have e:(r:Int)*(n:Int)=((r*n:Nat):Int):=(Int.natCast_mul r n).symm
 rw[ib,e,iZ (by omega) (by omega),gS]
 exact⟨rfl,by omega,by omega⟩
theorem Mid.over{x:bf}{k:Nat}(h:Mid x k):vu x=decide (ox x≤k):=by
 unfold vu
 rw[h.made,cond_true,h.slot,h.cnt.1]
 show decide ((k:Int) ≥ (ox x:Int))=_
 by_cases g:ox x≤k
 ·rw[aK g];exact aK (by omega)
 ·rw[aX g];exact aX (by omega)
theorem Mid.G9{x:bf}{k:Nat}(h:Mid x k):ox (nt x)=ox x:=by
 have st:=zq h.inv
 unfold ox
 rw[st.m,st.s]
theorem Mid.pre{x:bf}{k:Nat}(h:Mid x k):ah.k Jp (x,())=true:=G5.2 h.inv
theorem Mid.Ul{x:bf}{k:Nat}(h:Mid x k)(hk:k≤1000):ah.k IA (x,())=true:=by
 have h1:=h.r7
 show(decide (_)&&_)=true
 rw[aK (by omega),Bool.true_and]
 exact List.all_eq_true.2 fun s hs=>JI (h.snp s hs)
def m_(m:al)(s:fj):List gn×Int:=bif (nG m s).1 then((QV (ox (nG m s).2.1) (nG m s).2.1).2.2.2.2.2.2,0) else([],(nG m s).2.2)
theorem N_:∀(j k:Nat) (x:bf),ox x-k=j→k≤ox x→Mid x k→au (PY ah) (.more (.c0 x.1 x.2.1 x.2.2.1 x.2.2.2.2.2.1 x.2.2.2.1 x.2.2.2.2.1 x.2.2.2.2.2.2)) ((QV j x).2.2.2.2.2.2,0):=by
 intro j
 induction j with
 | zero=>
   intro k x hj hk hm
   rw[ak,PY]
   refine af.2 ⟨rfl,?_⟩
   rw[show ah.k nP ((x.1,x.2.1,x.2.2.1,x.2.2.2.1,x.2.2.2.2.1,x.2.2.2.2.2.1,x.2.2.2.2.2.2),())=(x,vu x) from rfl]
   refine(ai (by show(!vu x)=false;rw[hm.over,aK (show ox x≤k by omega)];rfl)).2 (af.2 ⟨hm.Ul (by have:=hm.cnt.2;omega),?_⟩)
   rw[show ah.k R8 (x,())=(x,Af x) from rfl]
   unfold Af
   rw[hm.made]
   exact .ret _
 | succ j ih=>
   intro k x hj hk hm
   have hc:=hm.cnt.2
   rw[ak,PY]
   refine af.2 ⟨rfl,?_⟩
   rw[show ah.k nP ((x.1,x.2.1,x.2.2.1,x.2.2.2.1,x.2.2.2.2.1,x.2.2.2.2.2.1,x.2.2.2.2.2.2),())=(x,vu x) from rfl]
   refine(aj (by show(!vu x)=true;rw[hm.over,aX (show ¬ox x≤k by omega)];rfl)).2 (af.2 ⟨hm.pre,?_⟩)
   rw[show ah.k uR (x,())=(nt x,()) from rfl]
   exact ih (k+1) (nt x) (by rw[hm.G9];omega) (by rw[hm.G9];omega) (mid_step hm (by omega))
theorem ZY{m:al}{s:fj}(h:ah.k zh (m,s)=true):au (PY ah) (aar ah m s) (m_ m s):=by
 unfold aar m_
 refine af.2 ⟨h,?_⟩
 rw[show ah.k ob (m,s)=nG m s from rfl]
 cases hn:(nG m s).1
 ·exact(ai rfl).2 ((aj (by rw[aU];exact aK (Vi hn))).2 (.ret _))
 ·obtain⟨h0,_,hm⟩:=Kx hn
  exact(aj rfl).2 ((ai (by rw[aU];exact aX fun k=>k h0)).2 (N_ _ 0 _ rfl (Nat.zero_le _) hm))
def mM:(al×fj)→(List gn×Int):=fun(m,s)=>m_ m s
def pJ:(al×fj)→Bool:=fun x=>zh x
def ad2:ax:=⟨[aR,gW], [(.slice dN),yI],pJ,mM⟩
theorem Ww:Sd 20 ad2:=D1 ap bR true true 37 (oc ahe oz) iz (mc adb (mc afo (mc aeI mz))) pz [⟨20,4, [[6]]⟩] [] (fun A (m,s)=>aar A m s) PY aa0 (fc Tryz.func20 fz) sz (fun A y=>match y with |.c0 a0 a1 a2 a3 a4 a5 a6=>⟨22,by kernel_rfl,by kernel_rfl⟩|.c1=>⟨10,by kernel_rfl,by kernel_rfl⟩) fun((m,s):al×fj) hp h=>ZY hp
def Uf(A:aI)(s:fj):LT Bool Empty:=.br (A.c .leq (A.l s.2.2.2.2.2.2.1) 300) (.br (A.c .leq (A.l s.2.2.2.2.2.2.2) 300) (.ret (A.c .leq (A.l s.2.2.2.2.2.1) 1100)) (.ret false)) (.ret false)
def qK:fj→Bool:=fun s=>(Uf ah s).val (Ty.bi [.bool])
def adg:ax:=⟨[gW], [.bool],(@tt fj),qK⟩
theorem adi:Sd 19 adg:=aH ap bR true 31 [] (fun A s=>Uf A s) (fc Tryz.func19 fz) sz (fun(s:fj) hp h=>by
 show(Uf ah s).pre=true
 simp only[Uf,LT.pre,Gk,bne_iff_ne,beq_iff_eq,bne_eq_false_iff_eq,beq_eq_false_iff_ne]
 simp only[Ty.cN,Ty.has,ml,x_] at h
 (repeat' (first|intro _|constructor))<;>(try omega))
theorem H5{s:fj}(h:qK s=true):s.2.2.2.2.2.2.1.length≤300∧s.2.2.2.2.2.2.2.length≤300∧s.2.2.2.2.2.1.length≤1100:=by
 have h:(bif ah.c .leq (ah.l s.2.2.2.2.2.2.1) 300 then(bif ah.c .leq (ah.l s.2.2.2.2.2.2.2) 300 then ah.c .leq (ah.l s.2.2.2.2.2.1) 1100 else false) else false)=true:=h
 rw[ao,ao,ao,bF,bF,bF] at h
 by_cases a:(s.2.2.2.2.2.2.1.length:Int)≤300
 ·rw[aK a] at h
  by_cases b:(s.2.2.2.2.2.2.2.length:Int)≤300
  ·rw[aK b] at h
   have c:(s.2.2.2.2.2.1.length:Int)≤1100:=of_decide_eq_true h
   exact⟨by omega,by omega,by omega⟩
  ·rw[aX b] at h;cases h
 ·rw[aX a] at h;cases h
theorem VZ{m:al}{s:fj}(h:qK s=true):ah.k zh (m,s)=true:=by
 obtain⟨a,b,c⟩:=H5 h
 exact aK ⟨by omega,by omega,by omega⟩
end
end Go.Ev.M
