/-
  PROVED: what functions of the program compute, part 3. Conditions: none.
-/
import Derived.Test.YtjceiokllpmnkaaGreatM2
import Derived.Shelf.SlicesE.Clone
import Derived.Shelf.SlSortCmp.NoneTotal
set_option linter.unusedVariables false
set_option linter.unusedSimpArgs false
namespace Go.Ev.M
open Go.Proofs
set_option maxRecDepth 100000
open Go.Ev.Pl
noncomputable section
theorem p9{c:cv}{k:Int}(hk:4≤k∧k≤8)(h1:0≤c.1∧c.1≤255)(h2:0≤c.2.1∧c.2.1≤k-1)(h3:0≤c.2.2.1∧c.2.2.1≤3)(h4:0≤c.2.2.2.1∧c.2.2.2.1≤4)(h5:0≤c.2.2.2.2∧c.2.2.2.2≤2^k.toNat-1):jW (c,k)=0:=by
 obtain⟨t,p,m,n,s⟩:=c
 rw[jW,decide_eq_false (show ¬k<4 by omega),decide_eq_false (show ¬8<k by omega),decide_eq_true h1.1,decide_eq_true h1.2,decide_eq_true h2.1,decide_eq_true h2.2,decide_eq_true h3.1,decide_eq_true h3.2,decide_eq_true h4.1,decide_eq_true h4.2,decide_eq_true h5.1,decide_eq_true h5.2]
 rfl
theorem ni{m:ao}{c:cv}(h:jW (c,m.1)=0)(h1:c.2.2.1<dw m)(h2:c.2.2.2.1≤dw m):dP m c=true:=by
 rw[dP,decide_eq_true h,decide_eq_true h1,decide_eq_true h2];rfl
theorem yL{m:ao}{x:Node}(hm:dh m=true)(h:F4 m x=true):bi m x=0:=by rw[bi,hm,h];rfl
theorem yC{m:ao}{x:Node}(hm:dh m=true)(h1:0≤x.1∧x.1≤m.1-1)(h2:2≤x.2.1∧x.2.1≤4)(h3:0≤x.2.2.2.2.2.2.1∧x.2.2.2.2.2.2.1≤2)(h4:cO x.2.2.2.2.2.2.2=true)(h5:x.2.2.2.2.2.2.2.1=x.1)(h6:(x.2.2.2.2.2.2.2.2.2.1.length:Int)=m.1)
  (h7:x.2.1=2→(ah.n .bool m.2.2.2.2.2.2.1 x.1:Bool)=true) (h8:dP m x.2.2.1=true) (h9:mq x.2.2.2.1=0) (ha:x.2.2.2.1.1=x.1) (hb:x.2.2.2.1.2.1=m.1) (hc:x.2.2.1.2.2.2.2=x.2.2.2.1.2.2.1) (hd:x.2.2.2.2.1=0) (he:x.2.2.2.2.2.1=true→x.2.1=2):bi m x=0:=by
 refine yL hm (bW.2 ⟨h1,by omega,h3,h4,h5,h6,?_,?_,?_,?_⟩)
 ·rw[CF]
  by_cases k:x.2.1=2
  ·rw[decide_eq_true k];exact h7 k
  ·rw[decide_eq_false k];rfl
 ·rw[oU,jK,decide_eq_true h2,cond_true,h8,decide_eq_true h9,decide_eq_true ha,decide_eq_true hb,decide_eq_true hc];rfl
 ·rw[qc,decide_eq_false (show ¬x.2.1=1 by omega)];exact decide_eq_true hd
 ·rw[xb]
  cases k:x.2.2.2.2.2.1
  ·rfl
  ·exact decide_eq_true (.inr (he k))
theorem nk{m:ao}{x:Node}(hm:dh m=true)(h1:0≤x.1∧x.1≤m.1-1)(h2:x.2.1=0∨x.2.1=1∨x.2.1=5)(h3:0≤x.2.2.2.2.2.2.1∧x.2.2.2.2.2.2.1≤2)(h4:cO x.2.2.2.2.2.2.2=true)(h5:x.2.2.2.2.2.2.2.1=x.1)(h6:(x.2.2.2.2.2.2.2.2.2.1.length:Int)=m.1)
  (h8:x.2.2.1=(0,0,0,0,0)) (h9:x.2.2.2.1=(0,0,0,0,0,0,0)) (hd:x.2.1=1→1≤x.2.2.2.2.1∧x.2.2.2.2.1≤(mK m x.1).1) (hd0:¬x.2.1=1→x.2.2.2.2.1=0) (he:x.2.2.2.2.2.1=true→x.2.1=1):bi m x=0:=by
 refine yL hm (bW.2 ⟨h1,by omega,h3,h4,h5,h6,?_,?_,?_,?_⟩)
 ·rw[CF,decide_eq_false (show ¬x.2.1=2 by omega)];rfl
 ·rw[oU,jK,decide_eq_false (show ¬(2≤x.2.1∧x.2.1≤4) by omega),cond_false,h8,h9];rfl
 ·rw[qc]
  by_cases k:x.2.1=1
  ·rw[decide_eq_true k];exact decide_eq_true (hd k)
  ·rw[decide_eq_false k];exact decide_eq_true (hd0 k)
 ·rw[xb]
  cases k:x.2.2.2.2.2.1
  ·rfl
  ·exact decide_eq_true (.inl (he k))
theorem I_{m:ao}{n:Node}(h:bi m n=0)(hb:n.2.2.2.2.2.1=true):n.2.1=1∨n.2.1=2:=by
 have hc:=(bW.1 (aY h).2).2.2.2.2.2.2.2.2.2
 rw[xb,hb] at hc
 exact of_decide_eq_true hc
theorem Un{k:Int}(h:4≤k∧k≤8):ah.b .shl .i64 1 k=2^k.toNat:=by
 have:k=4∨k=5∨k=6∨k=7∨k=8:=by omega
 rcases this with rfl|rfl|rfl|rfl|rfl<;>decide
theorem Hl{a b c:Int}(hb:4≤b∧b≤8)(ha:0≤a∧a≤b-1)(hc:0≤c∧c≤2^b.toNat-1):mq (a,b,c,1,0,0,0)=0:=by
 refine ik.2 ?_
 unfold iQ
 have:((2^b.toNat:Nat):Int)=2^b.toNat:=by norm_cast
 exact⟨hb.1,hb.2,ha.1,by omega,by omega,by omega,hc.1,by omega,by omega,by omega,by omega,by omega,by omega,by omega,fun h=>absurd rfl h,fun h=>by omega⟩
theorem xN{m:ao}{n:Int}(hm:dh m=true)(h:0≤n∧n≤m.1-1):1≤(mK m n).1:=by
 have hk:=(dd hm).1
 rw[mK,gX,hm,cond_true,decide_eq_true h]
 simp only[cond_true,decide_true,bd]
 rw[gV,gV]
 rw[gZ (a:=4*m.1) (by omega) (by omega),gZ (a:=n+1) (by omega) (by omega),gZ (a:=2*(n+1)) (by omega) (by omega),gZ (by omega) (by omega)]
 omega
theorem Wu{m:ao}{n:Int}(hm:dh m=true)(h:0≤n∧n≤m.1-1):1≤(Am m n).1∧(Am m n).1≤(mK m n).1:=by
 have hk:=(dd hm).1
 rw[mK,Am,gX,hm,cond_true,decide_eq_true h]
 simp only[cond_true,decide_true,bd]
 rw[gV,gV]
 rw[gZ (a:=4*m.1) (by omega) (by omega),gZ (a:=n+1) (by omega) (by omega),gZ (a:=2*(n+1)) (by omega) (by omega),gZ (a:=4*m.1+2*(n+1)) (by omega) (by omega)]
 omega
theorem En{m:ao}{c:cv}{r:Int}(hm:dh m=true)(h:dP m c=true):dP m (kV m c r)=true∧(kV m c r).2.1=c.2.1∧(kV m c r).2.2.2.2=c.2.2.2.2:=by
 rw[kV,xq,decide_eq_true (Oj hm h),cond_true]
 by_cases h1:0≤r∧r≤dw m
 ·rw[decide_eq_true h1,cond_true]
  by_cases h2:0<r
  ·cases h3:pJ m c (r-1)
   ·rw[Bool.and_false];exact⟨h,rfl,rfl⟩
   ·rw[decide_eq_true h2,Bool.and_self,cond_true]
    have hf:=ta h
    have hc:=qk hf.1
    have hl:=(dd hm).2.1
    refine⟨ni (p9 hc.1 hc.2.1 hc.2.2.1 hc.2.2.2.1 (show 0≤r∧r≤4 by omega) hc.2.2.2.2.2) hf.2.1.2 h1.2,rfl,rfl⟩
  ·rw[decide_eq_false h2,Bool.false_and];exact⟨h,rfl,rfl⟩
 ·rw[decide_eq_false h1];exact⟨h,rfl,rfl⟩
theorem ZF{m:ao}{n:Node}{s:Int}(h:bi m n=0)(he:(Mj m n s).2=0):bi m (Mj m n s).1=0:=by
 have hz:=bW.1 (aY h).2
 have hm:=(aY h).1
 have hk:=(dd hm)
 rw[Mj,decide_eq_true h,cond_true] at he ⊢
 by_cases h1:n.2.1=0
 ·rw[decide_eq_true h1,cond_true] at he ⊢
  by_cases h2:0≤s∧s≤ah.b .shl .i64 1 m.1-1
  ·rw[decide_eq_true h2,cond_true] at he ⊢
   cases h3:kX s n.1
   ·rw[h3] at he;exact absurd (show(2:Int)=0 from he) (by decide)
   ·rw[Un hk.1] at h2
    exact yC hm hz.1 (show(2:Int)≤4∧(4:Int)≤4 by omega) hz.2.2.1 hz.2.2.2.1 hz.2.2.2.2.1 hz.2.2.2.2.2.1 (fun k=>absurd k (show ¬(4:Int)=2 by omega)) (ni (p9 (c:=(0,0,0,0,s)) hk.1 (show(0:Int)≤0∧(0:Int)≤255 by omega) (show(0:Int)≤0∧(0:Int)≤m.1-1 by omega) (show(0:Int)≤0∧(0:Int)≤3 by omega) (show(0:Int)≤0∧(0:Int)≤4 by omega) h2) (show(0:Int)<dw m by omega) (show(0:Int)≤dw m by omega)) (Hl hk.1 hz.1 h2) rfl rfl rfl rfl (fun k=>by have:=I_ h k;omega)
  ·rw[decide_eq_false h2] at he;exact absurd (show(2:Int)=0 from he) (by decide)
 ·rw[decide_eq_false h1] at he;exact absurd (show(181:Int)=0 from he) (by decide)
theorem Db{m:ao}{id:Int}(he:(jD m id).2=0):bi m (jD m id).1=0:=by
 rw[jD] at he ⊢
 cases hm:dh m
 ·rw[hm] at he;exact absurd (show(70:Int)=0 from he) (by decide)
 ·rw[hm,cond_true] at he
  have hk:=dd hm
  by_cases h1:0≤id∧id≤m.1-1
  ·rw[decide_eq_true h1,cond_true,cond_true]
   have hl:((List.replicate m.1.toNat wh).length:Int)=m.1:=by rw[List.length_replicate];omega
   refine nk hm h1 (.inl rfl) (show(0:Int)≤0∧(0:Int)≤2 by omega) ?_ rfl hl rfl rfl (fun k=>absurd k (show ¬(0:Int)=1 by omega)) (fun _=>rfl) (fun k=>by cases k)
   show cO (id,([]:List Int),List.replicate m.1.toNat wh,4,(-1))=true
   have ha:(List.replicate m.1.toNat wh).all AZ=true:=by rw[List.all_eq_true];intro x hx;rw[List.eq_of_mem_replicate hx];decide
   simp only[cO,hl,ha]
   simp
   omega
  ·rw[decide_eq_false h1] at he;exact absurd (show(2:Int)=0 from he) (by decide)
theorem J6{m:ao}{n:Node}{on:Bool}(h:bi m n=0)(he:(lX m n on).2=0):bi m (lX m n on).1=0:=by
 have hz:=bW.1 (aY h).2
 have hm:=(aY h).1
 rw[lX,decide_eq_true h,cond_true] at he ⊢
 cases on
 ·exact Db he
 ·rw[cond_true] at he ⊢
  by_cases h1:n.2.1=0
  ·rw[decide_eq_true h1,cond_true]
   exact nk hm hz.1 (.inr (.inl rfl)) hz.2.2.1 hz.2.2.2.1 hz.2.2.2.2.1 hz.2.2.2.2.2.1 rfl rfl (fun _=>⟨xN hm hz.1,Int.le_refl _⟩) (fun k=>absurd rfl k) (fun k=>rfl)
  ·rw[decide_eq_false h1] at he;exact absurd (show(181:Int)=0 from he) (by decide)
theorem Nh{m:ao}{n:Node}{c:cJ}(h:bi m n=0)(h1:cO c=true)(h2:c.1=n.2.2.2.2.2.2.2.1)(h3:c.2.2.1.length=n.2.2.2.2.2.2.2.2.2.1.length):bi m (n.1,n.2.1,n.2.2.1,n.2.2.2.1,n.2.2.2.2.1,n.2.2.2.2.2.1,n.2.2.2.2.2.2.1,c)=0:=by
 have hz:=bW.1 (aY h).2
 exact yL (aY h).1 (bW.2 ⟨hz.1,hz.2.1,hz.2.2.1,h1,h2.trans hz.2.2.2.2.1,(congrArg Int.ofNat h3).trans hz.2.2.2.2.2.1,hz.2.2.2.2.2.2⟩)
theorem Z7{c:cJ}{d:List Int}(he:(Mi c d).2=0):cO (Mi c d).1=true∧(Mi c d).1.1=c.1∧(Mi c d).1.2.2.1.length=c.2.2.1.length:=by
 rw[Mi] at he ⊢
 cases h:cO c
 ·rw[h] at he;exact absurd (show(120:Int)=0 from he) (by decide)
 ·rw[h,cond_true] at he
  rw[cond_true]
  by_cases h1:8<(d.length:Int)
  ·rw[decide_eq_true h1] at he;exact absurd (show(3:Int)=0 from he) (by decide)
  ·rw[decide_eq_false h1,cond_false]
   simp only[cO,Bool.and_eq_true,decide_eq_true_eq] at h ⊢
   exact⟨⟨h.1,h.2.1,h1,h.2.2.2⟩,trivial,trivial⟩
theorem aaK{c:cJ}(he:(R1 c).2=0):cO (R1 c).1=true∧(R1 c).1.1=c.1∧(R1 c).1.2.2.1.length=c.2.2.1.length:=by
 rw[R1] at he ⊢
 cases h:cO c
 ·rw[h] at he;exact absurd (show(120:Int)=0 from he) (by decide)
 ·rw[cond_true]
  simp only[cO,Bool.and_eq_true,decide_eq_true_eq] at h ⊢
  exact⟨⟨h.1,h.2.1,h.2.2.1,by omega,h.2.2.2.2⟩,trivial,trivial⟩
theorem OR{c:cJ}{w:Int}(he:(An c w).2=0):cO (An c w).1=true∧(An c w).1.1=c.1∧(An c w).1.2.2.1.length=c.2.2.1.length:=by
 rw[An] at he ⊢
 cases h:cO c
 ·rw[h] at he;exact absurd (show(120:Int)=0 from he) (by decide)
 ·rw[h,cond_true] at he
  rw[cond_true]
  by_cases h1:-1≤w∧w≤3
  ·rw[decide_eq_true h1,cond_true]
   simp only[cO,Bool.and_eq_true,decide_eq_true_eq] at h ⊢
   exact⟨⟨h.1,h.2.1,h.2.2.1,h.2.2.2.1,h1,h.2.2.2.2.2⟩,trivial,trivial⟩
  ·rw[decide_eq_false h1] at he;exact absurd (show(2:Int)=0 from he) (by decide)
theorem T5{c:cJ}(h:cO c=true):cO (AJ c).1=true∧(AJ c).1.1=c.1∧(AJ c).1.2.2.1.length=c.2.2.1.length:=by
 rw[AJ,h,cond_true]
 have hl:(c.2.2.1.map C5).length=c.2.2.1.length:=List.length_map ..
 simp only[cO,Bool.and_eq_true,decide_eq_true_eq] at h ⊢
 refine⟨⟨by rw[hl];exact h.1,by rw[hl];exact h.2.1,h.2.2.1,?_,h.2.2.2.2.1,?_⟩,trivial,hl⟩
 ·have hp:=h.2.2.2.1
  rw[bf,gZ (by omega) (by omega),Iz]
  split<;>omega
 ·rw[List.all_eq_true]
  intro x hx
  obtain⟨y,hy,rfl⟩:=List.mem_map.1 hx
  have hm:=List.all_eq_true.1 h.2.2.2.2.2 y hy
  simp only[AZ,Bool.and_eq_true,decide_eq_true_eq] at hm
  have hm2:0≤(C5 y).2∧(C5 y).2≤255:=by
   show 0≤ah.mn (ah.b .add .i64 y.2 1) 255∧ah.mn (ah.b .add .i64 y.2 1) 255≤255
   rw[bd,gZ (by omega) (by omega),nR];split<;>omega
  rw[AZ,Bool.and_eq_true];exact⟨decide_eq_true hm.1,decide_eq_true hm2⟩
theorem Ku{c:cJ}{s:Int}{d:List Int}(he:(ml c s d).2=0):cO (ml c s d).1=true∧(ml c s d).1.1=c.1∧(ml c s d).1.2.2.1.length=c.2.2.1.length:=by
 rw[ml] at he ⊢
 cases h:cO c
 ·rw[h] at he;exact absurd (show(120:Int)=0 from he) (by decide)
 rw[h,cond_true] at he
 rw[cond_true]
 by_cases h1:0≤s∧s≤(c.2.2.1.length:Int)-1
 ·rw[decide_eq_true h1,cond_true] at he ⊢
  by_cases h2:8<(d.length:Int)
  ·rw[decide_eq_true h2] at he;exact absurd (show(3:Int)=0 from he) (by decide)
  rw[decide_eq_false h2,cond_false]
  have hl:(c.2.2.1.set s.toNat (d,0)).length=c.2.2.1.length:=List.length_set ..
  simp only[cO,Bool.and_eq_true,decide_eq_true_eq] at h ⊢
  refine⟨⟨by rw[hl];exact h.1,by rw[hl];exact h.2.1,h.2.2.1,h.2.2.2.1,h.2.2.2.2.1,?_⟩,trivial,hl⟩
  rw[List.all_eq_true]
  intro x hx
  rcases List.mem_or_eq_of_mem_set hx with hx|rfl
  ·exact List.all_eq_true.1 h.2.2.2.2.2 x hx
  ·simp only[AZ,Bool.and_eq_true,decide_eq_true_eq];exact⟨h2,by omega⟩
 ·rw[decide_eq_false h1] at he;exact absurd (show(2:Int)=0 from he) (by decide)
theorem yZ{m:ao}{n:Node}{r:cJ×Int}(h:bi m n=0)(hr:r.2=0→cO r.1=true∧r.1.1=n.2.2.2.2.2.2.2.1∧r.1.2.2.1.length=n.2.2.2.2.2.2.2.2.2.1.length)(he:(zJ n r).2=0):bi m (zJ n r).1=0:=by
 rw[zJ] at he ⊢
 by_cases k:r.2=0
 ·rw[decide_eq_true k,cond_true]
  obtain⟨a,b,c⟩:=hr k
  exact Nh h a b c
 ·rw[decide_eq_false k] at he;exact absurd he k
theorem TG{m:ao}{n:Node}{o:bg}(h:bi m n=0)(he:(sC m n o).2=0):bi m (sC m n o).1=0:=by
 rw[sC,decide_eq_true h,cond_true] at he ⊢
 by_cases h1:1≤o.2.2.2.1∧o.2.2.2.1≤3
 ·rw[decide_eq_true h1,cond_true] at he ⊢
  cases hi:jK n
  ·exact h
  rw[hi,cond_true] at he
  rw[cond_true]
  by_cases k:o.2.2.2.1=1
  ·rw[decide_eq_true k,cond_true] at he ⊢;exact yZ h Z7 he
  rw[decide_eq_false k,cond_false] at he ⊢
  by_cases k2:o.2.2.2.1=2
  ·rw[decide_eq_true k2,cond_true] at he ⊢;exact yZ h aaK he
  rw[decide_eq_false k2,cond_false] at he ⊢
  exact yZ h OR he
 ·rw[decide_eq_false h1] at he;exact absurd (show(2:Int)=0 from he) (by decide)
theorem OS{m:ao}{n:Node}{c:cv}(h:bi m n=0)(hi:jK n=true)(h1:dP m c=true)(h2:c.2.2.2.2=n.2.2.1.2.2.2.2):bi m (n.1,n.2.1,c,n.2.2.2)=0:=by
 have hz:=bW.1 (aY h).2
 have hc:=jR h hi
 refine yL (aY h).1 (bW.2 ⟨hz.1,hz.2.1,hz.2.2.1,hz.2.2.2.1,hz.2.2.2.2.1,hz.2.2.2.2.2.1,hz.2.2.2.2.2.2.1,?_,hz.2.2.2.2.2.2.2.2⟩)
 rw[oU,show jK (n.1,n.2.1,c,n.2.2.2)=true from hi,cond_true]
 show(dP m c&&(decide (mq n.2.2.2.1=0)&&(decide (n.2.2.2.1.1=n.1)&&(decide (n.2.2.2.1.2.1=m.1)&&decide (c.2.2.2.2=n.2.2.2.1.2.2.1)))))=true
 rw[h1,decide_eq_true hc.2.1,decide_eq_true hc.2.2.1,decide_eq_true hc.2.2.2.1,decide_eq_true (h2.trans hc.2.2.2.2)];rfl
theorem Qw{m:ao}{c:cv}(hm:dh m=true)(h:dP m c=true):dP m (kt c m.1).1=true∧(kt c m.1).1.2.2.2.2=c.2.2.2.2:=by
 have hf:=ta h
 have hc:=qk hf.1
 have hl:=(dd hm).2.1
 rw[kt,decide_eq_true hf.1,cond_true]
 have ht:0≤(c.1+1).tmod 256∧(c.1+1).tmod 256≤255:=by
  have:=hc.2.1
  rw[Int.tmod_eq_emod_of_nonneg (by omega)];omega
 by_cases g:c.2.1+1=m.1
 ·rw[decide_eq_true g,cond_true]
  by_cases g2:c.2.2.2.1=0
  ·rw[decide_eq_true g2,cond_true]
   exact⟨ni (p9 (c:=((c.1+1).tmod 256,0,c.2.2)) hc.1 ht (show(0:Int)≤0∧(0:Int)≤m.1-1 by omega) hc.2.2.2.1 hc.2.2.2.2.1 hc.2.2.2.2.2) hf.2.1.2 hf.2.2,rfl⟩
  ·rw[decide_eq_false g2,cond_false]
   exact⟨ni (p9 (c:=((c.1+1).tmod 256,0,c.2.2.2.1-1,0,c.2.2.2.2)) hc.1 ht (show(0:Int)≤0∧(0:Int)≤m.1-1 by omega) (show 0≤c.2.2.2.1-1∧c.2.2.2.1-1≤3 by omega) (show(0:Int)≤0∧(0:Int)≤4 by omega) hc.2.2.2.2.2) (show c.2.2.2.1-1<dw m by omega) (show(0:Int)≤dw m by omega),rfl⟩
 ·rw[decide_eq_false g,cond_false]
  exact⟨ni (p9 (c:=(c.1,c.2.1+1,c.2.2)) hc.1 hc.2.1 (show 0≤c.2.1+1∧c.2.1+1≤m.1-1 by omega) hc.2.2.2.1 hc.2.2.2.2.1 hc.2.2.2.2.2) hf.2.1.2 hf.2.2,rfl⟩
theorem EC{m:ao}{n:Node}(h:bi m n=0)(he:(Av m n).2=0):bi m (Av m n).1=0:=by
 rw[Av,decide_eq_true h,cond_true] at he ⊢
 cases hi:jK n
 ·rw[hi] at he;exact absurd (show(181:Int)=0 from he) (by decide)
 rw[cond_true]
 obtain⟨a,b⟩:=Qw (aY h).1 (jR h hi).1
 have h1:=OS (c:=(kt n.2.2.1 m.1).1) h hi a b
 cases decide ((kt n.2.2.1 m.1).1.2.1=0)
 ·exact h1
 ·obtain⟨c,d,e⟩:=T5 (rA h)
  exact Nh h1 c d e
theorem O5{k n:Int}(hk:4≤k∧k≤8)(h:0≤n∧n≤k-1):0≤ah.b .shl .i64 1 n∧ah.b .shl .i64 1 n≤2^k.toNat-1:=by
 have h1:k=4∨k=5∨k=6∨k=7∨k=8:=by omega
 have h2:n=0∨n=1∨n=2∨n=3∨n=4∨n=5∨n=6∨n=7:=by omega
 rcases h1 with rfl|rfl|rfl|rfl|rfl<;>rcases h2 with rfl|rfl|rfl|rfl|rfl|rfl|rfl|rfl<;>first|decide|omega
theorem Uj{m:ao}{n:Node}(h:bi m n=0)(he:(zp m n).2.2.2=0):bi m (zp m n).1=0:=by
 have hz:=bW.1 (aY h).2
 have hm:=(aY h).1
 have hk:=dd hm
 rw[zp,decide_eq_true h,cond_true] at he ⊢
 by_cases h1:n.2.1=1
 ·obtain⟨ho,hv⟩:=JZ h (by omega)
  have ht:1≤n.2.2.2.2.1∧n.2.2.2.2.1≤(mK m n.1).1:=by
   have hc:=hz.2.2.2.2.2.2.2.2.1
   rw[qc,decide_eq_true h1,cond_true,decide_eq_true_eq] at hc
   exact hc
  rw[decide_eq_true h1,cond_true]
  by_cases h2:0<n.2.2.2.2.1-1
  ·rw[decide_eq_true h2,cond_true]
   exact nk hm hz.1 (.inr (.inl h1)) hz.2.2.1 hz.2.2.2.1 hz.2.2.2.2.1 hz.2.2.2.2.2.1 ho hv (fun _=>show 1≤n.2.2.2.2.1-1∧n.2.2.2.2.1-1≤(mK m n.1).1 by omega) (fun k=>absurd h1 k) (fun _=>h1)
  ·rw[decide_eq_false h2,cond_false]
   cases hc:(ah.n .bool m.2.2.2.2.2.2.1 n.1:Bool)
   ·rw[cond_false]
    exact nk hm hz.1 (.inr (.inl h1)) hz.2.2.1 hz.2.2.2.1 hz.2.2.2.2.1 hz.2.2.2.2.2.1 ho hv (fun _=>⟨xN hm hz.1,Int.le_refl _⟩) (fun k=>absurd h1 k) (fun _=>h1)
   ·rw[cond_true]
    have hs:=O5 hk.1 hz.1
    exact yC hm hz.1 (show(2:Int)≤2∧(2:Int)≤4 by omega) hz.2.2.1 hz.2.2.2.1 hz.2.2.2.2.1 hz.2.2.2.2.2.1 (fun _=>hc) (ni (p9 (c:=(0,n.1,0,0,ah.b .shl .i64 1 n.1)) hk.1 (show(0:Int)≤0∧(0:Int)≤255 by omega) hz.1 (show(0:Int)≤0∧(0:Int)≤3 by omega) (show(0:Int)≤0∧(0:Int)≤4 by omega) hs) (show(0:Int)<dw m by omega) (show(0:Int)≤dw m by omega)) (Hl hk.1 hz.1 hs) rfl rfl rfl rfl (fun _=>rfl)
 ·rw[decide_eq_false h1] at he;exact absurd (show(181:Int)=0 from he) (by decide)
theorem BR{m:ao}{n:Node}{c:cv}{f:mR}(h:bi m n=0)(hf:dP m c=true)(hd:f.1=4→(ml n.2.2.2.2.2.2.2 c.2.1 f.2.2.2.2).2=0):bi m (rP m n c f)=0:=by
 have hz:=bW.1 (aY h).2
 have hm:=(aY h).1
 obtain⟨t1,t2,t3⟩:=En (r:=f.2.1) hm hf
 have hs:=(qk (ta hf).1).2.2.2.2.2
 have hH:cO (bif decide (f.1=4) then(ml n.2.2.2.2.2.2.2 c.2.1 f.2.2.2.2).1 else n.2.2.2.2.2.2.2)=true∧(bif decide (f.1=4) then(ml n.2.2.2.2.2.2.2 c.2.1 f.2.2.2.2).1 else n.2.2.2.2.2.2.2).1=n.2.2.2.2.2.2.2.1∧(bif decide (f.1=4) then(ml n.2.2.2.2.2.2.2 c.2.1 f.2.2.2.2).1 else n.2.2.2.2.2.2.2).2.2.1.length=n.2.2.2.2.2.2.2.2.2.1.length:=by
  by_cases k:f.1=4
  ·rw[decide_eq_true k];exact Ku (hd k)
  ·rw[decide_eq_false k];exact⟨rA h,rfl,rfl⟩
 exact yC hm hz.1 (show(2:Int)≤3∧(3:Int)≤4 by omega) (show(0:Int)≤0∧(0:Int)≤2 by omega) hH.1 (hH.2.1.trans hz.2.2.2.2.1) ((congrArg Int.ofNat hH.2.2).trans hz.2.2.2.2.2.1) (fun k=>absurd k (show ¬(3:Int)=2 by omega)) t1 (Hl (dd hm).1 hz.1 hs) rfl rfl t3 rfl (fun k=>by cases k)
theorem Jw{m:ao}{n:Node}{s:List Seen}{o:Bool}(h:bi m n=0)(he:(vY m n s o).2.2.2=0):bi m (vY m n s o).1=0:=by
 have hz:=bW.1 (aY h).2
 have hm:=(aY h).1
 have hk:=dd hm
 rw[vY,decide_eq_true h,cond_true] at he ⊢
 by_cases h1:n.2.1=1
 ·rw[decide_eq_true h1,cond_true] at he ⊢
  by_cases h2:(s.length:Int)=2
  ·rw[decide_eq_true h2,cond_true]
   cases hx:(fI m.1 s).2.2
   ·exact h
   obtain⟨e1,e2,e3⟩:=RV hx
   have hl:=O6 e3
   rw[cond_true]
   by_cases h3:(fI m.1 s).1.1=1
   ·rw[decide_eq_true h3,cond_true]
    by_cases h4:(fI m.1 s).1.2.2.2.1=n.1
    ·rw[decide_eq_true h4];exact h
    ·rw[decide_eq_false h4,cond_false]
     cases o && !n.2.2.2.2.2.1
     ·rw[cond_false]
      exact BR h (ni (p9 (c:=(0,(fI m.1 s).1.2.2.2.1,0,0,ah.b .shl .i64 1 (fI m.1 s).1.2.2.2.1)) hk.1 (show(0:Int)≤0∧(0:Int)≤255 by omega) (show 0≤(fI m.1 s).1.2.2.2.1∧(fI m.1 s).1.2.2.2.1≤m.1-1 by omega) (show(0:Int)≤0∧(0:Int)≤3 by omega) (show(0:Int)≤0∧(0:Int)≤4 by omega) (O5 hk.1 (by omega))) (show(0:Int)<dw m by omega) (show(0:Int)≤dw m by omega)) (fun k=>by omega)
     ·rw[cond_true]
      obtain⟨ho,hv⟩:=JZ h (by omega)
      exact nk hm hz.1 (.inr (.inl h1)) hz.2.2.1 hz.2.2.2.1 hz.2.2.2.2.1 hz.2.2.2.2.2.1 ho hv (fun _=>⟨xN hm hz.1,Int.le_refl _⟩) (fun k=>absurd h1 k) (fun _=>h1)
   ·rw[decide_eq_false h3,cond_false]
    cases hj:Mc m n (fI m.1 s).1
    ·exact h
    ·rw[cond_true]
     have hd:=O_ h e3 hj
     have hf:dP m (fI m.1 s).1.2.2.1=true:=by rw[Mc,Bool.and_eq_true] at hj;exact hj.1
     exact BR h hf fun _=>hd
  ·rw[decide_eq_false h2] at he;exact absurd (show(2:Int)=0 from he) (by decide)
 ·rw[decide_eq_false h1] at he;exact absurd (show(181:Int)=0 from he) (by decide)
theorem Pp{m:ao}{c:cv}{s:Int}(h:dP m c=true)(hs:0≤s∧s≤2^m.1.toNat-1):dP m (c.1,c.2.1,c.2.2.1,c.2.2.2.1,s)=true:=by
 have hf:=ta h
 have hc:=qk hf.1
 exact ni (p9 (c:=(c.1,c.2.1,c.2.2.1,c.2.2.2.1,s)) hc.1 hc.2.1 hc.2.2.1 hc.2.2.2.1 hc.2.2.2.2.1 hs) hf.2.1.2 hf.2.2
theorem RJ{v:lN}(h:mq v=0):0≤v.2.2.1∧v.2.2.1≤2^v.2.1.toNat-1:=by
 obtain⟨a,b,c,d,e,f,g⟩:=v
 have hm:=ik.1 h
 unfold iQ at hm
 have:((2^b.toNat:Nat):Int)=2^b.toNat:=by norm_cast
 exact⟨hm.2.2.2.2.2.2.1,show c≤2^b.toNat-1 by omega⟩
theorem Fu{m:ao}{n:Node}{v:lN}(h:bi m n=0)(hi:jK n=true)(hv:mq v=0)(h1:v.1=n.1)(h2:v.2.1=m.1):bi m (Gy n v)=0:=by
 have hz:=bW.1 (aY h).2
 have hc:=jR h hi
 have hs:=RJ hv
 rw[h2] at hs
 refine yL (aY h).1 (bW.2 ⟨hz.1,hz.2.1,hz.2.2.1,hz.2.2.2.1,hz.2.2.2.2.1,hz.2.2.2.2.2.1,hz.2.2.2.2.2.2.1,?_,hz.2.2.2.2.2.2.2.2⟩)
 rw[oU,show jK (Gy n v)=true from hi,cond_true]
 show(dP m (n.2.2.1.1,n.2.2.1.2.1,n.2.2.1.2.2.1,n.2.2.1.2.2.2.1,v.2.2.1)&&(decide (mq v=0)&&(decide (v.1=n.1)&&(decide (v.2.1=m.1)&&decide (v.2.2.1=v.2.2.1)))))=true
 rw[Pp hc.1 hs,decide_eq_true hv,decide_eq_true h1,decide_eq_true h2,decide_eq_true rfl];rfl
theorem Ox{n:Node}(hi:jK n=true):2≤n.2.1∧n.2.1≤4:=of_decide_eq_true hi
theorem TY{m:ao}{x:Node}(h:bi m x=0)(hi:jK x=true):bi m (on4 x)=0:=by
 have hz:=bW.1 (aY h).2
 have hc:=jR h hi
 have hs:=Ox hi
 have ht:=Jj h (show ¬x.2.1=1 by omega)
 exact yC (aY h).1 hz.1 (show(2:Int)≤4∧(4:Int)≤4 by omega) hz.2.2.1 hz.2.2.2.1 hz.2.2.2.2.1 hz.2.2.2.2.2.1 (fun k=>absurd k (show ¬(4:Int)=2 by omega)) hc.1 hc.2.1 hc.2.2.1 hc.2.2.2.1 hc.2.2.2.2 ht (fun k=>by cases k)
theorem Tv{n:Node}(h:mq n.2.2.2.1=0):mq (mT n).1=0∧(mT n).1.1=n.2.2.2.1.1∧(mT n).1.2.1=n.2.2.2.1.2.1:=by
 rw[mT]
 cases decide (n.2.1=2)&&(decide (n.2.2.2.1.2.2.2.1<2)||decide (n.2.2.2.1.2.2.2.1≤n.2.2.2.1.2.2.2.2.1))
 ·rw[cond_false]
  generalize n.2.2.2.1=V at h ⊢
  obtain⟨a,b,c,d,e,f,g⟩:=V
  cases decide (n.2.1=3)
  ·obtain⟨c',d',e',f',g',w,e1,e2,_⟩:=Jx (ik.1 h)
   rw[cond_false,e1];exact⟨ik.2 e2,rfl,rfl⟩
  ·obtain⟨c',d',e',f',g',w,e1,e2,_⟩:=No (ik.1 h)
   rw[cond_true,e1];exact⟨ik.2 e2,rfl,rfl⟩
 ·exact⟨h,rfl,rfl⟩
theorem UK{m:ao}{x:Node}(h:bi m x=0)(hi:jK x=true):bi m (Sx m x).1=0:=by
 obtain⟨t1,t2,t3⟩:=En (r:=(A9 m x).2.1) (aY h).1 (jR h hi).1
 exact OS h hi t1 t3
theorem Ud{m:ao}{n:Node}(h:bi m n=0)(hi:jK n=true):bi m (Yd n (mT n).1)=0:=by
 have hc:=jR h hi
 obtain⟨v1,v2,v3⟩:=Tv hc.2.1
 exact TY (Fu h hi v1 (v2.trans hc.2.2.1) (v3.trans hc.2.2.2.1)) hi
theorem YH{m:ao}{n:Node}(h:bi m n=0)(he:(QC m n).2.2.2=0):bi m (QC m n).1=0:=by
 have hz:=bW.1 (aY h).2
 have hm:=(aY h).1
 rw[QC,decide_eq_true h,cond_true] at he ⊢
 cases hi:jK n&&decide (n.2.2.1.2.1=n.1)
 ·rw[hi] at he;exact absurd (show(181:Int)=0 from he) (by decide)
 rw[Bool.and_eq_true] at hi
 rw[cond_true,Bd]
 cases decide ((mT n).2=2)
 ·rw[cond_false]
  cases decide ((mT n).2=3)
  ·rw[cond_false]
   cases decide ((mT n).2=4)
   ·rw[cond_false]
    exact UK (Ud h hi.1) rfl
   ·rw[cond_true]
    have hr:=Wu hm hz.1
    exact nk hm hz.1 (.inr (.inl rfl)) hz.2.2.1 hz.2.2.2.1 hz.2.2.2.2.1 hz.2.2.2.2.2.1 rfl rfl (fun _=>hr) (fun k=>absurd rfl k) (fun _=>rfl)
  ·rw[cond_true]
   exact nk hm hz.1 (.inr (.inl rfl)) (show(0:Int)≤2∧(2:Int)≤2 by omega) hz.2.2.2.1 hz.2.2.2.2.1 hz.2.2.2.2.2.1 rfl rfl (fun _=>⟨xN hm hz.1,Int.le_refl _⟩) (fun k=>absurd rfl k) (fun _=>rfl)
 ·rw[cond_true]
  exact nk hm hz.1 (.inr (.inr rfl)) (show(0:Int)≤1∧(1:Int)≤2 by omega) hz.2.2.2.1 hz.2.2.2.2.1 hz.2.2.2.2.2.1 rfl rfl (fun k=>absurd k (show ¬(5:Int)=1 by omega)) (fun _=>rfl) (fun k=>by cases k)
theorem QR{c:cv}{v:lN}{s:Int}{seen:List Seen}{o:lu}(h:(kx (c,v,s,seen)).2=0)(ho:o=(kx (c,v,s,seen)).1∨o=DJ):mq (mV (v,s,o)).1=0∧(mV (v,s,o)).1.1=v.1∧(mV (v,s,o)).1.2.1=v.2.1:=by
 obtain⟨t,p,m,n,x⟩:=c
 obtain⟨a,b,c,d,e,f,g⟩:=v
 rcases ho with rfl|rfl
 ·obtain⟨c',d',e',f',g',e1,e2,_⟩:=BQ h
  rw[e1];exact⟨ik.2 e2,rfl,rfl⟩
 ·obtain⟨h1,h2,h3,h4,_⟩:=sR h
  have hok:=dK.1 h1
  have h3:s<b:=h3
  have h4:s≠a:=h4
  obtain⟨c',f',g',e1,e2,_⟩:=uk hok h2 h3 h4
  have hm:=hok
  unfold iQ at hm
  rw[Di rfl,Ix e1 (show 0≤e by omega) (show e≤1048576 by omega)]
  exact⟨ik.2 (abE e2 (inc_le (d:=e) (show 0≤e by omega) (show e≤1048576 by omega))),rfl,rfl⟩
theorem TB{m:ao}{x:Node}(h:bi m x=0):bi m (zD x)=0:=by
 rw[zD]
 by_cases k:x.2.1=4
 ·cases Ht x.2.2.2.1
  ·rw[decide_eq_true k,Bool.not_false,Bool.and_self,cond_true]
   have hz:=bW.1 (aY h).2
   have hi:jK x=true:=decide_eq_true (by omega)
   have hc:=jR h hi
   have ht:=Jj h (show ¬x.2.1=1 by omega)
   exact yC (aY h).1 hz.1 (show(2:Int)≤3∧(3:Int)≤4 by omega) hz.2.2.1 hz.2.2.2.1 hz.2.2.2.2.1 hz.2.2.2.2.2.1 (fun k=>absurd k (show ¬(3:Int)=2 by omega)) hc.1 hc.2.1 hc.2.2.1 hc.2.2.2.1 hc.2.2.2.2 ht (fun j=>by have:=I_ h j;omega)
  ·rw[Bool.not_true,Bool.and_false];exact h
 ·rw[decide_eq_false k];exact h
theorem Nn{m:ao}{x:Node}{f:mR}(h:bi m x=0)(hi:jK x=true)(hd:(ml x.2.2.2.2.2.2.2 x.2.2.1.2.1 f.2.2.2.2).2=0):bi m (Gt m x f)=0:=by
 obtain⟨t1,t2,t3⟩:=En (r:=f.2.1) (aY h).1 (jR h hi).1
 have h1:=OS h hi t1 t3
 rw[Gt]
 by_cases k:f.1=3
 ·rw[decide_eq_true k];exact h1
 ·rw[decide_eq_false k]
  obtain⟨a,b,c⟩:=Ku hd
  exact Nh h1 a b c
theorem SA{m:ao}{n:Node}{s:List Seen}(h:bi m n=0)(he:(yt m n s).2.2=0):bi m (yt m n s).1=0:=by
 rw[yt,decide_eq_true h,cond_true] at he ⊢
 cases hi:jK n&&decide (¬n.2.2.1.2.1=n.1)
 ·rw[hi] at he;exact absurd (show(181:Int)=0 from he) (by decide)
 rw[hi,cond_true] at he
 rw[Bool.and_eq_true] at hi
 rw[cond_true]
 have hv:=fun(o:lu) (g:(DK n s).2=0)=>QR (c:=n.2.2.1) (v:=n.2.2.2.1) (s:=n.2.2.1.2.1) (seen:=s) (o:=o) g
 have hs:kx (n.2.2.1,n.2.2.2.1,n.2.2.1.2.1,s)=DK n s:=rfl
 rw[hs] at hv
 generalize DK n s=S at hv he ⊢
 by_cases g:S.2=0
 ·rw[decide_eq_true g,cond_true]
  have hc:=jR h hi.1
  have vw:∀o:lu,o=S.1∨o=DJ→bi m (Gy n (Mg n o))=0:=fun o ho=>by
   obtain⟨a,b,c⟩:=hv o g ho
   exact Fu h hi.1 a (b.trans hc.2.2.1) (c.trans hc.2.2.2.1)
  refine TB ?_
  by_cases k:S.1.1=3
  ·cases hl:tN m n.2.2.1 S.1.2.2.2.1
   ·rw[KD k hl];exact vw _ (.inr rfl)
   ·rw[Gz hl,decide_eq_true k]
    have hd:=Ks h hl
    exact Nn (vw _ (.inl rfl)) hi.1 hd
  ·rw[Oi k,decide_eq_false k];exact vw _ (.inl rfl)
 ·rw[decide_eq_false g] at he;exact absurd he g
abbrev bR:Ty:=kB
abbrev cd:Type:=lN
abbrev f_:Ty:=(.struct [yI,(.slice .bool),BW,BW,BW,BW,(.slice bC),(.slice bR)])
abbrev gJ:Type:=Int×List Bool×List Int×List Int×List Int×List Int×List bg×List cd
abbrev eE:Ty:=(.struct [yI,aF])
abbrev iT:Type:=Int×Node
abbrev pL:Ty:=(.struct [.bool,aP,f_,(.slice aF),(.slice .bool),yI,(.slice eE)])
abbrev a_:Type:=Bool×ao×gJ×List Node×List Bool×Int×List iT
abbrev Ut:Ty:=(.struct [(.slice aF),(.slice .bool),(.slice .bool),(.slice .bool),(.arr 2 aJ)])
abbrev df:Type:=List Node×List Bool×List Bool×List Bool×List Seen
open Go.Lib Go.RowKit Go.Shelf in
set_option maxHeartbeats 2000000 in
theorem Sc{P:Program}{ρ:Shelf.Ren}(L:SlLaysE0.n41 P ρ){i0:TypeInfo}{z:Value}{size bytes:Nat}(hi:P.info? (ρ.t 23)=some i0)(hz0:i0.zero=some z)(hz1:i0.size=size)(hz2:i0.bytes=bytes)(hzs:z.cells.size=size)(hsz:0<size)
  (z23:∀w,(Go.sizeOf (ρ.t 23)).run P w=.ok size w) (a:Addr) (n c:Nat) (news:List Value) (w:World) (hl:news.length=n*size) (hn:n≤maxLen) (hbig:n*bytes≤140737488355328)
  (hc:∀j u,news[j]? = some u→w.cell? (a.add j)=some u) (h1:∀u∈news,u.oneCell'=true) :
  Calls P (ρ.f 41) #[.slice (some a) n c] w fun e w'=>∃v',e=.returned v'∧w'.ownsRow w.heap.size (ρ.t 23) size v' n news∧v'≠.slice none 0 0∧Below w.heap.size w w':=by
 have mixed:=L.mixed;have t4:=L.t4;have a4:=L.a4;have z4:=L.z4;have v4:=L.v4;have t22:=L.t22;have a22:=L.a22;have z22:=L.z22;have v22:=L.v22
 have q22:∀(w:World) (a:Option Addr) (n c n' c':Nat),(binOp .eql (ρ.t 22) (.slice a n c) (.slice none n' c')).run P w=.ok (.bool a.isNone) w:=fun w a n c n' c'=>Lib.run_eql_slice_nil w _ _ a n c n' c' L.t22
 have u22:∀w,Sem.run P (underlying (ρ.t 22)) w=.ok (TypeDesc.slice (ρ.t 23)) w:=run_underlying t22
 have A:Aside (∀j u,news[j]? = some u→w.cell? (a.add j)=some u):=hc
 clear hc
 obtain⟨_,_,FG⟩:=L.f41
 go_enter FG,SlBodyN.n41_ntmps ρ
 go_wp2_with (at_builtin;refine wpList_append_own _ rfl _ _ (ρ.t 22) rfl w.heap.size (ρ.t 23) i0 z size bytes t22 hi hz0 hz1 hz2 hzs hsz _ _ _ rfl (World.ownsRow_made w #[] 0 (Nat.le_refl _) (Nat.zero_le _) (by simp)) a n c news rfl ?qc1 ?qc2 ?qc3 ?qc4 ?qc5 ?qc6 ?_)
 case qc1=>exact hl
 case qc2=>exact fun j u hj=>Lib.cell?_alloc_some _ (A.out j u hj)
 case qc3=>exact h1
 case qc4=>rw[Nat.zero_add];exact hn
 case qc5=>rw[Nat.zero_add];exact hbig
 case qc6=>simp
 intro v' w1 hown hgrow hnil
 go_wp2
 go_ret
 refine⟨v',rfl,by simpa using hown,hnil,((Below.refl _ w).alloc (Nat.le_refl _) _).grown hgrow (by simp) (by intro k hk;simp[Value.ownBlock] at hk;omega)⟩
open Go.Lib Go.RowKit Go.Shelf in
theorem yG{P:Program}{ρ:Shelf.Ren}(L:SlLaysE0.n41 P ρ)(t:Ty){i0:TypeInfo}{z:Value}{bytes:Nat}(hi:P.info? (ρ.t 23)=some i0)(hz0:i0.zero=some z)(hz1:i0.size=t.size)(hz2:i0.bytes=bytes)(hzs:z.cells.size=t.size)(hsz:0<t.size)(hso:t.lL=true)
  (z23:∀w,(Go.sizeOf (ρ.t 23)).run P w=.ok t.size w) {F:Func} (hF:P.funcs[ρ.f 41]? = some F) (hb:F.body.isSome=true) (hn:(F.name == "runtime.NumGoroutine")=false) :
  aC.Sound P (ρ.f 41) ⟨[.slice t], [.slice t],fun x=>decide (((show List t.T from x).length:Int)*bytes≤140737488355328),fun x=>x⟩:=by
 refine⟨fun w I x aa hI hrep hp=>?_,⟨F,hF,hb,hn⟩⟩
 obtain⟨l⟩:=aa
 obtain⟨v,rfl,hv⟩:∃v,l=[v]∧gy w I (.slice t) v x:=hrep
 have hv:aR w I (.slice t) [v] x:=hv
 have hbig:(show List t.T from x).length*bytes≤140737488355328:=by have:=of_decide_eq_true hp;omega
 obtain⟨a,cap,us,rfl,h2,h3,h4,h5,h6,h7⟩:=xR.ED hv
 cases a with
 | none=>
   have hx0:x=([]:List t.T):=List.eq_nil_of_length_eq_zero (by have:=h5 rfl;omega)
   subst hx0
   refine(AnyE.slices_Clone_nil L 0 cap w).mono ?_
   rintro e w' ⟨rfl,rfl⟩
   exact⟨_,rfl,rfl,rfl,rfl,Nat.le_refl _,fun _ _=>rfl,I,fun b h=>.inl h,bF.2 ⟨none,0,rfl,Nat.le_refl _,Nat.zero_le _,(fun _=>rfl),fun i y h=>by cases h⟩⟩
 | some a=>
   refine(Sc L hi hz0 hz1 hz2 hzs hsz z23 a (show List t.T from x).length cap us w h3 (Nat.le_trans h2 (by decide)) hbig (fun j u hj=>?_) fun u hu=>?_).mono ?_
   ·obtain⟨hj1,_⟩:=List.getElem?_eq_some_iff.1 hj
    obtain⟨b,off,e,hr⟩:=h4 (fun k=>by rw[h3,k,Nat.zero_mul] at hj1;omega)
    cases e
    rw[Addr.add_lit]
    exact hr j u hj
   ·obtain⟨i,hi1,hi2⟩:=rq h3 hu
    exact aR.oneCell t hso (h7 i _ (List.getElem?_eq_getElem hi1)) u hi2
   ·rintro e w' ⟨v',rfl,⟨hn,hrow⟩,hnil,hb⟩
    rcases hrow with ⟨hz,_⟩|⟨g,cap',cur,rfl,hbase,hg,hcap,hml,hsz',htk⟩
    ·exact absurd hz hnil
    refine⟨_,rfl,hb.os,hb.tape,hb.output,hb.size,hb.block,fun b=>b<w.heap.size∧I b∨w.heap.size≤b∧b<w'.heap.size,fun b h=>h.elim (fun h=>.inl h.2) .inr,bF.2 ⟨_,cap',rfl,hcap,h2,(fun h=>by cases h),fun i y hy=>?_⟩⟩
    have hi:i<(show List t.T from x).length:=(List.getElem?_eq_some_iff.1 hy).1
    have hI':∀b,I b→(b<w.heap.size∧I b∨w.heap.size≤b∧b<w'.heap.size)∧w'.heap[b]? = w.heap[b]? :=fun b hb'=>⟨.inl ⟨hI b hb',hb'⟩,hb.block b (hI b hb')⟩
    refine⟨g,0,(us.drop (i*t.size)).take t.size,rfl,.inr ⟨hbase,(Array.getElem?_eq_some_iff.1 hg).1⟩,?_,?_,(h7 i y hy).mono hI' t⟩
    ·have:(i+1)*t.size≤(show List t.T from x).length*t.size:=Nat.mul_le_mul_right _ hi
     rw[Nat.add_mul,Nat.one_mul] at this
     rw[List.length_take,List.length_drop,h3];omega
    ·have hrw:=dT (w:=w') hg (0+i*t.size) t.size
     have h8:(cur.toList.drop (0+i*t.size)).take t.size=(us.drop (i*t.size)).take t.size:=by
      have:(i+1)*t.size≤(show List t.T from x).length*t.size:=Nat.mul_le_mul_right _ hi
      rw[Nat.add_mul,Nat.one_mul] at this
      rw[←htk,Nat.zero_add,List.drop_take,List.take_take]
      congr 1;omega
     rw[h8] at hrw
     exact hrw
def WS:Shelf.Ren:=⟨fun x=>match x with|41=>247|n=>n,fun x=>match x with|22=>54|4=>4|23=>196|n=>n,fun x=>x⟩
theorem Tq:SlLaysE0.n41 Tryz.prog WS:=
 {mixed:=by kernel_rfl,f41:=⟨Tryz.f247.name,by kernel_rfl,Tryz.func247.trans (congrArg some (by kernel_rfl))⟩,t4:=Tryz.underlying4,a4:=Tryz.isAgg4,z4:=Tryz.sizeOf4,v4:=Tryz.zeroValue4,t22:=Tryz.underlying54,a22:=Tryz.isAgg54,z22:=Tryz.sizeOf54,v22:=Tryz.zeroValue54}
def I4:List bg→List bg:=fun x=>x
def GM:List bg→Bool:=fun x=>decide ((x.length:Int)*(64:Nat)≤140737488355328)
def ags:aC:=⟨[.slice bC], [.slice bC],GM,I4⟩
theorem afs:Sd 247 ags:=by
 obtain⟨i0,hi,h0,h1,h2⟩:=info_parts (show(Tryz.prog.info? 196).map (fun i=>(i.zero,i.size,i.bytes))=some (some (.agg #[.int .i64 0,.int .i64 0,.int .i64 0,.int .i64 0,.int .i64 0,.slice none 0 0]),6,64) by kernel_rfl)
 exact yG Tq bC hi h0 h1 h2 (by kernel_rfl) (by decide) (by kernel_rfl) Tryz.sizeOf196 Tryz.func247 (by kernel_rfl) (by kernel_rfl)
def XB:Shelf.Ren:=⟨fun x=>match x with|41=>291|n=>n,fun x=>match x with|22=>55|4=>4|23=>66|n=>n,fun x=>x⟩
theorem Uo:SlLaysE0.n41 Tryz.prog XB:=
 {mixed:=by kernel_rfl,f41:=⟨Tryz.f291.name,by kernel_rfl,Tryz.func291.trans (congrArg some (by kernel_rfl))⟩,t4:=Tryz.underlying4,a4:=Tryz.isAgg4,z4:=Tryz.sizeOf4,v4:=Tryz.zeroValue4,t22:=Tryz.underlying55,a22:=Tryz.isAgg55,z22:=Tryz.sizeOf55,v22:=Tryz.zeroValue55}
def ym:List cd→List cd:=fun x=>x
def Dz:List cd→Bool:=fun x=>decide ((x.length:Int)*(56:Nat)≤140737488355328)
def aba:aC:=⟨[.slice bR], [.slice bR],Dz,ym⟩
theorem V1:Sd 291 aba:=by
 obtain⟨i0,hi,h0,h1,h2⟩:=info_parts (show(Tryz.prog.info? 66).map (fun i=>(i.zero,i.size,i.bytes))=some (some (.agg #[.int .i64 0,.int .i64 0,.int .i64 0,.int .i64 0,.int .i64 0,.int .i64 0,.int .i64 0]),7,56) by kernel_rfl)
 exact yG Uo bR hi h0 h1 h2 (by kernel_rfl) (by decide) (by kernel_rfl) Tryz.sizeOf66 Tryz.func291 (by kernel_rfl) (by kernel_rfl)
def Tc(A:aK)(kind:Int):LT Bool Empty:=.br (A.c .eql kind 1) (.br (A.c .eql kind 1) (.ret true) (.ret false)) (.br (A.c .eql kind 2) (.br (A.c .eql kind 2) (.ret true) (.ret false)) (.br (A.c .eql kind 6) (.br (A.c .eql kind 6) (.ret true) (.ret false)) (.br (A.c .eql kind 5) (.br (A.c .eql kind 5) (.ret true) (.ret false)) (.br (A.c .eql kind 9) (.br (A.c .eql kind 9) (.ret true) (.ret false)) (.br (A.c .eql kind 10) (.ret true) (.ret false))))))
def nW:Int→Bool:=fun kind=>(Tc ah kind).val (Ty.bl [.bool])
def abp:aC:=⟨[yI], [.bool],(@tt Int),nW⟩
theorem V4:Sd 293 abp:=aL ar bU true 58 [] (fun A kind=>Tc A kind) (fc Tryz.func293 fz) sz (fun(kind:Int) hp h=>by
 show(Tc ah kind).pre=true
 simp[Tc,LT.pre,au,cm])
structure MV where
 (a0:List cd) (a1:Int) (a3:Unit×List cd×Unit) (a4 a5:Int) (a6:cv) (a7 a8 a9 cX:Unit×List cd×Unit) (dN:List cd) (a12 kp gK jh:Int) (a17:cv) (je:List cd) (l_ a20:Int)
inductive UE where
 | c0 (p:MV) (a2:Int)
noncomputable def XU:UE→eF
 | .c0 p a2=>⟨[⟨292,36,(en [(0,.yield 0),(2,.ptr 1 0),(3,.ptr 2 0),(7,.sl bR p.a0),(8,vi p.a1),(9,vi a2)]),[.inLoop (cw Tryz.f292 [1,0,0]),.inBlock 0],[],none⟩,⟨187,31,(en [(8,.ptr 3 0)]),[.ko 0,.inBlock 0,.code (cw Tryz.f187 [1,1])],[4],none⟩],[.loop ⟨187,31,(en [(0,.jl (.struct [(.any 16),(.slice bR),(.any 4)]) p.a3 0),(1,vi p.a4),(2,vi p.a5),(3,.agg (dc kj p.a6)),(5,.ptr 7 0),(6,.ptr 8 0),(7,.ptr 5 0),(8,.ptr 3 0),(10,.jl (.struct [(.any 16),(.slice bR),(.any 4)]) p.a7 0),(11,.jl (.struct [(.any 16),(.slice bR),(.any 4)]) p.a8 0),(12,.jl (.struct [(.any 16),(.slice bR),(.any 4)]) p.a9 9),(13,.jl (.struct [(.any 16),(.slice bR),(.any 4)]) p.cX 16),(14,.sl bR p.dN),(15,.ptr 5 0),(16,vi p.a12),(17,.ptr 5 1),(18,vi p.kp),(19,.fn 292 [] [.ptr 6 0,.ptr 1 0,.ptr 2 0])]),[20],(cw Tryz.f187 [1,0,1,0,0]),(cw Tryz.f187 [1,0,1,0,1]),0,none⟩,.flat false [vi p.gK],.flat false [vi p.jh],.flat false [vb false],.Ap,.flat false (dc kj p.a17),.flat false [.sl bR p.je],.flat false [vi p.l_],.flat false [vi p.a20],.dead]⟩
def XF(A:aK)(x1:List cd)(kind:Int)(node:Int)(c:cv):LT Bool UE:=.need (A.k Dz x1) (.more (.c0 ⟨(A.k ym x1),(A.l (A.k ym x1)),((),x1,()),kind,node,c,((),x1,()),((),x1,()),((),x1,()),((),x1,()),x1,c.1,c.2.1,c.1,c.2.1,c,(A.k ym x1),kind,node⟩ 0))
def EQ(A:aK):UE→LT Bool UE
 | .c0 p a2=>.br (A.c .lss a2 p.a1) (.need (A.and (A.c .leq 0 a2) (A.c .lss a2 (A.l p.a0))) (.br (A.c .eql (A.n bR p.a0 a2:cd).2.2.2.1 p.gK) (.br (A.c .eql (A.n bR p.a0 a2:cd).2.2.2.2.1 p.jh) (.br (A.c .eql (A.n bR p.a0 a2:cd).1 p.l_) (.br (A.c .eql (A.n bR p.a0 a2:cd).2.1 p.a20) (.ret true) (.more (.c0 p (A.b .add .i64 a2 1)))) (.more (.c0 p (A.b .add .i64 a2 1)))) (.need (A.k (@tt Int) (A.n bR p.a0 a2:cd).1) (.br (A.not (A.k nW (A.n bR p.a0 a2:cd).1)) (.br (A.c .eql (A.n bR p.a0 a2:cd).1 p.l_) (.br (A.c .eql (A.n bR p.a0 a2:cd).2.1 p.a20) (.ret true) (.more (.c0 p (A.b .add .i64 a2 1)))) (.more (.c0 p (A.b .add .i64 a2 1)))) (.more (.c0 p (A.b .add .i64 a2 1)))))) (.more (.c0 p (A.b .add .i64 a2 1))))) (.ret false)
def vn(k n:Int)(c:cv)(f:cd):Bool:=decide (f.2.2.2.1=c.1)&&((decide (f.2.2.2.2.1=c.2.1) || !nW f.1)&&(decide (f.1=k)&&decide (f.2.1=n)))
def lb(l:List cd)(k n:Int)(c:cv):Bool:=l.any (vn k n c)
def vd(ch:Int)(c:cv)(f:cd):Bool:=decide (f.2.2.2.1=c.1)&&((decide (f.2.2.2.2.1=c.2.1) || !nW f.1)&&(decide (f.1=5)&&decide (f.2.2.1=ch)))
def VM(l:List cd)(ch:Int)(c:cv):Bool:=l.any (vd ch c)
theorem tF{R Y:Type}{step:Y→LT R Y}{y:Y}{r r':R}(h:aB step (.more y) r)(e:r=r'):aB step (.more y) r':=e▸h
theorem Ma{p:MV}{l:List cd}{k n:Int}{c:cv}(h0:p.a0=l)(h1:p.a1=(l.length:Int))(h2:p.gK=c.1)(h3:p.jh=c.2.1)(h4:p.l_=k)(h5:p.a20=n)(hl:l.length≤140737488355328) :
  ∀(j i:Nat),l.length-i=j→i≤l.length→aB (EQ ah) (.more (.c0 p (i:Int))) ((l.drop i).any (vn k n c)):=by
 intro j
 induction j with
 | zero=>
   intro i hj hi
   have:i=l.length:=by omega
   subst this
   rw[ak,EQ,h1,List.drop_length]
   exact(ai (by rw[al];simp)).2 (.ret _)
 | succ j ih=>
   intro i hj hi
   have hi':i<l.length:=by omega
   have nx:=ih (i+1) (by omega) (by omega)
   rw[ak,EQ,h0,h1,h2,h3,h4,h5]
   refine(aj (by rw[al];exact decide_eq_true (by omega))).2 (af.2 ⟨aS hi',?_⟩)
   rw[show(ah.n bR l (i:Int):cd)=l[i] from getD_in hi' _,List.drop_eq_getElem_cons hi',List.any_cons,cu (i:=i) (by omega)]
   generalize l[i]=f
   generalize (l.drop (i+1)).any (vn k n c)=r at nx ⊢
   have hx:vn k n c f=false→aB (EQ ah) (.more (.c0 p ((i+1:Nat):Int))) (vn k n c f||r):=fun h=>tF nx (by rw[h,Bool.false_or])
   have hy:vn k n c f=true→aB (EQ ah) (.ret true) (vn k n c f||r):=fun h=>by rw[h,Bool.true_or];exact .ret _
   refine aA (p:=f.2.2.2.1=c.1) aO (fun g1=>?_) fun h=>hx (by rw[vn,decide_eq_false h];rfl)
   have tail:(decide (f.2.2.2.2.1=c.2.1) || !nW f.1)=true→aB (EQ ah) (.br (ah.c .eql f.1 k) (.br (ah.c .eql f.2.1 n) (.ret true) (.more (.c0 p ((i+1:Nat):Int)))) (.more (.c0 p ((i+1:Nat):Int)))) (vn k n c f||r):=fun h=>by
    refine aA (p:=f.1=k) aO (fun g2=>aA (p:=f.2.1=n) aO (fun g3=>hy (by rw[vn,decide_eq_true g1,decide_eq_true g2,decide_eq_true g3,h];rfl)) fun h'=>hx (by rw[vn,decide_eq_false h'];simp)) fun h'=>hx (by rw[vn,decide_eq_false h'];simp)
   refine aA (p:=f.2.2.2.2.1=c.2.1) aO (fun g2=>tail (by rw[decide_eq_true g2];rfl)) fun g2=>af.2 ⟨rfl,?_⟩
   cases hs:nW f.1
   ·exact(aj (by show(!nW f.1)=true;rw[hs];rfl)).2 (tail (by rw[hs];simp))
   ·exact(ai (by show(!nW f.1)=false;rw[hs];rfl)).2 (hx (by rw[vn,decide_eq_false g2,hs];simp))
theorem KA{l:List cd}(h:l.length≤1000000):Dz l=true:=decide_eq_true (by omega)
theorem age{l:List cd}{k n:Int}{c:cv}(h:l.length≤1000000):aB (EQ ah) (XF ah l k n c) (lb l k n c):=by
 unfold XF
 exact af.2 ⟨KA h,Ma (l:=l) rfl rfl rfl rfl rfl rfl (by omega) l.length 0 rfl (by omega)⟩
def j4:(Unit×List cd×Unit)×(Int×Int×cv)→Bool:=fun((_,l,_),k,n,c)=>lb l k n c
def kK:(Unit×List cd×Unit)×(Int×Int×cv)→Bool:=fun((_,l,_),_,_,_)=>decide (l.length≤1000000)
def afC:gl:=⟨(.struct [(.any 16),(.slice bR),(.any 4)]), [yI,yI,kj], [.bool],kK,j4⟩
theorem Kp:gl.Sound Tryz.prog 187 afC:=tH ar bU true 56 pz [⟨292,1, [[0,2,3,7,8,9], [8]]⟩] [] (fun A (((),x1,()),(kind,node,c))=>XF A x1 kind node c) EQ XU (fc Tryz.func187 (fc Tryz.func246 (fc Tryz.func292 fz))) (sc V1 (sc V4 sz)) (fun A y=>match y with |.c0 p a2=>⟨77,by kernel_rfl,by kernel_rfl⟩) fun(((),x1,()),(kind,node,c)) hp hv h=>age (of_decide_eq_true hp)
structure RZ where
 (a0:List cd) (a1:Int) (a3:Unit×List cd×Unit) (a4:Int) (a5:cv) (a6 a7 a8 a9:Unit×List cd×Unit) (cX:List cd) (dN a12 kp gK:Int) (a16:cv) (a17:List cd) (je:Int)
inductive SZ where
 | c0 (p:RZ) (a2:Int)
noncomputable def Yx:SZ→eF
 | .c0 p a2=>⟨[⟨292,36,(en [(0,.yield 0),(2,.ptr 1 0),(3,.ptr 2 0),(7,.sl bR p.a0),(8,vi p.a1),(9,vi a2)]),[.inLoop (cw Tryz.f292 [1,0,0]),.inBlock 0],[],none⟩,⟨192,28,(en [(6,.ptr 3 0)]),[.ko 0,.inBlock 0,.code (cw Tryz.f192 [1,1])],[4],none⟩],[.loop ⟨192,28,(en [(0,.jl (.struct [(.any 16),(.slice bR),(.any 4)]) p.a3 0),(1,vi p.a4),(2,.agg (dc kj p.a5)),(4,.ptr 7 0),(5,.ptr 5 0),(6,.ptr 3 0),(8,.jl (.struct [(.any 16),(.slice bR),(.any 4)]) p.a6 0),(9,.jl (.struct [(.any 16),(.slice bR),(.any 4)]) p.a7 0),(10,.jl (.struct [(.any 16),(.slice bR),(.any 4)]) p.a8 9),(11,.jl (.struct [(.any 16),(.slice bR),(.any 4)]) p.a9 16),(12,.sl bR p.cX),(13,.ptr 5 0),(14,vi p.dN),(15,.ptr 5 1),(16,vi p.a12),(17,.fn 292 [] [.ptr 6 0,.ptr 1 0,.ptr 2 0])]),[18],(cw Tryz.f192 [1,0,1,0,0]),(cw Tryz.f192 [1,0,1,0,1]),0,none⟩,.flat false [vi p.kp],.flat false [vi p.gK],.flat false [vb false],.Ap,.flat false (dc kj p.a16),.flat false [.sl bR p.a17],.flat false [vi p.je],.dead]⟩
def Xs(A:aK)(x1:List cd)(channel:Int)(c:cv):LT Bool SZ:=.need (A.k Dz x1) (.more (.c0 ⟨(A.k ym x1),(A.l (A.k ym x1)),((),x1,()),channel,c,((),x1,()),((),x1,()),((),x1,()),((),x1,()),x1,c.1,c.2.1,c.1,c.2.1,c,(A.k ym x1),channel⟩ 0))
def Fb(A:aK):SZ→LT Bool SZ
 | .c0 p a2=>.br (A.c .lss a2 p.a1) (.need (A.and (A.c .leq 0 a2) (A.c .lss a2 (A.l p.a0))) (.br (A.c .eql (A.n bR p.a0 a2:cd).2.2.2.1 p.kp) (.br (A.c .eql (A.n bR p.a0 a2:cd).2.2.2.2.1 p.gK) (.br (A.c .eql (A.n bR p.a0 a2:cd).1 5) (.br (A.c .eql (A.n bR p.a0 a2:cd).2.2.1 p.je) (.ret true) (.more (.c0 p (A.b .add .i64 a2 1)))) (.more (.c0 p (A.b .add .i64 a2 1)))) (.need (A.k (@tt Int) (A.n bR p.a0 a2:cd).1) (.br (A.not (A.k nW (A.n bR p.a0 a2:cd).1)) (.br (A.c .eql (A.n bR p.a0 a2:cd).1 5) (.br (A.c .eql (A.n bR p.a0 a2:cd).2.2.1 p.je) (.ret true) (.more (.c0 p (A.b .add .i64 a2 1)))) (.more (.c0 p (A.b .add .i64 a2 1)))) (.more (.c0 p (A.b .add .i64 a2 1)))))) (.more (.c0 p (A.b .add .i64 a2 1))))) (.ret false)
theorem Lv{p:RZ}{l:List cd}{ch:Int}{c:cv}(h0:p.a0=l)(h1:p.a1=(l.length:Int))(h2:p.kp=c.1)(h3:p.gK=c.2.1)(h4:p.je=ch)(hl:l.length≤140737488355328) :
  ∀(j i:Nat),l.length-i=j→i≤l.length→aB (Fb ah) (.more (.c0 p (i:Int))) ((l.drop i).any (vd ch c)):=by
 intro j
 induction j with
 | zero=>
   intro i hj hi
   have:i=l.length:=by omega
   subst this
   rw[ak,Fb,h1,List.drop_length]
   exact(ai (by rw[al];simp)).2 (.ret _)
 | succ j ih=>
   intro i hj hi
   have hi':i<l.length:=by omega
   have nx:=ih (i+1) (by omega) (by omega)
   rw[ak,Fb,h0,h1,h2,h3,h4]
   refine(aj (by rw[al];exact decide_eq_true (by omega))).2 (af.2 ⟨aS hi',?_⟩)
   rw[show(ah.n bR l (i:Int):cd)=l[i] from getD_in hi' _,List.drop_eq_getElem_cons hi',List.any_cons,cu (i:=i) (by omega)]
   generalize l[i]=f
   generalize (l.drop (i+1)).any (vd ch c)=r at nx ⊢
   have hx:vd ch c f=false→aB (Fb ah) (.more (.c0 p ((i+1:Nat):Int))) (vd ch c f||r):=fun h=>tF nx (by rw[h,Bool.false_or])
   have hy:vd ch c f=true→aB (Fb ah) (.ret true) (vd ch c f||r):=fun h=>by rw[h,Bool.true_or];exact .ret _
   refine aA (p:=f.2.2.2.1=c.1) aO (fun g1=>?_) fun h=>hx (by rw[vd,decide_eq_false h];rfl)
   have tail:(decide (f.2.2.2.2.1=c.2.1) || !nW f.1)=true→aB (Fb ah) (.br (ah.c .eql f.1 5) (.br (ah.c .eql f.2.2.1 ch) (.ret true) (.more (.c0 p ((i+1:Nat):Int)))) (.more (.c0 p ((i+1:Nat):Int)))) (vd ch c f||r):=fun h=>by
    refine aA (p:=f.1=5) aO (fun g2=>aA (p:=f.2.2.1=ch) aO (fun g3=>hy (by rw[vd,decide_eq_true g1,decide_eq_true g2,decide_eq_true g3,h];rfl)) fun h'=>hx (by rw[vd,decide_eq_false h'];simp)) fun h'=>hx (by rw[vd,decide_eq_false h'];simp)
   refine aA (p:=f.2.2.2.2.1=c.2.1) aO (fun g2=>tail (by rw[decide_eq_true g2];rfl)) fun g2=>af.2 ⟨rfl,?_⟩
   cases hs:nW f.1
   ·exact(aj (by show(!nW f.1)=true;rw[hs];rfl)).2 (tail (by rw[hs];simp))
   ·exact(ai (by show(!nW f.1)=false;rw[hs];rfl)).2 (hx (by rw[vd,decide_eq_false g2,hs];simp))
theorem aa1{l:List cd}{ch:Int}{c:cv}(h:l.length≤1000000):aB (Fb ah) (Xs ah l ch c) (VM l ch c):=by
 unfold Xs
 exact af.2 ⟨KA h,Lv (l:=l) rfl rfl rfl rfl rfl (by omega) l.length 0 rfl (by omega)⟩
def JA:(Unit×List cd×Unit)×(Int×cv)→Bool:=fun((_,l,_),k,c)=>VM l k c
def vy:(Unit×List cd×Unit)×(Int×cv)→Bool:=fun((_,l,_),_,_)=>decide (l.length≤1000000)
def adS:gl:=⟨(.struct [(.any 16),(.slice bR),(.any 4)]), [yI,kj], [.bool],vy,JA⟩
theorem ado:gl.Sound Tryz.prog 192 adS:=tH ar bU true 55 pz [⟨292,1, [[0,2,3,7,8,9], [6]]⟩] [] (fun A (((),x1,()),(channel,c))=>Xs A x1 channel c) Fb Yx (fc Tryz.func192 (fc Tryz.func246 (fc Tryz.func292 fz))) (sc V1 (sc V4 sz)) (fun A y=>match y with |.c0 p a2=>⟨76,by kernel_rfl,by kernel_rfl⟩) fun(((),x1,()),(channel,c)) hp hv h=>aa1 (of_decide_eq_true hp)
structure XT where
 (a2 a3:cd) (a4:Int) (a5:Bool) (a6 a7:Int) (a8:List Int) (a9 cX:Int)
structure NL where
 (b0:Int) (b2 b3:cd) (b4:Int) (b5:Bool) (b6 b7:Int) (b8:List Int) (b9 b10:Int)
inductive Sl where
 | c0 (p:XT)
 | c1 (p:NL) (b1:Int) (jO:List dx)
noncomputable def Xg:Sl→eF
 | .c0 p=>⟨[⟨68,39,(en [(1,.ptr 0 0),(2,.ptr 1 0),(19,vi 0),(20,vi 0)]),[.inLoop (cw Tryz.f68 [1,1,1,0,1,0,0]),.inBlock 0,.code (cw Tryz.f68 [1,1,1,1])],[],none⟩],[.flat false (dc bR p.a2++dc bR p.a3 ++ [vi p.a4,vb p.a5,vi p.a6,vi p.a7,.sl yU p.a8,.dq false,vi p.a9,vi p.cX]),.flat false [vi 0,vi 0,vi 0,vi 0,vi 0,vi 0,vi 0,vi 0,vi 0,vi 0,vi 0,vi 0,vi 0,vi 0,vi 0,vb false,vi 0,vi 0,.dq true,.dq true,vi 0,vi 0],.dead]⟩
 | .c1 p b1 jO=>⟨[⟨68,39,(en [(1,.ptr 0 0),(2,.ptr 1 0),(19,vi p.b0),(20,vi b1)]),[.inLoop (cw Tryz.f68 [1,1,1,0,1,0,0]),.inBlock 0,.code (cw Tryz.f68 [1,1,1,1])],[],none⟩],[.flat false (dc bR p.b2++dc bR p.b3 ++ [vi p.b4,vb p.b5,vi p.b6,vi p.b7,.sl yU p.b8,.own 2,vi p.b9,vi p.b10]),.flat false [vi 0,vi 0,vi 0,vi 0,vi 0,vi 0,vi 0,vi 0,vi 0,vi 0,vi 0,vi 0,vi 0,vi 0,vi 0,vb false,vi 0,vi 0,.dq true,.dq true,vi 0,vi 0],.arr false d_ jO,.dead]⟩
def Z9(A:aK)(n:Node):LT Node Sl:=.need (A.k (@tt (List Int)) n.2.2.2.2.2.2.2.2.1) (.need (A.c .neq (A.l n.2.2.2.2.2.2.2.2.2.1) 0) (.br (A.c .eql (A.l n.2.2.2.2.2.2.2.2.2.1) 0) (.more (.c0 ⟨(n.1,n.2.1,n.2.2.1),n.2.2.2.1,n.2.2.2.2.1,n.2.2.2.2.2.1,n.2.2.2.2.2.2.1,n.2.2.2.2.2.2.2.1,(A.k jv n.2.2.2.2.2.2.2.2.1),n.2.2.2.2.2.2.2.2.2.2.1,n.2.2.2.2.2.2.2.2.2.2.2⟩)) (.need (A.c .leq (A.l n.2.2.2.2.2.2.2.2.2.1) 4398046511104) (.more (.c1 ⟨(A.l n.2.2.2.2.2.2.2.2.2.1),(n.1,n.2.1,n.2.2.1),n.2.2.2.1,n.2.2.2.2.1,n.2.2.2.2.2.1,n.2.2.2.2.2.2.1,n.2.2.2.2.2.2.2.1,(A.k jv n.2.2.2.2.2.2.2.2.1),n.2.2.2.2.2.2.2.2.2.2.1,n.2.2.2.2.2.2.2.2.2.2.2⟩ 0 n.2.2.2.2.2.2.2.2.2.1)))))
def OM(A:aK):Sl→LT Node Sl
 | .c0 p=>.br (A.c .lss 0 0) (.bad 37 "model.go:63") (.ret (p.a2.1,p.a2.2.1,p.a2.2.2,p.a3,p.a4,p.a5,p.a6,p.a7,p.a8,([]:List dx),p.a9,p.cX))
 | .c1 p b1 jO=>.br (A.c .lss b1 p.b0) (.need (A.and (A.c .leq 0 b1) (A.c .lss b1 (A.l jO))) (.need (A.k (@tt (List Int)) (A.n d_ jO b1:dx).1) (.need (A.and (A.c .leq 0 b1) (A.c .lss b1 (A.l jO))) (.more (.c1 p (A.b .add .i64 b1 1) (A.set jO b1 ((A.k jv (A.n d_ jO b1:dx).1),(A.n d_ jO b1:dx).2))))))) (.ret (p.b2.1,p.b2.2.1,p.b2.2.2,p.b3,p.b4,p.b5,p.b6,p.b7,p.b8,jO,p.b9,p.b10))
def Ac(n:Node):Bool:=decide (1≤n.2.2.2.2.2.2.2.2.2.1.length∧n.2.2.2.2.2.2.2.2.2.1.length≤4398046511103)
theorem P_{p:NL}{l:List dx}(h0:p.b0=(l.length:Int))(hl:l.length≤140737488355328):∀(j i:Nat),l.length-i=j→i≤l.length→aB (OM ah) (.more (.c1 p (i:Int) l)) (p.b2.1,p.b2.2.1,p.b2.2.2,p.b3,p.b4,p.b5,p.b6,p.b7,p.b8,l,p.b9,p.b10):=by
 intro j
 induction j with
 | zero=>
   intro i hj hi
   have:i=l.length:=by omega
   subst this
   rw[ak,OM,h0]
   exact(ai (by rw[al];simp)).2 (.ret _)
 | succ j ih=>
   intro i hj hi
   have hi':i<l.length:=by omega
   rw[ak,OM,h0]
   refine(aj (by rw[al];exact decide_eq_true (by omega))).2 (af.2 ⟨aS hi',af.2 ⟨rfl,af.2 ⟨aS hi',?_⟩⟩⟩)
   have e:(ah.n d_ l (i:Int):dx)=l[i]:=getD_in hi' _
   have e2:ah.set l (i:Int) ((ah.k jv (ah.n d_ l (i:Int):dx).1),(ah.n d_ l (i:Int):dx).2)=l:=by
    rw[e]
    show l.set (i:Int).toNat l[i]=l
    rw[Int.toNat_natCast];exact List.set_getElem_self _
   rw[e2,cu (i:=i) (by omega)]
   exact ih (i+1) (by omega) (by omega)
theorem ahj{n:Node}(h:Ac n=true):aB (OM ah) (Z9 ah n) n:=by
 obtain⟨h1,h2⟩:=of_decide_eq_true h
 unfold Z9
 refine af.2 ⟨rfl,af.2 ⟨by rw[aD,bL];exact bne_iff_ne.2 (by omega),(ai (by rw[ax,bL];exact beq_eq_false_iff_ne.2 (by omega))).2 (af.2 ⟨by rw[ap,bL];exact decide_eq_true (by omega),?_⟩)⟩⟩
 exact P_ rfl (by omega) _ 0 rfl (by omega)
def pU:Node→Node:=fun n=>n
def vk:Node→Bool:=Ac
def abO:aC:=⟨[aF], [aF],vk,pU⟩
theorem QT:Sd 68 abO:=aU ar bU true 62 [⟨68,4, [[1,2,19,20]]⟩] [] (fun A n=>Z9 A n) OM Xg (fc Tryz.func68 (fc Tryz.func140 fz)) (sc BM sz) (fun A y=>match y with |.c0 p=>⟨29,by kernel_rfl,by kernel_rfl⟩|.c1 p b1 jO=>⟨42,by kernel_rfl,by kernel_rfl⟩) fun(n:Node) hp h=>ahj hp
structure NO where
 (a0:List bg) (a1 a3:Int) (a4:Bool) (a5:ao) (a6:gJ) (a7 a8 a9 cX:Int) (dN:List Int) (a12 kp gK:Int) (jh:List Int) (a16 a17 je:Int) (l_ a20:Node) (a21 a22:Bool) (a23:Int) (a24:cv) (a25:Bool) (a26:gJ) (a27 a28 a29 a30 a31 a32:Int) (a34:List Node) (a35:List Bool) (a36:List iT) (a37:List Node) (a38 a39 a40:List Bool) (a41:List bg)
inductive UX where
 | c0 (p:NO) (a2:Int) (a33:Node)
noncomputable def Zj:UX→eF
 | .c0 p a2 a33=>⟨[⟨248,37,(en [(0,.yield 2),(2,.ptr 3 0),(3,.ptr 4 0),(4,.ptr 5 0),(8,.sl bC p.a0),(9,vi p.a1),(10,vi a2)]),[.inLoop (cw Tryz.f248 [1,0,0]),.inBlock 0],[],none⟩,⟨115,90,(en [(2,vi p.a3),(3,.ptr 6 0),(6,.ptr 7 0)]),[.ko 2,.inBlock 0,.code (cw Tryz.f115 [1,1,1,1,1])],[8],none⟩],[.flat false ([vb p.a4]++dc aP p.a5++dc f_ p.a6 ++ [.own 9,.own 10,vi p.a7,.own 11]),.flat false [.own 12,.own 13,.own 14,.own 15,vi p.a8,vi p.a9,vi p.cX,.sl yU p.dN,vi p.a12,vi p.kp,vi p.gK,.sl yU p.jh],.loop ⟨115,90,(en [(0,.ptr 0 0),(1,.ptr 1 0),(2,vi p.a16),(3,.ptr 6 0),(6,.ptr 7 0),(12,.ptr 0 0),(13,.ptr 0 0),(14,.ptr 0 17),(15,.own 9),(16,vi p.a17),(17,.mU 9 p.je 0),(18,.agg (dc aF p.l_)),(19,.agg (dc aF p.a20)),(20,vb p.a21),(21,vb p.a22),(22,.ptr 0 0),(23,vi p.a23),(24,.ptr 7 2),(25,.agg (dc kj p.a24)),(26,vb p.a25),(57,.ptr 0 0),(58,.ptr 0 0),(59,.ptr 0 9),(60,.agg (dc f_ p.a26)),(61,vi p.a27),(62,.ptr 7 2),(63,.ptr 7 2),(64,vi p.a28),(65,.ptr 7 2),(66,.ptr 7 3),(67,vi p.a29),(68,.fn 248 [] [.ptr 16 0,.ptr 3 0,.ptr 4 0,.ptr 5 0])]),[69],(cw Tryz.f115 [1,1,1,1,0,1,0,0]),(cw Tryz.f115 [1,1,1,1,0,1,0,1]),0,none⟩,.flat false [vi p.a30],.flat false [vi p.a31],.flat false [vi p.a32],.flat false [.ptr 0 0],.flat false (dc aF a33),.Ap,.arr false aF p.a34,.arr false .bool p.a35,.arr false eE p.a36,.arr false aF p.a37,.arr false .bool p.a38,.arr false .bool p.a39,.arr false .bool p.a40,.flat false [.sl bC p.a41],.dead]⟩
abbrev jE(A:aK)(x2:a_)(i:Int):=(A.n aF x2.2.2.2.1 i:Node)
abbrev KF(A:aK)(w:df):=([(A.n aJ w.2.2.2.2 0:Seen),(A.n aJ w.2.2.2.2 1:Seen)]:List Seen)
def XK(A:aK)(x2:a_)(w:df)(i:Int):LT ((a_×df)×Unit) UX:=.need (A.and (A.c .leq 0 i) (A.c .lss i (A.l x2.2.2.2.1))) (.need (A.k (@tt Node) (jE A x2 i)) (.br (A.not (A.k fv (jE A x2 i))) (.ret ((x2,w.1,w.2.1,w.2.2.1,w.2.2.2.1,(KF A w)),())) (.need (A.k kK (((),x2.2.2.1.2.2.2.2.2.2.2,()),1,i,(jE A x2 i).2.2.1)) (.br (A.k j4 (((),x2.2.2.1.2.2.2.2.2.2.2,()),1,i,(jE A x2 i).2.2.1)) (.need (A.k (@tt (ao×Node×Bool)) (x2.2.1,(jE A x2 i),false)) (.need (A.k (@tt (ao×Node×Bool)) (x2.2.1,(jE A x2 i),false)) (.br (A.c .eql (A.k uX (x2.2.1,(jE A x2 i),false)).2 0) (.need (A.and (A.c .leq 0 i) (A.c .lss i (A.l x2.2.2.2.1))) (.need (A.and (A.c .leq 0 i) (A.c .lss i (A.l w.2.2.1))) (.need (A.and (A.c .leq 0 i) (A.c .lss i (A.l x2.2.2.2.2.1))) (.ret (((x2.1,x2.2.1,x2.2.2.1,(A.set x2.2.2.2.1 i (A.k uX (x2.2.1,(jE A x2 i),false)).1),(A.set x2.2.2.2.2.1 i false),x2.2.2.2.2.2),w.1,w.2.1,(A.set w.2.2.1 i true),w.2.2.2.1,(KF A w)),()))))) (.need (A.and (A.c .leq 0 i) (A.c .lss i (A.l w.2.2.1))) (.need (A.and (A.c .leq 0 i) (A.c .lss i (A.l x2.2.2.2.2.1))) (.ret (((x2.1,x2.2.1,x2.2.2.1,x2.2.2.2.1,(A.set x2.2.2.2.2.1 i false),x2.2.2.2.2.2),w.1,w.2.1,(A.set w.2.2.1 i true),w.2.2.2.1,(KF A w)),()))))))) (.need (A.k GM x2.2.2.1.2.2.2.2.2.2.1) (.more (.c0 ⟨(A.k I4 x2.2.2.1.2.2.2.2.2.2.1),(A.l (A.k I4 x2.2.2.1.2.2.2.2.2.2.1)),i,x2.1,x2.2.1,x2.2.2.1,x2.2.2.2.2.2.1,(A.n aJ w.2.2.2.2 0:Seen).1,(A.n aJ w.2.2.2.2 0:Seen).2.1,(A.n aJ w.2.2.2.2 0:Seen).2.2.1,(A.n aJ w.2.2.2.2 0:Seen).2.2.2,(A.n aJ w.2.2.2.2 1:Seen).1,(A.n aJ w.2.2.2.2 1:Seen).2.1,(A.n aJ w.2.2.2.2 1:Seen).2.2.1,(A.n aJ w.2.2.2.2 1:Seen).2.2.2,i,i,i,(jE A x2 i),(jE A x2 i),(A.k fv (jE A x2 i)),(A.not (A.k fv (jE A x2 i))),i,(jE A x2 i).2.2.1,(A.k j4 (((),x2.2.2.1.2.2.2.2.2.2.2,()),1,i,(jE A x2 i).2.2.1)),x2.2.2.1,i,(jE A x2 i).2.2.1.1,(jE A x2 i).2.2.1.2.1,i,(jE A x2 i).2.2.1.1,(jE A x2 i).2.2.1.2.1,x2.2.2.2.1,x2.2.2.2.2.1,x2.2.2.2.2.2.2,w.1,w.2.1,w.2.2.1,w.2.2.2.1,(A.k I4 x2.2.2.1.2.2.2.2.2.2.1)⟩ 0 (jE A x2 i))))))))
def OB(A:aK):UX→LT ((a_×df)×Unit) UX
 | .c0 p a2 a33=>.br (A.c .lss a2 p.a1) (.need (A.and (A.c .leq 0 a2) (A.c .lss a2 (A.l p.a0))) (.br (A.c .eql (A.n bC p.a0 a2:bg).1 p.a30) (.br (A.c .eql (A.n bC p.a0 a2:bg).2.1 p.a31) (.br (A.c .eql (A.n bC p.a0 a2:bg).2.2.1 p.a32) (.need (A.k (@tt (ao×Node×bg)) (p.a5,a33,(A.n bC p.a0 a2:bg))) (.need (A.k (@tt (ao×Node×bg)) (p.a5,a33,(A.n bC p.a0 a2:bg))) (.br (A.c .eql (A.k Kq (p.a5,a33,(A.n bC p.a0 a2:bg))).2 0) (.more (.c0 p (A.b .add .i64 a2 1) (A.k Kq (p.a5,a33,(A.n bC p.a0 a2:bg))).1)) (.more (.c0 p (A.b .add .i64 a2 1) a33))))) (.more (.c0 p (A.b .add .i64 a2 1) a33))) (.more (.c0 p (A.b .add .i64 a2 1) a33))) (.more (.c0 p (A.b .add .i64 a2 1) a33)))) (.need (A.and (A.c .leq 0 p.a3) (A.c .lss p.a3 (A.l p.a34))) (.ret (((p.a4,p.a5,p.a6,(A.set p.a34 p.a3 a33),p.a35,p.a7,p.a36),p.a37,p.a38,p.a39,p.a40,([(p.a8,p.a9,p.cX,p.dN),(p.a12,p.kp,p.gK,p.jh)]:List Seen)),())))
def oH(w:df):df:=(w.1,w.2.1,w.2.2.1,w.2.2.2.1, [(ah.n aJ w.2.2.2.2 0:Seen),(ah.n aJ w.2.2.2.2 1:Seen)])
@[reducible] def iL (l:List Node) (i:Int):Node:=ah.n aF l i
def EV(x:a_)(w:df):Prop:=x.2.2.2.2.1.length=x.2.2.2.1.length∧w.1.length=x.2.2.2.1.length∧w.2.1.length=x.2.2.2.1.length∧w.2.2.1.length=x.2.2.2.1.length∧w.2.2.2.1.length=x.2.2.2.1.length∧
 x.2.2.1.2.2.2.2.2.2.2.length≤1000000∧x.2.2.1.2.2.2.2.2.2.1.length≤1000000∧x.2.2.2.2.2.2.length≤1000000∧x.2.2.2.1.length≤1000
instance (x:a_) (w:df):Decidable (EV x w):=by unfold EV;infer_instance
def sF(m:ao)(i:Int)(c:cv):List bg→Node→Node
 | [],n=>n
 | o::l,n=>sF m i c l (bif decide (o.1=i)&&(decide (o.2.1=c.1)&&decide (o.2.2.1=c.2.1)) then(bif decide ((sC m n o).2=0) then(sC m n o).1 else n) else n)
def GB(x:a_)(i:Int):Node:=iL x.2.2.2.1 i
def Dj(x:a_):List cd:=x.2.2.1.2.2.2.2.2.2.2
def vL(x:a_)(w:df)(i:Int):a_×df:=
 bif jK (GB x i) then
  bif lb (Dj x) 1 i (GB x i).2.2.1 then
   ((x.1,x.2.1,x.2.2.1,(bif decide ((lX x.2.1 (GB x i) false).2=0) then ah.set x.2.2.2.1 i (lX x.2.1 (GB x i) false).1 else x.2.2.2.1),ah.set x.2.2.2.2.1 i false,x.2.2.2.2.2),(w.1,w.2.1,ah.set w.2.2.1 i true,(oH w).2.2.2))
  else((x.1,x.2.1,x.2.2.1,ah.set x.2.2.2.1 i (sF x.2.1 i (GB x i).2.2.1 x.2.2.1.2.2.2.2.2.2.1 (GB x i)),x.2.2.2.2),oH w)
 else(x,oH w)
theorem QX{p:NO}{l:List bg}{m:ao}{i:Int}{c:cv}(h0:p.a0=l)(h1:p.a1=(l.length:Int))(hm:p.a5=m)(h2:p.a30=i)(h3:p.a31=c.1)(h4:p.a32=c.2.1)(hx:ah.and (ah.c .leq 0 p.a3) (ah.c .lss p.a3 (ah.l p.a34))=true)(hl:l.length≤140737488355328) :
  ∀(j k:Nat) (n:Node),l.length-k=j→k≤l.length→aB (OB ah) (.more (.c0 p (k:Int) n)) (((p.a4,p.a5,p.a6,ah.set p.a34 p.a3 (sF m i c (l.drop k) n),p.a35,p.a7,p.a36),p.a37,p.a38,p.a39,p.a40, [(p.a8,p.a9,p.cX,p.dN),(p.a12,p.kp,p.gK,p.jh)]),()):=by
 subst hm
 intro j
 induction j with
 | zero=>
   intro k n hj hk
   have:k=l.length:=by omega
   subst this
   rw[ak,OB,h1,List.drop_length]
   exact(ai (by rw[al];simp)).2 (af.2 ⟨hx,.ret _⟩)
 | succ j ih=>
   intro k n hj hk
   have hk':k<l.length:=by omega
   rw[ak,OB,h0,h1,h2,h3,h4]
   refine(aj (by rw[al];exact decide_eq_true (by omega))).2 (af.2 ⟨aS hk',?_⟩)
   rw[show(ah.n bC l (k:Int):bg)=l[k] from getD_in hk' _,List.drop_eq_getElem_cons hk',sF,cu (i:=k) (by omega)]
   generalize l[k]=o
   refine aA (p:=o.1=i) aO (fun g1=>?_) fun g=>by rw[decide_eq_false g,Bool.false_and];exact ih (k+1) n (by omega) (by omega)
   refine aA (p:=o.2.1=c.1) aO (fun g2=>?_) fun g=>by rw[decide_eq_false g,decide_eq_true g1,Bool.false_and,Bool.and_false];exact ih (k+1) n (by omega) (by omega)
   refine aA (p:=o.2.2.1=c.2.1) aO (fun g3=>?_) fun g=>by rw[decide_eq_false g,decide_eq_true g1,decide_eq_true g2,Bool.and_false,Bool.and_false];exact ih (k+1) n (by omega) (by omega)
   rw[decide_eq_true g1,decide_eq_true g2,decide_eq_true g3]
   refine af.2 ⟨rfl,af.2 ⟨rfl,?_⟩⟩
   rw[show ah.k Kq (p.a5,n,o)=sC p.a5 n o from rfl]
   exact aA (p:=(sC p.a5 n o).2=0) aO (fun g=>by rw[decide_eq_true g];exact ih (k+1) (sC p.a5 n o).1 (by omega) (by omega)) fun g=>by rw[decide_eq_false g];exact ih (k+1) n (by omega) (by omega)
theorem dQ{α:Type}{l:List α}{i:Int}(h:0≤i∧i<(l.length:Int)):ah.and (ah.c .leq 0 i) (ah.c .lss i (ah.l l))=true:=by
 rw[aG,ap,al,bL,decide_eq_true h.1,decide_eq_true h.2];rfl
theorem UO{l:List bg}(h:l.length≤1000000):ah.k GM l=true:=decide_eq_true (by omega)
theorem uH{v:(Unit×List cd×Unit)×Int×Int×cv}(h:v.1.2.1.length≤1000000):ah.k kK v=true:=by
 obtain⟨⟨_,l,_⟩,_,_,_⟩:=v;exact decide_eq_true h
theorem TQ{v:(Unit×List cd×Unit)×Int×cv}(h:v.1.2.1.length≤1000000):ah.k vy v=true:=by
 obtain⟨⟨_,l,_⟩,_,_⟩:=v;exact decide_eq_true h
theorem YQ{x:a_}{w:df}{i:Int}(h:EV x w)(hi:0≤i∧i<(x.2.2.2.1.length:Int)):aB (OB ah) (XK ah x w i) (vL x w i,()):=by
 obtain⟨z1,z2,z3,z4,z5,z6,z7,z8,z9⟩:=h
 have i1:=dQ (l:=x.2.2.2.1) hi
 have i2:=dQ (l:=w.2.2.1) (i:=i) (by omega)
 have i3:=dQ (l:=x.2.2.2.2.1) (i:=i) (by omega)
 unfold XK KF jE vL
 refine af.2 ⟨i1,af.2 ⟨rfl,?_⟩⟩
 rw[show ah.k fv (ah.n aF x.2.2.2.1 i:Node)=jK (GB x i) from rfl]
 cases jK (GB x i)
 ·exact(aj rfl).2 (.ret _)
 refine(ai rfl).2 (af.2 ⟨uH z6,?_⟩)
 rw[show ah.k j4 (((),x.2.2.1.2.2.2.2.2.2.2,()),1,i,(ah.n aF x.2.2.2.1 i:Node).2.2.1)=lb (Dj x) 1 i (GB x i).2.2.1 from rfl]
 cases lb (Dj x) 1 i (GB x i).2.2.1
 ·refine(ai rfl).2 (af.2 ⟨UO z7,?_⟩)
  exact QX (l:=x.2.2.1.2.2.2.2.2.2.1) (m:=x.2.1) (i:=i) (c:=(GB x i).2.2.1) rfl rfl rfl rfl rfl rfl i1 (by omega) _ 0 _ rfl (by omega)
 ·refine(aj rfl).2 (af.2 ⟨rfl,af.2 ⟨rfl,?_⟩⟩)
  rw[show ah.k uX (x.2.1,(ah.n aF x.2.2.2.1 i:Node),false)=lX x.2.1 (GB x i) false from rfl]
  refine aA (p:=(lX x.2.1 (GB x i) false).2=0) aO (fun g=>af.2 ⟨i1,af.2 ⟨i2,af.2 ⟨i3,?_⟩⟩⟩) fun g=>af.2 ⟨i2,af.2 ⟨i3,?_⟩⟩
  ·rw[decide_eq_true g];exact .ret _
  ·rw[decide_eq_false g];exact .ret _
def N7:(a_×df)×Int→(a_×df)×Unit:=fun((x,w),i)=>(vL x w i,())
def DX:(a_×df)×Int→Bool:=fun((x,w),i)=>decide (EV x w∧0≤i∧i<(x.2.2.2.1.length:Int))
def aeg:bI:=⟨[.ptr [.d .bool,.d aP,.d f_,.own aF,.own .bool,.d yI,.own eE],.ptr [.own aF,.own .bool,.own .bool,.own .bool,.d (.arr 2 aJ)]], [yI], [],DX,N7,false⟩
theorem acF:bI.Sound Tryz.prog 115 aeg:=bH ar bU true 90 iz mz (pc Kp pz) [⟨248,1, [[0,2,3,4,8,9,10], [2,3,6]]⟩] [] (fun A ((x2,w),i)=>XK A x2 w i) OB Zj (fc Tryz.func115 (fc Tryz.func188 (fc Tryz.func248 fz))) (sc rN (sc VD (sc adT (sc afs sz)))) (fun A y=>match y with |.c0 p a2 a33=>⟨88,by kernel_rfl,by kernel_rfl⟩) fun(((x2,w),i):(a_×df)×Int) hp hv h=>YQ (of_decide_eq_true hp).1 (of_decide_eq_true hp).2
abbrev BK(A:aK)(x2:a_)(i:Int):=(A.and (A.c .leq 0 i) (A.c .lss i (A.l x2.2.2.2.1)))
abbrev Ci(A:aK)(x2:a_)(i:Int):=(A.k VY (x2.2.1,(A.n aF x2.2.2.2.1 i:Node)))
abbrev FQ(A:aK)(x2:a_)(i:Int):=(A.k (@tt (ao×Node)) (x2.2.1,(A.n aF x2.2.2.2.1 i:Node)))
def Iy(A:aK)(x2:a_)(i:Int):LT (a_×(mR×Bool)) Empty:=.need (A.and (A.c .leq 0 i) (A.c .lss i (A.l x2.2.2.2.2.1))) (.br (A.n .bool x2.2.2.2.2.1 i:Bool) (.need (A.and (A.c .leq 0 i) (A.c .lss i (A.l x2.2.2.2.2.1))) (.ret ((x2.1,x2.2.1,x2.2.2.1,x2.2.2.2.1,(A.set x2.2.2.2.2.1 i false),x2.2.2.2.2.2),(1,0,(0,0,0,0,0),i,([]:List Int)),true))) (.need (BK A x2 i) (.need (FQ A x2 i) (.need (FQ A x2 i) (.need (BK A x2 i) (.need (FQ A x2 i) (.need (BK A x2 i) (.br (A.c .neq (Ci A x2 i).2.2.2 0) (.ret (x2,(0,0,(0,0,0,0,0),0,([]:List Int)),false)) (.need (BK A x2 i) (.ret ((x2.1,x2.2.1,x2.2.2.1,(A.set x2.2.2.2.1 i (Ci A x2 i).1),x2.2.2.2.2),(Ci A x2 i).2.1,(Ci A x2 i).2.2.1)))))))))))
def dI:a_×Int→a_×(mR×Bool):=fun(x2,i)=>(Iy ah x2 i).val (Ty.bl [pL],Ty.bl [w_,.bool])
def IP:a_×Int→Bool:=fun(x2,i)=>(Iy ah x2 i).pre
def abj:bI:=⟨[.ptr [.d .bool,.d aP,.d f_,.own aF,.own .bool,.d yI,.own eE]], [yI], [w_,.bool],IP,dI,false⟩
theorem afA:bI.Sound Tryz.prog 190 abj:=bH ar bU true 77 iz mz pz [] [] (fun A (x2,i)=>Iy A x2 i) (fun _=>Empty.elim) Empty.elim (fc Tryz.func190 fz) (sc acb sz) (fun _ y=>y.elim) fun((x2,i):a_×Int) hp hv h=>LT.runs (LT.fX (by kernel_rfl)) hp
abbrev B7(A:aK)(x2:a_)(w:df)(i:Int):LT ((a_×df)×Unit) Empty:=(.br (A.c .neq (A.k F5 (A.k dI (x2,i)).2.1).2 0) (.ret (((A.k dI (x2,i)).1,w.1,w.2.1,w.2.2.1,w.2.2.2.1,([(1,0,0,([]:List Int)),(1,0,0,([]:List Int))]:List Seen)),())) (.br (A.c .neq (A.n aJ w.2.2.2.2 1:Seen).1 0) (.ret (((A.k dI (x2,i)).1,w.1,w.2.1,w.2.2.1,w.2.2.2.1,([(1,0,0,([]:List Int)),(1,0,0,([]:List Int))]:List Seen)),())) (.need (A.k kK (((),(A.k dI (x2,i)).1.2.2.1.2.2.2.2.2.2.2,()),4,i,(A.n aF w.1 i:Node).2.2.1)) (.br (A.k j4 (((),(A.k dI (x2,i)).1.2.2.1.2.2.2.2.2.2.2,()),4,i,(A.n aF w.1 i:Node).2.2.1)) (.ret (((A.k dI (x2,i)).1,w.1,w.2.1,w.2.2.1,w.2.2.2.1,([(1,0,0,([]:List Int)),(1,0,0,([]:List Int))]:List Seen)),())) (.need (A.k vy (((),(A.k dI (x2,i)).1.2.2.1.2.2.2.2.2.2.2,()),1,(A.n aF w.1 i:Node).2.2.1)) (.br (A.k JA (((),(A.k dI (x2,i)).1.2.2.1.2.2.2.2.2.2.2,()),1,(A.n aF w.1 i:Node).2.2.1)) (.ret (((A.k dI (x2,i)).1,w.1,w.2.1,w.2.2.1,w.2.2.2.1,([(1,0,0,([]:List Int)),(1,0,0,([]:List Int))]:List Seen)),())) (.ret (((A.k dI (x2,i)).1,w.1,w.2.1,w.2.2.1,w.2.2.2.1,([(1,0,0,([]:List Int)),(2,0,(A.k F5 (A.k dI (x2,i)).2.1).1)]:List Seen)),()))))))))
abbrev B4(A:aK)(x2:a_)(w:df)(i:Int):LT ((a_×df)×Unit) Empty:=(.ret (((A.k dI (x2,i)).1,w.1,w.2.1,w.2.2.1,w.2.2.2.1,([(2,0,(A.k F5 (A.k dI (x2,i)).2.1).1),(1,0,0,([]:List Int))]:List Seen)),()))
abbrev FW(A:aK)(w:df):=([(A.n aJ w.2.2.2.2 0:Seen),(A.n aJ w.2.2.2.2 1:Seen)]:List Seen)
abbrev Fg(A:aK)(x2:a_)(w:df):LT ((a_×df)×Unit) Empty:=(.ret ((x2,w.1,w.2.1,w.2.2.1,w.2.2.2.1,(FW A w)),()))
def IN(A:aK)(x2:a_)(w:df)(i:Int):LT ((a_×df)×Unit) Empty:=.need (A.and (A.c .leq 0 i) (A.c .lss i (A.l w.1))) (.need (A.k (@tt Node) (A.n aF w.1 i:Node)) (.br (A.not (A.k fv (A.n aF w.1 i:Node))) (Fg A x2 w) (.need (A.and (A.c .leq 0 i) (A.c .lss i (A.l w.2.2.1))) (.br (A.n .bool w.2.2.1 i:Bool) (Fg A x2 w) (.br (A.c .neq (A.n aF w.1 i:Node).2.2.1.2.1 i) (Fg A x2 w) (.need (A.k IP (x2,i)) (.br (A.not (A.k dI (x2,i)).2.2) (.ret (((A.k dI (x2,i)).1,w.1,w.2.1,w.2.2.1,w.2.2.2.1,(FW A w)),())) (.need (A.k kK (((),(A.k dI (x2,i)).1.2.2.1.2.2.2.2.2.2.2,()),3,i,(A.n aF w.1 i:Node).2.2.1)) (.br (A.k j4 (((),(A.k dI (x2,i)).1.2.2.1.2.2.2.2.2.2.2,()),3,i,(A.n aF w.1 i:Node).2.2.1)) (.ret (((A.k dI (x2,i)).1,w.1,w.2.1,w.2.2.1,w.2.2.2.1,(FW A w)),())) (.need (A.k (@tt ((Int×Int×(Int×Int×Int×Int×Int)×Int×List Int))) (A.k dI (x2,i)).2.1) (.br (A.c .neq (A.k F5 (A.k dI (x2,i)).2.1).2 0) (B7 A x2 w i) (.br (A.c .neq (A.n aJ w.2.2.2.2 0:Seen).1 0) (B7 A x2 w i) (.need (A.k kK (((),(A.k dI (x2,i)).1.2.2.1.2.2.2.2.2.2.2,()),4,i,(A.n aF w.1 i:Node).2.2.1)) (.br (A.k j4 (((),(A.k dI (x2,i)).1.2.2.1.2.2.2.2.2.2.2,()),4,i,(A.n aF w.1 i:Node).2.2.1)) (B7 A x2 w i) (.need (A.k vy (((),(A.k dI (x2,i)).1.2.2.1.2.2.2.2.2.2.2,()),0,(A.n aF w.1 i:Node).2.2.1)) (.br (A.k JA (((),(A.k dI (x2,i)).1.2.2.1.2.2.2.2.2.2.2,()),0,(A.n aF w.1 i:Node).2.2.1)) (B7 A x2 w i) (.br (A.c .neq (A.k F5 (A.k dI (x2,i)).2.1).2 0) (B4 A x2 w i) (.br (A.c .neq (A.n aJ w.2.2.2.2 1:Seen).1 0) (B4 A x2 w i) (.need (A.k kK (((),(A.k dI (x2,i)).1.2.2.1.2.2.2.2.2.2.2,()),4,i,(A.n aF w.1 i:Node).2.2.1)) (.br (A.k j4 (((),(A.k dI (x2,i)).1.2.2.1.2.2.2.2.2.2.2,()),4,i,(A.n aF w.1 i:Node).2.2.1)) (B4 A x2 w i) (.need (A.k vy (((),(A.k dI (x2,i)).1.2.2.1.2.2.2.2.2.2.2,()),1,(A.n aF w.1 i:Node).2.2.1)) (.br (A.k JA (((),(A.k dI (x2,i)).1.2.2.1.2.2.2.2.2.2.2,()),1,(A.n aF w.1 i:Node).2.2.1)) (B4 A x2 w i) (.ret (((A.k dI (x2,i)).1,w.1,w.2.1,w.2.2.1,w.2.2.2.1,([(2,0,(A.k F5 (A.k dI (x2,i)).2.1).1),(2,0,(A.k F5 (A.k dI (x2,i)).2.1).1)]:List Seen)),()))))))))))))))))))))))))
def F3:(a_×df)×Int→(a_×df)×Unit:=fun((x2,w),i)=>(IN ah x2 w i).val (Ty.bl [pL,Ut],Ty.bl [])
def CP:(a_×df)×Int→Bool:=fun((x2,w),i)=>(IN ah x2 w i).pre
def acL:bI:=⟨[.ptr [.d .bool,.d aP,.d f_,.own aF,.own .bool,.d yI,.own eE],.ptr [.own aF,.own .bool,.own .bool,.own .bool,.d (.arr 2 aJ)]], [yI], [],CP,F3,false⟩
theorem ad1:bI.Sound Tryz.prog 116 acL:=bH ar bU true 255 iz (mc afA mz) (pc Kp (pc ado pz)) [] [] (fun A ((x2,w),i)=>IN A x2 w i) (fun _=>Empty.elim) Empty.elim (fc Tryz.func116 fz) (sc ahP (sc rN sz)) (fun _ y=>y.elim) fun(((x2,w),i):(a_×df)×Int) hp hv h=>LT.runs (LT.fX (by kernel_rfl)) hp
abbrev tZ(A:aK)(w:df):=([(A.n aJ w.2.2.2.2 0:Seen),(A.n aJ w.2.2.2.2 1:Seen)]:List Seen)
abbrev o8(A:aK)(x2:a_)(w:df)(i:Int):=(A.k V0 (x2.2.1,(A.n aF x2.2.2.2.1 i:Node),(tZ A w)))
abbrev B_(A:aK)(x2:a_)(i:Int):=(A.and (A.c .leq 0 i) (A.c .lss i (A.l x2.2.2.2.1)))
def IT(A:aK)(x2:a_)(w:df)(i:Int):LT ((a_×df)×Unit) Empty:=.need (B_ A x2 i) (.need (A.k (@tt (ao×Node×List Seen)) (x2.2.1,(A.n aF x2.2.2.2.1 i:Node),(tZ A w))) (.need (A.k (@tt (ao×Node×List Seen)) (x2.2.1,(A.n aF x2.2.2.2.1 i:Node),(tZ A w))) (.need (B_ A x2 i) (.br (A.c .neq (o8 A x2 w i).2.2.2 0) (.ret ((x2,w.1,w.2.1,w.2.2.1,w.2.2.2.1,(tZ A w)),())) (.br (A.not (o8 A x2 w i).2.2.1) (.need (A.k (@tt (ao×Node)) (x2.2.1,(o8 A x2 w i).1)) (.need (A.k (@tt (ao×Node)) (x2.2.1,(o8 A x2 w i).1)) (.need (A.k (@tt (ao×Node)) (x2.2.1,(o8 A x2 w i).1)) (.br (A.c .neq (A.k Fe (x2.2.1,(o8 A x2 w i).1)).2.2.2 0) (.ret ((x2,w.1,w.2.1,w.2.2.1,w.2.2.2.1,(tZ A w)),())) (.need (A.and (A.c .leq 0 i) (A.c .lss i (A.l x2.2.2.2.2.1))) (.need (A.and (A.c .leq 0 i) (A.c .lss i (A.l w.2.2.2.1))) (.need (B_ A x2 i) (.ret (((x2.1,x2.2.1,x2.2.2.1,(A.set x2.2.2.2.1 i (A.k Fe (x2.2.1,(o8 A x2 w i).1)).1),(A.set x2.2.2.2.2.1 i (A.k Fe (x2.2.1,(o8 A x2 w i).1)).2.2.1),x2.2.2.2.2.2),w.1,w.2.1,w.2.2.1,(A.set w.2.2.2.1 i (A.k Fe (x2.2.1,(o8 A x2 w i).1)).2.2.1),(tZ A w)),()))))))))) (.need (B_ A x2 i) (.ret (((x2.1,x2.2.1,x2.2.2.1,(A.set x2.2.2.2.1 i (o8 A x2 w i).1),x2.2.2.2.2),w.1,w.2.1,w.2.2.1,w.2.2.2.1,(tZ A w)),()))))))))
def kZ:(a_×df)×Int→(a_×df)×Unit:=fun((x2,w),i)=>(IT ah x2 w i).val (Ty.bl [pL,Ut],Ty.bl [])
def GJ:(a_×df)×Int→Bool:=fun((x2,w),i)=>(IT ah x2 w i).pre
def aco:bI:=⟨[.ptr [.d .bool,.d aP,.d f_,.own aF,.own .bool,.d yI,.own eE],.kq [.own aF,.own .bool,.own .bool,.own .bool,.d (.arr 2 aJ)]], [yI], [],GJ,kZ,false⟩
theorem acJ:bI.Sound Tryz.prog 193 aco:=bH ar bU true 112 iz mz pz [] [] (fun A ((x2,w),i)=>IT A x2 w i) (fun _=>Empty.elim) Empty.elim (fc Tryz.func193 fz) (sc aeu (sc adv sz)) (fun _ y=>y.elim) fun(((x2,w),i):(a_×df)×Int) hp hv h=>LT.runs (LT.fX (by kernel_rfl)) hp
abbrev ki(A:aK)(w:df):=([(A.n aJ w.2.2.2.2 0:Seen),(A.n aJ w.2.2.2.2 1:Seen)]:List Seen)
abbrev wP(A:aK)(x2:a_)(i:Int):=(A.and (A.c .leq 0 i) (A.c .lss i (A.l x2.2.2.2.1)))
abbrev nY(A:aK)(x2:a_)(i:Int):=(A.n aF x2.2.2.2.1 i:Node)
abbrev Cj(A:aK)(x2:a_)(w:df)(i:Int):LT ((a_×df)×Unit) Empty:=(.br (A.c .eql (A.n aF w.1 i:Node).2.1 1) (.br (A.c .eql (nY A x2 i).2.1 1) (.need (A.k GJ ((x2,w.1,w.2.1,w.2.2.1,w.2.2.2.1,(ki A w)),i)) (.ret (((A.k kZ ((x2,w.1,w.2.1,w.2.2.1,w.2.2.2.1,(ki A w)),i)).1.1,(A.k kZ ((x2,w.1,w.2.1,w.2.2.1,w.2.2.2.1,(ki A w)),i)).1.2.1,(A.k kZ ((x2,w.1,w.2.1,w.2.2.1,w.2.2.2.1,(ki A w)),i)).1.2.2.1,(A.k kZ ((x2,w.1,w.2.1,w.2.2.1,w.2.2.2.1,(ki A w)),i)).1.2.2.2.1,(A.k kZ ((x2,w.1,w.2.1,w.2.2.1,w.2.2.2.1,(ki A w)),i)).1.2.2.2.2.1,([(A.n aJ (A.k kZ ((x2,w.1,w.2.1,w.2.2.1,w.2.2.2.1,(ki A w)),i)).1.2.2.2.2.2 0:Seen),(A.n aJ (A.k kZ ((x2,w.1,w.2.1,w.2.2.1,w.2.2.2.1,(ki A w)),i)).1.2.2.2.2.2 1:Seen)]:List Seen)),()))) (.ret ((x2,w.1,w.2.1,w.2.2.1,w.2.2.2.1,(ki A w)),()))) (.ret ((x2,w.1,w.2.1,w.2.2.1,w.2.2.2.1,(ki A w)),())))
abbrev Fw:=([(0,0,0,([]:List Int)),(0,0,0,([]:List Int))]:List Seen)
def Ih(A:aK)(x2:a_)(w:df)(i:Int):LT ((a_×df)×Unit) Empty:=.need (A.and (A.c .leq 0 i) (A.c .lss i (A.l w.1))) (.need (wP A x2 i) (.need (wP A x2 i) (.need (A.and (A.c .leq 0 i) (A.c .lss i (A.l w.1))) (.need (wP A x2 i) (.need (A.and (A.c .leq 0 i) (A.c .lss i (A.l w.1))) (.need (wP A x2 i) (.need (A.k (@tt Node) (A.n aF w.1 i:Node)) (.br (A.k fv (A.n aF w.1 i:Node)) (.need (A.k (@tt Node) (nY A x2 i)) (.br (A.k fv (nY A x2 i)) (.br (A.c .neq (A.n aF w.1 i:Node).2.2.1.2.1 i) (.need (A.and (A.c .leq 0 i) (A.c .lss i (A.l w.2.1))) (.br (A.not (A.n .bool w.2.1 i:Bool)) (.need (A.k kK (((),x2.2.2.1.2.2.2.2.2.2.2,()),6,i,(nY A x2 i).2.2.1)) (.br (A.k j4 (((),x2.2.2.1.2.2.2.2.2.2.2,()),6,i,(nY A x2 i).2.2.1)) (.need (A.k (@tt (ao×Node×List Seen)) (x2.2.1,(nY A x2 i),(Fw))) (.br (A.c .eql (A.k EX (x2.2.1,(nY A x2 i),(Fw))).2.2 0) (.need (wP A x2 i) (.ret (((x2.1,x2.2.1,x2.2.2.1,(A.set x2.2.2.2.1 i (A.k EX (x2.2.1,(nY A x2 i),(Fw))).1),x2.2.2.2.2),w.1,w.2.1,w.2.2.1,w.2.2.2.1,(ki A w)),()))) (.ret ((x2,w.1,w.2.1,w.2.2.1,w.2.2.2.1,(ki A w)),())))) (.need (A.k (@tt (ao×Node×List Seen)) (x2.2.1,(nY A x2 i),(ki A w))) (.br (A.c .eql (A.k EX (x2.2.1,(nY A x2 i),(ki A w))).2.2 0) (.need (wP A x2 i) (.ret (((x2.1,x2.2.1,x2.2.2.1,(A.set x2.2.2.2.1 i (A.k EX (x2.2.1,(nY A x2 i),(ki A w))).1),x2.2.2.2.2),w.1,w.2.1,w.2.2.1,w.2.2.2.1,(ki A w)),()))) (.ret ((x2,w.1,w.2.1,w.2.2.1,w.2.2.2.1,(ki A w)),())))))) (Cj A x2 w i))) (Cj A x2 w i)) (Cj A x2 w i))) (Cj A x2 w i)))))))))
def BS:(a_×df)×Int→(a_×df)×Unit:=fun((x2,w),i)=>(Ih ah x2 w i).val (Ty.bl [pL,Ut],Ty.bl [])
def vM:(a_×df)×Int→Bool:=fun((x2,w),i)=>(Ih ah x2 w i).pre
def afm:bI:=⟨[.ptr [.d .bool,.d aP,.d f_,.own aF,.own .bool,.d yI,.own eE],.kq [.own aF,.own .bool,.own .bool,.own .bool,.d (.arr 2 aJ)]], [yI], [],vM,BS,false⟩
theorem adX:bI.Sound Tryz.prog 117 afm:=bH ar bU true 118 iz (mc acJ mz) (pc Kp pz) [] [] (fun A ((x2,w),i)=>Ih A x2 w i) (fun _=>Empty.elim) Empty.elim (fc Tryz.func117 fz) (sc rN (sc acu sz)) (fun _ y=>y.elim) fun(((x2,w),i):(a_×df)×Int) hp hv h=>LT.runs (LT.fX (by kernel_rfl)) hp
structure GY where
 (a0:Int) (a2:Bool) (a3:ao) (a4:gJ) (a5 a6 a7 a8:Int) (a9:List Int) (cX dN a12:Int) (kp:List Int) (gK:List Node) (jh:List Bool) (a16:List iT) (a17:List Node) (je l_ a20:List Bool)
structure Eb where
 (b0:Int) (b2:Bool) (b3:ao) (b4:gJ) (b5 b6 b7 b8:Int) (b9:List Int) (b10 b11 b12:Int) (b13:List Int) (jN:cv) (iX:List iT) (my:List Node) (jO mm yP:List Bool)
inductive IX where
 | c0 (p:GY) (a1:Int)
 | c1 (p:Eb) (b1:Int) (fT:List Node) (cY:List Bool)
noncomputable def Z5:IX→eF
 | .c0 p a1=>⟨[⟨194,19,(en [(0,.own 2),(1,.fn 195 [] [.ptr 3 0]),(7,vi p.a0),(8,vi a1)]),[.inLoop (cw Tryz.f194 [1,0,1,0,0]),.inBlock 0,.code (cw Tryz.f194 [1,1])],[],none⟩,⟨118,93,(en [(0,.ptr 0 0),(3,.ptr 3 0)]),[.ops (ow Tryz.f118 [1,0]) ((ow Tryz.f118 [1,0]).toList.drop 5),.code (cw Tryz.f118 [1,1])],[],none⟩],[.flat false ([vb p.a2]++dc aP p.a3++dc f_ p.a4 ++ [.own 2,.own 4,vi p.a5,.own 5]),.flat true [.own 6,.own 7,.own 8,.own 9,vi p.a6,vi p.a7,vi p.a8,.sl yU p.a9,vi p.cX,vi p.dN,vi p.a12,.sl yU p.kp],.arr false aF p.gK,.flat false [.ptr 1 0],.arr false .bool p.jh,.arr false eE p.a16,.arr false aF p.a17,.arr false .bool p.je,.arr false .bool p.l_,.arr false .bool p.a20,.dead]⟩
 | .c1 p b1 fT cY=>⟨[⟨118,93,(en [(0,.ptr 0 0),(5,.ptr 2 0),(31,.own 3),(32,vi p.b0),(33,vi b1)]),[.inLoop (cw Tryz.f118 [1,1,1,1,1,0,0]),.inBlock 0],[],none⟩],[.flat false ([vb p.b2]++dc aP p.b3++dc f_ p.b4 ++ [.own 3,.own 4,vi p.b5,.own 5]),.flat true [.own 6,.own 7,.own 8,.own 9,vi p.b6,vi p.b7,vi p.b8,.sl yU p.b9,vi p.b10,vi p.b11,vi p.b12,.sl yU p.b13],.flat false (dc kj p.jN),.arr false aF fT,.arr false .bool cY,.arr false eE p.iX,.arr false aF p.my,.arr false .bool p.jO,.arr false .bool p.mm,.arr false .bool p.yP,.dead]⟩
def adq(A:aK)(x2:a_)(w:df):LT ((a_×df)×Unit) IX:=.more (.c0 ⟨(A.l x2.2.2.2.1),x2.1,x2.2.1,x2.2.2.1,x2.2.2.2.2.2.1,(A.n aJ w.2.2.2.2 0:Seen).1,(A.n aJ w.2.2.2.2 0:Seen).2.1,(A.n aJ w.2.2.2.2 0:Seen).2.2.1,(A.n aJ w.2.2.2.2 0:Seen).2.2.2,(A.n aJ w.2.2.2.2 1:Seen).1,(A.n aJ w.2.2.2.2 1:Seen).2.1,(A.n aJ w.2.2.2.2 1:Seen).2.2.1,(A.n aJ w.2.2.2.2 1:Seen).2.2.2,x2.2.2.2.1,x2.2.2.2.2.1,x2.2.2.2.2.2.2,w.1,w.2.1,w.2.2.1,w.2.2.2.1⟩ 0)
abbrev Kt(p:GY):LT ((a_×df)×Unit) IX:=(.ret (((p.a2,p.a3,p.a4,p.gK,p.jh,p.a5,p.a16),p.a17,p.je,p.l_,p.a20,([(p.a6,p.a7,p.a8,p.a9),(p.cX,p.dN,p.a12,p.kp)]:List Seen)),()))
abbrev nt(A:aK)(p:Eb)(b1:Int)(fT:List Node)(cY:List Bool):LT ((a_×df)×Unit) IX:=(.more (.c1 p (A.b .add .i64 b1 1) fT cY))
abbrev xH(A:aK)(p:Eb)(b1:Int)(fT:List Node)(cY:List Bool):LT ((a_×df)×Unit) IX:=(.need (A.k (@tt (ao×Node×Bool)) (p.b3,(A.n aF fT b1:Node),(A.k j4 (((),p.b4.2.2.2.2.2.2.2,()),2,b1,p.jN)))) (.need (A.k (@tt (ao×Node×Bool)) (p.b3,(A.n aF fT b1:Node),(A.k j4 (((),p.b4.2.2.2.2.2.2.2,()),2,b1,p.jN)))) (.br (A.c .eql (A.k uX (p.b3,(A.n aF fT b1:Node),(A.k j4 (((),p.b4.2.2.2.2.2.2.2,()),2,b1,p.jN)))).2 0) (.need (A.and (A.c .leq 0 b1) (A.c .lss b1 (A.l fT))) (.need (A.and (A.c .leq 0 b1) (A.c .lss b1 (A.l cY))) (.more (.c1 p (A.b .add .i64 b1 1) (A.set fT b1 (A.k uX (p.b3,(A.n aF fT b1:Node),(A.k j4 (((),p.b4.2.2.2.2.2.2.2,()),2,b1,p.jN)))).1) (A.set cY b1 false))))) (nt A p b1 fT cY))))
def Au(A:aK):IX→LT ((a_×df)×Unit) IX
 | .c0 p a1=>.br (A.c .lss a1 p.a0) (.need (A.and (A.c .leq 0 a1) (A.c .lss a1 (A.l p.gK))) (.br (A.c .eql (A.n aF p.gK a1:Node).2.1 4) (.need (A.and (A.c .leq 0 (A.n aF p.gK a1:Node).1) (A.c .lss (A.n aF p.gK a1:Node).1 (A.l p.a17))) (.br (A.c .eql (A.n aF p.a17 (A.n aF p.gK a1:Node).1:Node).2.1 4) (.br (A.c .lss a1 0) (Kt p) (.need (A.and (A.c .leq 0 a1) (A.c .lss a1 (A.l p.a17))) (.more (.c1 ⟨(A.l p.gK),p.a2,p.a3,p.a4,p.a5,p.a6,p.a7,p.a8,p.a9,p.cX,p.dN,p.a12,p.kp,(A.n aF p.a17 a1:Node).2.2.1,p.a16,p.a17,p.je,p.l_,p.a20⟩ 0 p.gK p.jh)))) (.more (.c0 p (A.b .add .i64 a1 1))))) (.more (.c0 p (A.b .add .i64 a1 1))))) (Kt p)
 | .c1 p b1 fT cY=>.br (A.c .lss b1 p.b0) (.need (A.and (A.c .leq 0 b1) (A.c .lss b1 (A.l fT))) (.br (A.c .eql (A.n aF fT b1:Node).2.1 0) (.need (A.k kK (((),p.b4.2.2.2.2.2.2.2,()),2,b1,p.jN)) (.br (A.c .neq (A.n aF fT b1:Node).2.1 0) (.need (A.k (@tt Node) (A.n aF fT b1:Node)) (.br (A.not (A.k fv (A.n aF fT b1:Node))) (.need (A.k kK (((),p.b4.2.2.2.2.2.2.2,()),1,b1,p.jN)) (.br (A.not (A.k j4 (((),p.b4.2.2.2.2.2.2.2,()),2,b1,p.jN))) (.br (A.not (A.k j4 (((),p.b4.2.2.2.2.2.2.2,()),1,b1,p.jN))) (nt A p b1 fT cY) (xH A p b1 fT cY)) (xH A p b1 fT cY))) (.br (A.not (A.k j4 (((),p.b4.2.2.2.2.2.2.2,()),2,b1,p.jN))) (nt A p b1 fT cY) (xH A p b1 fT cY)))) (.br (A.not (A.k j4 (((),p.b4.2.2.2.2.2.2.2,()),2,b1,p.jN))) (nt A p b1 fT cY) (xH A p b1 fT cY)))) (.br (A.c .neq (A.n aF fT b1:Node).2.1 0) (.need (A.k (@tt Node) (A.n aF fT b1:Node)) (.br (A.not (A.k fv (A.n aF fT b1:Node))) (.need (A.k kK (((),p.b4.2.2.2.2.2.2.2,()),1,b1,p.jN)) (.br (A.not (A.k j4 (((),p.b4.2.2.2.2.2.2.2,()),1,b1,p.jN))) (nt A p b1 fT cY) (.need (A.k (@tt (ao×Node×Bool)) (p.b3,(A.n aF fT b1:Node),false)) (.need (A.k (@tt (ao×Node×Bool)) (p.b3,(A.n aF fT b1:Node),false)) (.br (A.c .eql (A.k uX (p.b3,(A.n aF fT b1:Node),false)).2 0) (.need (A.and (A.c .leq 0 b1) (A.c .lss b1 (A.l fT))) (.need (A.and (A.c .leq 0 b1) (A.c .lss b1 (A.l cY))) (.more (.c1 p (A.b .add .i64 b1 1) (A.set fT b1 (A.k uX (p.b3,(A.n aF fT b1:Node),false)).1) (A.set cY b1 false))))) (nt A p b1 fT cY)))))) (nt A p b1 fT cY))) (nt A p b1 fT cY)))) (.ret (((p.b2,p.b3,p.b4,fT,cY,p.b5,p.iX),p.my,p.jO,p.mm,p.yP,([(p.b6,p.b7,p.b8,p.b9),(p.b10,p.b11,p.b12,p.b13)]:List Seen)),()))
def ou{α:Type}(f:Int→α→α):Nat→Nat→α→α
 | 0,_,s=>s
 | k+1,i,s=>ou f k (i+1) (f (i:Int) s)
def L5(l was:List Node):Nat→Nat→Option Nat
 | 0,_=>none
 | k+1,i=>bif decide ((iL l (i:Int)).2.1=4)&&decide ((iL was (iL l (i:Int)).1).2.1=4) then some i else L5 l was k (i+1)
def uy(m:ao)(F:List cd)(c:cv)(i:Int)(s:List Node×List Bool):List Node×List Bool:=
 bif (decide ((iL s.1 i).2.1=0)&&lb F 2 i c)||(!(decide ((iL s.1 i).2.1=0))&&(!(jK (iL s.1 i))&&lb F 1 i c)) then
  bif decide ((lX m (iL s.1 i) (decide ((iL s.1 i).2.1=0))).2=0) then(ah.set s.1 i (lX m (iL s.1 i) (decide ((iL s.1 i).2.1=0))).1,ah.set s.2 i false) else s
 else s
def yY(x:a_)(w:df):a_×df:=
 match L5 x.2.2.2.1 w.1 x.2.2.2.1.length 0 with
 | none=>(x,oH w)
 | some k=>((x.1,x.2.1,x.2.2.1,(ou (uy x.2.1 (Dj x) (iL w.1 (k:Int)).2.2.1) x.2.2.2.1.length 0 (x.2.2.2.1,x.2.2.2.2.1)).1,(ou (uy x.2.1 (Dj x) (iL w.1 (k:Int)).2.2.1) x.2.2.2.1.length 0 (x.2.2.2.1,x.2.2.2.2.1)).2,x.2.2.2.2.2),oH w)
def On(l:List Node):Bool:=l.all fun n=>decide (0≤n.1∧n.1<(l.length:Int))
theorem xJ{m:ao}{F:List cd}{c:cv}{i:Int}{s:List Node×List Bool}:(uy m F c i s).1.length=s.1.length∧(uy m F c i s).2.length=s.2.length:=by
 unfold uy
 cases ((decide ((iL s.1 i).2.1=0)&&lb F 2 i c)||(!(decide ((iL s.1 i).2.1=0))&&(!(jK (iL s.1 i))&&lb F 1 i c)))
 ·exact⟨rfl,rfl⟩
 ·cases decide ((lX m (iL s.1 i) (decide ((iL s.1 i).2.1=0))).2=0)
  ·exact⟨rfl,rfl⟩
  ·exact⟨List.length_set ..,List.length_set ..⟩
theorem PG{p:Eb}{m:ao}{F:List cd}{c:cv}{N:Nat}(h0:p.b0=(N:Int))(hm:p.b3=m)(hF:p.b4.2.2.2.2.2.2.2=F)(hc:p.jN=c)(hf:F.length≤1000000)(hN:N≤1000) :
  ∀(j k:Nat) (s:List Node×List Bool),N-k=j→k≤N→s.1.length=N→s.2.length=N→aB (Au ah) (.more (.c1 p (k:Int) s.1 s.2)) (((p.b2,p.b3,p.b4,(ou (uy m F c) j k s).1,(ou (uy m F c) j k s).2,p.b5,p.iX),p.my,p.jO,p.mm,p.yP, [(p.b6,p.b7,p.b8,p.b9),(p.b10,p.b11,p.b12,p.b13)]),()):=by
 intro j
 induction j with
 | zero=>
   intro k s hj hk l1 l2
   have:k=N:=by omega
   subst this
   rw[ak,Au,h0]
   exact(ai (by rw[al];simp)).2 (.ret _)
 | succ j ih=>
   intro k s hj hk l1 l2
   have hk':k<N:=by omega
   rw[ak,Au,h0,hm,hF,hc]
   have i1:=aS (l:=s.1) (i:=k) (by omega)
   have i2:=aS (l:=s.2) (i:=k) (by omega)
   refine(aj (by rw[al];exact decide_eq_true (by omega))).2 (af.2 ⟨i1,?_⟩)
   rw[cu (i:=k) (by omega),ou]
   have e:∀(b:Bool),ah.k uX (m,(iL s.1 (k:Int)),b)=lX m (iL s.1 (k:Int)) b:=fun _=>rfl
   have e2:∀q:Int,ah.k j4 (((),F,()),q,(k:Int),c)=lb F q (k:Int) c:=fun _=>rfl
   rw[show ah.k fv (iL s.1 (k:Int))=jK (iL s.1 (k:Int)) from rfl,e,e,e2,e2]
   have hs:=xJ (m:=m) (F:=F) (c:=c) (i:=(k:Int)) (s:=s)
   have keep:uy m F c (k:Int) s=s→aB (Au ah) (.more (.c1 p ((k+1:Nat):Int) s.1 s.2)) (((p.b2,m,p.b4,(ou (uy m F c) j (k+1) (uy m F c (k:Int) s)).1,(ou (uy m F c) j (k+1) (uy m F c (k:Int) s)).2,p.b5,p.iX),p.my,p.jO,p.mm,p.yP, [(p.b6,p.b7,p.b8,p.b9),(p.b10,p.b11,p.b12,p.b13)]),()):=fun h=>by
    have nx:=ih (k+1) s (by omega) (by omega) l1 l2
    rw[hm] at nx
    rw[h];exact nx
   have go:∀b:Bool,(decide ((iL s.1 (k:Int)).2.1=0))=b→((decide ((iL s.1 (k:Int)).2.1=0)&&lb F 2 (k:Int) c)||(!(decide ((iL s.1 (k:Int)).2.1=0))&&(!(jK (iL s.1 (k:Int)))&&lb F 1 (k:Int) c)))=true→
     aB (Au ah) (.need (ah.k (@tt (ao×Node×Bool)) (m,(iL s.1 (k:Int)),b)) (.need (ah.k (@tt (ao×Node×Bool)) (m,(iL s.1 (k:Int)),b)) (.br (ah.c .eql (lX m (iL s.1 (k:Int)) b).2 0)
      (.need (ah.and (ah.c .leq 0 (k:Int)) (ah.c .lss (k:Int) (ah.l s.1))) (.need (ah.and (ah.c .leq 0 (k:Int)) (ah.c .lss (k:Int) (ah.l s.2))) (.more (.c1 p ((k+1:Nat):Int) (ah.set s.1 (k:Int) (lX m (iL s.1 (k:Int)) b).1) (ah.set s.2 (k:Int) false)))))
      (.more (.c1 p ((k+1:Nat):Int) s.1 s.2))))) (((p.b2,m,p.b4,(ou (uy m F c) j (k+1) (uy m F c (k:Int) s)).1,(ou (uy m F c) j (k+1) (uy m F c (k:Int) s)).2,p.b5,p.iX),p.my,p.jO,p.mm,p.yP, [(p.b6,p.b7,p.b8,p.b9),(p.b10,p.b11,p.b12,p.b13)]),()):=fun b hb ht=>by
    refine af.2 ⟨rfl,af.2 ⟨rfl,aA (p:=(lX m (iL s.1 (k:Int)) b).2=0) aO (fun g=>af.2 ⟨i1,af.2 ⟨i2,?_⟩⟩) fun g=>keep ?_⟩⟩
    ·have hx:uy m F c (k:Int) s=(ah.set s.1 (k:Int) (lX m (iL s.1 (k:Int)) b).1,ah.set s.2 (k:Int) false):=by
      rw[uy,ht,cond_true,hb,decide_eq_true g,cond_true]
     rw[hx] at hs ⊢
     have nx:=ih (k+1) (ah.set s.1 (k:Int) (lX m (iL s.1 (k:Int)) b).1,ah.set s.2 (k:Int) false) (by omega) (by omega) (hs.1.trans l1) (hs.2.trans l2)
     rw[hm] at nx
     exact nx
    ·rw[uy,ht,cond_true,hb,decide_eq_false g,cond_false]
   refine aA (p:=(iL s.1 (k:Int)).2.1=0) aO (fun g0=>af.2 ⟨uH hf,aA (p:=¬(iL s.1 (k:Int)).2.1=0) aT (fun g=>absurd g0 g) fun _=>?_⟩) fun g0=>aA (p:=¬(iL s.1 (k:Int)).2.1=0) aT (fun _=>af.2 ⟨rfl,?_⟩) fun g=>absurd g0 g
   ·cases hg:lb F 2 (k:Int) c
    ·exact(aj rfl).2 (keep (by rw[uy,hg,decide_eq_true g0];rfl))
    ·exact(ai rfl).2 (go true (decide_eq_true g0) (by rw[hg,decide_eq_true g0];rfl))
   ·cases hi:jK (iL s.1 (k:Int))
    ·refine(aj rfl).2 (af.2 ⟨uH hf,?_⟩)
     cases hg:lb F 1 (k:Int) c
     ·exact(aj rfl).2 (keep (by rw[uy,hg,hi,decide_eq_false g0];rfl))
     ·exact(ai rfl).2 (go false (decide_eq_false g0) (by rw[hg,hi,decide_eq_false g0];rfl))
    ·exact(ai rfl).2 (keep (by rw[uy,hi,decide_eq_false g0];rfl))
theorem MW{p:GY}{x:a_}{w:df}(hp:p=⟨(x.2.2.2.1.length:Int),x.1,x.2.1,x.2.2.1,x.2.2.2.2.2.1,(ah.n aJ w.2.2.2.2 0:Seen).1,(ah.n aJ w.2.2.2.2 0:Seen).2.1,(ah.n aJ w.2.2.2.2 0:Seen).2.2.1,(ah.n aJ w.2.2.2.2 0:Seen).2.2.2,(ah.n aJ w.2.2.2.2 1:Seen).1,(ah.n aJ w.2.2.2.2 1:Seen).2.1,(ah.n aJ w.2.2.2.2 1:Seen).2.2.1,(ah.n aJ w.2.2.2.2 1:Seen).2.2.2,x.2.2.2.1,x.2.2.2.2.1,x.2.2.2.2.2.2,w.1,w.2.1,w.2.2.1,w.2.2.2.1⟩)
  (h:EV x w) (hid:On x.2.2.2.1=true):∀(j k:Nat),x.2.2.2.1.length-k=j→k≤x.2.2.2.1.length→
    aB (Au ah) (.more (.c0 p (k:Int))) ((match L5 x.2.2.2.1 w.1 j k with
     | none=>(x,oH w)
     | some k=>((x.1,x.2.1,x.2.2.1,(ou (uy x.2.1 (Dj x) (iL w.1 (k:Int)).2.2.1) x.2.2.2.1.length 0 (x.2.2.2.1,x.2.2.2.2.1)).1,(ou (uy x.2.1 (Dj x) (iL w.1 (k:Int)).2.2.1) x.2.2.2.1.length 0 (x.2.2.2.1,x.2.2.2.2.1)).2,x.2.2.2.2.2),oH w)),()):=by
 subst hp
 obtain⟨z1,z2,z3,z4,z5,z6,z7,z8,z9⟩:=h
 intro j
 induction j with
 | zero=>
   intro k hj hk
   have:k=x.2.2.2.1.length:=by omega
   subst this
   rw[ak,Au,L5]
   exact(ai (by rw[al];simp)).2 (.ret _)
 | succ j ih=>
   intro k hj hk
   have hk':k<x.2.2.2.1.length:=by omega
   rw[ak,Au,L5]
   have e0:(iL x.2.2.2.1 (k:Int))=x.2.2.2.1[k]:=getD_in hk' _
   have hin:0≤(iL x.2.2.2.1 (k:Int)).1∧(iL x.2.2.2.1 (k:Int)).1<(w.1.length:Int):=by
    rw[e0,z2]
    exact of_decide_eq_true (List.all_eq_true.1 hid _ (List.getElem_mem hk'))
   refine(aj (by rw[al];exact decide_eq_true (by simp only;omega))).2 (af.2 ⟨aS hk',?_⟩)
   rw[cu (i:=k) (by omega)]
   have nx:=ih (k+1) (by omega) (by omega)
   refine aA (p:=(iL x.2.2.2.1 (k:Int)).2.1=4) aO (fun g1=>af.2 ⟨dQ hin,?_⟩) fun g=>by rw[decide_eq_false g];exact nx
   refine aA (p:=(iL w.1 (iL x.2.2.2.1 (k:Int)).1).2.1=4) aO (fun g2=>?_) fun g=>by rw[decide_eq_false g,decide_eq_true g1];exact nx
   rw[decide_eq_true g1,decide_eq_true g2]
   refine(ai (by rw[al];simp)).2 (af.2 ⟨aS (l:=w.1) (by omega),?_⟩)
   exact PG (m:=x.2.1) (F:=Dj x) (c:=(iL w.1 (k:Int)).2.2.1) (N:=x.2.2.2.1.length) rfl rfl rfl rfl z6 z9 _ 0 (x.2.2.2.1,x.2.2.2.2.1) rfl (by omega) rfl z1
theorem Yy{x:a_}{w:df}(h:EV x w)(hid:On x.2.2.2.1=true):aB (Au ah) (adq ah x w) (yY x w,()):=
 MW rfl h hid _ 0 rfl (by omega)
def J5:(a_×df)×Unit→(a_×df)×Unit:=fun((x,w),_)=>(yY x w,())
def vP:(a_×df)×Unit→Bool:=fun((x,w),_)=>decide (EV x w)&&On x.2.2.2.1
def abr:bI:=⟨[.ptr [.d .bool,.d aP,.d f_,.own aF,.own .bool,.d yI,.own eE],.kq [.own aF,.own .bool,.own .bool,.own .bool,.d (.arr 2 aJ)]], [], [],vP,J5,false⟩
theorem acS:bI.Sound Tryz.prog 118 abr:=bH ar bU true 31 iz mz (pc Kp pz) [⟨118,5, [[0,5,31,32,33]]⟩,⟨194,2, [[0,1,7,8], [0,3]]⟩] [] (fun A ((x2,w),())=>adq A x2 w) Au Z5 (fc Tryz.func118 (fc Tryz.func194 (fc Tryz.func195 fz))) (sc rN (sc VD sz)) (fun A y=>match y with |.c0 p a1=>⟨95,by kernel_rfl,by kernel_rfl⟩|.c1 p b1 fT cY=>⟨114,by kernel_rfl,by kernel_rfl⟩) fun(((x2,w),()):(a_×df)×Unit) hp hv h=>Yy (of_decide_eq_true ((Bool.and_eq_true _ _).mp hp).1) ((Bool.and_eq_true _ _).mp hp).2
abbrev qm(A:aK)(x2:a_)(i:Int):=(A.k Wn (x2.2.1,(A.n aF x2.2.2.2.1 i:Node)))
abbrev EI(A:aK)(w:df):=([(A.n aJ w.2.2.2.2 0:Seen),(A.n aJ w.2.2.2.2 1:Seen)]:List Seen)
abbrev Bs(A:aK)(x2:a_)(i:Int):=(A.and (A.c .leq 0 i) (A.c .lss i (A.l x2.2.2.2.1)))
abbrev Fz(A:aK)(x2:a_)(w:df):LT ((a_×df)×Unit) Empty:=(.ret ((x2,w.1,w.2.1,w.2.2.1,w.2.2.2.1,(EI A w)),()))
def HE(A:aK)(x2:a_)(w:df)(i:Int):LT ((a_×df)×Unit) Empty:=.need (A.and (A.c .leq 0 i) (A.c .lss i (A.l w.2.2.2.1))) (.br (A.n .bool w.2.2.2.1 i:Bool) (Fz A x2 w) (.need (Bs A x2 i) (.need (A.k (@tt Node) (A.n aF x2.2.2.2.1 i:Node)) (.br (A.not (A.k fv (A.n aF x2.2.2.2.1 i:Node))) (Fz A x2 w) (.need (Bs A x2 i) (.need (A.k (@tt (ao×Node)) (x2.2.1,(A.n aF x2.2.2.2.1 i:Node))) (.need (A.k (@tt (ao×Node)) (x2.2.1,(A.n aF x2.2.2.2.1 i:Node))) (.need (Bs A x2 i) (.br (A.c .neq (qm A x2 i).2 0) (Fz A x2 w) (.need (Bs A x2 i) (.br (A.c .eql (qm A x2 i).1.2.2.1.2.1 0) (.need (A.k vk (qm A x2 i).1) (.need (A.c .leq (A.l (A.p x2.2.2.2.2.2.2 ([((qm A x2 i).1.2.2.1.1,(A.k pU (qm A x2 i).1))]:List iT))) 651562446089) (.ret (((x2.1,x2.2.1,x2.2.2.1,(A.set x2.2.2.2.1 i (qm A x2 i).1),x2.2.2.2.2.1,x2.2.2.2.2.2.1,(A.p x2.2.2.2.2.2.2 ([((qm A x2 i).1.2.2.1.1,(A.k pU (qm A x2 i).1))]:List iT))),w.1,w.2.1,w.2.2.1,w.2.2.2.1,(EI A w)),())))) (.ret (((x2.1,x2.2.1,x2.2.2.1,(A.set x2.2.2.2.1 i (qm A x2 i).1),x2.2.2.2.2),w.1,w.2.1,w.2.2.1,w.2.2.2.1,(EI A w)),())))))))))))))
def FP:(a_×df)×Int→(a_×df)×Unit:=fun((x2,w),i)=>(HE ah x2 w i).val (Ty.bl [pL,Ut],Ty.bl [])
def Ei:(a_×df)×Int→Bool:=fun((x2,w),i)=>(HE ah x2 w i).pre
def ae6:bI:=⟨[.ptr [.d .bool,.d aP,.d f_,.own aF,.own .bool,.d yI,.own eE],.kq [.own aF,.own .bool,.own .bool,.own .bool,.d (.arr 2 aJ)]], [yI], [],Ei,FP,false⟩
theorem aeU:bI.Sound Tryz.prog 119 ae6:=bH ar bU true 96 iz mz pz [] [] (fun A ((x2,w),i)=>HE A x2 w i) (fun _=>Empty.elim) Empty.elim (fc Tryz.func119 fz) (sc rN (sc acz (sc QT sz))) (fun _ y=>y.elim) fun(((x2,w),i):(a_×df)×Int) hp hv h=>LT.runs (LT.fX (by kernel_rfl)) hp
def jQ(m:ao)(l:List Node):Prop:=∀(i:Nat) (n:Node),l[i]? = some n→bi m n=0∧n.1=(i:Int)
theorem zd{m:ao}{l:List Node}(h:jQ m l){i:Int}(hi:0≤i∧i<(l.length:Int)):bi m (iL l i)=0∧(iL l i).1=i:=by
 obtain⟨k,rfl⟩:=Int.eq_ofNat_of_zero_le hi.1
 have hk:k<l.length:=by omega
 rw[show iL l (k:Int)=l[k] from getD_in hk _]
 exact h k _ (List.getElem?_eq_getElem hk)
theorem JP{m:ao}{l:List Node}(h:jQ m l){i:Int}(hi:0≤i){n:Node}(hn:bi m n=0∧n.1=i):jQ m (ah.set l i n):=by
 obtain⟨k,rfl⟩:=Int.eq_ofNat_of_zero_le hi
 intro j n' hj
 rw[xP,Int.toNat_natCast,List.getElem?_set] at hj
 split at hj
 ·rename_i e
  split at hj
  ·cases hj;exact⟨hn.1,by omega⟩
  ·cases hj
 ·exact h j n' hj
theorem fR{α:Type}{l:List α}{i:Int}{v:α}:(ah.set l i v).length=l.length:=List.length_set ..
def Cg(x:a_):Prop:=∀s∈x.2.2.2.2.2.2,bi x.2.1 s.2=0
structure iO(k:Nat)(x x':a_):Prop where
 made:x'.1=x.1
 m:x'.2.1=x.2.1
 s:x'.2.2.1=x.2.2.1
 len:x'.2.2.2.1.length=x.2.2.2.1.length
 aW:x'.2.2.2.2.1.length=x.2.2.2.2.1.length
 slot:x'.2.2.2.2.2.1=x.2.2.2.2.2.1
 ui:x'.2.2.2.2.2.2.length≤x.2.2.2.2.2.2.length+k
 IF:jQ x.2.1 x.2.2.2.1→jQ x.2.1 x'.2.2.2.1
 QA:jQ x.2.1 x.2.2.2.1→Cg x→∀s∈x'.2.2.2.2.2.2,bi x.2.1 s.2=0
structure lG(w w':df):Prop where
 was:w'.1=w.1
 aW:w'.2.1=w.2.1
 off:w'.2.2.1.length=w.2.2.1.length
 later:w'.2.2.2.1.length=w.2.2.2.1.length
theorem iO.refl{x:a_}{k:Nat}:iO k x x:=⟨rfl,rfl,rfl,rfl,rfl,rfl,Nat.le_add_right _ _,fun h=>h,fun _ h=>h⟩
theorem iO.trans{j k:Nat}{x y z:a_}(h1:iO j x y)(h2:iO k y z):iO (j+k) x z:=
 ⟨h2.made.trans h1.made,h2.m.trans h1.m,h2.s.trans h1.s,h2.len.trans h1.len,h2.aW.trans h1.aW,h2.slot.trans h1.slot,by have:=h1.ui;have:=h2.ui;omega,fun h=>by rw[←h1.m];exact h2.IF (by rw[h1.m];exact h1.IF h),fun h k=>by rw[←h1.m];exact h2.QA (by rw[h1.m];exact h1.IF h) (by rw[Cg,h1.m];exact h1.QA h k)⟩
theorem lG.refl{w:df}:lG w w:=⟨rfl,rfl,rfl,rfl⟩
theorem lG.th{w w':df}(h:lG (oH w) w'):lG w w':=⟨h.was,h.aW,h.off,h.later⟩
theorem lG.trans{a b c:df}(h1:lG a b)(h2:lG b c):lG a c:=⟨h2.was.trans h1.was,h2.aW.trans h1.aW,h2.off.trans h1.off,h2.later.trans h1.later⟩
theorem iO.nodes{x:a_}{l:List Node}{c:List Bool}{k:Nat}(hl:l.length=x.2.2.2.1.length)(hc:c.length=x.2.2.2.2.1.length)(h:jQ x.2.1 x.2.2.2.1→jQ x.2.1 l):iO k x (x.1,x.2.1,x.2.2.1,l,c,x.2.2.2.2.2):=
 ⟨rfl,rfl,rfl,hl,hc,rfl,Nat.le_add_right _ _,h,fun _ h=>h⟩
theorem iO.set{x:a_}{i:Int}{n:Node}{c:List Bool}{k:Nat}(hi:0≤i∧i<(x.2.2.2.1.length:Int))(hc:c.length=x.2.2.2.2.1.length)(h:bi x.2.1 (iL x.2.2.2.1 i)=0→bi x.2.1 n=0∧n.1=(iL x.2.2.2.1 i).1):iO k x (x.1,x.2.1,x.2.2.1,ah.set x.2.2.2.1 i n,c,x.2.2.2.2.2):=
 iO.nodes fR hc fun hn=>by
  obtain⟨a,b⟩:=zd hn hi
  exact JP hn hi.1 ⟨(h a).1,(h a).2.trans b⟩
theorem GF{n:Int}(h:n=0)(k:(n==0)=false:=by decide):False:=by subst h;cases k
theorem Nk{m:ao}{n:Node}{on:Bool}(h:(lX m n on).2=0):(lX m n on).1.1=n.1:=by
 unfold lX at h ⊢
 by_cases h0:bi m n=0
 ·rw[decide_eq_true h0,cond_true] at h ⊢
  cases on
  ·unfold jD at h ⊢
   cases hm:dh m
   ·rw[hm] at h;exact(GF (n:=70) h).elim
   ·rw[hm] at h
    cases hd:decide (0≤n.1∧n.1≤m.1-1)
    ·rw[hd] at h;exact(GF (n:=2) h).elim
    ·rfl
  ·cases hd:decide (n.2.1=0)
   ·rw[hd] at h;exact(GF (n:=181) h).elim
   ·rfl
 ·rw[decide_eq_false h0] at h;exact absurd h h0
theorem D_{n:Node}{r:cJ×Int}(h:(zJ n r).2=0):(zJ n r).1.1=n.1:=by
 unfold zJ at h ⊢
 by_cases h0:r.2=0
 ·rw[decide_eq_true h0];rfl
 ·rw[decide_eq_false h0] at h;exact absurd h h0
theorem Xr{m:ao}{n:Node}{o:bg}(h:(sC m n o).2=0):(sC m n o).1.1=n.1:=by
 unfold sC at h ⊢
 by_cases h0:bi m n=0
 ·rw[decide_eq_true h0,cond_true] at h ⊢
  cases hd:decide (1≤o.2.2.2.1∧o.2.2.2.1≤3)
  ·rw[hd] at h;exact(GF (n:=2) h).elim
  rw[hd,cond_true] at h
  rw[cond_true]
  cases hi:jK n
  ·rfl
  rw[hi,cond_true] at h
  rw[cond_true]
  cases h1:decide (o.2.2.2.1=1)
  ·rw[h1,cond_false] at h
   rw[cond_false]
   cases h2:decide (o.2.2.2.1=2)
   ·rw[h2,cond_false] at h;exact D_ h
   ·rw[h2,cond_true] at h;exact D_ h
  ·rw[h1,cond_true] at h;exact D_ h
 ·rw[decide_eq_false h0] at h;exact absurd h h0
theorem XQ{m:ao}{n:Node}(h:(Av m n).2=0):(Av m n).1.1=n.1:=by
 unfold Av at h ⊢
 by_cases h0:bi m n=0
 ·rw[decide_eq_true h0,cond_true] at h ⊢
  cases hi:jK n
  ·rw[hi] at h;exact(GF (n:=181) h).elim
  ·rw[cond_true];cases decide ((kt n.2.2.1 m.1).1.2.1=0)<;>rfl
 ·rw[decide_eq_false h0] at h;exact absurd h h0
theorem WW{m:ao}{n:Node}(h:(zp m n).2.2.2=0):(zp m n).1.1=n.1:=by
 unfold zp at h ⊢
 by_cases h0:bi m n=0
 ·rw[decide_eq_true h0,cond_true] at h ⊢
  cases hd:decide (n.2.1=1)
  ·rw[hd] at h;exact(GF (n:=181) h).elim
  ·rw[cond_true]
   cases decide (0<n.2.2.2.2.1-1)
   ·rw[cond_false];cases (ah.n .bool m.2.2.2.2.2.2.1 n.1:Bool)<;>rfl
   ·rfl
 ·rw[decide_eq_false h0] at h;exact absurd h h0
theorem YL{n:Node}:(zD n).1=n.1:=by unfold zD;cases decide (n.2.1=4) && !(Ht n.2.2.2.1)<;>rfl
theorem WU{m:ao}{n:Node}{o:lu}:(Md m n o).1=n.1:=by
 unfold Md
 rw[YL]
 cases decide (o.1=3)<;>rfl
theorem Ys{m:ao}{n:Node}{seen:List Seen}(h:(yt m n seen).2.2=0):(yt m n seen).1.1=n.1:=by
 unfold yt at h ⊢
 by_cases h0:bi m n=0
 ·rw[decide_eq_true h0,cond_true] at h ⊢
  cases hi:jK n&&decide (¬n.2.2.1.2.1=n.1)
  ·rw[hi] at h;exact(GF (n:=181) h).elim
  ·rw[hi,cond_true] at h
   rw[cond_true]
   by_cases h1:(DK n seen).2=0
   ·rw[decide_eq_true h1,cond_true];exact WU
   ·rw[decide_eq_false h1] at h;exact absurd h h1
 ·rw[decide_eq_false h0] at h;exact absurd h h0
theorem SY{m:ao}{n:Node}:(Bd m n).1.1=n.1:=by
 unfold Bd
 cases decide ((mT n).2=2)
 ·cases decide ((mT n).2=3)
  ·cases decide ((mT n).2=4)<;>rfl
  ·rfl
 ·rfl
theorem afQ{m:ao}{n:Node}(h:(QC m n).2.2.2=0):(QC m n).1.1=n.1:=by
 unfold QC at h ⊢
 by_cases h0:bi m n=0
 ·rw[decide_eq_true h0,cond_true] at h ⊢
  cases hi:jK n&&decide (n.2.2.1.2.1=n.1)
  ·rw[hi] at h;exact(GF (n:=181) h).elim
  ·exact SY
 ·rw[decide_eq_false h0] at h;exact absurd h h0
theorem OQ{m:ao}{n:Node}{seen:List Seen}{once:Bool}(h:(vY m n seen once).2.2.2=0):(vY m n seen once).1.1=n.1:=by
 unfold vY at h ⊢
 by_cases h0:bi m n=0
 ·rw[decide_eq_true h0,cond_true] at h ⊢
  cases h1:decide (n.2.1=1)
  ·rw[h1] at h;exact(GF (n:=181) h).elim
  rw[h1,cond_true] at h
  rw[cond_true]
  cases h2:decide ((seen.length:Int)=2)
  ·rw[h2] at h;exact(GF (n:=2) h).elim
  rw[cond_true]
  cases (fI m.1 seen).2.2
  ·rfl
  rw[cond_true]
  cases decide ((fI m.1 seen).1.1=1)
  ·cases Mc m n (fI m.1 seen).1<;>rfl
  rw[cond_true]
  cases decide ((fI m.1 seen).1.2.2.2.1=n.1)
  ·cases (once && !n.2.2.2.2.2.1)<;>rfl
  ·rfl
 ·rw[decide_eq_false h0] at h;exact absurd h h0
theorem RE{m:ao}{i:Int}{c:cv}{l:List bg}:∀{n:Node},bi m n=0→bi m (sF m i c l n)=0∧(sF m i c l n).1=n.1:=by
 induction l with
 | nil=>intro n h;exact⟨h,rfl⟩
 | cons o l ih=>
   intro n h
   rw[sF]
   cases decide (o.1=i)&&(decide (o.2.1=c.1)&&decide (o.2.2.1=c.2.1))
   ·exact ih h
   ·rw[cond_true]
    by_cases h0:(sC m n o).2=0
    ·rw[decide_eq_true h0,cond_true]
     obtain⟨a,b⟩:=ih (TG h h0)
     exact⟨a,b.trans (Xr h0)⟩
    ·rw[decide_eq_false h0];exact ih h
theorem Pw{x:a_}{w:df}{i:Int}(hi:0≤i∧i<(x.2.2.2.1.length:Int)):iO 0 x (vL x w i).1∧lG w (vL x w i).2:=by
 unfold vL
 cases jK (GB x i)
 ·exact⟨.refl,rfl,rfl,rfl,rfl⟩
 rw[cond_true]
 cases lb (Dj x) 1 i (GB x i).2.2.1
 ·exact⟨iO.set hi rfl fun h=>RE h,rfl,rfl,rfl,rfl⟩
 ·refine⟨?_,rfl,rfl,fR,rfl⟩
  rw[cond_true]
  by_cases h0:(lX x.2.1 (GB x i) false).2=0
  ·rw[decide_eq_true h0];exact iO.set hi fR fun h=>⟨J6 h h0,Nk h0⟩
  ·rw[decide_eq_false h0];exact iO.nodes rfl fR fun h=>h
theorem adg{m:ao}{F:List cd}{c:cv}{N:Nat}:∀(j k:Nat) (s:List Node×List Bool),s.1.length=N→k+j≤N→jQ m s.1→jQ m (ou (uy m F c) j k s).1:=by
 intro j
 induction j with
 | zero=>intro k s _ _ h;exact h
 | succ j ih=>
   intro k s hl hk h
   rw[ou]
   refine ih (k+1) _ (xJ.1.trans hl) (by omega) ?_
   unfold uy
   cases ((decide ((iL s.1 (k:Int)).2.1=0)&&lb F 2 (k:Int) c)||(!(decide ((iL s.1 (k:Int)).2.1=0))&&(!(jK (iL s.1 (k:Int)))&&lb F 1 (k:Int) c)))
   ·exact h
   ·rw[cond_true]
    by_cases h0:(lX m (iL s.1 (k:Int)) (decide ((iL s.1 (k:Int)).2.1=0))).2=0
    ·rw[decide_eq_true h0,cond_true]
     obtain⟨a,b⟩:=zd h (i:=(k:Int)) ⟨by omega,by omega⟩
     exact JP h (by omega) ⟨J6 a h0,(Nk h0).trans b⟩
    ·rw[decide_eq_false h0];exact h
theorem Kb{m:ao}{F:List cd}{c:cv}:∀(j k:Nat) (s:List Node×List Bool),(ou (uy m F c) j k s).1.length=s.1.length∧(ou (uy m F c) j k s).2.length=s.2.length:=by
 intro j
 induction j with
 | zero=>intro k s;exact⟨rfl,rfl⟩
 | succ j ih=>
   intro k s
   rw[ou]
   obtain⟨a,b⟩:=ih (k+1) (uy m F c (k:Int) s)
   exact⟨a.trans xJ.1,b.trans xJ.2⟩
theorem NW{x:a_}{w:df}:iO 0 x (yY x w).1∧lG w (yY x w).2:=by
 unfold yY
 cases L5 x.2.2.2.1 w.1 x.2.2.2.1.length 0 with
 | none=>exact⟨.refl,rfl,rfl,rfl,rfl⟩
 | some k=>exact⟨iO.nodes (Kb _ _ _).1 (Kb _ _ _).2 fun h=>adg _ _ _ rfl (by simp only;omega) h,rfl,rfl,rfl,rfl⟩
theorem JB{x:a_}{i:Int}(hi:0≤i∧i<(x.2.2.2.1.length:Int)):ji (fun r=>iO 0 x r.1) (Iy ah x i):=by
 unfold Iy FQ Ci BK
 intro _
 refine⟨fun _ _=>iO.nodes rfl fR fun h=>h,fun _=>?_⟩
 intro _ _ _ _ _ _
 refine⟨fun _=>.refl,fun h _=>?_⟩
 have h0:(QC x.2.1 (iL x.2.2.2.1 i)).2.2.2=0:=by
  have:ah.c .neq (QC x.2.1 (iL x.2.2.2.1 i)).2.2.2 0=false:=h
  rw[aT] at this
  exact Decidable.not_not.1 (of_decide_eq_false this)
 exact iO.set hi rfl fun h=>⟨YH h h0,afQ h0⟩
theorem SB{x:a_}{w:df}{i:Int}(h541:iO 0 x (dI (x,i)).1):ji (fun r=>iO 0 x r.1.1∧lG w r.1.2) (IN ah x w i):=by
 have hA:∀a b:Seen,iO 0 x x∧lG w (w.1,w.2.1,w.2.2.1,w.2.2.2.1, [a,b]):=fun _ _=>⟨.refl,rfl,rfl,rfl,rfl⟩
 have hB:∀a b:Seen,iO 0 x (dI (x,i)).1∧lG w (w.1,w.2.1,w.2.2.1,w.2.2.2.1, [a,b]):=fun _ _=>⟨h541,rfl,rfl,rfl,rfl⟩
 unfold IN Fg FW B4 B7
 simp only[ji]
 repeat' first|exact hA _ _|exact hB _ _|apply And.intro|intro _
theorem T_{x:a_}{w:df}{i:Int}(hi:0≤i∧i<(x.2.2.2.1.length:Int)):ji (fun r=>iO 0 x r.1.1∧lG w r.1.2) (IT ah x w i):=by
 have hA:∀a b:Seen,iO 0 x x∧lG w (w.1,w.2.1,w.2.2.1,w.2.2.2.1, [a,b]):=fun _ _=>⟨.refl,rfl,rfl,rfl,rfl⟩
 unfold IT B_ o8 tZ
 intro _ _ _ _
 refine⟨fun _=>hA _ _,fun h1=>?_⟩
 have e1:(vY x.2.1 (iL x.2.2.2.1 i) [(ah.n aJ w.2.2.2.2 0:Seen),(ah.n aJ w.2.2.2.2 1:Seen)] true).2.2.2=0:=by
  have:ah.c .neq (vY x.2.1 (iL x.2.2.2.1 i) [(ah.n aJ w.2.2.2.2 0:Seen),(ah.n aJ w.2.2.2.2 1:Seen)] true).2.2.2 0=false:=h1
  rw[aT] at this
  exact Decidable.not_not.1 (of_decide_eq_false this)
 refine⟨fun _=>?_,fun _=>?_⟩
 ·intro _ _ _
  refine⟨fun _=>hA _ _,fun h2=>?_⟩
  intro _ _ _
  have e2:(zp x.2.1 (vY x.2.1 (iL x.2.2.2.1 i) [(ah.n aJ w.2.2.2.2 0:Seen),(ah.n aJ w.2.2.2.2 1:Seen)] true).1).2.2.2=0:=by
   have:ah.c .neq (zp x.2.1 (vY x.2.1 (iL x.2.2.2.1 i) [(ah.n aJ w.2.2.2.2 0:Seen),(ah.n aJ w.2.2.2.2 1:Seen)] true).1).2.2.2 0=false:=h2
   rw[aT] at this
   exact Decidable.not_not.1 (of_decide_eq_false this)
  exact⟨iO.set hi fR fun h=>⟨Uj (Jw h e1) e2,(WW e2).trans (OQ e1)⟩,rfl,rfl,rfl,fR⟩
 ·intro _
  exact⟨iO.set hi rfl fun h=>⟨Jw h e1,OQ e1⟩,rfl,rfl,rfl,rfl⟩
theorem eq0{a:Int}(h:ah.c .eql a 0=true):a=0:=by rw[aO] at h;exact of_decide_eq_true h
theorem ne0{a:Int}(h:ah.c .neq a 0=false):a=0:=by rw[aT] at h;exact Decidable.not_not.1 (of_decide_eq_false h)
theorem UH{x:a_}{w:df}{i:Int}(hi:0≤i∧i<(x.2.2.2.1.length:Int))(h543:iO 0 x (kZ ((x,oH w),i)).1.1∧lG w (kZ ((x,oH w),i)).1.2):ji (fun r=>iO 0 x r.1.1∧lG w r.1.2) (Ih ah x w i):=by
 have hA:∀a b:Seen,iO 0 x x∧lG w (w.1,w.2.1,w.2.2.1,w.2.2.2.1, [a,b]):=fun _ _=>⟨.refl,rfl,rfl,rfl,rfl⟩
 have hC:∀a b:Seen,iO 0 x (kZ ((x,oH w),i)).1.1∧lG w ((kZ ((x,oH w),i)).1.2.1,(kZ ((x,oH w),i)).1.2.2.1,(kZ ((x,oH w),i)).1.2.2.2.1,(kZ ((x,oH w),i)).1.2.2.2.2.1, [a,b]):=fun _ _=>⟨h543.1,h543.2.was,h543.2.aW,h543.2.off,h543.2.later⟩
 have hB:∀(seen:List Seen) (a b:Seen),ah.c .eql (yt x.2.1 (iL x.2.2.2.1 i) seen).2.2 0=true→iO 0 x (x.1,x.2.1,x.2.2.1,ah.set x.2.2.2.1 i (yt x.2.1 (iL x.2.2.2.1 i) seen).1,x.2.2.2.2.1,x.2.2.2.2.2)∧lG w (w.1,w.2.1,w.2.2.1,w.2.2.2.1, [a,b]):=fun seen _ _ h=>
  ⟨iO.set hi rfl fun k=>⟨SA k (eq0 h),Ys (eq0 h)⟩,rfl,rfl,rfl,rfl⟩
 unfold Ih Fw Cj nY wP ki
 simp only[ji]
 repeat' first|exact hA _ _|exact hC _ _|exact hB _ _ _ (by assumption)|apply And.intro|intro _
theorem SQ{x:a_}{w:df}{i:Int}(hi:0≤i∧i<(x.2.2.2.1.length:Int)):ji (fun r=>iO 1 x r.1.1∧lG w r.1.2) (HE ah x w i):=by
 have hA:∀a b:Seen,iO 1 x x∧lG w (w.1,w.2.1,w.2.2.1,w.2.2.2.1, [a,b]):=fun _ _=>⟨.refl,rfl,rfl,rfl,rfl⟩
 unfold HE Fz Bs EI qm
 intro _
 refine⟨fun _=>hA _ _,fun _=>?_⟩
 intro _ _
 refine⟨fun _=>hA _ _,fun _=>?_⟩
 intro _ _ _ _
 refine⟨fun _=>hA _ _,fun h1=>?_⟩
 have e1:(Av x.2.1 (iL x.2.2.2.1 i)).2=0:=ne0 h1
 have key:=iO.set (k:=1) hi (c:=x.2.2.2.2.1) rfl fun h=>⟨EC h e1,XQ e1⟩
 intro _
 refine⟨fun _=>?_,fun _=>⟨key,rfl,rfl,rfl,rfl⟩⟩
 intro _ _
 exact⟨⟨rfl,rfl,rfl,key.len,rfl,rfl,by show(_ ++ [_]).length≤_;rw[List.length_append];exact Nat.le_refl _,key.IF,fun hn hg s hs=>(List.mem_append.1 hs).elim (hg s) fun k=>by rw[List.mem_singleton.1 k];exact EC (zd hn hi).1 e1⟩,rfl,rfl,rfl,rfl⟩
def uA{R Y:Type}:LT R Y→Prop
 | .ret _=>True
 | .more _=>False
 | .br b t e=>(b=true→uA t)∧(b=false→uA e)
 | .need b t=>b=true∧uA t
 | .eqs _ t=>uA t
 | .and _ _=>False
 | .bad _ _=>False
theorem iv{R Y:Type}:∀{t:LT R Y},uA t→t.pre=true
 | .ret _,_=>rfl
 | .more _,h=>h.elim
 | .br b t e,h=>by
   cases b with
   | true=>exact iv (t:=t) (h.1 rfl)
   | false=>exact iv (t:=e) (h.2 rfl)
 | .need b t,h=>by rw[LT.pre,h.1,iv (t:=t) h.2];rfl
 | .eqs _ t,h=>iv (t:=t) h
 | .and _ _,h=>h.elim
 | .bad _ _,h=>h.elim
theorem Dd{x:a_}{i:Int}(hi:0≤i∧i<(x.2.2.2.1.length:Int))(hc:x.2.2.2.2.1.length=x.2.2.2.1.length):(Iy ah x i).pre=true:=by
 have i1:=dQ (l:=x.2.2.2.1) hi
 have i3:=dQ (l:=x.2.2.2.2.1) (i:=i) (by omega)
 refine iv ?_
 unfold Iy FQ Ci BK
 simp only[uA]
 repeat' first|exact i1|exact i3|exact trivial|rfl|apply And.intro|intro _
theorem JH{x:a_}{w:df}{i:Int}(h:EV x w)(hi:0≤i∧i<(x.2.2.2.1.length:Int)):(IN ah x w i).pre=true:=by
 obtain⟨z1,z2,z3,z4,z5,z6,z7,z8,z9⟩:=h
 have i1:=dQ (l:=w.1) (i:=i) (by omega)
 have i2:=dQ (l:=w.2.2.1) (i:=i) (by omega)
 have h541:ah.k IP (x,i)=true:=Dd hi z1
 have hs:(dI (x,i)).1.2.2.1=x.2.2.1:=(fe (Dd hi z1) (JB hi)).s
 have f1:∀(k n:Int) (c:cv),ah.k kK (((),(dI (x,i)).1.2.2.1.2.2.2.2.2.2.2,()),k,n,c)=true:=fun k n c=>uH (by rw[hs];exact z6)
 have f2:∀(k:Int) (c:cv),ah.k vy (((),(dI (x,i)).1.2.2.1.2.2.2.2.2.2.2,()),k,c)=true:=fun k c=>TQ (by rw[hs];exact z6)
 refine iv ?_
 unfold IN Fg FW B4 B7
 simp only[uA]
 repeat' first|exact i1|exact i2|exact h541|exact f1 _ _ _|exact f2 _ _|exact trivial|rfl|apply And.intro|intro _
theorem Km{x:a_}{w:df}{i:Int}(h:EV x w)(hi:0≤i∧i<(x.2.2.2.1.length:Int)):(IT ah x w i).pre=true:=by
 obtain⟨z1,z2,z3,z4,z5,z6,z7,z8,z9⟩:=h
 have i1:=dQ (l:=x.2.2.2.1) hi
 have i2:=dQ (l:=w.2.2.2.1) (i:=i) (by omega)
 have i3:=dQ (l:=x.2.2.2.2.1) (i:=i) (by omega)
 refine iv ?_
 unfold IT B_ o8 tZ
 simp only[uA]
 repeat' first|exact i1|exact i2|exact i3|exact trivial|rfl|apply And.intro|intro _
theorem KB{x:a_}{w:df}{i:Int}(h:EV x w)(hi:0≤i∧i<(x.2.2.2.1.length:Int)):(Ih ah x w i).pre=true:=by
 have h543:ah.k GJ ((x,oH w),i)=true:=Km (w:=oH w) h hi
 obtain⟨z1,z2,z3,z4,z5,z6,z7,z8,z9⟩:=h
 have i1:=dQ (l:=x.2.2.2.1) hi
 have i2:=dQ (l:=w.1) (i:=i) (by omega)
 have i3:=dQ (l:=w.2.1) (i:=i) (by omega)
 have f1:∀(k n:Int) (c:cv),ah.k kK (((),x.2.2.1.2.2.2.2.2.2.2,()),k,n,c)=true:=fun k n c=>uH z6
 refine iv ?_
 unfold Ih Fw Cj nY wP ki
 simp only[uA]
 repeat' first|exact i1|exact i2|exact i3|exact h543|exact f1 _ _ _|exact trivial|rfl|apply And.intro|intro _
theorem Dw{m:ao}{n:Node}(h:bi m n=0):Ac n=true:=by
 obtain⟨hm,hn⟩:=aY h
 have h1:=(bW.1 hn).2.2.2.2.2.1
 have h2:=(dd hm).1
 exact decide_eq_true (by omega)
theorem Kc{x:a_}{w:df}{i:Int}(h:EV x w)(hi:0≤i∧i<(x.2.2.2.1.length:Int))(hn:jQ x.2.1 x.2.2.2.1):(HE ah x w i).pre=true:=by
 obtain⟨z1,z2,z3,z4,z5,z6,z7,z8,z9⟩:=h
 have i1:=dQ (l:=x.2.2.2.1) hi
 have i2:=dQ (l:=w.2.2.2.1) (i:=i) (by omega)
 refine iv ?_
 unfold HE Fz Bs EI qm
 refine⟨i2,fun _=>trivial,fun _=>⟨i1,rfl,fun _=>trivial,fun _=>⟨i1,rfl,rfl,i1,fun _=>trivial,fun h1=>⟨i1,fun _=>⟨?_,?_,trivial⟩,fun _=>trivial⟩⟩⟩⟩
 ·exact Dw (EC (zd hn hi).1 (ne0 h1))
 ·rw[ap,bL,iA,List.length_append]
  exact decide_eq_true (by simp only[List.length_cons,List.length_nil];omega)
theorem aic{x:a_}{i:Int}(hi:0≤i∧i<(x.2.2.2.1.length:Int))(hc:x.2.2.2.2.1.length=x.2.2.2.1.length):iO 0 x (dI (x,i)).1:=fe (Dd hi hc) (JB hi)
theorem ag_{x:a_}{w:df}{i:Int}(h:EV x w)(hi:0≤i∧i<(x.2.2.2.1.length:Int)):iO 0 x (F3 ((x,w),i)).1.1∧lG w (F3 ((x,w),i)).1.2:=fe (JH h hi) (SB (aic hi h.1))
theorem agE{x:a_}{w:df}{i:Int}(h:EV x w)(hi:0≤i∧i<(x.2.2.2.1.length:Int)):iO 0 x (kZ ((x,w),i)).1.1∧lG w (kZ ((x,w),i)).1.2:=fe (Km h hi) (T_ hi)
theorem aik{x:a_}{w:df}{i:Int}(h:EV x w)(hi:0≤i∧i<(x.2.2.2.1.length:Int)):iO 0 x (BS ((x,w),i)).1.1∧lG w (BS ((x,w),i)).1.2:=fe (KB h hi) (UH hi ((agE (w:=oH w) h hi).imp id fun k=>⟨k.was,k.aW,k.off,k.later⟩))
theorem aiy{x:a_}{w:df}{i:Int}(h:EV x w)(hi:0≤i∧i<(x.2.2.2.1.length:Int))(hn:jQ x.2.1 x.2.2.2.1):iO 1 x (FP ((x,w),i)).1.1∧lG w (FP ((x,w),i)).1.2:=fe (Kc h hi hn) (SQ hi)
structure Y7 where
 (a0:Int)
structure Y5 where
 (b0:Int)
structure sw where
 (c0:Int) (c2:Bool) (c3:ao) (c4:gJ) (c5 c6 c7 c8:Int) (c9:List Int) (c10 c11 c12:Int) (c13:List Int) (c14:List Node) (Af:List Bool) (c16:List iT) (Mk:List Node) (Ml c19 c20:List Bool)
structure WV where
 (d0:Int)
structure Wt where
 (e0:Int)
inductive xu where
 | c0 (p:Y7) (a1:Int) (a2:Bool) (a3:ao) (a4:gJ) (a5:Int) (a6:Int) (a7:Int) (a8:Int) (a9:List Int) (cX:Int) (dN:Int) (a12:Int) (kp:List Int) (gK:List Node) (jh:List Bool) (a16:List iT) (a17:List Node) (je:List Bool) (l_:List Bool) (a20:List Bool)
 | c1 (p:Y5) (b1:Int) (b2:Bool) (b3:ao) (b4:gJ) (b5:Int) (b6:Int) (b7:Int) (b8:Int) (b9:List Int) (b10:Int) (b11:Int) (b12:Int) (b13:List Int) (jN:List Node) (fT:List Bool) (cY:List iT) (iX:List Node) (my:List Bool) (jO:List Bool) (mm:List Bool)
 | c2 (p:sw)
 | c3 (p:WV) (d1:Int) (d2:Bool) (d3:ao) (d4:gJ) (d5:Int) (d6:Int) (d7:Int) (d8:Int) (d9:List Int) (lv:Int) (lw:Int) (d12:Int) (d13:List Int) (d14:List Node) (iF:List Bool) (jF:List iT) (d17:List Node) (d18:List Bool) (d19:List Bool) (d20:List Bool)
 | c4 (p:Wt) (e1:Int) (e2:Bool) (e3:ao) (e4:gJ) (e5:Int) (e6:Int) (e7:Int) (e8:Int) (e9:List Int) (e10:Int) (e11:Int) (e12:Int) (e13:List Int) (e14:List Node) (e15:List Bool) (e16:List iT) (e17:List Node) (e18:List Bool) (e19:List Bool) (e20:List Bool)
noncomputable def WX:xu→eF
 | .c0 p a1 a2 a3 a4 a5 a6 a7 a8 a9 cX dN a12 kp gK jh a16 a17 je l_ a20=>⟨[⟨58,78,(en [(0,.ptr 0 0),(2,.ptr 1 0),(4,.fn 115 [.ptr 0 0] []),(37,.agg [.fn 115 [.ptr 0 0] [],.fn 116 [.ptr 0 0] [],.fn 117 [.ptr 0 0] []]),(38,.int .i64 true 0),(45,vi p.a0),(46,vi a1)]),[.inLoop (cw Tryz.f58 [1,0,1,0,0,1,1,0,0,1,1,0,0]),.inBlock 2,.inBlock 1,.code (cw Tryz.f58 [1,0,1,0,0,1,1,1]),.inLoop (cw Tryz.f58 [1,0,1,0,0]),.inBlock 0,.code (cw Tryz.f58 [1,1])],[],none⟩],[.flat false ([vb a2]++dc aP a3++dc f_ a4 ++ [.own 2,.own 3,vi a5,.own 4]),.flat false [.own 5,.own 6,.own 7,.own 8,vi a6,vi a7,vi a8,.sl yU a9,vi cX,vi dN,vi a12,.sl yU kp],.arr false aF gK,.arr false .bool jh,.arr false eE a16,.arr false aF a17,.arr false .bool je,.arr false .bool l_,.arr false .bool a20,.dead]⟩
 | .c1 p b1 b2 b3 b4 b5 b6 b7 b8 b9 b10 b11 b12 b13 jN fT cY iX my jO mm=>⟨[⟨58,78,(en [(0,.ptr 0 0),(2,.ptr 1 0),(4,.fn 116 [.ptr 0 0] []),(37,.agg [.fn 115 [.ptr 0 0] [],.fn 116 [.ptr 0 0] [],.fn 117 [.ptr 0 0] []]),(38,.int .i64 true 1),(45,vi p.b0),(46,vi b1)]),[.inLoop (cw Tryz.f58 [1,0,1,0,0,1,1,0,0,1,1,0,0]),.inBlock 2,.inBlock 1,.code (cw Tryz.f58 [1,0,1,0,0,1,1,1]),.inLoop (cw Tryz.f58 [1,0,1,0,0]),.inBlock 0,.code (cw Tryz.f58 [1,1])],[],none⟩],[.flat false ([vb b2]++dc aP b3++dc f_ b4 ++ [.own 2,.own 3,vi b5,.own 4]),.flat false [.own 5,.own 6,.own 7,.own 8,vi b6,vi b7,vi b8,.sl yU b9,vi b10,vi b11,vi b12,.sl yU b13],.arr false aF jN,.arr false .bool fT,.arr false eE cY,.arr false aF iX,.arr false .bool my,.arr false .bool jO,.arr false .bool mm,.dead]⟩
 | .c2 p=>⟨[⟨58,78,(en [(0,.ptr 0 0),(2,.ptr 1 0),(4,.fn 117 [.ptr 0 0] []),(37,.agg [.fn 115 [.ptr 0 0] [],.fn 116 [.ptr 0 0] [],.fn 117 [.ptr 0 0] []]),(38,.int .i64 true 2),(45,vi p.c0),(46,vi 0)]),[.inLoop (cw Tryz.f58 [1,0,1,0,0,1,1,0,0,1,1,0,0]),.inBlock 2,.inBlock 1,.code (cw Tryz.f58 [1,0,1,0,0,1,1,1]),.inLoop (cw Tryz.f58 [1,0,1,0,0]),.inBlock 0,.code (cw Tryz.f58 [1,1])],[],none⟩],[.flat false ([vb p.c2]++dc aP p.c3++dc f_ p.c4 ++ [.own 2,.own 3,vi p.c5,.own 4]),.flat false [.own 5,.own 6,.own 7,.own 8,vi p.c6,vi p.c7,vi p.c8,.sl yU p.c9,vi p.c10,vi p.c11,vi p.c12,.sl yU p.c13],.arr false aF p.c14,.arr false .bool p.Af,.arr false eE p.c16,.arr false aF p.Mk,.arr false .bool p.Ml,.arr false .bool p.c19,.arr false .bool p.c20,.dead]⟩
 | .c3 p d1 d2 d3 d4 d5 d6 d7 d8 d9 lv lw d12 d13 d14 iF jF d17 d18 d19 d20=>⟨[⟨58,78,(en [(0,.ptr 0 0),(2,.ptr 1 0),(4,.fn 117 [.ptr 0 0] []),(37,.agg [.fn 115 [.ptr 0 0] [],.fn 116 [.ptr 0 0] [],.fn 117 [.ptr 0 0] []]),(38,.int .i64 true 2),(45,vi p.d0),(46,vi d1)]),[.inLoop (cw Tryz.f58 [1,0,1,0,0,1,1,0,0,1,1,0,0]),.inBlock 2,.inBlock 1,.code (cw Tryz.f58 [1,0,1,0,0,1,1,1]),.inLoop (cw Tryz.f58 [1,0,1,0,0]),.inBlock 0,.code (cw Tryz.f58 [1,1])],[],none⟩],[.flat false ([vb d2]++dc aP d3++dc f_ d4 ++ [.own 2,.own 3,vi d5,.own 4]),.flat true [.own 5,.own 6,.own 7,.own 8,vi d6,vi d7,vi d8,.sl yU d9,vi lv,vi lw,vi d12,.sl yU d13],.arr false aF d14,.arr false .bool iF,.arr false eE jF,.arr false aF d17,.arr false .bool d18,.arr false .bool d19,.arr false .bool d20,.dead]⟩
 | .c4 p e1 e2 e3 e4 e5 e6 e7 e8 e9 e10 e11 e12 e13 e14 e15 e16 e17 e18 e19 e20=>⟨[⟨58,78,(en [(0,.ptr 0 0),(2,.ptr 1 0),(62,vi p.e0),(63,vi e1)]),[.inLoop (cw Tryz.f58 [1,1,1,0,1,0,0]),.inBlock 4,.code (cw Tryz.f58 [1,1,1,1])],[],none⟩],[.flat false ([vb e2]++dc aP e3++dc f_ e4 ++ [.own 2,.own 3,vi e5,.own 4]),.flat true [.own 5,.own 6,.own 7,.own 8,vi e6,vi e7,vi e8,.sl yU e9,vi e10,vi e11,vi e12,.sl yU e13],.arr false aF e14,.arr false .bool e15,.arr false eE e16,.arr false aF e17,.arr false .bool e18,.arr false .bool e19,.arr false .bool e20,.dead]⟩
abbrev wR(A:aK)(x2:a_):LT (a_×Unit) xu:=(.more (.c0 ⟨(A.l x2.2.2.2.1)⟩ 0 x2.1 x2.2.1 x2.2.2.1 x2.2.2.2.2.2.1 0 0 0 ([]:List Int) 0 0 0 ([]:List Int) x2.2.2.2.1 x2.2.2.2.2.1 x2.2.2.2.2.2.2 x2.2.2.2.1 x2.2.2.2.2.1 (A.r (A.l x2.2.2.2.1) false) (A.r (A.l x2.2.2.2.1) false)))
abbrev pg(A:aK)(x2:a_):=(A.and (A.c .eql (A.l x2.2.2.2.1) (A.l x2.2.2.2.1)) (A.and (A.c .leq 0 (A.l x2.2.2.2.1)) (A.c .leq (A.l x2.2.2.2.1) 140737488355328)))
abbrev Ms(A:aK)(x2:a_):LT (a_×Unit) xu:=(.need (pg A x2) (.and (.need (A.c .neq (A.l x2.2.2.2.1) 0) (.need (A.not (A.c .eql (A.l x2.2.2.2.1) 0)) (.need (A.c .leq (A.l x2.2.2.2.1) 676622540169) (.and (.need (A.c .neq (A.l x2.2.2.2.2.1) 0) (.need (A.not (A.c .eql (A.l x2.2.2.2.2.1) 0)) (.need (A.c .leq (A.l x2.2.2.2.2.1) 140737488355328) (.need (pg A x2) (wR A x2))))) (.need (pg A x2) (.need (A.c .neq (A.l x2.2.2.2.2.1) 0) (.need (A.not (A.c .eql (A.l x2.2.2.2.2.1) 0)) (.need (A.c .leq (A.l x2.2.2.2.2.1) 140737488355328) (wR A x2))))))))) (.need (pg A x2) (.need (A.c .neq (A.l x2.2.2.2.1) 0) (.need (A.not (A.c .eql (A.l x2.2.2.2.1) 0)) (.need (A.c .leq (A.l x2.2.2.2.1) 676622540169) (.need (A.c .neq (A.l x2.2.2.2.2.1) 0) (.need (A.not (A.c .eql (A.l x2.2.2.2.2.1) 0)) (.need (A.c .leq (A.l x2.2.2.2.2.1) 140737488355328) (wR A x2))))))))))
abbrev Qk(A:aK)(x2:a_):LT (a_×Unit) xu:=(.need (pg A x2) (.and (.need (A.c .neq (A.l x2.2.2.2.2.1) 0) (.need (A.not (A.c .eql (A.l x2.2.2.2.2.1) 0)) (.need (A.c .leq (A.l x2.2.2.2.2.1) 140737488355328) (.need (pg A x2) (wR A x2))))) (.need (pg A x2) (.need (A.c .neq (A.l x2.2.2.2.2.1) 0) (.need (A.not (A.c .eql (A.l x2.2.2.2.2.1) 0)) (.need (A.c .leq (A.l x2.2.2.2.2.1) 140737488355328) (wR A x2)))))))
def aaT(A:aK)(x2:a_):LT (a_×Unit) xu:=.and (.need (A.c .neq (A.l x2.2.2.2.1) 0) (.need (A.not (A.c .eql (A.l x2.2.2.2.1) 0)) (.need (A.c .leq (A.l x2.2.2.2.1) 676622540169) (.and (.need (A.c .neq (A.l x2.2.2.2.2.1) 0) (.need (A.not (A.c .eql (A.l x2.2.2.2.2.1) 0)) (.need (A.c .leq (A.l x2.2.2.2.2.1) 140737488355328) (.and (.need (pg A x2) (.need (pg A x2) (wR A x2))) (.need (pg A x2) (.need (pg A x2) (wR A x2))))))) (.and (Qk A x2) (Qk A x2)))))) (.and (Ms A x2) (Ms A x2))
abbrev eG(A:aK)(a1:Int)(a2:Bool)(a3:ao)(a4:gJ)(a5:Int)(a6:Int)(a7:Int)(a8:Int)(a9:List Int)(cX:Int)(dN:Int)(a12:Int)(kp:List Int)(gK:List Node)(jh:List Bool)(a16:List iT)(a17:List Node)(je:List Bool)(l_:List Bool)(a20:List Bool):=(A.k N7 (((a2,a3,a4,gK,jh,a5,a16),a17,je,l_,a20,([(a6,a7,a8,a9),(cX,dN,a12,kp)]:List Seen)),a1))
abbrev eX(A:aK)(b1:Int)(b2:Bool)(b3:ao)(b4:gJ)(b5:Int)(b6:Int)(b7:Int)(b8:Int)(b9:List Int)(b10:Int)(b11:Int)(b12:Int)(b13:List Int)(jN:List Node)(fT:List Bool)(cY:List iT)(iX:List Node)(my:List Bool)(jO:List Bool)(mm:List Bool):=(A.k F3 (((b2,b3,b4,jN,fT,b5,cY),iX,my,jO,mm,([(b6,b7,b8,b9),(b10,b11,b12,b13)]:List Seen)),b1))
abbrev gU(A:aK)(p:sw):=(A.k J5 (((p.c2,p.c3,p.c4,p.c14,p.Af,p.c5,p.c16),p.Mk,p.Ml,p.c19,p.c20,([(p.c6,p.c7,p.c8,p.c9),(p.c10,p.c11,p.c12,p.c13)]:List Seen)),()))
abbrev iC(A:aK)(p:sw):=(A.k BS (((p.c2,p.c3,p.c4,p.c14,p.Af,p.c5,p.c16),p.Mk,p.Ml,p.c19,p.c20,([(p.c6,p.c7,p.c8,p.c9),(p.c10,p.c11,p.c12,p.c13)]:List Seen)),0))
abbrev xQ(A:aK)(p:sw):=(A.n aJ (iC A p).1.2.2.2.2.2 0:Seen)
abbrev xx(A:aK)(p:sw):=(A.n aJ (iC A p).1.2.2.2.2.2 1:Seen)
abbrev xK(A:aK)(p:sw):=(A.n aJ (gU A p).1.2.2.2.2.2 0:Seen)
abbrev xM(A:aK)(p:sw):=(A.n aJ (gU A p).1.2.2.2.2.2 1:Seen)
abbrev dZ(A:aK)(d2:Bool)(d3:ao)(d4:gJ)(d5:Int)(d6:Int)(d7:Int)(d8:Int)(d9:List Int)(lv:Int)(lw:Int)(d12:Int)(d13:List Int)(d14:List Node)(iF:List Bool)(jF:List iT)(d17:List Node)(d18:List Bool)(d19:List Bool)(d20:List Bool):=(A.k J5 (((d2,d3,d4,d14,iF,d5,jF),d17,d18,d19,d20,([(d6,d7,d8,d9),(lv,lw,d12,d13)]:List Seen)),()))
abbrev eP(A:aK)(d1:Int)(d2:Bool)(d3:ao)(d4:gJ)(d5:Int)(d6:Int)(d7:Int)(d8:Int)(d9:List Int)(lv:Int)(lw:Int)(d12:Int)(d13:List Int)(d14:List Node)(iF:List Bool)(jF:List iT)(d17:List Node)(d18:List Bool)(d19:List Bool)(d20:List Bool):=(A.k BS (((d2,d3,d4,d14,iF,d5,jF),d17,d18,d19,d20,([(d6,d7,d8,d9),(lv,lw,d12,d13)]:List Seen)),d1))
abbrev eT(A:aK)(e1:Int)(e2:Bool)(e3:ao)(e4:gJ)(e5:Int)(e6:Int)(e7:Int)(e8:Int)(e9:List Int)(e10:Int)(e11:Int)(e12:Int)(e13:List Int)(e14:List Node)(e15:List Bool)(e16:List iT)(e17:List Node)(e18:List Bool)(e19:List Bool)(e20:List Bool):=(A.k FP (((e2,e3,e4,e14,e15,e5,e16),e17,e18,e19,e20,([(e6,e7,e8,e9),(e10,e11,e12,e13)]:List Seen)),e1))
def sQ(A:aK):xu→LT (a_×Unit) xu
 | .c0 p a1 a2 a3 a4 a5 a6 a7 a8 a9 cX dN a12 kp gK jh a16 a17 je l_ a20=>.br (A.c .lss a1 p.a0) (.need (A.k DX (((a2,a3,a4,gK,jh,a5,a16),a17,je,l_,a20,([(a6,a7,a8,a9),(cX,dN,a12,kp)]:List Seen)),a1)) (.more (.c0 p (A.b .add .i64 a1 1) (eG A a1 a2 a3 a4 a5 a6 a7 a8 a9 cX dN a12 kp gK jh a16 a17 je l_ a20).1.1.1 (eG A a1 a2 a3 a4 a5 a6 a7 a8 a9 cX dN a12 kp gK jh a16 a17 je l_ a20).1.1.2.1 (eG A a1 a2 a3 a4 a5 a6 a7 a8 a9 cX dN a12 kp gK jh a16 a17 je l_ a20).1.1.2.2.1 (eG A a1 a2 a3 a4 a5 a6 a7 a8 a9 cX dN a12 kp gK jh a16 a17 je l_ a20).1.1.2.2.2.2.2.1 (A.n aJ (eG A a1 a2 a3 a4 a5 a6 a7 a8 a9 cX dN a12 kp gK jh a16 a17 je l_ a20).1.2.2.2.2.2 0:Seen).1 (A.n aJ (eG A a1 a2 a3 a4 a5 a6 a7 a8 a9 cX dN a12 kp gK jh a16 a17 je l_ a20).1.2.2.2.2.2 0:Seen).2.1 (A.n aJ (eG A a1 a2 a3 a4 a5 a6 a7 a8 a9 cX dN a12 kp gK jh a16 a17 je l_ a20).1.2.2.2.2.2 0:Seen).2.2.1 (A.n aJ (eG A a1 a2 a3 a4 a5 a6 a7 a8 a9 cX dN a12 kp gK jh a16 a17 je l_ a20).1.2.2.2.2.2 0:Seen).2.2.2 (A.n aJ (eG A a1 a2 a3 a4 a5 a6 a7 a8 a9 cX dN a12 kp gK jh a16 a17 je l_ a20).1.2.2.2.2.2 1:Seen).1 (A.n aJ (eG A a1 a2 a3 a4 a5 a6 a7 a8 a9 cX dN a12 kp gK jh a16 a17 je l_ a20).1.2.2.2.2.2 1:Seen).2.1 (A.n aJ (eG A a1 a2 a3 a4 a5 a6 a7 a8 a9 cX dN a12 kp gK jh a16 a17 je l_ a20).1.2.2.2.2.2 1:Seen).2.2.1 (A.n aJ (eG A a1 a2 a3 a4 a5 a6 a7 a8 a9 cX dN a12 kp gK jh a16 a17 je l_ a20).1.2.2.2.2.2 1:Seen).2.2.2 (eG A a1 a2 a3 a4 a5 a6 a7 a8 a9 cX dN a12 kp gK jh a16 a17 je l_ a20).1.1.2.2.2.1 (eG A a1 a2 a3 a4 a5 a6 a7 a8 a9 cX dN a12 kp gK jh a16 a17 je l_ a20).1.1.2.2.2.2.1 (eG A a1 a2 a3 a4 a5 a6 a7 a8 a9 cX dN a12 kp gK jh a16 a17 je l_ a20).1.1.2.2.2.2.2.2 (eG A a1 a2 a3 a4 a5 a6 a7 a8 a9 cX dN a12 kp gK jh a16 a17 je l_ a20).1.2.1 (eG A a1 a2 a3 a4 a5 a6 a7 a8 a9 cX dN a12 kp gK jh a16 a17 je l_ a20).1.2.2.1 (eG A a1 a2 a3 a4 a5 a6 a7 a8 a9 cX dN a12 kp gK jh a16 a17 je l_ a20).1.2.2.2.1 (eG A a1 a2 a3 a4 a5 a6 a7 a8 a9 cX dN a12 kp gK jh a16 a17 je l_ a20).1.2.2.2.2.1))) (.more (.c1 ⟨(A.l gK)⟩ 0 a2 a3 a4 a5 a6 a7 a8 a9 cX dN a12 kp gK jh a16 a17 je l_ a20))
 | .c1 p b1 b2 b3 b4 b5 b6 b7 b8 b9 b10 b11 b12 b13 jN fT cY iX my jO mm=>.br (A.c .lss b1 p.b0) (.need (A.k CP (((b2,b3,b4,jN,fT,b5,cY),iX,my,jO,mm,([(b6,b7,b8,b9),(b10,b11,b12,b13)]:List Seen)),b1)) (.more (.c1 p (A.b .add .i64 b1 1) (eX A b1 b2 b3 b4 b5 b6 b7 b8 b9 b10 b11 b12 b13 jN fT cY iX my jO mm).1.1.1 (eX A b1 b2 b3 b4 b5 b6 b7 b8 b9 b10 b11 b12 b13 jN fT cY iX my jO mm).1.1.2.1 (eX A b1 b2 b3 b4 b5 b6 b7 b8 b9 b10 b11 b12 b13 jN fT cY iX my jO mm).1.1.2.2.1 (eX A b1 b2 b3 b4 b5 b6 b7 b8 b9 b10 b11 b12 b13 jN fT cY iX my jO mm).1.1.2.2.2.2.2.1 (A.n aJ (eX A b1 b2 b3 b4 b5 b6 b7 b8 b9 b10 b11 b12 b13 jN fT cY iX my jO mm).1.2.2.2.2.2 0:Seen).1 (A.n aJ (eX A b1 b2 b3 b4 b5 b6 b7 b8 b9 b10 b11 b12 b13 jN fT cY iX my jO mm).1.2.2.2.2.2 0:Seen).2.1 (A.n aJ (eX A b1 b2 b3 b4 b5 b6 b7 b8 b9 b10 b11 b12 b13 jN fT cY iX my jO mm).1.2.2.2.2.2 0:Seen).2.2.1 (A.n aJ (eX A b1 b2 b3 b4 b5 b6 b7 b8 b9 b10 b11 b12 b13 jN fT cY iX my jO mm).1.2.2.2.2.2 0:Seen).2.2.2 (A.n aJ (eX A b1 b2 b3 b4 b5 b6 b7 b8 b9 b10 b11 b12 b13 jN fT cY iX my jO mm).1.2.2.2.2.2 1:Seen).1 (A.n aJ (eX A b1 b2 b3 b4 b5 b6 b7 b8 b9 b10 b11 b12 b13 jN fT cY iX my jO mm).1.2.2.2.2.2 1:Seen).2.1 (A.n aJ (eX A b1 b2 b3 b4 b5 b6 b7 b8 b9 b10 b11 b12 b13 jN fT cY iX my jO mm).1.2.2.2.2.2 1:Seen).2.2.1 (A.n aJ (eX A b1 b2 b3 b4 b5 b6 b7 b8 b9 b10 b11 b12 b13 jN fT cY iX my jO mm).1.2.2.2.2.2 1:Seen).2.2.2 (eX A b1 b2 b3 b4 b5 b6 b7 b8 b9 b10 b11 b12 b13 jN fT cY iX my jO mm).1.1.2.2.2.1 (eX A b1 b2 b3 b4 b5 b6 b7 b8 b9 b10 b11 b12 b13 jN fT cY iX my jO mm).1.1.2.2.2.2.1 (eX A b1 b2 b3 b4 b5 b6 b7 b8 b9 b10 b11 b12 b13 jN fT cY iX my jO mm).1.1.2.2.2.2.2.2 (eX A b1 b2 b3 b4 b5 b6 b7 b8 b9 b10 b11 b12 b13 jN fT cY iX my jO mm).1.2.1 (eX A b1 b2 b3 b4 b5 b6 b7 b8 b9 b10 b11 b12 b13 jN fT cY iX my jO mm).1.2.2.1 (eX A b1 b2 b3 b4 b5 b6 b7 b8 b9 b10 b11 b12 b13 jN fT cY iX my jO mm).1.2.2.2.1 (eX A b1 b2 b3 b4 b5 b6 b7 b8 b9 b10 b11 b12 b13 jN fT cY iX my jO mm).1.2.2.2.2.1))) (.more (.c2 ⟨(A.l jN),b2,b3,b4,b5,b6,b7,b8,b9,b10,b11,b12,b13,jN,fT,cY,iX,my,jO,mm⟩))
 | .c2 p=>.br (A.c .lss 0 p.c0) (.need (A.k vM (((p.c2,p.c3,p.c4,p.c14,p.Af,p.c5,p.c16),p.Mk,p.Ml,p.c19,p.c20,([(p.c6,p.c7,p.c8,p.c9),(p.c10,p.c11,p.c12,p.c13)]:List Seen)),0)) (.more (.c3 ⟨p.c0⟩ (A.b .add .i64 0 1) (iC A p).1.1.1 (iC A p).1.1.2.1 (iC A p).1.1.2.2.1 (iC A p).1.1.2.2.2.2.2.1 (xQ A p).1 (xQ A p).2.1 (xQ A p).2.2.1 (xQ A p).2.2.2 (xx A p).1 (xx A p).2.1 (xx A p).2.2.1 (xx A p).2.2.2 (iC A p).1.1.2.2.2.1 (iC A p).1.1.2.2.2.2.1 (iC A p).1.1.2.2.2.2.2.2 (iC A p).1.2.1 (iC A p).1.2.2.1 (iC A p).1.2.2.2.1 (iC A p).1.2.2.2.2.1))) (.need (A.k vP (((p.c2,p.c3,p.c4,p.c14,p.Af,p.c5,p.c16),p.Mk,p.Ml,p.c19,p.c20,([(p.c6,p.c7,p.c8,p.c9),(p.c10,p.c11,p.c12,p.c13)]:List Seen)),())) (.more (.c4 ⟨(A.l (gU A p).1.1.2.2.2.1)⟩ 0 (gU A p).1.1.1 (gU A p).1.1.2.1 (gU A p).1.1.2.2.1 (gU A p).1.1.2.2.2.2.2.1 (xK A p).1 (xK A p).2.1 (xK A p).2.2.1 (xK A p).2.2.2 (xM A p).1 (xM A p).2.1 (xM A p).2.2.1 (xM A p).2.2.2 (gU A p).1.1.2.2.2.1 (gU A p).1.1.2.2.2.2.1 (gU A p).1.1.2.2.2.2.2.2 (gU A p).1.2.1 (gU A p).1.2.2.1 (gU A p).1.2.2.2.1 (gU A p).1.2.2.2.2.1)))
 | .c3 p d1 d2 d3 d4 d5 d6 d7 d8 d9 lv lw d12 d13 d14 iF jF d17 d18 d19 d20=>.br (A.c .lss d1 p.d0) (.need (A.k vM (((d2,d3,d4,d14,iF,d5,jF),d17,d18,d19,d20,([(d6,d7,d8,d9),(lv,lw,d12,d13)]:List Seen)),d1)) (.more (.c3 p (A.b .add .i64 d1 1) (eP A d1 d2 d3 d4 d5 d6 d7 d8 d9 lv lw d12 d13 d14 iF jF d17 d18 d19 d20).1.1.1 (eP A d1 d2 d3 d4 d5 d6 d7 d8 d9 lv lw d12 d13 d14 iF jF d17 d18 d19 d20).1.1.2.1 (eP A d1 d2 d3 d4 d5 d6 d7 d8 d9 lv lw d12 d13 d14 iF jF d17 d18 d19 d20).1.1.2.2.1 (eP A d1 d2 d3 d4 d5 d6 d7 d8 d9 lv lw d12 d13 d14 iF jF d17 d18 d19 d20).1.1.2.2.2.2.2.1 (A.n aJ (eP A d1 d2 d3 d4 d5 d6 d7 d8 d9 lv lw d12 d13 d14 iF jF d17 d18 d19 d20).1.2.2.2.2.2 0:Seen).1 (A.n aJ (eP A d1 d2 d3 d4 d5 d6 d7 d8 d9 lv lw d12 d13 d14 iF jF d17 d18 d19 d20).1.2.2.2.2.2 0:Seen).2.1 (A.n aJ (eP A d1 d2 d3 d4 d5 d6 d7 d8 d9 lv lw d12 d13 d14 iF jF d17 d18 d19 d20).1.2.2.2.2.2 0:Seen).2.2.1 (A.n aJ (eP A d1 d2 d3 d4 d5 d6 d7 d8 d9 lv lw d12 d13 d14 iF jF d17 d18 d19 d20).1.2.2.2.2.2 0:Seen).2.2.2 (A.n aJ (eP A d1 d2 d3 d4 d5 d6 d7 d8 d9 lv lw d12 d13 d14 iF jF d17 d18 d19 d20).1.2.2.2.2.2 1:Seen).1 (A.n aJ (eP A d1 d2 d3 d4 d5 d6 d7 d8 d9 lv lw d12 d13 d14 iF jF d17 d18 d19 d20).1.2.2.2.2.2 1:Seen).2.1 (A.n aJ (eP A d1 d2 d3 d4 d5 d6 d7 d8 d9 lv lw d12 d13 d14 iF jF d17 d18 d19 d20).1.2.2.2.2.2 1:Seen).2.2.1 (A.n aJ (eP A d1 d2 d3 d4 d5 d6 d7 d8 d9 lv lw d12 d13 d14 iF jF d17 d18 d19 d20).1.2.2.2.2.2 1:Seen).2.2.2 (eP A d1 d2 d3 d4 d5 d6 d7 d8 d9 lv lw d12 d13 d14 iF jF d17 d18 d19 d20).1.1.2.2.2.1 (eP A d1 d2 d3 d4 d5 d6 d7 d8 d9 lv lw d12 d13 d14 iF jF d17 d18 d19 d20).1.1.2.2.2.2.1 (eP A d1 d2 d3 d4 d5 d6 d7 d8 d9 lv lw d12 d13 d14 iF jF d17 d18 d19 d20).1.1.2.2.2.2.2.2 (eP A d1 d2 d3 d4 d5 d6 d7 d8 d9 lv lw d12 d13 d14 iF jF d17 d18 d19 d20).1.2.1 (eP A d1 d2 d3 d4 d5 d6 d7 d8 d9 lv lw d12 d13 d14 iF jF d17 d18 d19 d20).1.2.2.1 (eP A d1 d2 d3 d4 d5 d6 d7 d8 d9 lv lw d12 d13 d14 iF jF d17 d18 d19 d20).1.2.2.2.1 (eP A d1 d2 d3 d4 d5 d6 d7 d8 d9 lv lw d12 d13 d14 iF jF d17 d18 d19 d20).1.2.2.2.2.1))) (.need (A.k vP (((d2,d3,d4,d14,iF,d5,jF),d17,d18,d19,d20,([(d6,d7,d8,d9),(lv,lw,d12,d13)]:List Seen)),())) (.more (.c4 ⟨(A.l (dZ A d2 d3 d4 d5 d6 d7 d8 d9 lv lw d12 d13 d14 iF jF d17 d18 d19 d20).1.1.2.2.2.1)⟩ 0 (dZ A d2 d3 d4 d5 d6 d7 d8 d9 lv lw d12 d13 d14 iF jF d17 d18 d19 d20).1.1.1 (dZ A d2 d3 d4 d5 d6 d7 d8 d9 lv lw d12 d13 d14 iF jF d17 d18 d19 d20).1.1.2.1 (dZ A d2 d3 d4 d5 d6 d7 d8 d9 lv lw d12 d13 d14 iF jF d17 d18 d19 d20).1.1.2.2.1 (dZ A d2 d3 d4 d5 d6 d7 d8 d9 lv lw d12 d13 d14 iF jF d17 d18 d19 d20).1.1.2.2.2.2.2.1 (A.n aJ (dZ A d2 d3 d4 d5 d6 d7 d8 d9 lv lw d12 d13 d14 iF jF d17 d18 d19 d20).1.2.2.2.2.2 0:Seen).1 (A.n aJ (dZ A d2 d3 d4 d5 d6 d7 d8 d9 lv lw d12 d13 d14 iF jF d17 d18 d19 d20).1.2.2.2.2.2 0:Seen).2.1 (A.n aJ (dZ A d2 d3 d4 d5 d6 d7 d8 d9 lv lw d12 d13 d14 iF jF d17 d18 d19 d20).1.2.2.2.2.2 0:Seen).2.2.1 (A.n aJ (dZ A d2 d3 d4 d5 d6 d7 d8 d9 lv lw d12 d13 d14 iF jF d17 d18 d19 d20).1.2.2.2.2.2 0:Seen).2.2.2 (A.n aJ (dZ A d2 d3 d4 d5 d6 d7 d8 d9 lv lw d12 d13 d14 iF jF d17 d18 d19 d20).1.2.2.2.2.2 1:Seen).1 (A.n aJ (dZ A d2 d3 d4 d5 d6 d7 d8 d9 lv lw d12 d13 d14 iF jF d17 d18 d19 d20).1.2.2.2.2.2 1:Seen).2.1 (A.n aJ (dZ A d2 d3 d4 d5 d6 d7 d8 d9 lv lw d12 d13 d14 iF jF d17 d18 d19 d20).1.2.2.2.2.2 1:Seen).2.2.1 (A.n aJ (dZ A d2 d3 d4 d5 d6 d7 d8 d9 lv lw d12 d13 d14 iF jF d17 d18 d19 d20).1.2.2.2.2.2 1:Seen).2.2.2 (dZ A d2 d3 d4 d5 d6 d7 d8 d9 lv lw d12 d13 d14 iF jF d17 d18 d19 d20).1.1.2.2.2.1 (dZ A d2 d3 d4 d5 d6 d7 d8 d9 lv lw d12 d13 d14 iF jF d17 d18 d19 d20).1.1.2.2.2.2.1 (dZ A d2 d3 d4 d5 d6 d7 d8 d9 lv lw d12 d13 d14 iF jF d17 d18 d19 d20).1.1.2.2.2.2.2.2 (dZ A d2 d3 d4 d5 d6 d7 d8 d9 lv lw d12 d13 d14 iF jF d17 d18 d19 d20).1.2.1 (dZ A d2 d3 d4 d5 d6 d7 d8 d9 lv lw d12 d13 d14 iF jF d17 d18 d19 d20).1.2.2.1 (dZ A d2 d3 d4 d5 d6 d7 d8 d9 lv lw d12 d13 d14 iF jF d17 d18 d19 d20).1.2.2.2.1 (dZ A d2 d3 d4 d5 d6 d7 d8 d9 lv lw d12 d13 d14 iF jF d17 d18 d19 d20).1.2.2.2.2.1)))
 | .c4 p e1 e2 e3 e4 e5 e6 e7 e8 e9 e10 e11 e12 e13 e14 e15 e16 e17 e18 e19 e20=>.br (A.c .lss e1 p.e0) (.need (A.k Ei (((e2,e3,e4,e14,e15,e5,e16),e17,e18,e19,e20,([(e6,e7,e8,e9),(e10,e11,e12,e13)]:List Seen)),e1)) (.more (.c4 p (A.b .add .i64 e1 1) (eT A e1 e2 e3 e4 e5 e6 e7 e8 e9 e10 e11 e12 e13 e14 e15 e16 e17 e18 e19 e20).1.1.1 (eT A e1 e2 e3 e4 e5 e6 e7 e8 e9 e10 e11 e12 e13 e14 e15 e16 e17 e18 e19 e20).1.1.2.1 (eT A e1 e2 e3 e4 e5 e6 e7 e8 e9 e10 e11 e12 e13 e14 e15 e16 e17 e18 e19 e20).1.1.2.2.1 (eT A e1 e2 e3 e4 e5 e6 e7 e8 e9 e10 e11 e12 e13 e14 e15 e16 e17 e18 e19 e20).1.1.2.2.2.2.2.1 (A.n aJ (eT A e1 e2 e3 e4 e5 e6 e7 e8 e9 e10 e11 e12 e13 e14 e15 e16 e17 e18 e19 e20).1.2.2.2.2.2 0:Seen).1 (A.n aJ (eT A e1 e2 e3 e4 e5 e6 e7 e8 e9 e10 e11 e12 e13 e14 e15 e16 e17 e18 e19 e20).1.2.2.2.2.2 0:Seen).2.1 (A.n aJ (eT A e1 e2 e3 e4 e5 e6 e7 e8 e9 e10 e11 e12 e13 e14 e15 e16 e17 e18 e19 e20).1.2.2.2.2.2 0:Seen).2.2.1 (A.n aJ (eT A e1 e2 e3 e4 e5 e6 e7 e8 e9 e10 e11 e12 e13 e14 e15 e16 e17 e18 e19 e20).1.2.2.2.2.2 0:Seen).2.2.2 (A.n aJ (eT A e1 e2 e3 e4 e5 e6 e7 e8 e9 e10 e11 e12 e13 e14 e15 e16 e17 e18 e19 e20).1.2.2.2.2.2 1:Seen).1 (A.n aJ (eT A e1 e2 e3 e4 e5 e6 e7 e8 e9 e10 e11 e12 e13 e14 e15 e16 e17 e18 e19 e20).1.2.2.2.2.2 1:Seen).2.1 (A.n aJ (eT A e1 e2 e3 e4 e5 e6 e7 e8 e9 e10 e11 e12 e13 e14 e15 e16 e17 e18 e19 e20).1.2.2.2.2.2 1:Seen).2.2.1 (A.n aJ (eT A e1 e2 e3 e4 e5 e6 e7 e8 e9 e10 e11 e12 e13 e14 e15 e16 e17 e18 e19 e20).1.2.2.2.2.2 1:Seen).2.2.2 (eT A e1 e2 e3 e4 e5 e6 e7 e8 e9 e10 e11 e12 e13 e14 e15 e16 e17 e18 e19 e20).1.1.2.2.2.1 (eT A e1 e2 e3 e4 e5 e6 e7 e8 e9 e10 e11 e12 e13 e14 e15 e16 e17 e18 e19 e20).1.1.2.2.2.2.1 (eT A e1 e2 e3 e4 e5 e6 e7 e8 e9 e10 e11 e12 e13 e14 e15 e16 e17 e18 e19 e20).1.1.2.2.2.2.2.2 (eT A e1 e2 e3 e4 e5 e6 e7 e8 e9 e10 e11 e12 e13 e14 e15 e16 e17 e18 e19 e20).1.2.1 (eT A e1 e2 e3 e4 e5 e6 e7 e8 e9 e10 e11 e12 e13 e14 e15 e16 e17 e18 e19 e20).1.2.2.1 (eT A e1 e2 e3 e4 e5 e6 e7 e8 e9 e10 e11 e12 e13 e14 e15 e16 e17 e18 e19 e20).1.2.2.2.1 (eT A e1 e2 e3 e4 e5 e6 e7 e8 e9 e10 e11 e12 e13 e14 e15 e16 e17 e18 e19 e20).1.2.2.2.2.1))) (.ret ((e2,e3,e4,e14,e15,(A.b .add .i64 e5 1),e16),()))
def gA(i:Int)(s:a_×df):a_×df:=(N7 ((s.1,oH s.2),i)).1
def gB(i:Int)(s:a_×df):a_×df:=(F3 ((s.1,oH s.2),i)).1
def gC(i:Int)(s:a_×df):a_×df:=(BS ((s.1,oH s.2),i)).1
def gD(s:a_×df):a_×df:=(J5 ((s.1,oH s.2),())).1
def gE(i:Int)(s:a_×df):a_×df:=(FP ((s.1,oH s.2),i)).1
def ov(s:a_×df):Nat:=s.1.2.2.2.1.length
def ir(x:a_):df:=(x.2.2.2.1,x.2.2.2.2.1,List.replicate x.2.2.2.1.length false,List.replicate x.2.2.2.1.length false, [(0,0,0,([]:List Int)),(0,0,0,([]:List Int))])
def Gi(s:a_×df):a_:=(s.1.1,s.1.2.1,s.1.2.2.1,s.1.2.2.2.1,s.1.2.2.2.2.1,ah.b .add .i64 s.1.2.2.2.2.2.1 1,s.1.2.2.2.2.2.2)
def rD(s:a_×df):a_:=Gi (ou gE (ov (gD s)) 0 (gD s))
def rC(s:a_×df):a_:=rD (ou gC (ov s) 0 s)
def rB(s:a_×df):a_:=rC (ou gB (ov s) 0 s)
def nJ(x:a_):a_:=rB (ou gA x.2.2.2.1.length 0 (x,ir x))
def mkA(n i:Int)(s:a_×df):xu:=.c0 ⟨n⟩ i s.1.1 s.1.2.1 s.1.2.2.1 s.1.2.2.2.2.2.1 (ah.n aJ s.2.2.2.2.2 0:Seen).1 (ah.n aJ s.2.2.2.2.2 0:Seen).2.1 (ah.n aJ s.2.2.2.2.2 0:Seen).2.2.1 (ah.n aJ s.2.2.2.2.2 0:Seen).2.2.2 (ah.n aJ s.2.2.2.2.2 1:Seen).1 (ah.n aJ s.2.2.2.2.2 1:Seen).2.1 (ah.n aJ s.2.2.2.2.2 1:Seen).2.2.1 (ah.n aJ s.2.2.2.2.2 1:Seen).2.2.2 s.1.2.2.2.1 s.1.2.2.2.2.1 s.1.2.2.2.2.2.2 s.2.1 s.2.2.1 s.2.2.2.1 s.2.2.2.2.1
def mkB(n i:Int)(s:a_×df):xu:=.c1 ⟨n⟩ i s.1.1 s.1.2.1 s.1.2.2.1 s.1.2.2.2.2.2.1 (ah.n aJ s.2.2.2.2.2 0:Seen).1 (ah.n aJ s.2.2.2.2.2 0:Seen).2.1 (ah.n aJ s.2.2.2.2.2 0:Seen).2.2.1 (ah.n aJ s.2.2.2.2.2 0:Seen).2.2.2 (ah.n aJ s.2.2.2.2.2 1:Seen).1 (ah.n aJ s.2.2.2.2.2 1:Seen).2.1 (ah.n aJ s.2.2.2.2.2 1:Seen).2.2.1 (ah.n aJ s.2.2.2.2.2 1:Seen).2.2.2 s.1.2.2.2.1 s.1.2.2.2.2.1 s.1.2.2.2.2.2.2 s.2.1 s.2.2.1 s.2.2.2.1 s.2.2.2.2.1
def mkC(n:Int)(s:a_×df):xu:=.c2 ⟨n,s.1.1,s.1.2.1,s.1.2.2.1,s.1.2.2.2.2.2.1,(ah.n aJ s.2.2.2.2.2 0:Seen).1,(ah.n aJ s.2.2.2.2.2 0:Seen).2.1,(ah.n aJ s.2.2.2.2.2 0:Seen).2.2.1,(ah.n aJ s.2.2.2.2.2 0:Seen).2.2.2,(ah.n aJ s.2.2.2.2.2 1:Seen).1,(ah.n aJ s.2.2.2.2.2 1:Seen).2.1,(ah.n aJ s.2.2.2.2.2 1:Seen).2.2.1,(ah.n aJ s.2.2.2.2.2 1:Seen).2.2.2,s.1.2.2.2.1,s.1.2.2.2.2.1,s.1.2.2.2.2.2.2,s.2.1,s.2.2.1,s.2.2.2.1,s.2.2.2.2.1⟩
def mkD(n i:Int)(s:a_×df):xu:=.c3 ⟨n⟩ i s.1.1 s.1.2.1 s.1.2.2.1 s.1.2.2.2.2.2.1 (ah.n aJ s.2.2.2.2.2 0:Seen).1 (ah.n aJ s.2.2.2.2.2 0:Seen).2.1 (ah.n aJ s.2.2.2.2.2 0:Seen).2.2.1 (ah.n aJ s.2.2.2.2.2 0:Seen).2.2.2 (ah.n aJ s.2.2.2.2.2 1:Seen).1 (ah.n aJ s.2.2.2.2.2 1:Seen).2.1 (ah.n aJ s.2.2.2.2.2 1:Seen).2.2.1 (ah.n aJ s.2.2.2.2.2 1:Seen).2.2.2 s.1.2.2.2.1 s.1.2.2.2.2.1 s.1.2.2.2.2.2.2 s.2.1 s.2.2.1 s.2.2.2.1 s.2.2.2.2.1
def mkE(n i:Int)(s:a_×df):xu:=.c4 ⟨n⟩ i s.1.1 s.1.2.1 s.1.2.2.1 s.1.2.2.2.2.2.1 (ah.n aJ s.2.2.2.2.2 0:Seen).1 (ah.n aJ s.2.2.2.2.2 0:Seen).2.1 (ah.n aJ s.2.2.2.2.2 0:Seen).2.2.1 (ah.n aJ s.2.2.2.2.2 0:Seen).2.2.2 (ah.n aJ s.2.2.2.2.2 1:Seen).1 (ah.n aJ s.2.2.2.2.2 1:Seen).2.1 (ah.n aJ s.2.2.2.2.2 1:Seen).2.2.1 (ah.n aJ s.2.2.2.2.2 1:Seen).2.2.2 s.1.2.2.2.1 s.1.2.2.2.2.1 s.1.2.2.2.2.2.2 s.2.1 s.2.2.1 s.2.2.2.1 s.2.2.2.2.1
theorem phA{N:Nat}{Q:a_×df→Prop}(hN:N≤1000)(hQ:∀(i:Nat) s,i<N→Q s→ah.k DX ((s.1,oH s.2),(i:Int))=true∧Q (gA i s))(hT:∀s,Q s→aB (sQ ah) (.more (mkB (ov s:Int) 0 s)) (rB s,())) :
  ∀(j i:Nat) (s:a_×df),N-i=j→i≤N→Q s→aB (sQ ah) (.more (mkA (N:Int) (i:Int) s)) (rB (ou gA j i s),()):=by
 intro j
 induction j with
 | zero=>
   intro i s hj hi hs
   have:i=N:=by omega
   subst this
   exact ak.2 ((ai (by rw[aI];simp)).2 (hT s hs))
 | succ j ih=>
   intro i s hj hi hs
   obtain⟨h1,h2⟩:=hQ i s (by omega) hs
   refine ak.2 ((aj (by rw[aI];exact decide_eq_true (by omega))).2 (af.2 ⟨h1,?_⟩))
   have:=ih (i+1) (gA i s) (by omega) (by omega) h2
   rw[cu (i:=i) (by omega)]
   exact this
theorem phB{N:Nat}{Q:a_×df→Prop}(hN:N≤1000)(hQ:∀(i:Nat) s,i<N→Q s→ah.k CP ((s.1,oH s.2),(i:Int))=true∧Q (gB i s))(hT:∀s,Q s→aB (sQ ah) (.more (mkC (ov s:Int) s)) (rC s,())) :
  ∀(j i:Nat) (s:a_×df),N-i=j→i≤N→Q s→aB (sQ ah) (.more (mkB (N:Int) (i:Int) s)) (rC (ou gB j i s),()):=by
 intro j
 induction j with
 | zero=>
   intro i s hj hi hs
   have:i=N:=by omega
   subst this
   exact ak.2 ((ai (by rw[aI];simp)).2 (hT s hs))
 | succ j ih=>
   intro i s hj hi hs
   obtain⟨h1,h2⟩:=hQ i s (by omega) hs
   refine ak.2 ((aj (by rw[aI];exact decide_eq_true (by omega))).2 (af.2 ⟨h1,?_⟩))
   have:=ih (i+1) (gB i s) (by omega) (by omega) h2
   rw[cu (i:=i) (by omega)]
   exact this
theorem phD{N:Nat}{Q:a_×df→Prop}(hN:N≤1000)(hQ:∀(i:Nat) s,i<N→Q s→ah.k vM ((s.1,oH s.2),(i:Int))=true∧Q (gC i s))(hP:∀s,Q s→ah.k vP ((s.1,oH s.2),())=true)(hT:∀s,Q s→aB (sQ ah) (.more (mkE (ov (gD s):Int) 0 (gD s))) (rD s,())) :
  ∀(j i:Nat) (s:a_×df),N-i=j→i≤N→Q s→aB (sQ ah) (.more (mkD (N:Int) (i:Int) s)) (rD (ou gC j i s),()):=by
 intro j
 induction j with
 | zero=>
   intro i s hj hi hs
   have:i=N:=by omega
   subst this
   exact ak.2 ((ai (by rw[aI];simp)).2 (af.2 ⟨hP s hs,hT s hs⟩))
 | succ j ih=>
   intro i s hj hi hs
   obtain⟨h1,h2⟩:=hQ i s (by omega) hs
   refine ak.2 ((aj (by rw[aI];exact decide_eq_true (by omega))).2 (af.2 ⟨h1,?_⟩))
   have:=ih (i+1) (gC i s) (by omega) (by omega) h2
   rw[cu (i:=i) (by omega)]
   exact this
theorem phE{N:Nat}{Q:a_×df→Nat→Prop}(hN:N≤1000)(hQ:∀(i:Nat) s,i<N→Q s i→ah.k Ei ((s.1,oH s.2),(i:Int))=true∧Q (gE i s) (i+1)) :
  ∀(j i:Nat) (s:a_×df),N-i=j→i≤N→Q s i→aB (sQ ah) (.more (mkE (N:Int) (i:Int) s)) (Gi (ou gE j i s),()):=by
 intro j
 induction j with
 | zero=>
   intro i s hj hi hs
   have:i=N:=by omega
   subst this
   exact ak.2 ((ai (by rw[aI];simp)).2 (.ret _))
 | succ j ih=>
   intro i s hj hi hs
   obtain⟨h1,h2⟩:=hQ i s (by omega) hs
   refine ak.2 ((aj (by rw[aI];exact decide_eq_true (by omega))).2 (af.2 ⟨h1,?_⟩))
   have:=ih (i+1) (gE i s) (by omega) (by omega) h2
   rw[cu (i:=i) (by omega)]
   exact this
theorem phC{N:Nat}{Q:a_×df→Prop}(hN:N≤1000)(h1:1≤N)(hl:∀s,Q s→ov s=N)(hQ:∀(i:Nat) s,i<N→Q s→ah.k vM ((s.1,oH s.2),(i:Int))=true∧Q (gC i s))(hP:∀s,Q s→ah.k vP ((s.1,oH s.2),())=true)(hT:∀s,Q s→aB (sQ ah) (.more (mkE (ov (gD s):Int) 0 (gD s))) (rD s,()))
  {s:a_×df} (hs:Q s):aB (sQ ah) (.more (mkC (ov s:Int) s)) (rC s,()):=by
 obtain⟨h2,h3⟩:=hQ 0 s (by omega) hs
 rw[rC,hl s hs]
 obtain⟨k,rfl⟩:∃k,N=k+1:=⟨N-1,by omega⟩
 refine ak.2 ((aj (by show ah.c .lss ((0:Nat):Int) ((k+1:Nat):Int)=true;rw[aI];exact decide_eq_true (by omega))).2 (af.2 ⟨h2,?_⟩))
 exact phD hN hQ hP hT k 1 (gC ((0:Nat):Int) s) (by omega) (by omega) h3
def WA(m:ao)(l:List Node):Bool:=(List.range l.length).all fun i=>decide (bi m (iL l (i:Int))=0∧(iL l (i:Int)).1=(i:Int))
theorem Pt{m:ao}{l:List Node}:WA m l=true↔jQ m l:=by
 unfold WA
 rw[List.all_eq_true]
 refine⟨fun h i n hi=>?_,fun h i hi=>decide_eq_true (zd h ⟨by omega,by have:=List.mem_range.1 hi;omega⟩)⟩
 obtain⟨hl,he⟩:=List.getElem?_eq_some_iff.1 hi
 have:=of_decide_eq_true (h i (List.mem_range.2 hl))
 rw[show iL l (i:Int)=l[i] from getD_in hl _,he] at this
 exact this
structure Sj(x:a_):Prop where
 IF:jQ x.2.1 x.2.2.2.1
 rest:x.2.2.2.2.1.length=x.2.2.2.1.length∧1≤x.2.2.2.1.length∧x.2.2.2.1.length≤1000∧x.2.2.1.2.2.2.2.2.2.2.length≤1000000∧x.2.2.1.2.2.2.2.2.2.1.length≤1000000∧x.2.2.2.2.2.2.length+x.2.2.2.1.length≤1000000
def Hm(x:a_):Bool:=WA x.2.1 x.2.2.2.1&&decide (x.2.2.2.2.1.length=x.2.2.2.1.length∧1≤x.2.2.2.1.length∧x.2.2.2.1.length≤1000∧x.2.2.1.2.2.2.2.2.2.2.length≤1000000∧x.2.2.1.2.2.2.2.2.2.1.length≤1000000∧x.2.2.2.2.2.2.length+x.2.2.2.1.length≤1000000)
theorem E_{x:a_}:Hm x=true↔Sj x:=by
 unfold Hm
 rw[Bool.and_eq_true,Pt,decide_eq_true_eq]
 exact⟨fun h=>⟨h.1,h.2⟩,fun h=>⟨h.IF,h.rest⟩⟩
theorem EL{x:a_}(h:Sj x){s:a_×df}{k:Nat}(h1:iO k x s.1)(h2:lG (ir x) s.2)(hk:k≤x.2.2.2.1.length):EV s.1 (oH s.2):=by
 obtain⟨a,b,c,d,e,f⟩:=h.rest
 have l1:=h1.len
 have l2:=h1.aW
 have l3:=h1.ui
 have l4:s.2.1.length=x.2.2.2.1.length:=by rw[h2.was];rfl
 have l5:s.2.2.1.length=x.2.2.2.2.1.length:=by rw[h2.aW];rfl
 have l6:s.2.2.2.1.length=x.2.2.2.1.length:=h2.off.trans List.length_replicate
 have l7:s.2.2.2.2.1.length=x.2.2.2.1.length:=h2.later.trans List.length_replicate
 refine⟨by omega,by show s.2.1.length=_;omega,by show s.2.2.1.length=_;omega,by show s.2.2.2.1.length=_;omega,by show s.2.2.2.2.1.length=_;omega,by rw[h1.s];exact d,by rw[h1.s];exact e,by omega,by omega⟩
theorem WY{m:ao}{l:List Node}(h:jQ m l):On l=true:=List.all_eq_true.2 fun n hn=>by
 obtain⟨i,hi⟩:=List.getElem?_of_mem hn
 have:=(h i n hi).2
 have:=(List.getElem?_eq_some_iff.1 hi).1
 exact decide_eq_true (by omega)
structure Stp(x x':a_):Prop where
 made:x'.1=x.1
 m:x'.2.1=x.2.1
 s:x'.2.2.1=x.2.2.1
 len:x'.2.2.2.1.length=x.2.2.2.1.length
 aW:x'.2.2.2.2.1.length=x.2.2.2.2.1.length
 slot:x'.2.2.2.2.2.1=ah.b .add .i64 x.2.2.2.2.2.1 1
 ui:x'.2.2.2.2.2.2.length≤x.2.2.2.2.2.2.length+x.2.2.2.1.length
 IF:jQ x.2.1 x'.2.2.2.1
 QA:Cg x→Cg x'
theorem vc{α:Type}{f:Int→α→α}{Q:α→Nat→Prop}{N:Nat}(h:∀(i:Nat) s,i<N→Q s i→Q (f i s) (i+1)):∀(j i:Nat) (s:α),i+j=N→Q s i→Q (ou f j i s) N:=by
 intro j
 induction j with
 | zero=>intro i s hi hs;rw[show i=N by omega] at hs;exact hs
 | succ j ih=>intro i s hi hs;exact ih (i+1) _ (by omega) (h i s (by omega) hs)
section
variable {x:a_} (h:Sj x)
include h
theorem qA(i:Nat)(s:a_×df)(hi:i<x.2.2.2.1.length)(hs:iO 0 x s.1∧lG (ir x) s.2):ah.k DX ((s.1,oH s.2),(i:Int))=true∧(iO 0 x (gA i s).1∧lG (ir x) (gA i s).2):=by
 have hz:=EL h hs.1 hs.2 (Nat.zero_le _)
 have hi':0≤(i:Int)∧(i:Int)<(s.1.2.2.2.1.length:Int):=⟨by omega,by rw[hs.1.len];omega⟩
 obtain⟨a,b⟩:=Pw (w:=oH s.2) hi'
 exact⟨decide_eq_true ⟨hz,hi'⟩,hs.1.trans a,hs.2.trans b.th⟩
theorem qB(i:Nat)(s:a_×df)(hi:i<x.2.2.2.1.length)(hs:iO 0 x s.1∧lG (ir x) s.2):ah.k CP ((s.1,oH s.2),(i:Int))=true∧(iO 0 x (gB i s).1∧lG (ir x) (gB i s).2):=by
 have hz:=EL h hs.1 hs.2 (Nat.zero_le _)
 have hi':0≤(i:Int)∧(i:Int)<(s.1.2.2.2.1.length:Int):=⟨by omega,by rw[hs.1.len];omega⟩
 obtain⟨a,b⟩:=ag_ hz hi'
 exact⟨JH hz hi',hs.1.trans a,hs.2.trans b.th⟩
theorem qC(i:Nat)(s:a_×df)(hi:i<x.2.2.2.1.length)(hs:iO 0 x s.1∧lG (ir x) s.2):ah.k vM ((s.1,oH s.2),(i:Int))=true∧(iO 0 x (gC i s).1∧lG (ir x) (gC i s).2):=by
 have hz:=EL h hs.1 hs.2 (Nat.zero_le _)
 have hi':0≤(i:Int)∧(i:Int)<(s.1.2.2.2.1.length:Int):=⟨by omega,by rw[hs.1.len];omega⟩
 obtain⟨a,b⟩:=aik hz hi'
 exact⟨KB hz hi',hs.1.trans a,hs.2.trans b.th⟩
theorem GX{s:a_×df}{k:Nat}(h1:iO k x s.1):jQ s.1.2.1 s.1.2.2.2.1:=by rw[h1.m];exact h1.IF h.IF
theorem qP(s:a_×df)(hs:iO 0 x s.1∧lG (ir x) s.2):ah.k vP ((s.1,oH s.2),())=true∧(iO 0 x (gD s).1∧lG (ir x) (gD s).2):=by
 have hz:=EL h hs.1 hs.2 (Nat.zero_le _)
 obtain⟨a,b⟩:=NW (x:=s.1) (w:=oH s.2)
 refine⟨?_,hs.1.trans a,hs.2.trans b.th⟩
 show(decide (EV s.1 (oH s.2))&&On s.1.2.2.2.1)=true
 rw[decide_eq_true hz,WY (GX h hs.1)];rfl
theorem qE(i:Nat)(s:a_×df)(hi:i<x.2.2.2.1.length)(hs:iO i x s.1∧lG (ir x) s.2):ah.k Ei ((s.1,oH s.2),(i:Int))=true∧(iO (i+1) x (gE i s).1∧lG (ir x) (gE i s).2):=by
 have hz:=EL h hs.1 hs.2 (by omega)
 have hi':0≤(i:Int)∧(i:Int)<(s.1.2.2.2.1.length:Int):=⟨by omega,by rw[hs.1.len];omega⟩
 obtain⟨a,b⟩:=aiy hz hi' (GX h hs.1)
 exact⟨Kc hz hi' (GX h hs.1),hs.1.trans a,hs.2.trans b.th⟩
theorem step1:aB (sQ ah) (aaT ah x) (nJ x,()):=by
 obtain⟨a,b,c,d,e,f⟩:=h.rest
 have hlen:∀s:a_×df,(iO 0 x s.1∧lG (ir x) s.2)→ov s=x.2.2.2.1.length:=fun s hs=>hs.1.len
 have tE:∀s:a_×df,(iO 0 x s.1∧lG (ir x) s.2)→aB (sQ ah) (.more (mkE (ov (gD s):Int) 0 (gD s))) (rD s,()):=fun s hs=>by
  have hd:=(qP h s hs).2
  rw[rD,hlen _ hd]
  exact phE (Q:=fun s k=>iO k x s.1∧lG (ir x) s.2) c (fun i s hi hs=>qE h i s hi hs) _ 0 _ (by omega) (by omega) hd
 have tC:∀s:a_×df,(iO 0 x s.1∧lG (ir x) s.2)→aB (sQ ah) (.more (mkC (ov s:Int) s)) (rC s,()):=fun s hs=>
  phC (Q:=fun s=>iO 0 x s.1∧lG (ir x) s.2) c b hlen (fun i s hi hs=>qC h i s hi hs) (fun s hs=>(qP h s hs).1) tE hs
 have tB:∀s:a_×df,(iO 0 x s.1∧lG (ir x) s.2)→aB (sQ ah) (.more (mkB (ov s:Int) 0 s)) (rB s,()):=fun s hs=>by
  rw[rB,hlen s hs]
  exact phB (Q:=fun s=>iO 0 x s.1∧lG (ir x) s.2) c (fun i s hi hs=>qB h i s hi hs) tC _ 0 s (by omega) (by omega) hs
 have base:aB (sQ ah) (.more (mkA (x.2.2.2.1.length:Int) 0 (x,ir x))) (nJ x,()):=
  phA (Q:=fun s=>iO 0 x s.1∧lG (ir x) s.2) c (fun i s hi hs=>qA h i s hi hs) tB _ 0 (x,ir x) (by omega) (by omega) ⟨.refl,.refl⟩
 have n1:ah.c .neq (ah.l x.2.2.2.1) 0=true:=by rw[aD,bL];exact bne_iff_ne.2 (by omega)
 have n2:ah.not (ah.c .eql (ah.l x.2.2.2.1) 0)=true:=by rw[bE,ax,bL,beq_eq_false_iff_ne.2 (by omega)];rfl
 have n3:ah.c .leq (ah.l x.2.2.2.1) 676622540169=true:=by rw[ap,bL];exact decide_eq_true (by omega)
 have n4:ah.c .neq (ah.l x.2.2.2.2.1) 0=true:=by rw[aD,bL];exact bne_iff_ne.2 (by omega)
 have n5:ah.not (ah.c .eql (ah.l x.2.2.2.2.1) 0)=true:=by rw[bE,ax,bL,beq_eq_false_iff_ne.2 (by omega)];rfl
 have n6:ah.c .leq (ah.l x.2.2.2.2.1) 140737488355328=true:=by rw[ap,bL];exact decide_eq_true (by omega)
 have n7:ah.and (ah.c .eql (ah.l x.2.2.2.1) (ah.l x.2.2.2.1)) (ah.and (ah.c .leq 0 (ah.l x.2.2.2.1)) (ah.c .leq (ah.l x.2.2.2.1) 140737488355328))=true:=by
  rw[bL,ax,ap,ap,aG,aG];simp;omega
 unfold aaT Qk Ms pg wR
 repeat' first|exact base|apply aB.and|refine af.2 ⟨n1,?_⟩|refine af.2 ⟨n2,?_⟩|refine af.2 ⟨n3,?_⟩|refine af.2 ⟨n4,?_⟩|refine af.2 ⟨n5,?_⟩|refine af.2 ⟨n6,?_⟩|refine af.2 ⟨n7,?_⟩
theorem s6:Stp x (nJ x):=by
 have hs0:iO 0 x (x,ir x).1∧lG (ir x) (x,ir x).2:=⟨.refl,.refl⟩
 have hA:=vc (f:=gA) (Q:=fun s _=>iO 0 x s.1∧lG (ir x) s.2) (N:=x.2.2.2.1.length) (fun i s hi hs=>(qA h i s hi hs).2) _ 0 (x,ir x) (Nat.zero_add _) hs0
 have hB:=vc (f:=gB) (Q:=fun s _=>iO 0 x s.1∧lG (ir x) s.2) (N:=x.2.2.2.1.length) (fun i s hi hs=>(qB h i s hi hs).2) _ 0 _ (Nat.zero_add _) hA
 have hC:=vc (f:=gC) (Q:=fun s _=>iO 0 x s.1∧lG (ir x) s.2) (N:=x.2.2.2.1.length) (fun i s hi hs=>(qC h i s hi hs).2) _ 0 _ (Nat.zero_add _) hB
 have hD:=(qP h _ hC).2
 have hE:=vc (f:=gE) (Q:=fun s k=>iO k x s.1∧lG (ir x) s.2) (N:=x.2.2.2.1.length) (fun i s hi hs=>(qE h i s hi hs).2) _ 0 _ (Nat.zero_add _) hD
 have e:nJ x=Gi (ou gE x.2.2.2.1.length 0 (gD (ou gC x.2.2.2.1.length 0 (ou gB x.2.2.2.1.length 0 (ou gA x.2.2.2.1.length 0 (x,ir x)))))):=by
  show Gi (ou gE (ov (gD (ou gC (ov (ou gB (ov (ou gA _ 0 _)) 0 _)) 0 _))) 0 _)=_
  have l1:ov (ou gA x.2.2.2.1.length 0 (x,ir x))=x.2.2.2.1.length:=hA.1.len
  rw[l1]
  have l2:ov (ou gB x.2.2.2.1.length 0 (ou gA x.2.2.2.1.length 0 (x,ir x)))=x.2.2.2.1.length:=hB.1.len
  rw[l2]
  have l3:ov (gD (ou gC x.2.2.2.1.length 0 (ou gB x.2.2.2.1.length 0 (ou gA x.2.2.2.1.length 0 (x,ir x)))))=x.2.2.2.1.length:=hD.1.len
  rw[l3]
 rw[e]
 obtain⟨k,_⟩:=hE
 exact⟨k.made,k.m,k.s,k.len,k.aW,by show ah.b .add .i64 _ 1=_;rw[k.slot],k.ui,k.IF h.IF,fun hg=>by rw[Cg,show(Gi _).2.1=x.2.1 from k.m];exact k.QA h.IF hg⟩
end
def qL:a_×Unit→a_×Unit:=fun(x,_)=>(nJ x,())
def Eg:a_×Unit→Bool:=fun(x,_)=>Hm x
def agn:bI:=⟨[.ptr [.d .bool,.d aP,.d f_,.own aF,.own .bool,.d yI,.own eE]], [], [],Eg,qL,false⟩
theorem VW:bI.Sound Tryz.prog 58 agn:=Ao ar bU 117 iz (mc acF (mc ad1 (mc adX (mc acS (mc aeU mz))))) pz [⟨58,5, [[0,2,4,37,45,46,65574]]⟩,⟨58,12, [[0,2,62,63]]⟩,⟨113,1000007, []⟩,⟨114,1000007, []⟩] [] (fun A (x2,())=>aaT A x2) sQ WX (fc Tryz.func58 (fc Tryz.func113 (fc Tryz.func114 fz))) sz (fun A y=>match y with |.c0 p a1 a2 a3 a4 a5 a6 a7 a8 a9 cX dN a12 kp gK jh a16 a17 je l_ a20=>⟨44,by kernel_rfl,by kernel_rfl⟩|.c1 p b1 b2 b3 b4 b5 b6 b7 b8 b9 b10 b11 b12 b13 jN fT cY iX my jO mm=>⟨44,by kernel_rfl,by kernel_rfl⟩|.c2 p=>⟨44,by kernel_rfl,by kernel_rfl⟩|.c3 p d1 d2 d3 d4 d5 d6 d7 d8 d9 lv lw d12 d13 d14 iF jF d17 d18 d19 d20=>⟨44,by kernel_rfl,by kernel_rfl⟩|.c4 p e1 e2 e3 e4 e5 e6 e7 e8 e9 e10 e11 e12 e13 e14 e15 e16 e17 e18 e19 e20=>⟨31,by kernel_rfl,by kernel_rfl⟩) fun((x2,()):a_×Unit) hp hv h=>step1 (E_.1 hp)
def MS(a b:Int):Int:=bif decide (a<b) then -1 else bif decide (b<a) then 1 else 0
def YG:List Int→Int
 | []=>0
 | a::l=>bif decide (a=0) then YG l else a
def YD(A:aK)(x2:Int):LT Bool Empty:=.ret (A.c .neq x2 x2)
def Fo:Int→Bool:=fun x2=>(YD ah x2).val (Ty.bl [.bool])
def Wk:aC:=⟨[yI], [.bool],(@tt Int),Fo⟩
theorem ac4:aC.jk Tryz.prog 206 Wk∧Sd 206 Wk:=l8 ar bU true 17 [] [] (fun A x2=>YD A x2) (fun _=>Empty.elim) Empty.elim (fc Tryz.func206 fz) szD (fun _ y=>y.elim) fun(x2:Int) hp h=>LT.runs (d:=Ty.bl [.bool]) (LT.fX (by kernel_rfl)) (by
 show(YD ah x2).pre=true
 rfl)
def W4(A:aK)(x2:Int)(y2:Int):LT Int Empty:=.need (A.k (@tt Int) x2) (.need (A.k (@tt Int) y2) (.br (A.k Fo x2) (.br (A.k Fo y2) (.ret 0) (.ret (-1))) (.br (A.k Fo y2) (.ret 1) (.br (A.c .lss x2 y2) (.ret (-1)) (.br (A.c .gtr x2 y2) (.ret 1) (.ret 0))))))
theorem N0{x:Int}:ah.k Fo x=false:=by
 show ah.c .neq x x=false
 rw[aT];exact decide_eq_false fun h=>h rfl
theorem ahS{a b:Int}:aB Empty.elim (W4 ah a b) (MS a b):=by
 unfold W4
 refine af.2 ⟨rfl,af.2 ⟨rfl,(ai N0).2 ((ai N0).2 ?_)⟩⟩
 unfold MS
 by_cases h1:a<b
 ·rw[decide_eq_true h1];exact(aj (by rw[al];exact decide_eq_true h1)).2 (.ret _)
 ·rw[decide_eq_false h1]
  refine(ai (by rw[al];exact decide_eq_false h1)).2 ?_
  by_cases h2:b<a
  ·rw[decide_eq_true h2];exact(aj (show ah.c .gtr a b=true from decide_eq_true h2)).2 (.ret _)
  ·rw[decide_eq_false h2];exact(ai (show ah.c .gtr a b=false from decide_eq_false h2)).2 (.ret _)
def i6:(Int×Int)→Int:=fun(a,b)=>MS a b
def PS:aC:=⟨[yI,yI], [yI],(@tt (Int×Int)),i6⟩
theorem Wc:aC.jk Tryz.prog 138 PS∧Sd 138 PS:=l8 ar bU true 58 [] [] (fun A (x2,y2)=>W4 A x2 y2) (fun _=>Empty.elim) Empty.elim (fc Tryz.func138 fz) (scD ac4 szD) (fun _ y=>y.elim) fun(x2,y2) hp h=>ahS
theorem adz:Sd 138 PS:=Wc.2
structure MU where
 (a1:List Int) (a2:Int)
inductive Us where
 | c0 (p:MU) (a3:Int)
noncomputable def W9:Us→eF
 | .c0 p a3=>⟨[⟨137,18,(en [(3,vi 0),(6,.sl yI p.a1),(7,vi p.a2),(8,vi a3)]),[.inLoop (cw Tryz.f137 [1,1,0,1,0,0]),.inBlock 0,.code (cw Tryz.f137 [1,1,1])],[],none⟩],[.dead]⟩
def afV(A:aK)(vals:List Int):LT Int Us:=.more (.c0 ⟨vals,(A.l vals)⟩ 0)
def NS(A:aK):Us→LT Int Us
 | .c0 p a3=>.br (A.c .lss a3 p.a2) (.need (A.and (A.c .leq 0 a3) (A.c .lss a3 (A.l p.a1))) (.br (A.c .neq (A.n yI p.a1 a3:Int) 0) (.ret (A.n yI p.a1 a3:Int)) (.more (.c0 p (A.b .add .i64 a3 1))))) (.ret 0)
theorem Sg{p:MU}{l:List Int}(h0:p.a1=l)(h1:p.a2=(l.length:Int))(hl:l.length≤140737488355328) :
  ∀(j i:Nat),l.length-i=j→i≤l.length→aB (NS ah) (.more (.c0 p (i:Int))) (YG (l.drop i)):=by
 intro j
 induction j with
 | zero=>
   intro i hj hi
   have:i=l.length:=by omega
   subst this
   rw[ak,NS,h1,List.drop_length]
   exact(ai (by rw[al];simp)).2 (.ret _)
 | succ j ih=>
   intro i hj hi
   have hi':i<l.length:=by omega
   have nx:=ih (i+1) (by omega) (by omega)
   rw[ak,NS,h0,h1]
   refine(aj (by rw[al];exact decide_eq_true (by omega))).2 (af.2 ⟨aS hi',?_⟩)
   rw[show(ah.n yI l (i:Int):Int)=l[i] from getD_in hi' _,List.drop_eq_getElem_cons hi',YG,cu (i:=i) (by omega)]
   by_cases h:l[i]=0
   ·rw[decide_eq_true h]
    exact(ai (by rw[aT];exact decide_eq_false fun k=>k h)).2 nx
   ·rw[decide_eq_false h]
    exact(aj (by rw[aT];exact decide_eq_true h)).2 (.ret _)
theorem or1{l:List Int}(h:Ty.cq [.slice (.int .i64)] l):aB (NS ah) (afV ah l) (YG l):=
 Sg (l:=l) rfl rfl h.1 l.length 0 rfl (by omega)
def Od:(List Int)→Int:=fun l=>YG l
def QE:aC:=⟨[BW], [yI],(@tt (List Int)),Od⟩
theorem Vh:aC.jk Tryz.prog 137 QE∧Sd 137 QE:=l8 ar bU true 23 [⟨137,3, [[3,6,7,8]]⟩] [] (fun A vals=>afV A vals) NS W9 (fc Tryz.func137 fz) szD (fun A y=>match y with |.c0 p a3=>⟨34,by kernel_rfl,by kernel_rfl⟩) fun vals hp h=>or1 h
theorem abQ:Sd 137 QE:=Vh.2
def Za(A:aK)(a:cd)(b:cd):LT Int Empty:=.need (A.k (@tt (Int×Int)) (a.2.2.2.1,b.2.2.2.1)) (.need (A.k (@tt (Int×Int)) (a.2.2.2.2.1,b.2.2.2.2.1)) (.need (A.k (@tt (Int×Int)) (a.1,b.1)) (.need (A.k (@tt (Int×Int)) (a.2.1,b.2.1)) (.need (A.k (@tt (Int×Int)) (a.2.2.1,b.2.2.1)) (.need (A.k (@tt (Int×Int)) (a.2.2.2.2.2.1,b.2.2.2.2.2.1)) (.need (A.k (@tt (Int×Int)) (a.2.2.2.2.2.2,b.2.2.2.2.2.2)) (.need (A.k (@tt (List Int)) [(A.k i6 (a.2.2.2.1,b.2.2.2.1)),(A.k i6 (a.2.2.2.2.1,b.2.2.2.2.1)),(A.k i6 (a.1,b.1)),(A.k i6 (a.2.1,b.2.1)),(A.k i6 (a.2.2.1,b.2.2.1)),(A.k i6 (a.2.2.2.2.2.1,b.2.2.2.2.2.1)),(A.k i6 (a.2.2.2.2.2.2,b.2.2.2.2.2.2))]) (.ret (A.k Od [(A.k i6 (a.2.2.2.1,b.2.2.2.1)),(A.k i6 (a.2.2.2.2.1,b.2.2.2.2.1)),(A.k i6 (a.1,b.1)),(A.k i6 (a.2.1,b.2.1)),(A.k i6 (a.2.2.1,b.2.2.1)),(A.k i6 (a.2.2.2.2.2.1,b.2.2.2.2.2.1)),(A.k i6 (a.2.2.2.2.2.2,b.2.2.2.2.2.2))])))))))))
def NC:(cd×cd)→Int:=fun(a,b)=>(Za ah a b).val (Ty.bl [yI])
def Vv:aC:=⟨[bR,bR], [yI],(@tt (cd×cd)),NC⟩
theorem ack:aC.jk Tryz.prog 202 Vv∧Sd 202 Vv:=l8 ar bU true 53 [] [] (fun A (a,b)=>Za A a b) (fun _=>Empty.elim) Empty.elim (fc Tryz.func202 fz) (scD Vh (scD Wc szD)) (fun _ y=>y.elim) fun((a,b):cd×cd) hp h=>LT.runs (d:=Ty.bl [yI]) (LT.fX (by kernel_rfl)) (by
 show(Za ah a b).pre=true
 rfl)
section
open Go.Sort
theorem wO(w:World)(b:Nat)(f:Array Value→Array Value)(b':Nat):(mapBlock w b f).heap[b']? = if b=b' then w.heap[b']?.map (onCells f) else w.heap[b']? :=by
 unfold mapBlock
 simp[Array.getElem?_modify]
variable {α:Type} [Inhabited α] {enc:α→List Value} {k:Nat}
theorem qb{w:World}{b off n:Nat}{d:Array α}{os:Array Obj}{b':Nat}(h:b'<w.heap.size)(hne:b'≠b):(sortWorldK enc k w b off n d os).heap[b']? = w.heap[b']? :=by
 show((mapBlock (Sort.ahead w n) b (Sort.putCells id off (flatK enc k d))).heap++os)[b']? = _
 rw[Array.getElem?_append_left (by simpa [mapBlock,Sort.ahead] using h),wO,if_neg (Ne.symm hne)]
 rfl
theorem zf{w:World}{b off n:Nat}{d:Array α}{os:Array Obj}{vs:Array Value}{T:TypeId}{fr:Nat×Nat}(h:w.heap[b]? = some (.cells vs T fr)) :
  (sortWorldK enc k w b off n d os).heap[b]? = some (.cells (Sort.putCells id off (flatK enc k d) vs) T fr):=by
 have hlt:=(Array.getElem?_eq_some_iff.1 h).1
 show((mapBlock (Sort.ahead w n) b (Sort.putCells id off (flatK enc k d))).heap++os)[b]? = _
 rw[Array.getElem?_append_left (by simpa [mapBlock,Sort.ahead] using hlt),wO,if_pos rfl]
 show(w.heap[b]?).map _=_
 rw[h];rfl
theorem vK{off:Nat}{F vs:Array Value}:(Sort.putCells id off F vs).size=vs.size:=by simp[Sort.putCells]
theorem UI{off j:Nat}{F vs:Array Value}(h1:off≤j)(h2:j<off+F.size)(h3:j<vs.size):(Sort.putCells id off F vs).toList[j]? = some F[j-off]! :=by
 have h4:j<(Sort.putCells id off F vs).size:=by rw[vK];exact h3
 rw[Array.getElem?_toList,Array.getElem?_eq_getElem h4]
 congr 1
 simp only[Sort.putCells,Array.getElem_mapIdx]
 rw[if_pos ⟨h1,h2⟩];rfl
theorem Ju{d:Array α}{i r:Nat}(hi:i<d.size)(hr:r<k):(flatK enc k d)[i*k+r]! = (enc d[i]!)[r]! :=by
 have h1:(i*k+r)/k=i:=by rw[Nat.mul_comm,Nat.mul_add_div (by omega),Nat.div_eq_of_lt hr,Nat.add_zero]
 have h2:(i*k+r)%k=r:=by rw[Nat.mul_comm,Nat.mul_add_mod,Nat.mod_eq_of_lt hr]
 have h3:i*k+r<d.size*k:=by
  have:=Nat.mul_le_mul_right k (show i+1≤d.size from hi)
  rw[Nat.add_mul,Nat.one_mul] at this;omega
 rw[get_flatK _ _ _ _ h3,h1,h2]
theorem Lb(hk:∀x,(enc x).length=k){d:Array α}{vs:Array Value}{off:Nat}(h:off+d.size*k≤vs.size){i:Nat}(hi:i<d.size) :
  ((Sort.putCells id off (flatK enc k d) vs).toList.drop (off+i*k)).take k=enc d[i]! :=by
 have h3:i*k+k≤d.size*k:=by
  have:=Nat.mul_le_mul_right k (show i+1≤d.size from hi)
  rwa [Nat.add_mul,Nat.one_mul] at this
 apply List.ext_getElem?
 intro r
 by_cases hr:r<k
 ·rw[List.getElem?_take_of_lt hr,List.getElem?_drop,UI (by omega) (by rw[size_flatK];omega) (by omega),show off+i*k+r-off=i*k+r by omega,Ju hi hr]
  have h2:r<(enc d[i]!).length:=by rw[hk];exact hr
  rw[getElem!_pos (enc d[i]!) r h2,List.getElem?_eq_getElem h2]
 ·rw[List.getElem?_take_eq_none (by omega),List.getElem?_eq_none (by rw[hk];omega)]
theorem K3(hk:∀x,(enc x).length=k){w:World}{b off:Nat}{d:Array α}{vs:Array Value}{T:TypeId}(hb:w.heap[b]? = some (.cells vs T (0,0)))(h:off+d.size*k≤vs.size)
  (hd:∀i,i<d.size→(vs.toList.drop (off+i*k)).take k=enc d[i]!):HoldsK enc k w b off d:=by
 intro j hj
 rw[size_flatK] at hj
 have hk0:0<k:=by
  rcases Nat.eq_zero_or_pos k with e|e
  ·subst e;simp at hj
  ·exact e
 have hi:j/k<d.size:=(Nat.div_lt_iff_lt_mul hk0).2 hj
 have hr:j%k<k:=Nat.mod_lt _ hk0
 have e:j/k*k+j%k=j:=Nat.div_add_mod' j k
 refine⟨?_,?_⟩
 ·unfold World.cell?
  simp only[hb]
  have h1:off+j<vs.size:=by omega
  show(if (none:Option _).isSome then none else vs[off+j]?)=_
  rw[Option.isSome_none,if_neg (by decide),Array.getElem?_eq_getElem h1]
  congr 1
  show vs[off+j]=(flatK enc k d)[j]!
  have e0:(flatK enc k d)[j]! = (enc d[j/k]!)[j%k]! :=by rw[←Ju hi hr,e]
  rw[e0,←hd _ hi]
  have h2:j%k<((vs.toList.drop (off+j/k*k)).take k).length:=by rw[hd _ hi,hk];exact hr
  rw[getElem!_pos ((vs.toList.drop (off+j/k*k)).take k) (j%k) h2,List.getElem_take,List.getElem_drop,Array.getElem_toList]
  congr 1
  omega
 ·unfold World.frozen?
  simp[hb]
end
section
open Go.Lib Go.RowKit Go.Shelf Go.Sort
theorem LN{P:Program}{ρ:Shelf.Ren}(L:SlLaysF0.n6 P ρ)(t:Ty){c:FuncId}{fn:Ty.Ts [t,t]→Ty.Ts [.int .i64]}(hc:aC.jk P c ⟨[t,t], [.int .i64],fun _=>true,fn⟩)(eg:∀args w,(callFunc c args).run P w=.ok (.enter c args) w)
  (aE:∀w,(isAgg (ρ.t 24)).run P w=.ok true w) (zE:∀w,(Go.sizeOf (ρ.t 24)).run P w=.ok t.size w) (hso:t.lL=true) (hag:t.isAgg=true)
  {lt:t.T→t.T→Bool} (hlt:∀x y,lt x y=decide ((show Int from fn (x,y))<0)) (hO:SWO lt) (hT:∀x y,lt x y=false→lt y x=false→x=y) {F:Func} (hF:P.funcs[ρ.f 6]? = some F) (hb:F.body.isSome=true) (hn:(F.name == "runtime.NumGoroutine")=false) :
  dD.Sound P (ρ.f 6) ⟨t, [], [c], [],fun _=>true,fun x=>(x.1.mergeSort fun a b=>!(lt b a),())⟩:=by
 refine⟨fun w I x y v aa B hI hv hB hy _=>?_,F,hF,hb,hn⟩
 have haa:aa=[]:=hy
 subst haa
 rcases gL.1 hv with ⟨rfl,rfl,a,e⟩|⟨hne,b,dl,cap,rfl,e,h1,h2,vs,T,fr,h3,h4,h5,h6⟩
 ·cases e
  refine(AnyF.slices_SortFunc_none L a 0 (.func (.func c) #[] #[]) w).mono ?_
  rintro e w' ⟨rfl,rfl⟩
  exact⟨_,rfl,rfl,rfl,rfl,Nat.le_refl _,fun _ _ _=>rfl,I,fun b hb=>⟨.inl hb,hI b hb⟩,fun b us T fr h=>⟨us,T,fr,h,rfl⟩,gL.2 (.inl ⟨by simp,rfl,a,rfl⟩),rfl⟩
 ·cases e
  have h4:fr=(0,0):=h4
  subst h4
  have hbl:b<w.heap.size:=(Array.getElem?_eq_some_iff.1 h3).1
  have hx0:0<x.length:=List.length_pos_iff.2 hne
  let α:Type:={p:List Value×t.T // aR w I t p.1 p.2}
  let el:(i:Nat)→i<x.length→α:=fun i hi=>⟨((vs.toList.drop (dl+i*t.size)).take t.size,x[i]),h6 i _ (List.getElem?_eq_getElem hi)⟩
  haveI:Inhabited α:=⟨el 0 hx0⟩
  let enc:α→List Value:=fun p=>p.1.1
  let cf:α→α→Int:=fun p q=>fn (p.1.2,q.1.2)
  have hk:∀p,(enc p).length=t.size:=fun p=>aR.length t p.2
  have h1c:∀p,∀v∈enc p,v.oneCell'=true:=fun p=>aR.oneCell t hso p.2
  have hlo:∀p q,ltOf cf p q=lt p.1.2 q.1.2:=fun p q=>(hlt _ _).symm
  have hO':SWO (ltOf cf):=⟨fun p=>by rw[hlo];exact hO.irrefl _,fun p q r a b=>by rw[hlo] at a b ⊢;exact hO.trans _ _ _ a b,fun p q r a b=>by rw[hlo] at a b ⊢;exact hO.ntrans _ _ _ a b⟩
  let d:Array α:=Array.ofFn (n:=x.length) fun i=>el i.1 i.2
  have hds:d.size=x.length:=Array.size_ofFn
  have hdi:∀i (hi:i<x.length),d[i]! = el i hi:=fun i hi=>by
   rw[getElem!_pos d i (by rw[hds];exact hi)]
   exact Array.getElem_ofFn _
  have hfit:dl+d.size*t.size≤vs.size:=by
   have h7:=Nat.mul_le_mul_right t.size h1
   rw[hds]
   exact Nat.le_trans (Nat.add_le_add_left h7 dl) h5
  have hH:HoldsK enc t.size w b dl d:=K3 hk h3 hfit fun i hi=>by rw[hds] at hi;rw[hdi i hi]
  have hIb:¬I b:=hB b (List.mem_singleton.2 rfl)
  have keepI:∀(n:Nat) (dk:Array α) (os:Array Obj) (b':Nat),I b'→I b'∧(sortWorldK enc t.size w b dl n dk os).heap[b']? = w.heap[b']? :=fun n dk os b' hb'=>⟨hb',qb (hI b' hb') fun e=>hIb (e▸hb')⟩
  have hcmp:CmpLays P c #[] enc t.size cf b dl d.size w:=by
   intro m os dk hdk p q
   have hag':∀p:α,gy (sortWorldK enc t.size w b dl m dk os) I t (.agg (enc p).toArray) p.1.2:=fun p=>by
    unfold gy
    rw[if_pos hag]
    exact⟨_,rfl,aR.mono (keepI m dk os) t p.2⟩
   refine(hc (sortWorldK enc t.size w b dl m dk os) I (p.1.2,q.1.2) #[.agg (enc p).toArray,.agg (enc q).toArray] (fun b' hb'=>Nat.lt_of_lt_of_le (hI b' hb') (size_sortWorldK_c enc t.size w b dl m dk os)) ⟨_,_,rfl,hag' p,_,rfl,hag' q⟩ rfl).mono ?_
   rintro e w' ⟨g0,v,rfl,g1,g2,g3,g4,g5,I',_,g7⟩
   have g7:gy w' I' (.int .i64) v (cf p q):=g7
   have g7:v=.int .i64 (cf p q):=by
    unfold gy at g7
    rw[if_neg (by decide)] at g7
    have:=g7.1
    simpa using this
   refine⟨by rw[g7],w'.drawn-(sortWorldK enc t.size w b dl m dk os).drawn,w'.heap.extract (sortWorldK enc t.size w b dl m dk os).heap.size w'.heap.size,?_⟩
   generalize sortWorldK enc t.size w b dl m dk os=W at *
   cases w' with
   | mk hp tp dr o out=>
     cases W with
     | mk hp2 tp2 dr2 o2 out2=>
       simp only at g0 g1 g2 g3 g4 g5
       subst g1;subst g2;subst g3
       unfold Sort.grow World.drewN
       simp only[World.mk.injEq,true_and,and_true]
       refine⟨?_,by omega⟩
       apply Array.ext
       ·simp;omega
       ·intro i i1 i2
        by_cases hi:i<hp2.size
        ·rw[Array.getElem_append_left hi]
         have:=g5 i hi
         rw[Array.getElem?_eq_getElem i1,Array.getElem?_eq_getElem hi] at this
         exact Option.some.inj this
        ·rw[Array.getElem_append_right (by omega),Array.getElem_extract]
         congr 1
         omega
  have hsz:d.size<4611686018427387904:=by
   rw[hds]
   exact Nat.lt_of_le_of_lt h2 (by decide)
  have call:=AnyQ.slices_SortFunc L t.size aE zE enc hk h1c cf hO' c #[] b dl cap d w eg hcmp hH hbl hsz
  rw[hds] at call
  refine call.mono ?_
  rintro e w' ⟨rfl,d',n,os,hp,hs,rfl⟩
  obtain⟨p1,_,p3⟩:=hp
  have p1:d'.size=x.length:=p1.trans hds
  have e1:d'.extract 0 x.length=d':=by rw[←p1];exact Array.extract_size
  have e2:d.extract 0 x.length=d:=by rw[←hds];exact Array.extract_size
  rw[e1,e2] at p3
  have hdx:d.toList.map (fun p=>p.1.2)=x:=by
   apply List.ext_getElem
   ·rw[List.length_map,Array.length_toList,hds]
   ·intro i i1 i2
    rw[List.getElem_map,Array.getElem_toList]
    exact congrArg (fun p:α=>p.1.2) (Array.getElem_ofFn (f:=fun i:Fin x.length=>el i.1 i.2) (by rw[List.length_map,Array.length_toList] at i1;exact i1))
  have hsorted:d'.toList.map (fun p=>p.1.2)=x.mergeSort fun a b=>!(lt b a):=by
   haveI:Inhabited t.T:=⟨x[0]⟩
   have perm:(d'.toList.map fun p=>p.1.2).Perm x:=by
    have:=p3.map (fun p:α=>p.1.2)
    rwa [hdx] at this
   have hl:=perm.length_eq
   have:=sorted_unique_holds (lt:=lt) hO hT x.toArray (d'.toList.map fun p=>p.1.2).toArray ⟨by simp[p1],fun i hi=>by
     have:x.length≤i:=by rcases hi with h|h;· omega
                  ·simpa using h
     simp[p1,this],by simpa [p1,List.take_of_length_le] using perm⟩ fun i j _ hij hj=>by
     have hj:j<x.length:=by simpa using hj
     have:=hs i j (Nat.zero_le _) hij hj
     rw[hlo] at this
     rw[getElem!_pos _ j (by simp[p1];exact hj),getElem!_pos _ i (by simp[p1];omega)]
     rw[getElem!_pos d' j (by rw[p1];exact hj),getElem!_pos d' i (by rw[p1];omega)] at this
     simpa using this
   simpa using this
  have hlen:(x.mergeSort fun a b=>!(lt b a)).length=x.length:=List.length_mergeSort _
  refine⟨_,rfl,rfl,rfl,rfl,size_sortWorldK_c enc t.size w b dl n d' os,fun b' hb' hne'=>qb hb' fun e=>hne' (List.mem_singleton.2 e),I,fun b' hb'=>⟨.inl hb',Nat.lt_of_lt_of_le (hI b' hb') (size_sortWorldK_c enc t.size w b dl n d' os)⟩,fun b' us T' dO hb'=>?_,gL.2 (.inr ⟨?_,b,dl,cap,rfl,?_,?_,?_,_,T,(0,0),zf h3,rfl,?_,fun i z hz=>?_⟩),rfl⟩
  ·by_cases e:b'=b
   ·subst e
    rw[h3] at hb'
    cases hb'
    exact⟨_,_,_,zf h3,vK⟩
   ·exact⟨us,T',dO,by rw[qb (Array.getElem?_eq_some_iff.1 hb').1 e];exact hb',rfl⟩
  ·intro h
   have h:x.mergeSort (fun a b=>!(lt b a))=[]:=h
   rw[h] at hlen
   simp at hlen;omega
  ·show[_]=[Value.slice _ (x.mergeSort fun a b=>!(lt b a)).length _];rw[hlen]
  ·show(x.mergeSort fun a b=>!(lt b a)).length≤_;rw[hlen];exact h1
  ·show(x.mergeSort fun a b=>!(lt b a)).length≤_;rw[hlen];exact h2
  ·rw[vK];exact h5
  ·have hz:(x.mergeSort fun a b=>!(lt b a))[i]? = some z:=hz
   rw[←hsorted,List.getElem?_map,Option.map_eq_some_iff] at hz
   obtain⟨p,hp,rfl⟩:=hz
   obtain⟨hi,hp⟩:=List.getElem?_eq_some_iff.1 hp
   rw[Array.length_toList] at hi
   rw[Array.getElem_toList] at hp
   rw[Lb hk (by rw[p1,←hds];exact hfit) hi,getElem!_pos d' i hi,hp]
   exact aR.mono (keepI n d' os) t p.2
end
def IK(f:cd):List Int:=[f.2.2.2.1,f.2.2.2.2.1,f.1,f.2.1,f.2.2.1,f.2.2.2.2.2.1,f.2.2.2.2.2.2]
def lexB:List Int→List Int→Bool
 | a::l,b::m=>decide (a<b)||(decide (a=b)&&lexB l m)
 | _,_=>false
theorem Rq:∀(l m:List Int),l.length=m.length→decide (YG (List.zipWith MS l m)<0)=lexB l m
 | [], [],_=>rfl
 | a::l,b::m,h=>by
   have ih:=Rq l m (by simpa using h)
   rw[List.zipWith_cons_cons,YG,lexB]
   unfold MS
   by_cases h1:a<b
   ·rw[decide_eq_true h1];rfl
   ·rw[decide_eq_false h1,cond_false,Bool.false_or]
    by_cases h2:b<a
    ·rw[decide_eq_true h2,decide_eq_false (show ¬a=b by omega)];rfl
    ·rw[decide_eq_false h2,decide_eq_true (show a=b by omega),Bool.true_and]
     exact ih
theorem IZ:∀l:List Int,lexB l l=false
 | []=>rfl
 | a::l=>by rw[lexB,IZ l,decide_eq_false (Int.lt_irrefl a),Bool.and_false];rfl
theorem CX:∀(l m:List Int),l.length=m.length→lexB l m=false→lexB m l=false→l=m
 | [], [],_,_,_=>rfl
 | a::l,b::m,h,h1,h2=>by
   rw[lexB,Bool.or_eq_false_iff] at h1 h2
   have e:a=b:=by
    have:=of_decide_eq_false h1.1
    have:=of_decide_eq_false h2.1
    omega
   subst e
   rw[decide_eq_true rfl,Bool.true_and] at h1 h2
   rw[CX l m (by simpa using h) h1.2 h2.2]
theorem lex_trans:∀(l m n:List Int),lexB l m=true→lexB m n=true→lexB l n=true
 | [],_,_,h,_=>by simp[lexB] at h
 | _::_, [],_,h,_=>by simp[lexB] at h
 | _::_,_::_, [],_,h=>by simp[lexB] at h
 | a::l,b::m,c::n,h1,h2=>by
   rw[lexB,Bool.or_eq_true,Bool.and_eq_true,decide_eq_true_eq,decide_eq_true_eq] at h1 h2 ⊢
   rcases h1 with h1|⟨h1,k1⟩<;>rcases h2 with h2|⟨h2,k2⟩
   ·exact .inl (by omega)
   ·exact .inl (by omega)
   ·exact .inl (by omega)
   ·exact .inr ⟨by omega,lex_trans l m n k1 k2⟩
theorem Ip(l m n:List Int)(hl:l.length=m.length)(hm:m.length=n.length)(h1:lexB l m=false)(h2:lexB m n=false):lexB l n=false:=by
 cases h3:lexB l n with
 | false=>rfl
 | true=>
   exfalso
   cases h4:lexB m l with
   | true=>rw[lex_trans m l n h4 h3] at h2;cases h2
   | false=>rw[CX l m hl h1 h4,h2] at h3;cases h3
def pn(a b:cd):Bool:=lexB (IK a) (IK b)
theorem P5(a b:cd):pn a b=decide ((show Int from NC (a,b))<0):=(Rq (IK a) (IK b) rfl).symm
theorem PU{a b:cd}(h:IK a=IK b):a=b:=by
 obtain⟨a1,a2,a3,a4,a5,a6,a7⟩:=a
 obtain⟨b1,b2,b3,b4,b5,b6,b7⟩:=b
 simp only[IK,List.cons.injEq,and_true] at h
 obtain⟨h1,h2,h3,h4,h5,h6,h7⟩:=h
 rw[h1,h2,h3,h4,h5,h6,h7]
theorem K9:Sort.SWO pn:=⟨fun a=>IZ _,fun a b c=>lex_trans _ _ _,fun a b c=>Ip _ _ _ rfl rfl⟩
theorem K8(a b:cd)(h1:pn a b=false)(h2:pn b a=false):a=b:=PU (CX _ _ rfl h1 h2)
def ZJ:Shelf.Ren:=⟨fun x=>match x with|6=>201|14=>262|15=>263|20=>299|21=>300|22=>301|23=>302|24=>303|25=>304|26=>305|27=>306|28=>307|29=>308|46=>330|47=>331|48=>332|49=>333|50=>334|57=>347|n=>n,fun x=>match x with|0=>0|3=>3|4=>4|5=>5|9=>9|22=>55|24=>66|25=>259|39=>128|45=>337|46=>338|50=>243|53=>275|55=>274|66=>353|70=>357|76=>369|77=>187|n=>n,fun x=>x⟩
theorem Ui:SlLaysF0.n6 Tryz.prog ZJ:=
 {mixed:=by kernel_rfl,f6:=⟨Tryz.f201.name,by kernel_rfl,Tryz.func201.trans (congrArg some (by kernel_rfl))⟩,f14:=⟨Tryz.f262.name,by kernel_rfl,Tryz.func262.trans (congrArg some (by kernel_rfl))⟩,f15:=Tryz.func263.trans (congrArg some (by kernel_rfl)),f20:=⟨Tryz.f299.name,by kernel_rfl,Tryz.func299.trans (congrArg some (by kernel_rfl))⟩,f21:=⟨Tryz.f300.name,by kernel_rfl,Tryz.func300.trans (congrArg some (by kernel_rfl))⟩,f22:=⟨Tryz.f301.name,by kernel_rfl,Tryz.func301.trans (congrArg some (by kernel_rfl))⟩,f23:=⟨Tryz.f302.name,by kernel_rfl,Tryz.func302.trans (congrArg some (by kernel_rfl))⟩,f24:=⟨Tryz.f303.name,by kernel_rfl,Tryz.func303.trans (congrArg some (by kernel_rfl))⟩,f25:=⟨Tryz.f304.name,by kernel_rfl,Tryz.func304.trans (congrArg some (by kernel_rfl))⟩,f26:=⟨Tryz.f305.name,by kernel_rfl,Tryz.func305.trans (congrArg some (by kernel_rfl))⟩,f27:=⟨Tryz.f306.name,by kernel_rfl,Tryz.func306.trans (congrArg some (by kernel_rfl))⟩,f28:=Tryz.func307.trans (congrArg some (by kernel_rfl)),f29:=Tryz.func308.trans (congrArg some (by kernel_rfl)),f46:=⟨Tryz.f330.name,by kernel_rfl,Tryz.func330.trans (congrArg some (by kernel_rfl))⟩,f47:=Tryz.func331.trans (congrArg some (by kernel_rfl)),f48:=Tryz.func332.trans (congrArg some (by kernel_rfl)),f49:=⟨Tryz.f333.name,by kernel_rfl,Tryz.func333.trans (congrArg some (by kernel_rfl))⟩,f50:=⟨Tryz.f334.name,by kernel_rfl,Tryz.func334.trans (congrArg some (by kernel_rfl))⟩,f57:=⟨Tryz.f347.name,by kernel_rfl,Tryz.func347.trans (congrArg some (by kernel_rfl))⟩,t0:=Tryz.underlying0,a0:=Tryz.isAgg0,z0:=Tryz.sizeOf0,v0:=Tryz.zeroValue0,t3:=Tryz.underlying3,a3:=Tryz.isAgg3,z3:=Tryz.sizeOf3,v3:=Tryz.zeroValue3,t4:=Tryz.underlying4,a4:=Tryz.isAgg4,z4:=Tryz.sizeOf4,v4:=Tryz.zeroValue4,t5:=Tryz.underlying5,a5:=Tryz.isAgg5,z5:=Tryz.sizeOf5,v5:=Tryz.zeroValue5,t9:=Tryz.underlying9,a9:=Tryz.isAgg9,z9:=Tryz.sizeOf9,v9:=Tryz.zeroValue9,t22:=Tryz.underlying55,a22:=Tryz.isAgg55,z22:=Tryz.sizeOf55,v22:=Tryz.zeroValue55,t25:=Tryz.underlying259,a25:=Tryz.isAgg259,z25:=Tryz.sizeOf259,v25:=Tryz.zeroValue259,t39:=Tryz.underlying128,a39:=Tryz.isAgg128,z39:=Tryz.sizeOf128,v39:=Tryz.zeroValue128,t45:=Tryz.underlying337,a45:=Tryz.isAgg337,z45:=Tryz.sizeOf337,v45:=Tryz.zeroValue337,t46:=Tryz.underlying338,a46:=Tryz.isAgg338,z46:=Tryz.sizeOf338,v46:=Tryz.zeroValue338,t50:=Tryz.underlying243,a50:=Tryz.isAgg243,z50:=Tryz.sizeOf243,v50:=Tryz.zeroValue243,t53:=Tryz.underlying275,a53:=Tryz.isAgg275,z53:=Tryz.sizeOf275,v53:=Tryz.zeroValue275,t55:=Tryz.underlying274,a55:=Tryz.isAgg274,z55:=Tryz.sizeOf274,v55:=Tryz.zeroValue274,t66:=Tryz.underlying353,a66:=Tryz.isAgg353,z66:=Tryz.sizeOf353,v66:=Tryz.zeroValue353,t70:=Tryz.underlying357,a70:=Tryz.isAgg357,z70:=Tryz.sizeOf357,v70:=Tryz.zeroValue357,t76:=Tryz.underlying369,a76:=Tryz.isAgg369,z76:=Tryz.sizeOf369,v76:=Tryz.zeroValue369,t77:=Tryz.underlying187,a77:=Tryz.isAgg187,z77:=Tryz.sizeOf187,v77:=Tryz.zeroValue187}
def wz:List cd×Unit→List cd×Unit:=fun x=>(x.1.mergeSort fun a b=>!(pn b a),())
def afe:dD:=⟨bR, [], [202], [],fun _=>true,wz⟩
theorem ac_:dD.Sound Tryz.prog 201 afe:=
 LN Ui bR (fn:=NC) ack.1 (enters_of Tryz.func202 (by kernel_rfl) rfl) Tryz.isAgg66 Tryz.sizeOf66 (by kernel_rfl) (by kernel_rfl) P5 K9 K8 Tryz.func201 (by kernel_rfl) (by kernel_rfl)
abbrev V6(A:aK)(x2:Int)(y2:Int):=(A.b .add .u64 (A.b .mul .u64 (A.b .shr .u64 x2 32) (A.b .and .u64 y2 4294967295)) (A.b .shr .u64 (A.b .mul .u64 (A.b .and .u64 x2 4294967295) (A.b .and .u64 y2 4294967295)) 32))
def YV(A:aK)(x2:Int)(y2:Int):LT (Int×Int) Empty:=.ret ((A.b .add .u64 (A.b .add .u64 (A.b .mul .u64 (A.b .shr .u64 x2 32) (A.b .shr .u64 y2 32)) (A.b .shr .u64 (V6 A x2 y2) 32)) (A.b .shr .u64 (A.b .add .u64 (A.b .and .u64 (V6 A x2 y2) 4294967295) (A.b .mul .u64 (A.b .and .u64 x2 4294967295) (A.b .shr .u64 y2 32))) 32)),(A.b .mul .u64 x2 y2))
def Vo:(Int×Int)→(Int×Int):=fun(x2,y2)=>(YV ah x2 y2).val (Ty.bl [(.int .u64),(.int .u64)])
def aeW:aC:=⟨[(.int .u64),(.int .u64)], [(.int .u64),(.int .u64)],(@tt (Int×Int)),Vo⟩
theorem ad8:Sd 259 aeW:=aL ar bU true 92 [] (fun A (x2,y2)=>YV A x2 y2) (fc Tryz.func259 fz) sz (fun((x2,y2):Int×Int) hp h=>by
 show(YV ah x2 y2).pre=true
 rfl)
def Wz(A:aK)(x2:Int)(y2:Int):LT (Int×Int) Empty:=.need (A.k (@tt (Int×Int)) (x2,y2)) (.ret (A.k Vo (x2,y2)))
def uw:(Int×Int)→(Int×Int):=fun(x2,y2)=>(Wz ah x2 y2).val (Ty.bl [(.int .u64),(.int .u64)])
def aeP:aC:=⟨[(.int .u64),(.int .u64)], [(.int .u64),(.int .u64)],(@tt (Int×Int)),uw⟩
theorem VI:Sd 198 aeP:=aL ar bU true 32 [] (fun A (x2,y2)=>Wz A x2 y2) (fc Tryz.func198 fz) (sc ad8 sz) (fun((x2,y2):Int×Int) hp h=>by
 show(Wz ah x2 y2).pre=true
 rfl)
structure Rx where
 (a1:List Int) (a2 a3 a4:Int)
structure Q5 where
 (b0:List Int) (b1 b2 b3:Int)
inductive TA where
 | c0 (p:Rx) (a0:Int) (a5:List Int)
 | c1 (p:Q5) (b4:Int) (b5:List Int)
noncomputable def Xk:TA→eF
 | .c0 p a0 a5=>⟨[⟨199,48,(en [(7,.own 0),(8,vi a0)]),[.inLoop (cw Tryz.f199 [1,1,1,1,1,1,0,0,0]),.inBlock 0,.code (cw Tryz.f199 [1,1,1,1,1,1,1])],[],none⟩,⟨131,37,(en [(0,.sl yI p.a1),(1,vi p.a2),(2,vi p.a3),(3,vi p.a4)]),[.ops (ow Tryz.f131 [1,0]) ((ow Tryz.f131 [1,0]).toList.drop 3),.code (cw Tryz.f131 [1,1])],[],none⟩],[.arr false yI a5,.dead]⟩
 | .c1 p b4 b5=>⟨[⟨131,37,(en [(0,.sl yI p.b0),(2,vi p.b1),(3,vi p.b2),(11,.own 0),(20,vi p.b3),(21,vi b4)]),[.inLoop (cw Tryz.f131 [1,1,0,1,0,0]),.inBlock 0,.code (cw Tryz.f131 [1,1,1])],[],none⟩],[.arr false yI b5,.dead]⟩
abbrev wK(A:aK)(n:Int):=(A.v .i64 (A.k uw (1,(A.v .u64 n))).2)
def aat(A:aK)(l:List Int)(n:Int)(least:Int)(most:Int)(missing:Int):LT (List Int) TA:=.br (A.c .lss n 0) (.bad 117 "slices.go:516") (.need (A.k (@tt (Int×Int)) (1,(A.v .u64 n))) (.br (A.c .gtr (A.k uw (1,(A.v .u64 n))).1 0) (.bad 117 "slices.go:522") (.br (A.c .gtr (A.k uw (1,(A.v .u64 n))).2 9223372036854775807) (.bad 117 "slices.go:522") (.need (A.and (A.c .eql (wK A n) (wK A n)) (A.and (A.c .leq 0 (wK A n)) (A.c .leq (wK A n) 17592186044416))) (.more (.c0 ⟨l,n,least,most⟩ (A.mn (A.l [missing]) (A.l (A.r (wK A n) (0:Int)))) (A.spl (A.r (wK A n) (0:Int)) 0 (A.s [missing] 0 (A.mn (A.l [missing]) (A.l (A.r (wK A n) (0:Int))))))))))))
def KW(A:aK):TA→LT (List Int) TA
 | .c0 p a0 a5=>.br (A.c .lss a0 (A.l a5)) (.need (A.and (A.c .leq 0 a0) (A.and (A.c .leq a0 (A.l a5)) (A.c .leq (A.l a5) (A.l a5)))) (.need (A.and (A.c .leq 0 0) (A.and (A.c .leq 0 a0) (A.c .leq a0 (A.l a5)))) (.more (.c0 p (A.b .add .i64 a0 (A.mn (A.l (A.s a5 0 (A.b .add .i64 0 (A.b .sub .i64 a0 0)))) (A.b .sub .i64 (A.l a5) a0))) (A.spl a5 a0 (A.s (A.s a5 0 (A.b .add .i64 0 (A.b .sub .i64 a0 0))) 0 (A.mn (A.l (A.s a5 0 (A.b .add .i64 0 (A.b .sub .i64 a0 0)))) (A.b .sub .i64 (A.l a5) a0)))))))) (.more (.c1 ⟨p.a1,p.a3,p.a4,(A.mn p.a2 (A.l p.a1))⟩ 0 a5))
 | .c1 p b4 b5=>.br (A.c .lss b4 p.b3) (.need (A.and (A.c .leq 0 b4) (A.c .lss b4 (A.l p.b0))) (.need (A.and (A.c .leq 0 b4) (A.c .lss b4 (A.l b5))) (.more (.c1 p (A.b .add .i64 b4 1) (A.set b5 b4 (A.mn (A.mx (A.n yI p.b0 b4:Int) p.b1) p.b2)))))) (.ret b5)
theorem Qg:∀n:Fin 1025,ah.k uw (1,ah.v .u64 (n.val:Int))=((0,(n.val:Int)):Int×Int):=by decide +kernel
theorem Cz{i j:Nat}(h:j≤i)(hi:i<4611686018427387904):ah.b .sub .i64 (i:Int) (j:Int)=((i-j:Nat):Int):=by
 rw[bf,gZ (by omega) (by omega)];omega
theorem oG{i j:Nat}:ah.mn (i:Int) (j:Int)=((min i j:Nat):Int):=by
 rw[nR];split<;>omega
theorem Qb{p:Rx}{v:Int}{N:Nat}{r:List Int}(hN:N≤1024)(hT:aB (KW ah) (.more (.c1 ⟨p.a1,p.a3,p.a4,ah.mn p.a2 (ah.l p.a1)⟩ 0 (List.replicate N v))) r):∀(j k:Nat),N-k≤j→(N≠0→1≤k)→k≤N→
  aB (KW ah) (.more (.c0 p (k:Int) (List.replicate k v++List.replicate (N-k) 0))) r:=by
 have fin:∀k,k=N→aB (KW ah) (.more (.c0 p (k:Int) (List.replicate k v++List.replicate (N-k) 0))) r:=by
  rintro k rfl
  rw[Nat.sub_self,List.replicate_zero,List.append_nil]
  refine ak.2 ((ai ?_).2 hT)
  rw[bL,aI];simp
 intro j
 induction j with
 | zero=>intro k h1 h2 h3;exact fin k (by omega)
 | succ j ih=>
   intro k h1 h2 h3
   by_cases hk:k=N
   ·exact fin k hk
   have hlen:(List.replicate k v++List.replicate (N-k) (0:Int)).length=N:=by
    rw[List.length_append,List.length_replicate,List.length_replicate];omega
   have h2':=h2 (by omega)
   have e0:ah.b .add .i64 0 (ah.b .sub .i64 (k:Int) 0)=(k:Int):=by
    rw[show(0:Int)=((0:Nat):Int) from rfl,Cz (Nat.zero_le _) (by omega),eH (by omega)];omega
   have e1:ah.s (List.replicate k v++List.replicate (N-k) (0:Int)) 0 (k:Int)=List.replicate k v:=by
    rw[fY,Int.toNat_natCast,List.take_left' (by rw[List.length_replicate])];rfl
   have e2:ah.b .sub .i64 (N:Int) (k:Int)=((N-k:Nat):Int):=Cz h3 (by omega)
   refine ak.2 ((aj ?_).2 (af.2 ⟨?_,af.2 ⟨?_,?_⟩⟩))
   ·rw[bL,aI,hlen];exact decide_eq_true (by omega)
   ·rw[bL,hlen,aG,aG,ap,ap,ap];simp;omega
   ·rw[bL,hlen,aG,aG,ap,ap,ap];simp;omega
   ·rw[e0,e1,bL,bL,hlen,List.length_replicate,e2,oG,eH (by omega),fY,Int.toNat_natCast]
    have e3:ah.spl (List.replicate k v++List.replicate (N-k) (0:Int)) (k:Int) (((List.replicate k v).take (min k (N-k))).drop (0:Int).toNat)=List.replicate (k+min k (N-k)) v++List.replicate (N-(k+min k (N-k))) 0:=by
     rw[jf,Int.toNat_natCast,List.take_left' (by rw[List.length_replicate]),List.take_replicate]
     show List.replicate k v++List.replicate _ v++List.drop (k+(List.replicate _ v).length) _=_
     rw[List.length_replicate,List.drop_append,List.drop_replicate,List.drop_replicate,List.length_replicate,Nat.min_assoc,List.replicate_append_replicate]
     rw[show k-(k+min k (min (N-k) k))=0 by omega,List.replicate_zero,List.nil_append]
     congr 2<;>omega
    rw[e3]
    exact ih (k+min k (N-k)) (by omega) (fun _=>by omega) (by omega)
def vH(lo hi x:Int):Int:=ah.mn (ah.mx x lo) hi
def rowP(l:List Int)(n:Nat)(lo hi ms:Int):List Int:=(l.take n).map (vH lo hi)++List.replicate (n-l.length) ms
theorem PY{p:Q5}{l:List Int}{N:Nat}{lo hi ms:Int}(h0:p.b0=l)(h1:p.b1=lo)(h2:p.b2=hi)(h3:p.b3=((min N l.length:Nat):Int))(hN:N≤1024) :
  ∀(j i:Nat),min N l.length-i=j→i≤min N l.length→aB (KW ah) (.more (.c1 p (i:Int) ((l.take i).map (vH lo hi)++List.replicate (N-i) ms))) (rowP l N lo hi ms):=by
 intro j
 induction j with
 | zero=>
   intro i hj hi
   refine ak.2 ((ai ?_).2 (ay ?_ (.ret _)))
   ·rw[h3,aI];exact decide_eq_false (by omega)
   ·unfold rowP
    rcases Nat.le_total N l.length with h|h
    ·rw[show i=N by omega,Nat.sub_self,show N-l.length=0 by omega]
    ·rw[show i=l.length by omega,List.take_of_length_le (Nat.le_refl _),List.take_of_length_le h]
 | succ j ih=>
   intro i hj hi'
   have hil:i<l.length:=by omega
   have hlen:((l.take i).map (vH lo hi)++List.replicate (N-i) ms).length=N:=by
    rw[List.length_append,List.length_map,List.length_take,List.length_replicate];omega
   refine ak.2 ((aj ?_).2 (af.2 ⟨?_,af.2 ⟨?_,?_⟩⟩))
   ·rw[h3,aI];exact decide_eq_true (by omega)
   ·rw[h0];exact aS hil
   ·exact aS (by rw[hlen];omega)
   ·rw[h0,h1,h2,show(ah.n yI l (i:Int):Int)=l[i] from getD_in hil _,cu (by omega),xP,Int.toNat_natCast]
    have e:((l.take i).map (vH lo hi)++List.replicate (N-i) ms).set i (ah.mn (ah.mx l[i] lo) hi)=(l.take (i+1)).map (vH lo hi)++List.replicate (N-(i+1)) ms:=by
     have hl:((l.take i).map (vH lo hi)).length=i:=by rw[List.length_map,List.length_take];omega
     rw[List.set_append,hl,if_neg (Nat.lt_irrefl _),Nat.sub_self,show N-i=N-(i+1)+1 by omega,List.replicate_succ,List.set_cons_zero,List.take_succ_eq_append_getElem hil,List.map_append,List.append_assoc]
     rfl
    rw[e]
    exact ih (i+1) (by omega) (by omega)
theorem aan{l:List Int}{n lo hi ms:Int}(h:0≤n∧n≤1024):aB (KW ah) (aat ah l n lo hi ms) (rowP l n.toNat lo hi ms):=by
 obtain⟨N,rfl⟩:=Int.eq_ofNat_of_zero_le h.1
 have hN:N≤1024:=by omega
 rw[Int.toNat_natCast]
 have row:=PY (p:=⟨l,lo,hi,ah.mn (N:Int) (ah.l l)⟩) (l:=l) (ms:=ms) rfl rfl rfl (by rw[bL,oG]) hN (min N l.length) 0 (by omega) (by omega)
 have key:=Qb (p:=⟨l,(N:Int),lo,hi⟩) (v:=ms) hN row N (min 1 N) (by omega) (fun h=>by omega) (by omega)
 have hm:=Qg ⟨N,by omega⟩
 simp only at hm
 have hc:ah.v .i64 (N:Int)=(N:Int):=gZ (by omega) (by omega)
 unfold aat wK
 rw[hm,hc]
 refine(ai ?_).2 (af.2 ⟨rfl,(ai rfl).2 ((ai ?_).2 (af.2 ⟨?_,?_⟩))⟩)
 ·rw[al];exact decide_eq_false (by omega)
 ·show decide ((N:Int) > 9223372036854775807)=false;exact decide_eq_false (by omega)
 ·rw[aG,aG,ax,ap,ap];simp;omega
 ·have e:ah.r (N:Int) (0:Int)=List.replicate N 0:=by rw[nD,Int.toNat_natCast]
  rw[e,bL,bL,List.length_replicate,oG]
  have e2:ah.spl (List.replicate N (0:Int)) 0 (ah.s [ms] 0 ((min [ms].length N:Nat):Int))=List.replicate (min 1 N) ms++List.replicate (N-min 1 N) 0:=by
   rcases Nat.eq_zero_or_pos N with rfl|hN
   ·rfl
   ·obtain⟨M,rfl⟩:∃M,N=M+1:=⟨N-1,by omega⟩
    have h1:min 1 (M+1)=1:=by omega
    rw[jf,fY,List.length_singleton,h1]
    simp[List.replicate_succ]
  rw[e2]
  exact key
def EM:(List Int×Int×Int×Int×Int)→(List Int):=fun(l,n,lo,hi,ms)=>rowP l n.toNat lo hi ms
def mJ:(List Int×Int×Int×Int×Int)→Bool:=fun(_,n,_,_,_)=>decide (0≤n∧n≤1024)
def aby:aC:=⟨[BW,yI,yI,yI,yI], [BW],mJ,EM⟩
theorem abk:Sd 131 aby:=aU ar bU true 71 [⟨131,3, [[0,2,3,11,20,21]]⟩,⟨199,8, [[7,8], [0,1,2,3]]⟩] [] (fun A (l,n,least,most,missing)=>aat A l n least most missing) KW Xk (fc Tryz.func131 (fc Tryz.func199 fz)) (sc VI sz) (fun A y=>match y with |.c0 p a0 a5=>⟨35,by kernel_rfl,by kernel_rfl⟩|.c1 p b4 b5=>⟨39,by kernel_rfl,by kernel_rfl⟩) fun((l,n,least,most,missing):List Int×Int×Int×Int×Int) hp h=>aan (of_decide_eq_true hp)
inductive Uq where
 | c0 (a0:Int) (a1:List Bool)
noncomputable def aaE:Uq→eF
 | .c0 a0 a1=>⟨[⟨130,48,(en [(7,.own 0),(8,vi a0)]),[.inLoop (cw Tryz.f130 [1,1,1,1,1,1,0,0,0]),.inBlock 0,.code (cw Tryz.f130 [1,1,1,1,1,1,1])],[],none⟩],[.arr false .bool a1,.dead]⟩
abbrev wV(A:aK)(x2:List Bool)(count:Int):=(A.v .i64 (A.k uw ((A.v .u64 (A.l x2)),(A.v .u64 count))).2)
def YB(A:aK)(x2:List Bool)(count:Int):LT (Bool×(List Bool)×Unit) Uq:=.br (A.c .lss count 0) (.bad 117 "slices.go:516") (.need (A.k (@tt (Int×Int)) ((A.v .u64 (A.l x2)),(A.v .u64 count))) (.br (A.c .gtr (A.k uw ((A.v .u64 (A.l x2)),(A.v .u64 count))).1 0) (.bad 117 "slices.go:522") (.br (A.c .gtr (A.k uw ((A.v .u64 (A.l x2)),(A.v .u64 count))).2 9223372036854775807) (.bad 117 "slices.go:522") (.need (A.and (A.c .eql (wV A x2 count) (wV A x2 count)) (A.and (A.c .leq 0 (wV A x2 count)) (A.c .leq (wV A x2 count) 140737488355328))) (.more (.c0 (A.mn (A.l x2) (A.l (A.r (wV A x2 count) false))) (A.spl (A.r (wV A x2 count) false) 0 (A.s x2 0 (A.mn (A.l x2) (A.l (A.r (wV A x2 count) false)))))))))))
def Uh(A:aK):Uq→LT (Bool×(List Bool)×Unit) Uq
 | .c0 a0 a1=>.br (A.c .lss a0 (A.l a1)) (.need (A.and (A.c .leq 0 a0) (A.and (A.c .leq a0 (A.l a1)) (A.c .leq (A.l a1) (A.l a1)))) (.need (A.and (A.c .leq 0 0) (A.and (A.c .leq 0 a0) (A.c .leq a0 (A.l a1)))) (.more (.c0 (A.b .add .i64 a0 (A.mn (A.l (A.s a1 0 (A.b .add .i64 0 (A.b .sub .i64 a0 0)))) (A.b .sub .i64 (A.l a1) a0))) (A.spl a1 a0 (A.s (A.s a1 0 (A.b .add .i64 0 (A.b .sub .i64 a0 0))) 0 (A.mn (A.l (A.s a1 0 (A.b .add .i64 0 (A.b .sub .i64 a0 0)))) (A.b .sub .i64 (A.l a1) a0)))))))) (.ret (true,a1,()))
theorem KY{v:Bool}{N:Nat}(hN:N≤1024):∀(j k:Nat),N-k≤j→(N≠0→1≤k)→k≤N→
  aB (Uh ah) (.more (.c0 (k:Int) (List.replicate k v++List.replicate (N-k) false))) (true,List.replicate N v,()):=by
 have fin:∀k,k=N→aB (Uh ah) (.more (.c0 (k:Int) (List.replicate k v++List.replicate (N-k) false))) (true,List.replicate N v,()):=by
  rintro k rfl
  rw[Nat.sub_self,List.replicate_zero,List.append_nil]
  refine ak.2 ((ai ?_).2 (.ret _))
  rw[bL,aI];simp
 intro j
 induction j with
 | zero=>intro k h1 h2 h3;exact fin k (by omega)
 | succ j ih=>
   intro k h1 h2 h3
   by_cases hk:k=N
   ·exact fin k hk
   have hlen:(List.replicate k v++List.replicate (N-k) false).length=N:=by
    rw[List.length_append,List.length_replicate,List.length_replicate];omega
   have h2':=h2 (by omega)
   have e0:ah.b .add .i64 0 (ah.b .sub .i64 (k:Int) 0)=(k:Int):=by
    rw[show(0:Int)=((0:Nat):Int) from rfl,Cz (Nat.zero_le _) (by omega),eH (by omega)];omega
   have e1:ah.s (List.replicate k v++List.replicate (N-k) false) 0 (k:Int)=List.replicate k v:=by
    rw[fY,Int.toNat_natCast,List.take_left' (by rw[List.length_replicate])];rfl
   have e2:ah.b .sub .i64 (N:Int) (k:Int)=((N-k:Nat):Int):=Cz h3 (by omega)
   refine ak.2 ((aj ?_).2 (af.2 ⟨?_,af.2 ⟨?_,?_⟩⟩))
   ·rw[bL,aI,hlen];exact decide_eq_true (by omega)
   ·rw[bL,hlen,aG,aG,ap,ap,ap];simp;omega
   ·rw[bL,hlen,aG,aG,ap,ap,ap];simp;omega
   ·rw[e0,e1,bL,bL,hlen,List.length_replicate,e2,oG,eH (by omega),fY,Int.toNat_natCast]
    have e3:ah.spl (List.replicate k v++List.replicate (N-k) false) (k:Int) (((List.replicate k v).take (min k (N-k))).drop (0:Int).toNat)=List.replicate (k+min k (N-k)) v++List.replicate (N-(k+min k (N-k))) false:=by
     rw[jf,Int.toNat_natCast,List.take_left' (by rw[List.length_replicate]),List.take_replicate]
     show List.replicate k v++List.replicate _ v++List.drop (k+(List.replicate _ v).length) _=_
     rw[List.length_replicate,List.drop_append,List.drop_replicate,List.drop_replicate,List.length_replicate,Nat.min_assoc,List.replicate_append_replicate]
     rw[show k-(k+min k (min (N-k) k))=0 by omega,List.replicate_zero,List.nil_append]
     congr 2<;>omega
    rw[e3]
    exact ih (k+min k (N-k)) (by omega) (fun _=>by omega) (by omega)
theorem Yf{l:List Bool}{n:Int}(h:l.length=1∧0≤n∧n≤1024):aB (Uh ah) (YB ah l n) (true,List.replicate n.toNat (l.getD 0 false),()):=by
 obtain⟨N,rfl⟩:=Int.eq_ofNat_of_zero_le h.2.1
 obtain⟨v,rfl⟩:=List.length_eq_one_iff.1 h.1
 have hN:N≤1024:=by omega
 rw[Int.toNat_natCast]
 have key:=KY (v:=v) hN N (min 1 N) (by omega) (fun h=>by omega) (by omega)
 have hm:=Qg ⟨N,by omega⟩
 simp only at hm
 have hm:ah.k uw (ah.v .u64 (ah.l [v]),ah.v .u64 (N:Int))=((0,(N:Int)):Int×Int):=hm
 have hc:ah.v .i64 (N:Int)=(N:Int):=gZ (by omega) (by omega)
 unfold YB wV
 rw[hm,hc]
 refine(ai ?_).2 (af.2 ⟨rfl,(ai rfl).2 ((ai ?_).2 (af.2 ⟨?_,?_⟩))⟩)
 ·rw[al];exact decide_eq_false (by omega)
 ·show decide ((N:Int) > 9223372036854775807)=false;exact decide_eq_false (by omega)
 ·rw[aG,aG,ax,ap,ap];simp;omega
 ·have e:ah.r (N:Int) false=List.replicate N false:=by rw[nD,Int.toNat_natCast]
  rw[e,bL,bL,List.length_replicate,oG]
  have e2:ah.spl (List.replicate N false) 0 (ah.s [v] 0 ((min [v].length N:Nat):Int))=List.replicate (min 1 N) v++List.replicate (N-min 1 N) false:=by
   rcases Nat.eq_zero_or_pos N with rfl|hN
   ·rfl
   ·obtain⟨M,rfl⟩:∃M,N=M+1:=⟨N-1,by omega⟩
    have h1:min 1 (M+1)=1:=by omega
    rw[jf,fY]
    simp[List.replicate_succ]
  rw[e2]
  exact key
def Rt:(List Bool×Int)→Bool×(List Bool)×Unit:=fun(l,n)=>(true,List.replicate n.toNat (l.getD 0 false),())
def zO:(List Bool×Int)→Bool:=fun(l,n)=>decide (l.length=1∧0≤n∧n≤1024)
def adl:jT:=⟨[(.slice .bool),yI],.own .bool,false, [],zO,Rt⟩
theorem aeq:jT.Sound Tryz.prog 130 adl:=tP ar bU true 61 oz iz mz pz [⟨130,8, [[7,8]]⟩] [] (fun A (x2,count)=>YB A x2 count) Uh aaE (fc Tryz.func130 fz) (sc VI sz) (fun A y=>match y with |.c0 a0 a1=>⟨30,by kernel_rfl,by kernel_rfl⟩) fun((x2,count):(List Bool×Int)) hp h=>Yf (of_decide_eq_true hp)
def TN(A:aK)(m:ao)(o:bg):LT Bool Empty:=.br (A.c .geq o.1 0) (.br (A.not (A.c .lss o.1 m.1)) (.ret false) (.br (A.c .geq o.2.2.1 0) (.br (A.not (A.c .lss o.2.2.1 m.1)) (.ret false) (.br (A.c .lss o.2.1 0) (.ret false) (.br (A.c .geq o.2.1 16) (.ret false) (.br (A.c .eql o.2.2.2.1 1) (.br (A.c .eql o.2.2.2.2.1 0) (.ret (A.c .leq (A.l o.2.2.2.2.2) 8)) (.ret false)) (.br (A.c .eql o.2.2.2.1 2) (.br (A.c .eql o.2.2.2.2.1 0) (.ret (A.c .eql (A.l o.2.2.2.2.2) 0)) (.ret false)) (.br (A.c .eql o.2.2.2.1 3) (.br (A.c .geq o.2.2.2.2.1 (-1)) (.br (A.c .lss o.2.2.2.2.1 (A.l m.2.2.2.2.2.2.2)) (.ret (A.c .eql (A.l o.2.2.2.2.2) 0)) (.ret false)) (.ret false)) (.ret false))))))) (.ret false))) (.ret false)
def lT:(ao×bg)→Bool:=fun(m,o)=>(TN ah m o).val (Ty.bl [.bool])
def afg:aC:=⟨[aP,bC], [.bool],(@tt (ao×bg)),lT⟩
theorem adU:Sd 133 afg:=aL ar bU true 125 [] (fun A (m,o)=>TN A m o) (fc Tryz.func133 (fc Tryz.func204 fz)) sz (fun((m,o):ao×bg) hp h=>by
 show(TN ah m o).pre=true
 simp only[TN,LT.pre,cy,ax,aD,al,ap,aH,aN,aG,bE,dC,au,bd,bf,bG,bM,cm,Bool.and_eq_true,Bool.or_eq_true,Bool.and_eq_false_iff,Bool.or_eq_false_iff,Bool.not_eq_true',Bool.not_eq_false',decide_eq_true_eq,decide_eq_false_iff_not,bne_iff_ne,beq_iff_eq,bne_eq_false_iff_eq,beq_eq_false_iff_ne]
 simp only[Ty.cq,Ty.has,ku,vF] at h
 (repeat' (first|intro _|constructor))<;>(try omega))
abbrev Kl(A:aK)(m:ao)(kind:Int):LT (List (Int×Int)×Bool) Empty:=(.br (A.c .eql kind 5) (.ret ([(0,0),(0,1),(0,(A.b .sub .i64 m.1 1)),(0,0),(0,0)],true)) (.br (A.c .eql kind 12) (.ret ([(0,0),(0,1),(0,0),(0,0),(0,0)],true)) (.br (A.c .eql kind 7) (.ret ([(0,(A.b .sub .i64 m.1 1)),(0,0),(0,0),(0,200),(0,0)],true)) (.br (A.c .eql kind 8) (.ret ([(0,(A.b .sub .i64 m.1 1)),(0,0),(0,0),((A.u .neg .i64 m.2.2.1),m.2.2.1),(0,0)],true)) (.br (A.c .eql kind 9) (.ret ([(0,(A.b .sub .i64 m.1 1)),(0,0),(0,(A.b .sub .i64 m.1 1)),(0,(A.b .sub .i64 m.2.1 1)),(1,m.2.1)],true)) (.br (A.c .eql kind 10) (.ret ([(0,(A.b .sub .i64 m.1 1)),(0,0),(0,(A.b .sub .i64 m.1 1)),(0,(A.b .sub .i64 m.1 1)),(0,0)],true)) (.ret ([(0,0),(0,0),(0,0),(0,0),(0,0)],false))))))))
abbrev KP(A:aK)(m:ao)(kind:Int):LT (List (Int×Int)×Bool) Empty:=(.br (A.c .eql kind 3) (.br (A.c .eql kind 3) (.ret ([(0,(A.b .sub .i64 m.1 1)),(0,0),(0,0),(0,0),(0,0)],true)) (Kl A m kind)) (.br (A.c .eql kind 4) (.br (A.c .eql kind 4) (.ret ([(0,(A.b .sub .i64 m.1 1)),(0,0),(0,0),(0,0),(0,0)],true)) (Kl A m kind)) (.br (A.c .eql kind 11) (.ret ([(0,(A.b .sub .i64 m.1 1)),(0,0),(0,0),(0,0),(0,0)],true)) (Kl A m kind))))
abbrev Kg(A:aK)(m:ao):LT (List (Int×Int)×Bool) Empty:=(.ret ([(0,(A.b .sub .i64 m.1 1)),(0,0),(0,(A.b .sub .i64 m.1 1)),(0,0),(0,0)],true))
def U9(A:aK)(m:ao)(kind:Int):LT (List (Int×Int)×Bool) Empty:=.br (A.c .eql kind 1) (.br (A.c .eql kind 1) (Kg A m) (KP A m kind)) (.br (A.c .eql kind 2) (.br (A.c .eql kind 2) (Kg A m) (KP A m kind)) (.br (A.c .eql kind 6) (Kg A m) (KP A m kind)))
def o_:(ao×Int)→(List (Int×Int)×Bool):=fun(m,kind)=>(U9 ah m kind).val (Ty.bl [(.arr 5 (.struct [yI,yI])),.bool])
def aed:aC:=⟨[aP,yI], [(.arr 5 (.struct [yI,yI])),.bool],(@tt (ao×Int)),o_⟩
theorem afO:Sd 260 aed:=aL ar bU true 159 [] (fun A (m,kind)=>U9 A m kind) (fc Tryz.func260 fz) sz (fun((m,kind):ao×Int) hp h=>by
 show(U9 ah m kind).pre=true
 simp only[U9,Kg,KP,Kl,LT.pre,cy,ax,aD,al,ap,aH,aN,aG,bE,dC,au,bd,bf,bG,bM,cm,Bool.and_eq_true,Bool.or_eq_true,Bool.and_eq_false_iff,Bool.or_eq_false_iff,Bool.not_eq_true',Bool.not_eq_false',decide_eq_true_eq,decide_eq_false_iff_not,bne_iff_ne,beq_iff_eq,bne_eq_false_iff_eq,beq_eq_false_iff_ne]
 simp only[Ty.cq,Ty.has,ku,vF] at h
 (repeat' (first|intro _|constructor))<;>(try omega))
def TR(A:aK)(lleast:Int)(lmost:Int)(n:Int):LT Bool Empty:=.br (A.c .geq n lleast) (.ret (A.c .leq n lmost)) (.ret false)
def Bq:((Int×Int)×Int)→Bool:=fun((lleast,lmost),n)=>(TR ah lleast lmost n).val (Ty.bl [.bool])
def aen:aC:=⟨[(.struct [yI,yI]),yI], [.bool],(@tt ((Int×Int)×Int)),Bq⟩
theorem adh:Sd 261 aen:=aL ar bU true 25 [] (fun A ((lleast,lmost),n)=>TR A lleast lmost n) (fc Tryz.func261 fz) sz (fun(((lleast,lmost),n):(Int×Int)×Int) hp h=>by
 show(TR ah lleast lmost n).pre=true
 simp only[TR,LT.pre,cy,ax,aD,al,ap,aH,aN,aG,bE,dC,au,bd,bf,bG,bM,cm,Bool.and_eq_true,Bool.or_eq_true,Bool.and_eq_false_iff,Bool.or_eq_false_iff,Bool.not_eq_true',Bool.not_eq_false',decide_eq_true_eq,decide_eq_false_iff_not,bne_iff_ne,beq_iff_eq,bne_eq_false_iff_eq,beq_eq_false_iff_ne]
 simp only[Ty.cq,Ty.has,ku,vF] at h
 (repeat' (first|intro _|constructor))<;>(try omega))
abbrev N_(A:aK)(m:ao)(f:cd):LT Bool Empty:=(.need (A.k (@tt ((Int×Int)×Int)) ((A.n (.struct [yI,yI]) (A.k o_ (m,f.1)).1 0:Int×Int),f.2.1)) (.br (A.not (A.k Bq ((A.n (.struct [yI,yI]) (A.k o_ (m,f.1)).1 0:Int×Int),f.2.1))) (.ret false) (.need (A.k (@tt ((Int×Int)×Int)) ((A.n (.struct [yI,yI]) (A.k o_ (m,f.1)).1 1:Int×Int),f.2.2.1)) (.br (A.not (A.k Bq ((A.n (.struct [yI,yI]) (A.k o_ (m,f.1)).1 1:Int×Int),f.2.2.1))) (.ret false) (.need (A.k (@tt ((Int×Int)×Int)) ((A.n (.struct [yI,yI]) (A.k o_ (m,f.1)).1 2:Int×Int),f.2.2.2.2.1)) (.br (A.not (A.k Bq ((A.n (.struct [yI,yI]) (A.k o_ (m,f.1)).1 2:Int×Int),f.2.2.2.2.1))) (.ret false) (.need (A.k (@tt ((Int×Int)×Int)) ((A.n (.struct [yI,yI]) (A.k o_ (m,f.1)).1 3:Int×Int),f.2.2.2.2.2.1)) (.br (A.not (A.k Bq ((A.n (.struct [yI,yI]) (A.k o_ (m,f.1)).1 3:Int×Int),f.2.2.2.2.2.1))) (.ret false) (.need (A.k (@tt ((Int×Int)×Int)) ((A.n (.struct [yI,yI]) (A.k o_ (m,f.1)).1 4:Int×Int),f.2.2.2.2.2.2)) (.br (A.not (A.k Bq ((A.n (.struct [yI,yI]) (A.k o_ (m,f.1)).1 4:Int×Int),f.2.2.2.2.2.2))) (.ret false) (.ret true)))))))))))
def Ub(A:aK)(m:ao)(f:cd):LT Bool Empty:=.need (A.k (@tt (ao×Int)) (m,f.1)) (.br (A.not (A.k o_ (m,f.1)).2) (.ret false) (.br (A.c .lss f.2.2.2.1 0) (.ret false) (.br (A.c .geq f.2.2.2.1 16) (.ret false) (.br (A.c .eql f.1 10) (.br (A.c .eql f.2.2.2.2.1 f.2.1) (.ret false) (N_ A m f)) (N_ A m f)))))
def iZ:(ao×cd)→Bool:=fun(m,f)=>(Ub ah m f).val (Ty.bl [.bool])
def afW:aC:=⟨[aP,bR], [.bool],(@tt (ao×cd)),iZ⟩
theorem adN:Sd 200 afW:=aL ar bU true 250 [] (fun A (m,f)=>Ub A m f) (fc Tryz.func200 fz) (sc afO (sc adh sz)) (fun((m,f):ao×cd) hp h=>by
 show(Ub ah m f).pre=true
 simp only[Ub,N_,LT.pre,au,cm,cy,Bool.true_and,implies_true,and_self])
structure Ri where
 (a0:List cd) (a1:Int) (a3:ao)
structure Ot where
 (b0:List cd) (b1:Int) (b3:ao)
structure G7 where
 (c1:List cd)
structure CL where
 (d1 d2:Int)
inductive Sq where
 | c0 (p:Ri) (a2:Int)
 | c1 (p:Ot) (b2:Int) (b4:List cd)
 | c2 (p:G7) (c0:Int)
 | c3 (p:CL) (d0:Int) (d3:Int) (d4:List cd)
noncomputable def W5:Sq→eF
 | .c0 p a2=>⟨[⟨132,29,(en [(2,.ptr 0 0),(5,.dq true),(11,.sl bR p.a0),(12,vi p.a1),(13,vi a2)]),[.inLoop (cw Tryz.f132 [1,1,1,0,1,0,0]),.inBlock 0,.code (cw Tryz.f132 [1,1,1,1])],[],none⟩],[.flat false (dc aP p.a3),.dead]⟩
 | .c1 p b2 b4=>⟨[⟨132,29,(en [(2,.ptr 0 0),(5,.own 1),(11,.sl bR p.b0),(12,vi p.b1),(13,vi b2)]),[.inLoop (cw Tryz.f132 [1,1,1,0,1,0,0]),.inBlock 0,.code (cw Tryz.f132 [1,1,1,1])],[],none⟩],[.flat false (dc aP p.b3),.arr false bR b4,.dead]⟩
 | .c2 p c0=>⟨[⟨203,61,(en [(0,.own 0),(3,vi c0)]),[.inLoop (cw Tryz.f203 [1,1,0,1,0,0]),.inBlock 0,.code (cw Tryz.f203 [1,1,1])],[],none⟩,⟨132,29,.leaf,[.ops (ow Tryz.f132 [1,1,1,1,1,0]) ((ow Tryz.f132 [1,1,1,1,1,0]).toList.drop 1),.code .ret],[],none⟩],[.arr false bR p.c1,.dead]⟩
 | .c3 p d0 d3 d4=>⟨[⟨203,61,(en [(0,.own 0),(3,vi d0),(4,.nv 0 7 false p.d1 p.d2),(5,vi d3)]),[.inLoop (cw Tryz.f203 [1,1,0,1,0,0,1,0,0,1,0,1,0,1,0,0]),.inBlock 2,.code (cw Tryz.f203 [1,1,0,1,0,0,1,0,0,1,0,1,1]),.inBlock 1,.code (cw Tryz.f203 [1,1,0,1,0,0,1,1]),.inLoop (cw Tryz.f203 [1,1,0,1,0,0]),.inBlock 0,.code (cw Tryz.f203 [1,1,1])],[],none⟩,⟨132,29,.leaf,[.ops (ow Tryz.f132 [1,1,1,1,1,0]) ((ow Tryz.f132 [1,1,1,1,1,0]).toList.drop 1),.code .ret],[],none⟩],[.arr false bR d4,.dead]⟩
def aaU(A:aK)(m:ao)(l:List cd):LT (List cd) Sq:=.need (A.k (@tt ao) m) (.br (A.c .neq (A.k iK m) 0) (.ret ([]:List cd)) (.more (.c0 ⟨l,(A.l l),m⟩ 0)))
abbrev oB(A:aK)(p:G7)(c0:Int):=(A.n bR p.c1 (A.b .sub .i64 c0 1):cd)
abbrev oy(A:aK)(p:CL)(d3:Int)(d4:List cd):=(A.n bR d4 (A.b .add .i64 p.d1 (A.b .sub .i64 d3 1)):cd)
abbrev nI(A:aK)(p:CL)(d3:Int)(d4:List cd):=(A.n bR d4 (A.b .add .i64 p.d1 d3):cd)
def Hy(A:aK):Sq→LT (List cd) Sq
 | .c0 p a2=>.br (A.c .lss a2 p.a1) (.need (A.and (A.c .leq 0 a2) (A.c .lss a2 (A.l p.a0))) (.need (A.k (@tt (ao×cd)) (p.a3,(A.n bR p.a0 a2:cd))) (.br (A.k iZ (p.a3,(A.n bR p.a0 a2:cd))) (.need (A.c .leq (A.l (([(A.n bR p.a0 a2:cd)]:List cd):List cd)) 2513169434916) (.more (.c1 ⟨p.a0,p.a1,p.a3⟩ (A.b .add .i64 a2 1) ([(A.n bR p.a0 a2:cd)]:List cd)))) (.more (.c0 p (A.b .add .i64 a2 1)))))) (.need (A.k (fun _=>true) (([]:List cd),())) (.ret ([]:List cd)))
 | .c1 p b2 b4=>.br (A.c .lss b2 p.b1) (.need (A.and (A.c .leq 0 b2) (A.c .lss b2 (A.l p.b0))) (.need (A.k (@tt (ao×cd)) (p.b3,(A.n bR p.b0 b2:cd))) (.br (A.k iZ (p.b3,(A.n bR p.b0 b2:cd))) (.need (A.c .leq (A.l (A.p b4 ([(A.n bR p.b0 b2:cd)]:List cd))) 2513169434916) (.more (.c1 p (A.b .add .i64 b2 1) (A.p b4 ([(A.n bR p.b0 b2:cd)]:List cd))))) (.more (.c1 p (A.b .add .i64 b2 1) b4))))) (.need (A.k (fun _=>true) (b4,())) (.br (A.c .lss (A.l (A.k wz (b4,())).1) 2) (.ret (A.k wz (b4,())).1) (.more (.c2 ⟨(A.k wz (b4,())).1⟩ 1))))
 | .c2 p c0=>.br (A.c .lss c0 (A.l p.c1)) (.need (A.and (A.c .leq 0 c0) (A.c .lss c0 (A.l p.c1))) (.need (A.and (A.c .leq 0 (A.b .sub .i64 c0 1)) (A.c .lss (A.b .sub .i64 c0 1) (A.l p.c1))) (.br (A.and (A.c .eql (A.n bR p.c1 c0:cd).1 (oB A p c0).1) (A.and (A.c .eql (A.n bR p.c1 c0:cd).2.1 (oB A p c0).2.1) (A.and (A.c .eql (A.n bR p.c1 c0:cd).2.2.1 (oB A p c0).2.2.1) (A.and (A.c .eql (A.n bR p.c1 c0:cd).2.2.2.1 (oB A p c0).2.2.2.1) (A.and (A.c .eql (A.n bR p.c1 c0:cd).2.2.2.2.1 (oB A p c0).2.2.2.2.1) (A.and (A.c .eql (A.n bR p.c1 c0:cd).2.2.2.2.2.1 (oB A p c0).2.2.2.2.2.1) (A.and (A.c .eql (A.n bR p.c1 c0:cd).2.2.2.2.2.2 (oB A p c0).2.2.2.2.2.2) true))))))) (.need (A.and (A.c .leq 0 c0) (A.and (A.c .leq c0 (A.l p.c1)) (A.c .leq (A.l p.c1) (A.l p.c1)))) (.more (.c3 ⟨c0,(A.b .sub .i64 (A.l p.c1) c0)⟩ c0 1 p.c1))) (.more (.c2 p (A.b .add .i64 c0 1)))))) (.ret p.c1)
 | .c3 p d0 d3 d4=>.br (A.c .lss d3 p.d2) (.need (A.and (A.c .leq 0 d3) (A.c .lss d3 p.d2)) (.need (A.and (A.c .leq 0 (A.b .sub .i64 d3 1)) (A.c .lss (A.b .sub .i64 d3 1) p.d2)) (.br (A.not (A.and (A.c .eql (nI A p d3 d4).1 (oy A p d3 d4).1) (A.and (A.c .eql (nI A p d3 d4).2.1 (oy A p d3 d4).2.1) (A.and (A.c .eql (nI A p d3 d4).2.2.1 (oy A p d3 d4).2.2.1) (A.and (A.c .eql (nI A p d3 d4).2.2.2.1 (oy A p d3 d4).2.2.2.1) (A.and (A.c .eql (nI A p d3 d4).2.2.2.2.1 (oy A p d3 d4).2.2.2.2.1) (A.and (A.c .eql (nI A p d3 d4).2.2.2.2.2.1 (oy A p d3 d4).2.2.2.2.2.1) (A.and (A.c .eql (nI A p d3 d4).2.2.2.2.2.2 (oy A p d3 d4).2.2.2.2.2.2) true)))))))) (.need (A.and (A.c .leq 0 d3) (A.c .lss d3 p.d2)) (.need (A.and (A.c .leq 0 d0) (A.c .lss d0 (A.l d4))) (.more (.c3 p (A.b .add .i64 d0 1) (A.b .add .i64 d3 1) (A.set d4 d0 (nI A p d3 d4)))))) (.more (.c3 p d0 (A.b .add .i64 d3 1) d4))))) (.need (A.and (A.c .leq 0 d0) (A.and (A.c .leq d0 (A.l d4)) (A.c .leq (A.l d4) (A.l d4)))) (.need (A.and (A.c .leq 0 0) (A.and (A.c .leq 0 d0) (A.c .leq d0 (A.l (A.spl d4 d0 (A.r (A.b .sub .i64 (A.l d4) d0) (Ty.eQ bR:cd))))))) (.ret (A.s (A.spl d4 d0 (A.r (A.b .sub .i64 (A.l d4) d0) (Ty.eQ bR:cd))) 0 (A.b .add .i64 0 (A.b .sub .i64 d0 0))))))
def qF(a:cd):List cd→List cd
 | []=>[]
 | b::l=>if b=a then qF a l else b::qF b l
def mH:List cd→List cd
 | []=>[]
 | a::l=>a::qF a l
theorem Bu:∀(l:List cd) (a x:cd),qF a (l ++ [x])=if x=(a::l).getLast (List.cons_ne_nil _ _) then qF a l else qF a l ++ [x]
 | [],a,x=>by
   show(if x=a then[] else[x])=_
   rfl
 | b::l,a,x=>by
   have ih:=Bu l b x
   rw[List.getLast_cons (List.cons_ne_nil b l)]
   show(if b=a then qF a (l ++ [x]) else b::qF b (l ++ [x]))=_
   by_cases h:b=a
   ·subst h
    rw[if_pos rfl,ih]
    show _=if _ then(if b=b then qF b l else _) else(if b=b then qF b l else _) ++ [x]
    rw[if_pos rfl]
   ·rw[if_neg h,ih]
    show _=if _ then(if b=a then qF a l else b::qF b l) else(if b=a then qF a l else b::qF b l) ++ [x]
    rw[if_neg h]
    split<;>rfl
theorem xZ{L:List cd}{n:Nat}(h0:1≤n)(h:n<L.length):mH (L.take (n+1))=if L[n]=L[n-1]'(by omega) then mH (L.take n) else mH (L.take n) ++ [L[n]]:=by
 cases L with
 | nil=>simp at h
 | cons a l=>
   obtain⟨k,rfl⟩:∃k,n=k+1:=⟨n-1,by omega⟩
   have hk:k<l.length:=by simpa using h
   rw[List.take_succ_cons,List.take_succ_cons,List.take_succ_eq_append_getElem hk]
   show a::qF a (l.take k ++ [l[k]])=if _ then a::qF a (l.take k) else a::qF a (l.take k) ++ [_]
   rw[Bu]
   have e1:(a::l)[k+1]=l[k]:=rfl
   have e2:(a::l.take k).getLast (List.cons_ne_nil _ _)=(a::l)[k+1-1]'(by simp;omega):=by
    apply Option.some.inj
    rw[←List.getLast?_eq_some_getLast,List.getLast?_eq_getElem?,show(a::l.take k).length-1=k by simp;omega,show a::l.take k=(a::l).take (k+1) from rfl,List.getElem?_take_of_lt (Nat.lt_succ_self k),List.getElem?_eq_getElem (by simp;omega)]
    rfl
   rw[e2,e1]
   split<;>rfl
def o6(m:ao)(l:List cd):List cd:=bif decide (iK m=0) then mH ((l.filter fun f=>iZ (m,f)).mergeSort fun a b=>!(pn b a)) else[]
theorem NG{a b:cd}:ah.and (ah.c .eql a.1 b.1) (ah.and (ah.c .eql a.2.1 b.2.1) (ah.and (ah.c .eql a.2.2.1 b.2.2.1) (ah.and (ah.c .eql a.2.2.2.1 b.2.2.2.1) (ah.and (ah.c .eql a.2.2.2.2.1 b.2.2.2.2.1) (ah.and (ah.c .eql a.2.2.2.2.2.1 b.2.2.2.2.2.1) (ah.and (ah.c .eql a.2.2.2.2.2.2 b.2.2.2.2.2.2) true))))))=decide (a=b):=by
 obtain⟨a1,a2,a3,a4,a5,a6,a7⟩:=a
 obtain⟨b1,b2,b3,b4,b5,b6,b7⟩:=b
 simp only[aO,aG,Bool.and_true,Prod.mk.injEq,Bool.decide_and]
theorem S9{d:List cd}{z:cd}{k n:Nat}(h:k+n=d.length):(ah.spl d (k:Int) (ah.r (n:Int) z)).length=d.length:=by
 rw[nD,jf,Int.toNat_natCast,Int.toNat_natCast,List.length_append,List.length_append,List.length_take,List.length_drop,List.length_replicate];omega
theorem Oc{L:List cd}{i:Nat}(h:i<L.length):(ah.n bR L (i:Int):cd)=L[i]:=getD_in h _
theorem My{p:CL}{L:List cd}{k0:Nat}(h0:p.d1=(k0:Int))(h1:p.d2=((L.length-k0:Nat):Int))(hk0:k0≤L.length)(hL:L.length≤1000000) :
  ∀(j k k2:Nat) (d:List cd),L.length-k0-k2=j→k2≤L.length-k0→1≤k2→1≤k→k+1≤k0+k2→d.length=L.length→d.take k=mH (L.take (k0+k2))→d.drop k=L.drop k→
   aB (Hy ah) (.more (.c3 p (k:Int) (k2:Int) d)) (mH L):=by
 intro j
 induction j with
 | zero=>
   intro k k2 d hj hk2 hk21 hk hkk hd ht _
   have e:k0+k2=L.length:=by omega
   have ez:ah.b .add .i64 0 (ah.b .sub .i64 (k:Int) 0)=(k:Int):=by
    rw[show(0:Int)=((0:Nat):Int) from rfl,Cz (Nat.zero_le _) (by omega),eH (by omega)];omega
   refine ak.2 ((ai ?_).2 (af.2 ⟨?_,af.2 ⟨?_,ay ?_ (.ret _)⟩⟩))
   ·rw[h1,aI];exact decide_eq_false (by omega)
   ·rw[bL,hd,aG,aG,ap,ap,ap];simp;omega
   ·have hl:(ah.spl d (k:Int) (ah.r (ah.b .sub .i64 (ah.l d) (k:Int)) (Ty.eQ bR:cd))).length=L.length:=by
     rw[bL,hd,Cz (by omega) (by omega)];exact(S9 (by omega)).trans hd
    rw[bL (l:=ah.spl _ _ _),hl,aG,aG,ap,ap,ap];simp;omega
   ·rw[ez,fY,jf,Int.toNat_natCast,List.append_assoc,List.take_left' (by rw[List.length_take];omega),ht,e,List.take_of_length_le (Nat.le_refl _)]
    rfl
 | succ j ih=>
   intro k k2 d hj hk2 hk21 hk hkk hd ht hdr
   have hlt:k0+k2<L.length:=by omega
   have at0:∀i,k≤i→(hi:i<L.length)→(ah.n bR d (i:Int):cd)=L[i]:=fun i hi hl=>by
    rw[Oc (by omega)]
    have:=congrArg (fun l=>l[i-k]?) hdr
    simp only[List.getElem?_drop,show k+(i-k)=i by omega] at this
    rw[List.getElem?_eq_getElem (by omega),List.getElem?_eq_getElem hl] at this
    exact Option.some.inj this
   have e1:ah.b .add .i64 p.d1 (k2:Int)=((k0+k2:Nat):Int):=by rw[h0,eH (i:=k0) (j:=k2) (by omega)]
   have e2:ah.b .sub .i64 (k2:Int) 1=((k2-1:Nat):Int):=Cz (i:=k2) (j:=1) (by omega) (by omega)
   have e3:ah.b .add .i64 p.d1 ((k2-1:Nat):Int)=((k0+k2-1:Nat):Int):=by rw[h0,eH (i:=k0) (j:=k2-1) (by omega)];congr 1;omega
   have a1:=at0 (k0+k2) (by omega) hlt
   have a2:=at0 (k0+k2-1) (by omega) (by omega)
   have sn:=xZ (L:=L) (n:=k0+k2) (by omega) hlt
   have hin:ah.and (ah.c .leq 0 (k2:Int)) (ah.c .lss (k2:Int) p.d2)=true:=by rw[h1,aI,aG,ap];simp;omega
   have hin2:ah.and (ah.c .leq 0 ((k2-1:Nat):Int)) (ah.c .lss ((k2-1:Nat):Int) p.d2)=true:=by rw[h1,aI,aG,ap];simp;omega
   refine ak.2 ((aj ?_).2 (af.2 ⟨hin,af.2 ⟨by rw[e2];exact hin2,?_⟩⟩))
   ·rw[h1,aI];exact decide_eq_true (by omega)
   rw[e2,e1,e3,a1,a2,NG,cu (i:=k2) (by omega),cu (i:=k) (by omega)]
   by_cases he:L[k0+k2]=L[k0+k2-1]
   ·rw[decide_eq_true he]
    refine(ai rfl).2 (ih k (k2+1) d (by omega) (by omega) (by omega) hk (by omega) hd ?_ hdr)
    rw[show k0+(k2+1)=k0+k2+1 by omega,sn,if_pos he];exact ht
   ·rw[decide_eq_false he]
    refine(aj rfl).2 (af.2 ⟨hin,af.2 ⟨aS (by omega),?_⟩⟩)
    rw[xP,Int.toNat_natCast]
    have hkd:k<d.length:=by omega
    refine ih (k+1) (k2+1) _ (by omega) (by omega) (by omega) (by omega) (by omega) (by rw[List.length_set];exact hd) ?_ ?_
    ·rw[show k0+(k2+1)=k0+k2+1 by omega,sn,if_neg he,←ht,List.take_succ_eq_append_getElem (by rw[List.length_set];exact hkd),List.getElem_set_self,List.take_set_of_le (Nat.le_refl _)]
    ·rw[List.drop_set_of_lt (Nat.lt_succ_self _)]
     have:=congrArg (List.drop 1) hdr
     rw[List.drop_drop,List.drop_drop] at this
     exact this
theorem ML{p:G7}{L:List cd}(h0:p.c1=L)(hL:L.length≤1000000):∀(j i:Nat),L.length-i=j→i≤L.length→1≤i→mH (L.take i)=L.take i→
  aB (Hy ah) (.more (.c2 p (i:Int))) (mH L):=by
 intro j
 induction j with
 | zero=>
   intro i hj hi h1 hc
   have:i=L.length:=by omega
   subst this
   rw[List.take_of_length_le (Nat.le_refl _)] at hc
   refine ak.2 ((ai ?_).2 (ay ?_ (.ret _)))
   ·rw[h0,bL,aI];simp
   ·rw[h0,hc]
 | succ j ih=>
   intro i hj hi h1 hc
   have hlt:i<L.length:=by omega
   have e2:ah.b .sub .i64 (i:Int) 1=((i-1:Nat):Int):=Cz (i:=i) (j:=1) (by omega) (by omega)
   have sn:=xZ (L:=L) (n:=i) h1 hlt
   refine ak.2 ((aj ?_).2 (af.2 ⟨by rw[h0];exact aS hlt,af.2 ⟨by rw[h0,e2];exact aS (by omega),?_⟩⟩))
   ·rw[h0,bL,aI];exact decide_eq_true hlt
   rw[h0,e2,Oc hlt,Oc (show i-1<L.length by omega),NG,cu (by omega)]
   by_cases he:L[i]=L[i-1]
   ·rw[decide_eq_true he]
    refine(aj rfl).2 (af.2 ⟨?_,?_⟩)
    ·rw[bL,aG,aG,ap,ap,ap];simp;omega
    ·rw[bL,Cz (by omega) (by omega)]
     have:=My (p:=⟨(i:Int),((L.length-i:Nat):Int)⟩) (L:=L) (k0:=i) rfl rfl hi hL _ i 1 L rfl (by omega) (Nat.le_refl _) h1 (Nat.le_refl _) rfl (by rw[sn,if_pos he,hc]) rfl
     exact this
   ·rw[decide_eq_false he]
    refine(ai rfl).2 (ih (i+1) (by omega) (by omega) (by omega) ?_)
    rw[sn,if_neg he,hc,List.take_succ_eq_append_getElem hlt]
theorem GV{L:List cd}:(L.mergeSort fun a b=>!(pn b a)).length=L.length:=List.length_mergeSort _
theorem Nr{L:List cd}(hL:L.length≤1000000):aB (Hy ah) (.need (ah.k (fun _=>true) ((L,()):List cd×Unit)) (.br (ah.c .lss (ah.l (ah.k wz (L,())).1) 2) (.ret (ah.k wz (L,())).1) (.more (.c2 ⟨(ah.k wz (L,())).1⟩ 1)))) (mH (L.mergeSort fun a b=>!(pn b a))):=by
 have e:(ah.k wz (L,())).1=L.mergeSort fun a b=>!(pn b a):=rfl
 rw[e]
 have hl:=GV (L:=L)
 generalize L.mergeSort (fun a b=>!(pn b a))=M at hl ⊢
 refine af.2 ⟨rfl,?_⟩
 by_cases h:M.length<2
 ·refine(aj ?_).2 (ay ?_ (.ret _))
  ·rw[bL,al];exact decide_eq_true (by omega)
  ·match M,h with
   | [],_=>rfl
   | [a],_=>rfl
   | _::_::_,h=>simp at h;omega
 ·refine(ai ?_).2 ?_
  ·rw[bL,al];exact decide_eq_false (by omega)
  ·refine ML (L:=M) rfl (by omega) _ 1 rfl (by omega) (Nat.le_refl _) ?_
   match M,h with
   | [],h=>simp at h
   | a::l,_=>rfl
theorem Lh{p:Ot}{L:List cd}{m:ao}(h0:p.b0=L)(h1:p.b1=(L.length:Int))(h3:p.b3=m)(hL:L.length≤1000000) :
  ∀(j i:Nat),L.length-i=j→i≤L.length→aB (Hy ah) (.more (.c1 p (i:Int) ((L.take i).filter fun f=>iZ (m,f)))) (mH ((L.filter fun f=>iZ (m,f)).mergeSort fun a b=>!(pn b a))):=by
 intro j
 induction j with
 | zero=>
   intro i hj hi
   have:i=L.length:=by omega
   subst this
   rw[List.take_of_length_le (Nat.le_refl _)]
   refine ak.2 ((ai ?_).2 (Nr (Nat.le_trans (List.length_filter_le _ _) hL)))
   rw[h1,aI];simp
 | succ j ih=>
   intro i hj hi
   have hlt:i<L.length:=by omega
   refine ak.2 ((aj ?_).2 (af.2 ⟨by rw[h0];exact aS hlt,af.2 ⟨rfl,?_⟩⟩))
   ·rw[h1,aI];exact decide_eq_true hlt
   have nx:=ih (i+1) (by omega) (by omega)
   rw[List.take_succ_eq_append_getElem hlt,List.filter_append] at nx
   rw[h0,h3,Oc hlt,cu (by omega)]
   cases hf:iZ (m,L[i])
   ·refine(ai (show ah.k iZ (m,L[i])=false from hf)).2 ?_
    rwa [List.filter_cons_of_neg (p:=fun f=>iZ (m,f)) (by rw[hf];simp),List.filter_nil,List.append_nil] at nx
   ·refine(aj (show ah.k iZ (m,L[i])=true from hf)).2 (af.2 ⟨?_,?_⟩)
    ·have:=List.length_filter_le (fun f=>iZ (m,f)) (L.take i)
     rw[List.length_take] at this
     rw[bL,iA,List.length_append,List.length_singleton,ap]
     exact decide_eq_true (by omega)
    ·rw[List.filter_cons_of_pos (p:=fun f=>iZ (m,f)) hf,List.filter_nil] at nx
     exact nx
theorem H7{p:Ri}{L:List cd}{m:ao}(h0:p.a0=L)(h1:p.a1=(L.length:Int))(h3:p.a3=m)(hL:L.length≤1000000) :
  ∀(j i:Nat),L.length-i=j→i≤L.length→(L.take i).filter (fun f=>iZ (m,f))=[]→aB (Hy ah) (.more (.c0 p (i:Int))) (mH ((L.filter fun f=>iZ (m,f)).mergeSort fun a b=>!(pn b a))):=by
 intro j
 induction j with
 | zero=>
   intro i hj hi hf
   have:i=L.length:=by omega
   subst this
   rw[List.take_of_length_le (Nat.le_refl _)] at hf
   rw[hf]
   refine ak.2 ((ai ?_).2 (af.2 ⟨rfl,ay ?_ (.ret _)⟩))
   ·rw[h1,aI];simp
   ·rw[List.mergeSort_nil];rfl
 | succ j ih=>
   intro i hj hi hz
   have hlt:i<L.length:=by omega
   refine ak.2 ((aj ?_).2 (af.2 ⟨by rw[h0];exact aS hlt,af.2 ⟨rfl,?_⟩⟩))
   ·rw[h1,aI];exact decide_eq_true hlt
   rw[h0,h3,Oc hlt,cu (by omega)]
   have ft:(L.take (i+1)).filter (fun f=>iZ (m,f))=[L[i]].filter fun f=>iZ (m,f):=by
    rw[List.take_succ_eq_append_getElem hlt,List.filter_append,hz,List.nil_append]
   cases hf:iZ (m,L[i])
   ·refine(ai (show ah.k iZ (m,L[i])=false from hf)).2 (ih (i+1) (by omega) (by omega) ?_)
    rw[ft,List.filter_cons_of_neg (p:=fun f=>iZ (m,f)) (by rw[hf];simp),List.filter_nil]
   ·refine(aj (show ah.k iZ (m,L[i])=true from hf)).2 (af.2 ⟨by kernel_rfl,?_⟩)
    have nx:=Lh (p:=⟨L,p.a1,m⟩) (L:=L) (m:=m) rfl h1 rfl hL _ (i+1) rfl (by omega)
    rw[ft,List.filter_cons_of_pos (p:=fun f=>iZ (m,f)) hf,List.filter_nil] at nx
    exact nx
theorem abn{m:ao}{l:List cd}(h:l.length≤1000000):aB (Hy ah) (aaU ah m l) (o6 m l):=by
 unfold aaU o6
 refine af.2 ⟨rfl,?_⟩
 by_cases hm:iK m=0
 ·rw[decide_eq_true hm]
  refine(ai (by rw[aT];exact decide_eq_false fun k=>k hm)).2 ?_
  exact H7 (p:=⟨l,(l.length:Int),m⟩) (L:=l) rfl rfl rfl h _ 0 rfl (Nat.zero_le _) rfl
 ·rw[decide_eq_false hm]
  exact(aj (by rw[aT];exact decide_eq_true hm)).2 (.ret _)
def o9:(ao×List cd)→(List cd):=fun(m,l)=>o6 m l
def zw:(ao×List cd)→Bool:=fun(_,l)=>decide (l.length≤1000000)
def afF:aC:=⟨[aP,(.slice bR)], [(.slice bR)],zw,o9⟩
theorem abD:Sd 132 afF:=oA ar bU true 33  (ic ac_ iz) mz pz [⟨132,5, [[2,5,11,12,13]]⟩,⟨203,4, [[0,3], []]⟩,⟨203,9, [[0,3,4,5], []]⟩] [] (fun A (m,l)=>aaU A m l) Hy W5 (fc Tryz.func132 (fc Tryz.func203 fz)) (sc Bn (sc adN sz)) (fun A y=>match y with |.c0 p a2=>⟨42,by kernel_rfl,by kernel_rfl⟩|.c1 p b2 b4=>⟨42,by kernel_rfl,by kernel_rfl⟩|.c2 p c0=>⟨46,by kernel_rfl,by kernel_rfl⟩|.c3 p d0 d3 d4=>⟨54,by kernel_rfl,by kernel_rfl⟩) fun((m,l):ao×List cd) hp h=>abn (of_decide_eq_true hp)
def aaZ(A:aK)(a:bg)(b:bg):LT Int Empty:=.need (A.k (@tt (Int×Int)) (a.2.1,b.2.1)) (.need (A.k (@tt (Int×Int)) (a.2.2.1,b.2.2.1)) (.need (A.k (@tt (Int×Int)) (a.1,b.1)) (.need (A.k (@tt (List Int)) [(A.k i6 (a.2.1,b.2.1)),(A.k i6 (a.2.2.1,b.2.2.1)),(A.k i6 (a.1,b.1))]) (.ret (A.k Od [(A.k i6 (a.2.1,b.2.1)),(A.k i6 (a.2.2.1,b.2.2.1)),(A.k i6 (a.1,b.1))])))))
def Ge:(bg×bg)→Int:=fun(a,b)=>(aaZ ah a b).val (Ty.bl [yI])
def acQ:aC:=⟨[bC,bC], [yI],(@tt (bg×bg)),Ge⟩
theorem Wi:Sd 136 acQ:=aL ar bU true 33 [] (fun A (a,b)=>aaZ A a b) (fc Tryz.func136 fz) (sc abQ (sc adz sz)) (fun((a,b):bg×bg) hp h=>by
 show(aaZ ah a b).pre=true
 rfl)
def Ex{Y:Type}(s:Y→LT (List bg×Unit) Y)(N:Nat)(t:LT (List bg×Unit) Y):Prop:=∃r:List bg,r.length=N∧aB s t (r,())
section
variable {Y:Type} {s:Y→LT (List bg×Unit) Y} {N:Nat} {t e:LT (List bg×Unit) Y} {a b:Int}
theorem Ex.ret{r:List bg}(h:r.length=N):Ex s N (.ret (r,())):=⟨r,h,.ret _⟩
theorem Ex.more{y:Y}(h:Ex s N (s y)):Ex s N (.more y):=h.elim fun r k=>⟨r,k.1,.more k.2⟩
theorem Ex.need{b:Bool}(hb:b=true)(h:Ex s N t):Ex s N (.need b t):=h.elim fun r k=>⟨r,k.1,.need hb k.2⟩
theorem Ex.br{b:Bool}(h1:b=true→Ex s N t)(h2:b=false→Ex s N e):Ex s N (.br b t e):=by
 cases b
 ·exact(h2 rfl).elim fun r k=>⟨r,k.1,.br k.2⟩
 ·exact(h1 rfl).elim fun r k=>⟨r,k.1,.br k.2⟩
theorem Ex.lss(h1:a<b→Ex s N t)(h2:b≤a→Ex s N e):Ex s N (.br (ah.c .lss a b) t e):=
 Ex.br (fun h=>h1 (of_decide_eq_true (p:=a<b) h)) fun h=>h2 (Int.not_lt.1 (of_decide_eq_false (p:=a<b) h))
theorem Ex.gtr(h1:b<a→Ex s N t)(h2:a≤b→Ex s N e):Ex s N (.br (ah.c .gtr a b) t e):=
 Ex.br (fun h=>h1 (of_decide_eq_true (p:=b<a) h)) fun h=>h2 (Int.not_lt.1 (of_decide_eq_false (p:=b<a) h))
theorem Ex.leq(h1:a≤b→Ex s N t)(h2:b<a→Ex s N e):Ex s N (.br (ah.c .leq a b) t e):=
 Ex.br (fun h=>h1 (of_decide_eq_true (p:=a≤b) h)) fun h=>h2 (Int.not_le.1 (of_decide_eq_false (p:=a≤b) h))
theorem Ex.eql(h1:a=b→Ex s N t)(h2:¬a=b→Ex s N e):Ex s N (.br (ah.c .eql a b) t e):=by
 rw[aO];exact Ex.br (fun h=>h1 (of_decide_eq_true h)) fun h=>h2 (of_decide_eq_false h)
theorem Ex.neq(h1:¬a=b→Ex s N t)(h2:a=b→Ex s N e):Ex s N (.br (ah.c .neq a b) t e):=by
 rw[aT];exact Ex.br (fun h=>h1 (of_decide_eq_true h)) fun h=>h2 (Decidable.not_not.1 (of_decide_eq_false h))
end
def o5{Y:Type}(s:Y→LT (List bg×Unit) Y)(t:LT (List bg×Unit) Y)(d:List bg):List bg:=
 match d with
 | []=>[]
 | _::_=>open Classical in if h:Ex s d.length t then h.choose else d
theorem kL{Y:Type}{s:Y→LT (List bg×Unit) Y}{t:LT (List bg×Unit) Y}{d:List bg}:(o5 s t d).length=d.length:=by
 cases d with
 | nil=>rfl
 | cons a l=>
   rw[o5]
   split
   ·rename_i h;exact h.choose_spec.1
   ·rfl
theorem oq{Y:Type}{s:Y→LT (List bg×Unit) Y}{t:LT (List bg×Unit) Y}{d:List bg}(h:Ex s d.length t):(o5 s t d).length=d.length∧aB s t (o5 s t d,()):=by
 refine⟨kL,?_⟩
 cases d with
 | nil=>
   obtain⟨r,h1,h2⟩:=h
   cases List.length_eq_zero_iff.1 h1
   exact h2
 | cons a l=>
   rw[o5,dif_pos h]
   exact h.choose_spec.2
theorem CG{l:List bg}{i j:Int}{v:bg}(h:0≤i∧i<(l.length:Int)):ah.and (ah.c .leq 0 i) (ah.c .lss i (ah.l (ah.set l j v)))=true:=dQ (by rw[fR];exact h)
theorem rI{x y:Int}(h:-4611686018427387904≤x+y∧x+y<4611686018427387904):ah.b .add .i64 x y=x+y:=by rw[bd,gZ (by omega) (by omega)]
theorem pG{x y:Int}(h:-4611686018427387904≤x-y∧x-y<4611686018427387904):ah.b .sub .i64 x y=x-y:=by rw[Go.Ev.bf,gZ (by omega) (by omega)]
structure OD where
 (a0 a1 a2:Int)
inductive SU where
 | c0 (p:OD) (a3:Int) (a4:List bg)
noncomputable def aaD:SU→eF
 | .c0 p a3 a4=>⟨[⟨335,38,(en [(0,.own 0),(1,vi p.a0),(2,vi p.a1),(3,vi p.a2),(10,vi a3)]),[.inLoop (cw Tryz.f335 [1,0,0]),.inBlock 0],[],none⟩],[.arr false bC a4,.dead]⟩
def WN(A:aK)(data:List bg)(a:Int)(b:Int)(n:Int):LT (List bg×Unit) SU:=.more (.c0 ⟨a,b,n⟩ 0 data)
def US(A:aK):SU→LT (List bg×Unit) SU
 | .c0 p a3 a4=>.br (A.c .lss a3 p.a2) (.need (A.and (A.c .leq 0 (A.b .add .i64 p.a1 a3)) (A.c .lss (A.b .add .i64 p.a1 a3) (A.l a4))) (.need (A.and (A.c .leq 0 (A.b .add .i64 p.a0 a3)) (A.c .lss (A.b .add .i64 p.a0 a3) (A.l a4))) (.need (A.and (A.c .leq 0 (A.b .add .i64 p.a0 a3)) (A.c .lss (A.b .add .i64 p.a0 a3) (A.l a4))) (.need (A.and (A.c .leq 0 (A.b .add .i64 p.a1 a3)) (A.c .lss (A.b .add .i64 p.a1 a3) (A.l (A.set a4 (A.b .add .i64 p.a0 a3) (A.n bC a4 (A.b .add .i64 p.a1 a3):bg))))) (.more (.c0 p (A.b .add .i64 a3 1) (A.set (A.set a4 (A.b .add .i64 p.a0 a3) (A.n bC a4 (A.b .add .i64 p.a1 a3):bg)) (A.b .add .i64 p.a1 a3) (A.n bC a4 (A.b .add .i64 p.a0 a3):bg)))))))) (.ret (a4,()))
theorem W_{p:OD}{N:Nat}(h0:0≤p.a0)(h1:0≤p.a1)(h2:p.a0+p.a2≤N)(h3:p.a1+p.a2≤N)(hN:N≤1000000):∀(j:Nat) (k:Int) (d:List bg),(p.a2-k).toNat≤j→0≤k→d.length=N→Ex (US ah) N (.more (.c0 p k d)):=by
 intro j
 induction j with
 | zero=>intro k d hj hk hd;exact Ex.more (Ex.lss (fun h=>by omega) fun _=>Ex.ret hd)
 | succ j ih=>
   intro k d hj hk hd
   refine Ex.more (Ex.lss (fun h=>?_) fun _=>Ex.ret hd)
   rw[rI (x:=p.a1) (y:=k) (by omega),rI (x:=p.a0) (y:=k) (by omega),rI (x:=k) (y:=1) (by omega)]
   exact Ex.need (dQ (by omega)) (Ex.need (dQ (by omega)) (Ex.need (dQ (by omega)) (Ex.need (CG (by omega)) (ih (k+1) _ (by omega) (by omega) (fR.trans (fR.trans hd))))))
theorem Wx{d:List bg}{a b n:Int}(h:0≤a∧0≤n∧a+n≤b∧b+n≤(d.length:Int)∧d.length≤1000000):Ex (US ah) d.length (WN ah d a b n):=
 W_ (p:=⟨a,b,n⟩) (by simp only;omega) (by simp only;omega) (by simp only;omega) (by simp only;omega) (by omega) _ 0 d (Nat.le_refl _) (Int.le_refl 0) rfl
def Gd:List bg×(Int×Int×Int)→List bg×Unit:=fun(d,a,b,n)=>(o5 (US ah) (WN ah d a b n) d,())
def yE:List bg×(Int×Int×Int)→Bool:=fun(d,a,b,n)=>decide (0≤a∧0≤n∧a+n≤b∧b+n≤(d.length:Int)∧d.length≤1000000)
def afS:dD:=⟨bC, [yI,yI,yI], [136], [],yE,Gd⟩
theorem afl:dD.Sound Tryz.prog 335 afS:=im ar bU true 12 iz [⟨335,1, [[0,1,2,3,10]]⟩] [] (fun A (data,(a,b,n))=>WN A data a b n) US aaD (fc Tryz.func335 fz) sz (fun A y=>match y with |.c0 p a3 a4=>⟨49,by kernel_rfl,by kernel_rfl⟩) fun((data,(a,b,n)):List bg×(Int×Int×Int)) hp hv h=>oq (Wx (of_decide_eq_true hp))
structure N8 where
 (a0:Int)
inductive SN where
 | c0 (p:N8) (a1:Int) (a2:Int) (a3:List bg)
noncomputable def aao:SN→eF
 | .c0 p a1 a2 a3=>⟨[⟨309,58,(en [(0,.own 0),(2,vi p.a0),(4,.fn 136 [] []),(10,vi a1),(11,vi a2)]),[.inLoop (cw Tryz.f309 [1,1,0,0,0]),.inBlock 0,.code (cw Tryz.f309 [1,1,1])],[],none⟩],[.arr false bC a3,.dead]⟩
def Ti(A:aK)(data:List bg)(a:Int)(m:Int)(b:Int):LT (List bg×Unit) SN:=.more (.c0 ⟨m⟩ (A.b .sub .i64 m a) (A.b .sub .i64 b m) data)
def UD(A:aK):SN→LT (List bg×Unit) SN
 | .c0 p a1 a2 a3=>.br (A.c .neq a1 a2) (.br (A.c .gtr a1 a2) (.need (A.k yE (a3,(A.b .sub .i64 p.a0 a1),p.a0,a2)) (.more (.c0 p (A.b .sub .i64 a1 a2) a2 (A.k Gd (a3,(A.b .sub .i64 p.a0 a1),p.a0,a2)).1))) (.need (A.k yE (a3,(A.b .sub .i64 p.a0 a1),(A.b .sub .i64 (A.b .add .i64 p.a0 a2) a1),a1)) (.more (.c0 p a1 (A.b .sub .i64 a2 a1) (A.k Gd (a3,(A.b .sub .i64 p.a0 a1),(A.b .sub .i64 (A.b .add .i64 p.a0 a2) a1),a1)).1)))) (.need (A.k yE (a3,(A.b .sub .i64 p.a0 a1),p.a0,a1)) (.ret ((A.k Gd (a3,(A.b .sub .i64 p.a0 a1),p.a0,a1)).1,())))
theorem D1{d:List bg}{a b n:Int}(h:0≤a∧0≤n∧a+n≤b∧b+n≤(d.length:Int)∧d.length≤1000000):ah.k yE (d,a,b,n)=true:=decide_eq_true h
theorem G3{d:List bg}{a b n:Int}:(ah.k Gd (d,a,b,n)).1.length=d.length:=kL
theorem Yg{p:N8}{N:Nat}(hN:N≤1000000):∀(f:Nat) (i j:Int) (d:List bg),(i+j).toNat≤f→1≤i→1≤j→i≤p.a0→p.a0+j≤N→d.length=N→Ex (UD ah) N (.more (.c0 p i j d)):=by
 intro f
 induction f with
 | zero=>intro i j d h1 h2 h3;omega
 | succ f ih=>
   intro i j d h1 h2 h3 h4 h5 hd
   refine Ex.more (Ex.neq (fun h=>Ex.gtr (fun g=>?_) fun g=>?_) fun h=>?_)
   ·rw[pG (x:=p.a0) (y:=i) (by omega),pG (x:=i) (y:=j) (by omega)]
    exact Ex.need (D1 (by omega)) (ih (i-j) j _ (by omega) (by omega) h3 (by omega) h5 (G3.trans hd))
   ·rw[rI (x:=p.a0) (y:=j) (by omega),pG (x:=p.a0) (y:=i) (by omega),pG (x:=p.a0+j) (y:=i) (by omega),pG (x:=j) (y:=i) (by omega)]
    exact Ex.need (D1 (by omega)) (ih i (j-i) _ (by omega) h2 (by omega) h4 (by omega) (G3.trans hd))
   ·rw[pG (x:=p.a0) (y:=i) (by omega)]
    exact Ex.need (D1 (by omega)) (Ex.ret (G3.trans hd))
theorem Yu{d:List bg}{a m b:Int}(h:0≤a∧a<m∧m<b∧b≤(d.length:Int)∧d.length≤1000000):Ex (UD ah) d.length (Ti ah d a m b):=by
 unfold Ti
 rw[pG (x:=m) (y:=a) (by omega),pG (x:=b) (y:=m) (by omega)]
 exact Yg (p:=⟨m⟩) (by omega) _ (m-a) (b-m) d (Nat.le_refl _) (by omega) (by omega) (by simp only;omega) (by simp only;omega) rfl
def Qz:List bg×(Int×Int×Int)→List bg×Unit:=fun(d,a,m,b)=>(o5 (UD ah) (Ti ah d a m b) d,())
def G8:List bg×(Int×Int×Int)→Bool:=fun(d,a,m,b)=>decide (0≤a∧a<m∧m<b∧b≤(d.length:Int)∧d.length≤1000000)
def adR:dD:=⟨bC, [yI,yI,yI], [136], [],G8,Qz⟩
theorem afy:dD.Sound Tryz.prog 309 adR:=im ar bU true 23 (ic afl iz) [⟨309,2, [[0,2,4,10,11]]⟩] [] (fun A (data,(a,m,b))=>Ti A data a m b) UD aao (fc Tryz.func309 fz) sz (fun A y=>match y with |.c0 p a1 a2 a3=>⟨45,by kernel_rfl,by kernel_rfl⟩) fun((data,(a,m,b)):List bg×(Int×Int×Int)) hp hv h=>oq (Yu (of_decide_eq_true hp))
structure aap where
 (a0 a1 a2:Int) (a3:List bg)
structure YI where
 (b0 b1 b2:Int)
inductive UN where
 | c0 (p:aap)
 | c1 (p:YI) (b3:Int) (b4:List bg)
noncomputable def XM:UN→eF
 | .c0 p=>⟨[⟨264,53,(en [(0,.own 0),(1,vi p.a0),(2,vi p.a1),(3,.fn 136 [] []),(8,vi p.a2)]),[.inLoop (cw Tryz.f264 [1,0,0]),.inBlock 0],[],none⟩],[.arr false bC p.a3,.dead]⟩
 | .c1 p b3 b4=>⟨[⟨264,53,(en [(0,.own 0),(1,vi p.b0),(2,vi p.b1),(3,.fn 136 [] []),(8,vi p.b2),(9,vi b3)]),[.inLoop (cw Tryz.f264 [1,0,0,1,0,0,1,0,0]),.inBlock 2,.inBlock 1,.code (cw Tryz.f264 [1,0,0,1,1]),.inLoop (cw Tryz.f264 [1,0,0]),.inBlock 0],[],none⟩],[.arr false bC b4,.dead]⟩
def U7(A:aK)(data:List bg)(a:Int)(b:Int):LT (List bg×Unit) UN:=.more (.c0 ⟨a,b,(A.b .add .i64 a 1),data⟩)
def Me(A:aK):UN→LT (List bg×Unit) UN
 | .c0 p=>.br (A.c .lss p.a2 p.a1) (.more (.c1 ⟨p.a0,p.a1,p.a2⟩ p.a2 p.a3)) (.ret (p.a3,()))
 | .c1 p b3 b4=>.br (A.c .gtr b3 p.b0) (.need (A.and (A.c .leq 0 b3) (A.c .lss b3 (A.l b4))) (.need (A.and (A.c .leq 0 (A.b .sub .i64 b3 1)) (A.c .lss (A.b .sub .i64 b3 1) (A.l b4))) (.need (A.k (@tt (bg×bg)) ((A.n bC b4 b3:bg),(A.n bC b4 (A.b .sub .i64 b3 1):bg))) (.br (A.c .lss (A.k Ge ((A.n bC b4 b3:bg),(A.n bC b4 (A.b .sub .i64 b3 1):bg))) 0) (.need (A.and (A.c .leq 0 (A.b .sub .i64 b3 1)) (A.c .lss (A.b .sub .i64 b3 1) (A.l b4))) (.need (A.and (A.c .leq 0 b3) (A.c .lss b3 (A.l b4))) (.need (A.and (A.c .leq 0 b3) (A.c .lss b3 (A.l b4))) (.need (A.and (A.c .leq 0 (A.b .sub .i64 b3 1)) (A.c .lss (A.b .sub .i64 b3 1) (A.l (A.set b4 b3 (A.n bC b4 (A.b .sub .i64 b3 1):bg))))) (.more (.c1 p (A.b .sub .i64 b3 1) (A.set (A.set b4 b3 (A.n bC b4 (A.b .sub .i64 b3 1):bg)) (A.b .sub .i64 b3 1) (A.n bC b4 b3:bg)))))))) (.more (.c0 ⟨p.b0,p.b1,(A.b .add .i64 p.b2 1),b4⟩)))))) (.more (.c0 ⟨p.b0,p.b1,(A.b .add .i64 p.b2 1),b4⟩))
theorem YC{N:Nat}(hN:N≤1000000){a b:Int}(h0:0≤a)(hb:b≤N):∀(f:Nat) (i:Int) (d:List bg),(b-i).toNat≤f→a<i→d.length=N→Ex (Me ah) N (.more (.c0 ⟨a,b,i,d⟩)):=by
 intro f
 induction f with
 | zero=>intro i d hf hi hd;exact Ex.more (Ex.lss (fun h=>by have:i<b:=h;omega) fun _=>Ex.ret hd)
 | succ f ih=>
   intro i d hf hi hd
   refine Ex.more (Ex.lss (fun h=>?_) fun _=>Ex.ret hd)
   have h:i<b:=h
   have nx:∀e:List bg,e.length=N→Ex (Me ah) N (.more (.c0 ⟨a,b,ah.b .add .i64 i 1,e⟩)):=fun e he=>by
    rw[rI (x:=i) (y:=1) (by omega)]
    exact ih (i+1) e (by omega) (by omega) he
   have inn:∀(g:Nat) (j:Int) (e:List bg),(j-a).toNat≤g→a≤j→j≤i→e.length=N→Ex (Me ah) N (.more (.c1 ⟨a,b,i⟩ j e)):=by
    intro g
    induction g with
    | zero=>intro j e hg hj hji he;exact Ex.more (Ex.gtr (fun h=>by have:a<j:=h;omega) fun _=>nx e he)
    | succ g ihg=>
      intro j e hg hj hji he
      refine Ex.more (Ex.gtr (fun h=>?_) fun _=>nx e he)
      have h:a<j:=h
      rw[pG (x:=j) (y:=1) (by omega)]
      exact Ex.need (dQ (by omega)) (Ex.need (dQ (by omega)) (Ex.need rfl (Ex.br (fun _=>Ex.need (dQ (by omega)) (Ex.need (dQ (by omega)) (Ex.need (dQ (by omega)) (Ex.need (CG (by omega)) (ihg (j-1) _ (by omega) (by omega) (by omega) (fR.trans (fR.trans he))))))) fun _=>nx e he)))
   exact inn _ i d (Nat.le_refl _) (by omega) (Int.le_refl i) hd
theorem YX{d:List bg}{a b:Int}(h:0≤a∧a≤b∧b≤(d.length:Int)∧d.length≤1000000):Ex (Me ah) d.length (U7 ah d a b):=by
 unfold U7
 rw[rI (x:=a) (y:=1) (by omega)]
 exact YC (by omega) h.1 h.2.2.1 _ (a+1) d (Nat.le_refl _) (by omega) rfl
def Kr:List bg×(Int×Int)→List bg×Unit:=fun(d,a,b)=>(o5 (Me ah) (U7 ah d a b) d,())
def De:List bg×(Int×Int)→Bool:=fun(d,a,b)=>decide (0≤a∧a≤b∧b≤(d.length:Int)∧d.length≤1000000)
def abf:dD:=⟨bC, [yI,yI], [136], [],De,Kr⟩
theorem adx:dD.Sound Tryz.prog 264 abf:=im ar bU true 14 iz [⟨264,1, [[0,1,2,3,8]]⟩,⟨264,4, [[0,1,2,3,8,9]]⟩] [] (fun A (data,(a,b))=>U7 A data a b) Me XM (fc Tryz.func264 fz) (sc Wi sz) (fun A y=>match y with |.c0 p=>⟨24,by kernel_rfl,by kernel_rfl⟩|.c1 p b3 b4=>⟨57,by kernel_rfl,by kernel_rfl⟩) fun((data,(a,b)):List bg×(Int×Int)) hp hv h=>oq (YX (of_decide_eq_true hp))
theorem SC{i j:Nat}(h:i+j<4611686018427387904):ah.v .i64 (ah.b .shr .u64 (ah.v .u64 (ah.b .add .i64 (i:Int) (j:Int))) 1)=(((i+j)/2:Nat):Int):=by
 rw[eH h]
 have e:ah.v .u64 ((i+j:Nat):Int)=((i+j:Nat):Int):=Q7 (by omega) (by omega)
 rw[e]
 have:=Ny (a:=((i+j:Nat):Int)) (n:=1) (by omega) (by omega)
 rw[show((1:Nat):Int)=1 from rfl] at this
 rw[this,Int.toNat_natCast]
 exact gZ (by omega) (by omega)
theorem Sb{i j:Int}(h0:0≤i)(h1:0≤j)(h2:i+j≤4000000):∃c:Int,ah.v .i64 (ah.b .shr .u64 (ah.v .u64 (ah.b .add .i64 i j)) 1)=c∧2*c≤i+j∧i+j≤2*c+1:=by
 obtain⟨i,rfl⟩:=Int.eq_ofNat_of_zero_le h0
 obtain⟨j,rfl⟩:=Int.eq_ofNat_of_zero_le h1
 exact⟨_,SC (by omega),by omega,by omega⟩
abbrev OI:Type:=List bg×Int×Int×Int→List bg×Unit
def gu(k:Nat):List bg×Int×Int×Int→Bool:=fun(d,a,m,b)=>decide (0≤a∧a<m∧m<b∧b≤(d.length:Int)∧d.length≤1000000∧b-a≤(k:Int))
def OX(k:Nat)(F:OI):dD:=⟨bC, [yI,yI,yI], [136], [],gu k,F⟩
structure M4 where
 (a0:Int) (a3:List bg)
structure Rk where
 (b0:Int) (b3:List bg)
structure y_ where
 (c0 c1 c2 c3 c4 c7:Int) (c8:List bg)
structure Y9 where
 (d0:Int)
structure X0 where
 (e0:Int)
inductive Ls where
 | c0 (p:M4) (a1:Int) (a2:Int)
 | c1 (p:Rk) (b1:Int) (b2:Int)
 | c2 (p:y_) (c5:Int) (c6:Int)
 | c3 (p:Y9) (d1:Int) (d2:List bg)
 | c4 (p:X0) (e1:Int) (e2:List bg)
noncomputable def Xv:Ls→eF
 | .c0 p a1 a2=>⟨[⟨265,220,(en [(0,.own 0),(1,vi p.a0),(4,.fn 136 [] []),(10,vi a1),(11,vi a2)]),[.inLoop (cw Tryz.f265 [0,1,0,1,1,0,0,0]),.inBlock 0,.code (cw Tryz.f265 [0,1,0,1,1,1]),.code (cw Tryz.f265 [1])],[],none⟩],[.arr false bC p.a3,.dead]⟩
 | .c1 p b1 b2=>⟨[⟨265,220,(en [(0,.own 0),(2,vi p.b0),(4,.fn 136 [] []),(14,vi b1),(15,vi b2)]),[.inLoop (cw Tryz.f265 [1,0,1,0,1,1,0,0,0]),.inBlock 4,.code (cw Tryz.f265 [1,0,1,0,1,1,1]),.code (cw Tryz.f265 [1,1])],[],none⟩],[.arr false bC p.b3,.dead]⟩
 | .c2 p c5 c6=>⟨[⟨265,220,(en [(0,.own 0),(1,vi p.c0),(2,vi p.c1),(3,vi p.c2),(4,.fn 136 [] []),(18,vi p.c3),(19,vi p.c4),(20,vi c5),(21,vi c6),(22,vi p.c7)]),[.inLoop (cw Tryz.f265 [1,1,1,1,1,1,1,0,0,0]),.inBlock 8,.code (cw Tryz.f265 [1,1,1,1,1,1,1,1])],[],none⟩],[.arr false bC p.c8,.dead]⟩
 | .c3 p d1 d2=>⟨[⟨265,220,(en [(0,.own 0),(10,vi p.d0),(13,vi d1)]),[.inLoop (cw Tryz.f265 [0,1,0,1,1,1,0,1,0,0]),.inBlock 2,.code .ret,.code (cw Tryz.f265 [1])],[],none⟩],[.arr false bC d2,.dead]⟩
 | .c4 p e1 e2=>⟨[⟨265,220,(en [(0,.own 0),(14,vi p.e0),(17,vi e1)]),[.inLoop (cw Tryz.f265 [1,0,1,0,1,1,1,0,1,0,0]),.inBlock 6,.code .ret,.code (cw Tryz.f265 [1,1])],[],none⟩],[.arr false bC e2,.dead]⟩
abbrev rZ(A:aK)(a:Int)(b:Int):=(A.v .i64 (A.b .shr .u64 (A.v .u64 (A.b .add .i64 a b)) 1))
def Q8(A:aK)(data:List bg)(a:Int)(m:Int)(b:Int):LT (List bg×Unit) Ls:=.br (A.c .eql (A.b .sub .i64 m a) 1) (.more (.c0 ⟨a,data⟩ m b)) (.br (A.c .eql (A.b .sub .i64 b m) 1) (.more (.c1 ⟨m,data⟩ a m)) (.br (A.c .gtr m (rZ A a b)) (.more (.c2 ⟨a,m,b,(rZ A a b),(A.b .add .i64 (rZ A a b) m),(A.b .sub .i64 (A.b .add .i64 (rZ A a b) m) 1),data⟩ (A.b .sub .i64 (A.b .add .i64 (rZ A a b) m) b) (rZ A a b))) (.more (.c2 ⟨a,m,b,(rZ A a b),(A.b .add .i64 (rZ A a b) m),(A.b .sub .i64 (A.b .add .i64 (rZ A a b) m) 1),data⟩ a m))))
abbrev qZ(A:aK)(a1:Int)(a2:Int):=(A.v .i64 (A.b .shr .u64 (A.v .u64 (A.b .add .i64 a1 a2)) 1))
abbrev rf(A:aK)(b1:Int)(b2:Int):=(A.v .i64 (A.b .shr .u64 (A.v .u64 (A.b .add .i64 b1 b2)) 1))
abbrev Kx(A:aK)(p:y_)(c5:Int):LT (List bg×Unit) Ls:=(.br (A.c .lss p.c0 c5) (.br (A.c .lss c5 p.c3) (.need (A.k (gu k) (p.c8,p.c0,c5,p.c3)) (.br (A.c .lss p.c3 (A.b .sub .i64 p.c4 c5)) (.br (A.c .lss (A.b .sub .i64 p.c4 c5) p.c2) (.need (A.k (gu k) ((A.k F (p.c8,p.c0,c5,p.c3)).1,p.c3,(A.b .sub .i64 p.c4 c5),p.c2)) (.ret ((A.k F ((A.k F (p.c8,p.c0,c5,p.c3)).1,p.c3,(A.b .sub .i64 p.c4 c5),p.c2)).1,()))) (.ret ((A.k F (p.c8,p.c0,c5,p.c3)).1,()))) (.ret ((A.k F (p.c8,p.c0,c5,p.c3)).1,())))) (.br (A.c .lss p.c3 (A.b .sub .i64 p.c4 c5)) (.br (A.c .lss (A.b .sub .i64 p.c4 c5) p.c2) (.need (A.k (gu k) (p.c8,p.c3,(A.b .sub .i64 p.c4 c5),p.c2)) (.ret ((A.k F (p.c8,p.c3,(A.b .sub .i64 p.c4 c5),p.c2)).1,()))) (.ret (p.c8,()))) (.ret (p.c8,())))) (.br (A.c .lss p.c3 (A.b .sub .i64 p.c4 c5)) (.br (A.c .lss (A.b .sub .i64 p.c4 c5) p.c2) (.need (A.k (gu k) (p.c8,p.c3,(A.b .sub .i64 p.c4 c5),p.c2)) (.ret ((A.k F (p.c8,p.c3,(A.b .sub .i64 p.c4 c5),p.c2)).1,()))) (.ret (p.c8,()))) (.ret (p.c8,()))))
abbrev kQ(A:aK)(c5:Int)(c6:Int):=(A.v .i64 (A.b .shr .u64 (A.v .u64 (A.b .add .i64 c5 c6)) 1))
abbrev lY(A:aK)(p:y_)(c5:Int):=(A.k Qz (p.c8,c5,p.c1,(A.b .sub .i64 p.c4 c5)))
abbrev Kv(A:aK)(p:y_)(c5:Int):LT (List bg×Unit) Ls:=(.br (A.c .lss p.c3 (A.b .sub .i64 p.c4 c5)) (.br (A.c .lss (A.b .sub .i64 p.c4 c5) p.c2) (.need (A.k (gu k) ((lY A p c5).1,p.c3,(A.b .sub .i64 p.c4 c5),p.c2)) (.ret ((A.k F ((lY A p c5).1,p.c3,(A.b .sub .i64 p.c4 c5),p.c2)).1,()))) (.ret ((lY A p c5).1,()))) (.ret ((lY A p c5).1,())))
def pF(F:OI)(k:Nat)(A:aK):Ls→LT (List bg×Unit) Ls
 | .c0 p a1 a2=>.br (A.c .lss a1 a2) (.need (A.and (A.c .leq 0 (qZ A a1 a2)) (A.c .lss (qZ A a1 a2) (A.l p.a3))) (.need (A.and (A.c .leq 0 p.a0) (A.c .lss p.a0 (A.l p.a3))) (.need (A.k (@tt (bg×bg)) ((A.n bC p.a3 (qZ A a1 a2):bg),(A.n bC p.a3 p.a0:bg))) (.br (A.c .lss (A.k Ge ((A.n bC p.a3 (qZ A a1 a2):bg),(A.n bC p.a3 p.a0:bg))) 0) (.more (.c0 p (A.b .add .i64 (qZ A a1 a2) 1) a2)) (.more (.c0 p a1 (qZ A a1 a2))))))) (.more (.c3 ⟨a1⟩ p.a0 p.a3))
 | .c1 p b1 b2=>.br (A.c .lss b1 b2) (.need (A.and (A.c .leq 0 p.b0) (A.c .lss p.b0 (A.l p.b3))) (.need (A.and (A.c .leq 0 (rf A b1 b2)) (A.c .lss (rf A b1 b2) (A.l p.b3))) (.need (A.k (@tt (bg×bg)) ((A.n bC p.b3 p.b0:bg),(A.n bC p.b3 (rf A b1 b2):bg))) (.br (A.not (A.c .lss (A.k Ge ((A.n bC p.b3 p.b0:bg),(A.n bC p.b3 (rf A b1 b2):bg))) 0)) (.more (.c1 p (A.b .add .i64 (rf A b1 b2) 1) b2)) (.more (.c1 p b1 (rf A b1 b2))))))) (.more (.c4 ⟨b1⟩ p.b0 p.b3))
 | .c2 p c5 c6=>.br (A.c .lss c5 c6) (.need (A.and (A.c .leq 0 (A.b .sub .i64 p.c7 (kQ A c5 c6))) (A.c .lss (A.b .sub .i64 p.c7 (kQ A c5 c6)) (A.l p.c8))) (.need (A.and (A.c .leq 0 (kQ A c5 c6)) (A.c .lss (kQ A c5 c6) (A.l p.c8))) (.need (A.k (@tt (bg×bg)) ((A.n bC p.c8 (A.b .sub .i64 p.c7 (kQ A c5 c6)):bg),(A.n bC p.c8 (kQ A c5 c6):bg))) (.br (A.not (A.c .lss (A.k Ge ((A.n bC p.c8 (A.b .sub .i64 p.c7 (kQ A c5 c6)):bg),(A.n bC p.c8 (kQ A c5 c6):bg))) 0)) (.more (.c2 p (A.b .add .i64 (kQ A c5 c6) 1) c6)) (.more (.c2 p c5 (kQ A c5 c6))))))) (.br (A.c .lss c5 p.c1) (.br (A.c .lss p.c1 (A.b .sub .i64 p.c4 c5)) (.need (A.k G8 (p.c8,c5,p.c1,(A.b .sub .i64 p.c4 c5))) (.br (A.c .lss p.c0 c5) (.br (A.c .lss c5 p.c3) (.need (A.k (gu k) ((lY A p c5).1,p.c0,c5,p.c3)) (.br (A.c .lss p.c3 (A.b .sub .i64 p.c4 c5)) (.br (A.c .lss (A.b .sub .i64 p.c4 c5) p.c2) (.need (A.k (gu k) ((A.k F ((lY A p c5).1,p.c0,c5,p.c3)).1,p.c3,(A.b .sub .i64 p.c4 c5),p.c2)) (.ret ((A.k F ((A.k F ((lY A p c5).1,p.c0,c5,p.c3)).1,p.c3,(A.b .sub .i64 p.c4 c5),p.c2)).1,()))) (.ret ((A.k F ((lY A p c5).1,p.c0,c5,p.c3)).1,()))) (.ret ((A.k F ((lY A p c5).1,p.c0,c5,p.c3)).1,())))) (Kv A p c5)) (Kv A p c5))) (Kx A p c5)) (Kx A p c5))
 | .c3 p d1 d2=>.br (A.c .lss d1 (A.b .sub .i64 p.d0 1)) (.need (A.and (A.c .leq 0 (A.b .add .i64 d1 1)) (A.c .lss (A.b .add .i64 d1 1) (A.l d2))) (.need (A.and (A.c .leq 0 d1) (A.c .lss d1 (A.l d2))) (.need (A.and (A.c .leq 0 d1) (A.c .lss d1 (A.l d2))) (.need (A.and (A.c .leq 0 (A.b .add .i64 d1 1)) (A.c .lss (A.b .add .i64 d1 1) (A.l (A.set d2 d1 (A.n bC d2 (A.b .add .i64 d1 1):bg))))) (.more (.c3 p (A.b .add .i64 d1 1) (A.set (A.set d2 d1 (A.n bC d2 (A.b .add .i64 d1 1):bg)) (A.b .add .i64 d1 1) (A.n bC d2 d1:bg)))))))) (.ret (d2,()))
 | .c4 p e1 e2=>.br (A.c .gtr e1 p.e0) (.need (A.and (A.c .leq 0 (A.b .sub .i64 e1 1)) (A.c .lss (A.b .sub .i64 e1 1) (A.l e2))) (.need (A.and (A.c .leq 0 e1) (A.c .lss e1 (A.l e2))) (.need (A.and (A.c .leq 0 e1) (A.c .lss e1 (A.l e2))) (.need (A.and (A.c .leq 0 (A.b .sub .i64 e1 1)) (A.c .lss (A.b .sub .i64 e1 1) (A.l (A.set e2 e1 (A.n bC e2 (A.b .sub .i64 e1 1):bg))))) (.more (.c4 p (A.b .sub .i64 e1 1) (A.set (A.set e2 e1 (A.n bC e2 (A.b .sub .i64 e1 1):bg)) (A.b .sub .i64 e1 1) (A.n bC e2 e1:bg)))))))) (.ret (e2,()))
section
variable {k:Nat} {F:OI}
theorem UR{d:List bg}{a m b:Int}(h:0≤a∧a<m∧m<b∧b≤(d.length:Int)∧d.length≤1000000):ah.k G8 (d,a,m,b)=true:=decide_eq_true h
theorem aaA{d:List bg}{a m b:Int}:(ah.k Qz (d,a,m,b)).1.length=d.length:=kL
theorem I6{d:List bg}{a m b:Int}(h:0≤a∧a<m∧m<b∧b≤(d.length:Int)∧d.length≤1000000∧b-a≤(k:Int)):ah.k (gu k) (d,a,m,b)=true:=decide_eq_true h
theorem afb{N:Nat}(hN:N≤1000000){i:Int}(h0:0≤i)(hi:i≤N):∀(f:Nat) (j:Int) (d:List bg),(i-j).toNat≤f→0≤j→d.length=N→Ex (pF F k ah) N (.more (.c3 ⟨i⟩ j d)):=by
 intro f
 induction f with
 | zero=>
   intro j d hf hj hd
   refine Ex.more ?_
   rw[pF,pG (x:=i) (y:=1) (by omega)]
   exact Ex.lss (fun h=>by omega) fun _=>Ex.ret hd
 | succ f ih=>
   intro j d hf hj hd
   refine Ex.more ?_
   rw[pF,pG (x:=i) (y:=1) (by omega)]
   refine Ex.lss (fun h=>?_) fun _=>Ex.ret hd
   rw[rI (x:=j) (y:=1) (by omega)]
   exact Ex.need (dQ (by omega)) (Ex.need (dQ (by omega)) (Ex.need (dQ (by omega)) (Ex.need (CG (by omega)) (ih (j+1) _ (by omega) (by omega) (fR.trans (fR.trans hd))))))
theorem ad0{N:Nat}(hN:N≤1000000){i:Int}(hi:0≤i):∀(f:Nat) (j:Int) (d:List bg),(j-i).toNat≤f→j<N→d.length=N→Ex (pF F k ah) N (.more (.c4 ⟨i⟩ j d)):=by
 intro f
 induction f with
 | zero=>intro j d hf hj hd;exact Ex.more (Ex.gtr (fun h=>by have:i<j:=h;omega) fun _=>Ex.ret hd)
 | succ f ih=>
   intro j d hf hj hd
   refine Ex.more (Ex.gtr (fun h=>?_) fun _=>Ex.ret hd)
   have h:i<j:=h
   rw[pG (x:=j) (y:=1) (by omega)]
   exact Ex.need (dQ (by omega)) (Ex.need (dQ (by omega)) (Ex.need (dQ (by omega)) (Ex.need (CG (by omega)) (ih (j-1) _ (by omega) (by omega) (fR.trans (fR.trans hd))))))
theorem acf{p:M4}{N:Nat}(hN:N≤1000000)(hd:p.a3.length=N)(h0:0≤p.a0∧p.a0<N):∀(f:Nat) (i j:Int),(j-i).toNat≤f→0≤i→i≤j→j≤N→Ex (pF F k ah) N (.more (.c0 p i j)):=by
 intro f
 have out:∀i:Int,0≤i→i≤N→Ex (pF F k ah) N (.more (.c3 ⟨i⟩ p.a0 p.a3)):=fun i h hi=>afb hN h hi _ p.a0 p.a3 (Nat.le_refl _) h0.1 hd
 induction f with
 | zero=>intro i j hf hi hij hj;exact Ex.more (Ex.lss (fun h=>by omega) fun _=>out i hi (by omega))
 | succ f ih=>
   intro i j hf hi hij hj
   refine Ex.more (Ex.lss (fun h=>?_) fun _=>out i hi (by omega))
   obtain⟨c,e,c1,c2⟩:=Sb hi (show 0≤j by omega) (by omega)
   rw[e,rI (x:=c) (y:=1) (by omega)]
   exact Ex.need (dQ (by omega)) (Ex.need (dQ (by omega)) (Ex.need rfl (Ex.br (fun _=>ih (c+1) j (by omega) (by omega) (by omega) hj) fun _=>ih i c (by omega) hi (by omega) (by omega))))
theorem adt{p:Rk}{N:Nat}(hN:N≤1000000)(hd:p.b3.length=N)(h0:0≤p.b0∧p.b0<N):∀(f:Nat) (i j:Int),(j-i).toNat≤f→0≤i→i≤j→j≤N→Ex (pF F k ah) N (.more (.c1 p i j)):=by
 intro f
 have out:∀i:Int,0≤i→Ex (pF F k ah) N (.more (.c4 ⟨i⟩ p.b0 p.b3)):=fun i hi=>ad0 hN hi _ p.b0 p.b3 (Nat.le_refl _) h0.2 hd
 induction f with
 | zero=>intro i j hf hi hij hj;exact Ex.more (Ex.lss (fun h=>by omega) fun _=>out i hi)
 | succ f ih=>
   intro i j hf hi hij hj
   refine Ex.more (Ex.lss (fun h=>?_) fun _=>out i hi)
   obtain⟨c,e,c1,c2⟩:=Sb hi (show 0≤j by omega) (by omega)
   rw[e,rI (x:=c) (y:=1) (by omega)]
   exact Ex.need (dQ (by omega)) (Ex.need (dQ (by omega)) (Ex.need rfl (Ex.br (fun _=>ih (c+1) j (by omega) (by omega) (by omega) hj) fun _=>ih i c (by omega) hi (by omega) (by omega))))
theorem VC(hF:∀x,(F x).1.length=x.1.length){p:y_}{N:Nat}(hN:N≤1000000)(hd:p.c8.length=N){lo:Int}(g0:0≤p.c0∧p.c0<p.c1∧p.c1<p.c2∧p.c2≤N∧p.c2-p.c0≤(k:Int)+1)
  (g1:2*p.c3≤p.c0+p.c2∧p.c0+p.c2≤2*p.c3+1) (g2:p.c4=p.c3+p.c1) (g3:p.c7=p.c4-1) (g4:p.c0≤lo∧p.c4-lo≤p.c2) :
  ∀(f:Nat) (i j:Int),(j-i).toNat≤f→lo≤i→i≤j→j≤p.c1→j≤p.c3∨p.c1≤p.c3→Ex (pF F k ah) N (.more (.c2 p i j)):=by
 have hl:∀{d:List bg} {a m b:Int},(ah.k F (d,a,m,b)).1.length=d.length:=hF _
 have out:∀i:Int,lo≤i→i≤p.c1→i≤p.c3∨p.c1≤p.c3→Ex (pF F k ah) N (.more (.c2 p i i)):=fun i h1 h2 h3=>by
  refine Ex.more ?_
  rw[pF,pG (x:=p.c4) (y:=i) (by omega)]
  refine Ex.lss (fun h=>by omega) fun _=>?_
  have b1:∀{d:List bg},d.length=N→p.c3<p.c4-i→p.c4-i<p.c2→Ex (pF F k ah) N (.need (ah.k (gu k) (d,p.c3,p.c4-i,p.c2)) (.ret ((ah.k F (d,p.c3,p.c4-i,p.c2)).1,()))):=fun hd h4 h5=>Ex.need (I6 (by omega)) (Ex.ret (hl.trans hd))
  have b2:∀{d:List bg},d.length=N→Ex (pF F k ah) N (.br (ah.c .lss p.c3 (p.c4-i)) (.br (ah.c .lss (p.c4-i) p.c2) (.need (ah.k (gu k) (d,p.c3,p.c4-i,p.c2)) (.ret ((ah.k F (d,p.c3,p.c4-i,p.c2)).1,()))) (.ret (d,()))) (.ret (d,()))):=fun hd=>
   Ex.lss (fun h4=>Ex.lss (fun h5=>b1 hd h4 h5) fun _=>Ex.ret hd) fun _=>Ex.ret hd
  have b3:∀{d:List bg},d.length=N→Ex (pF F k ah) N (.br (ah.c .lss p.c0 i) (.br (ah.c .lss i p.c3) (.need (ah.k (gu k) (d,p.c0,i,p.c3)) (.br (ah.c .lss p.c3 (p.c4-i)) (.br (ah.c .lss (p.c4-i) p.c2) (.need (ah.k (gu k) ((ah.k F (d,p.c0,i,p.c3)).1,p.c3,p.c4-i,p.c2)) (.ret ((ah.k F ((ah.k F (d,p.c0,i,p.c3)).1,p.c3,p.c4-i,p.c2)).1,()))) (.ret ((ah.k F (d,p.c0,i,p.c3)).1,()))) (.ret ((ah.k F (d,p.c0,i,p.c3)).1,()))))
    (.br (ah.c .lss p.c3 (p.c4-i)) (.br (ah.c .lss (p.c4-i) p.c2) (.need (ah.k (gu k) (d,p.c3,p.c4-i,p.c2)) (.ret ((ah.k F (d,p.c3,p.c4-i,p.c2)).1,()))) (.ret (d,()))) (.ret (d,()))))
    (.br (ah.c .lss p.c3 (p.c4-i)) (.br (ah.c .lss (p.c4-i) p.c2) (.need (ah.k (gu k) (d,p.c3,p.c4-i,p.c2)) (.ret ((ah.k F (d,p.c3,p.c4-i,p.c2)).1,()))) (.ret (d,()))) (.ret (d,())))):=fun hd=>
   Ex.lss (fun h4=>Ex.lss (fun h5=>Ex.need (I6 (by omega)) (b2 (hl.trans hd))) fun _=>b2 hd) fun _=>b2 hd
  refine Ex.lss (fun h4=>Ex.lss (fun h5=>Ex.need (UR (by omega)) (b3 (aaA.trans hd))) fun _=>b3 hd) fun _=>b3 hd
 intro f
 induction f with
 | zero=>intro i j hf hi hij hj hc;rw[show j=i by omega];exact out i hi (by omega) (by omega)
 | succ f ih=>
   intro i j hf hi hij hj hc
   by_cases he:i=j
   ·rw[he];exact out j (by omega) hj hc
   refine Ex.more (Ex.lss (fun h=>?_) fun h=>by omega)
   obtain⟨c,e,c1,c2⟩:=Sb (i:=i) (j:=j) (by omega) (by omega) (by omega)
   rw[e,rI (x:=c) (y:=1) (by omega),pG (x:=p.c7) (y:=c) (by omega)]
   exact Ex.need (dQ (by omega)) (Ex.need (dQ (by omega)) (Ex.need rfl (Ex.br (fun _=>ih (c+1) j (by omega) (by omega) (by omega) hj hc) fun _=>ih i c (by omega) hi (by omega) (by omega) (by omega))))
theorem YJ(hF:∀x,(F x).1.length=x.1.length){d:List bg}{a m b:Int}(h:0≤a∧a<m∧m<b∧b≤(d.length:Int)∧d.length≤1000000∧b-a≤((k+1:Nat):Int)):Ex (pF F k ah) d.length (Q8 ah d a m b):=by
 obtain⟨h1,h2,h3,h4,h5,h6⟩:=h
 have h6:b-a≤(k:Int)+1:=h6
 unfold Q8 rZ
 obtain⟨c,e,c1,c2⟩:=Sb (i:=a) (j:=b) (by omega) (by omega) (by omega)
 rw[e,pG (x:=m) (y:=a) (by omega),pG (x:=b) (y:=m) (by omega),rI (x:=c) (y:=m) (by omega),pG (x:=c+m) (y:=1) (by omega),pG (x:=c+m) (y:=b) (by omega)]
 refine Ex.eql (fun _=>acf (p:=⟨a,d⟩) h5 rfl (by simp only;omega) _ m b (Nat.le_refl _) (by omega) (by omega) h4) fun _=>Ex.eql (fun _=>adt (p:=⟨m,d⟩) h5 rfl (by simp only;omega) _ a m (Nat.le_refl _) h1 (by omega) (by omega)) fun _=>Ex.gtr (fun g=>?_) fun g=>?_
 ·exact VC hF (p:=⟨a,m,b,c,c+m,c+m-1,d⟩) (lo:=c+m-b) h5 rfl (by simp only;omega) (by simp only;omega) rfl rfl (by simp only;omega) _ (c+m-b) c (Nat.le_refl _) (Int.le_refl _) (by omega) (by simp only;omega) (by simp only;omega)
 ·exact VC hF (p:=⟨a,m,b,c,c+m,c+m-1,d⟩) (lo:=a) h5 rfl (by simp only;omega) (by simp only;omega) rfl rfl (by simp only;omega) _ a m (Nat.le_refl _) (Int.le_refl _) (by omega) (by simp only;omega) (by simp only;omega)
end
theorem aah{k:Nat}{F:OI}(hF:∀x,(F x).1.length=x.1.length)(ih:dD.Sound Tryz.prog 265 (OX k F)):dD.Sound Tryz.prog 265 (OX (k+1) fun(d,a,m,b)=>(o5 (pF F k ah) (Q8 ah d a m b) d,())):=im ar bU true 76 (ic ih (ic afy iz)) [⟨265,3, [[0,1,4,10,11]]⟩,⟨265,9, [[0,10,13]]⟩,⟨265,15, [[0,2,4,14,15]]⟩,⟨265,21, [[0,14,17]]⟩,⟨265,33, [[0,1,2,3,4,18,19,20,21,22]]⟩] [] (fun A (data,(a,m,b))=>Q8 A data a m b) (pF F k) Xv (fc Tryz.func265 fz) (sc Wi sz) (fun A y=>match y with |.c0 p a1 a2=>⟨47,by kernel_rfl,by kernel_rfl⟩|.c1 p b1 b2=>⟨48,by kernel_rfl,by kernel_rfl⟩|.c2 p c5 c6=>⟨84,by kernel_rfl,by kernel_rfl⟩|.c3 p d1 d2=>⟨44,by kernel_rfl,by kernel_rfl⟩|.c4 p e1 e2=>⟨43,by kernel_rfl,by kernel_rfl⟩) fun((data,(a,m,b)):List bg×(Int×Int×Int)) hp hv h=>oq (YJ hF (of_decide_eq_true hp))
def BU:Nat→OI
 | 0=>fun x=>(x.1,())
 | k+1=>fun(d,a,m,b)=>(o5 (pF (BU k) k ah) (Q8 ah d a m b) d,())
theorem Mq:∀(k:Nat) (x:List bg×Int×Int×Int),(BU k x).1.length=x.1.length
 | 0,_=>rfl
 | _+1,_=>kL
theorem RF{x:List bg×Int×Int×Int}:gu 0 x=false:=by
 obtain⟨d,a,m,b⟩:=x
 exact decide_eq_false (by omega)
theorem Vk:∀k,dD.Sound Tryz.prog 265 (OX k (BU k))
 | 0=>⟨fun w I x y v aa B _ _ _ _ hp=>Bool.noConfusion ((RF (x:=(x,y))).symm.trans hp),Tryz.f265,Tryz.func265,by kernel_rfl,by kernel_rfl⟩
 | k+1=>aah (Mq k) (Vk k)
structure Ze where
 (a0:Int)
structure ZX where
 (b0 b1:Int) (b2:List bg)
structure WK where
 (c0 c1:Int)
inductive Uw where
 | c0 (p:Ze) (a2:Int) (a3:Int) (a4:List bg)
 | c1 (p:ZX)
 | c2 (p:WK) (c2:Int) (c3:Int) (c4:List bg)
noncomputable def YS:Uw→eF
 | .c0 p a2 a3 a4=>⟨[⟨205,63,(en [(0,.own 0),(1,vi p.a0),(2,.fn 136 [] []),(6,vi 20),(7,vi a2),(8,vi a3)]),[.inLoop (cw Tryz.f205 [1,1,0,0,0]),.inBlock 0,.code (cw Tryz.f205 [1,1,1])],[],none⟩],[.arr false bC a4,.dead]⟩
 | .c1 p=>⟨[⟨205,63,(en [(0,.own 0),(1,vi p.b0),(2,.fn 136 [] []),(6,vi p.b1)]),[.inLoop (cw Tryz.f205 [1,1,1,1,0,0]),.inBlock 2],[],none⟩],[.arr false bC p.b2,.dead]⟩
 | .c2 p c2 c3 c4=>⟨[⟨205,63,(en [(0,.own 0),(1,vi p.c0),(2,.fn 136 [] []),(6,vi p.c1),(7,vi c2),(8,vi c3)]),[.inLoop (cw Tryz.f205 [1,1,1,1,0,0,1,0,1,0,0,0]),.inBlock 4,.code (cw Tryz.f205 [1,1,1,1,0,0,1,0,1,1]),.inBlock 3,.inLoop (cw Tryz.f205 [1,1,1,1,0,0]),.inBlock 2],[],none⟩],[.arr false bC c4,.dead]⟩
def ZV(A:aK)(data:List bg)(n:Int):LT (List bg×Unit) Uw:=.more (.c0 ⟨n⟩ 0 20 data)
def Io(A:aK):Uw→LT (List bg×Unit) Uw
 | .c0 p a2 a3 a4=>.br (A.c .leq a3 p.a0) (.need (A.k De (a4,a2,a3)) (.more (.c0 p a3 (A.b .add .i64 a3 20) (A.k Kr (a4,a2,a3)).1))) (.need (A.k De (a4,a2,p.a0)) (.more (.c1 ⟨p.a0,20,(A.k Kr (a4,a2,p.a0)).1⟩)))
 | .c1 p=>.br (A.c .lss p.b1 p.b0) (.more (.c2 ⟨p.b0,p.b1⟩ 0 (A.b .mul .i64 2 p.b1) p.b2)) (.ret (p.b2,()))
 | .c2 p c2 c3 c4=>.br (A.c .leq c3 p.c0) (.need (A.k (gu 1000000) (c4,c2,(A.b .add .i64 c2 p.c1),c3)) (.more (.c2 p c3 (A.b .add .i64 c3 (A.b .mul .i64 2 p.c1)) (A.k (BU 1000000) (c4,c2,(A.b .add .i64 c2 p.c1),c3)).1))) (.br (A.c .lss (A.b .add .i64 c2 p.c1) p.c0) (.need (A.k (gu 1000000) (c4,c2,(A.b .add .i64 c2 p.c1),p.c0)) (.more (.c1 ⟨p.c0,(A.b .mul .i64 p.c1 2),(A.k (BU 1000000) (c4,c2,(A.b .add .i64 c2 p.c1),p.c0)).1⟩))) (.more (.c1 ⟨p.c0,(A.b .mul .i64 p.c1 2),c4⟩)))
theorem XA{N:Nat}(hN:N≤1000000){bs:Int}(h1:1≤bs∧bs≤1000000)(nx:∀d:List bg,d.length=N→Ex (Io ah) N (.more (.c1 ⟨(N:Int),ah.b .mul .i64 bs 2,d⟩))):∀(f:Nat) (a:Int) (d:List bg),(N-a).toNat≤f→0≤a→a≤N→d.length=N→Ex (Io ah) N (.more (.c2 ⟨(N:Int),bs⟩ a (a+2*bs) d)):=by
 have e:ah.b .mul .i64 2 bs=2*bs:=by rw[gV,gZ (by omega) (by omega)]
 have hl:∀{d:List bg} {a m b:Int},(ah.k (BU 1000000) (d,a,m,b)).1.length=d.length:=Mq _ _
 have pr:∀{d:List bg} {a m b:Int},(0≤a∧a<m∧m<b∧b≤(d.length:Int)∧d.length≤1000000∧b-a≤((1000000:Nat):Int))→ah.k (gu 1000000) (d,a,m,b)=true:=fun h=>decide_eq_true h
 intro f
 induction f with
 | zero=>
   intro a d hf ha hn hd
   refine Ex.more (Ex.leq (fun h=>by have:a+2*bs≤N:=h;omega) fun _=>?_)
   rw[show ah.b .add .i64 a bs=a+bs from rI (by omega)]
   exact Ex.lss (fun h=>by have:a+bs<N:=h;omega) fun _=>nx d hd
 | succ f ih=>
   intro a d hf ha hn hd
   refine Ex.more (Ex.leq (fun h=>?_) fun _=>?_)
   ·have h:a+2*bs≤N:=h
    rw[show ah.b .add .i64 a bs=a+bs from rI (by omega),show ah.b .mul .i64 2 bs=2*bs from e,rI (x:=a+2*bs) (y:=2*bs) (by omega)]
    exact Ex.need (pr (by omega)) (ih (a+2*bs) _ (by omega) (by omega) h (hl.trans hd))
   ·rw[show ah.b .add .i64 a bs=a+bs from rI (by omega)]
    exact Ex.lss (fun h=>by have h:a+bs<N:=h;exact Ex.need (pr (by simp only;omega)) (nx _ (hl.trans hd))) fun _=>nx d hd
theorem O8{N:Nat}(hN:N≤1000000):∀(f:Nat) (bs:Int) (d:List bg),(N-bs).toNat≤f→1≤bs→d.length=N→Ex (Io ah) N (.more (.c1 ⟨(N:Int),bs,d⟩)):=by
 intro f
 induction f with
 | zero=>intro bs d hf hb hd;exact Ex.more (Ex.lss (fun h=>by have:bs<N:=h;omega) fun _=>Ex.ret hd)
 | succ f ih=>
   intro bs d hf hb hd
   refine Ex.more (Ex.lss (fun h=>?_) fun _=>Ex.ret hd)
   have h:bs<N:=h
   rw[show ah.b .mul .i64 2 bs=0+2*bs by rw[gV,gZ (by omega) (by omega)];omega]
   refine XA hN ⟨hb,by omega⟩ (fun e he=>?_) _ 0 d (Nat.le_refl _) (Int.le_refl 0) (by omega) hd
   rw[show ah.b .mul .i64 bs 2=bs*2 by rw[gV,gZ (by omega) (by omega)]]
   exact ih (bs*2) e (by omega) (by omega) he
theorem Xo{N:Nat}(hN:N≤1000000):∀(f:Nat) (a:Int) (d:List bg),(N-a).toNat≤f→0≤a→a≤N→d.length=N→Ex (Io ah) N (.more (.c0 ⟨(N:Int)⟩ a (a+20) d)):=by
 have hl:∀{d:List bg} {a b:Int},(ah.k Kr (d,a,b)).1.length=d.length:=kL
 have pr:∀{d:List bg} {a b:Int},(0≤a∧a≤b∧b≤(d.length:Int)∧d.length≤1000000)→ah.k De (d,a,b)=true:=fun h=>decide_eq_true h
 intro f
 induction f with
 | zero=>intro a d hf ha hn hd;exact Ex.more (Ex.leq (fun h=>by have:a+20≤N:=h;omega) fun _=>Ex.need (pr (by simp only;omega)) (O8 hN _ 20 _ (Nat.le_refl _) (by omega) (hl.trans hd)))
 | succ f ih=>
   intro a d hf ha hn hd
   refine Ex.more (Ex.leq (fun h=>?_) fun _=>Ex.need (pr (by simp only;omega)) (O8 hN _ 20 _ (Nat.le_refl _) (by omega) (hl.trans hd)))
   have h:a+20≤N:=h
   rw[rI (x:=a+20) (y:=20) (by omega)]
   exact Ex.need (pr (by omega)) (ih (a+20) _ (by omega) (by omega) h (hl.trans hd))
theorem YO{d:List bg}{n:Int}(h:n=(d.length:Int)∧d.length≤1000000):Ex (Io ah) d.length (ZV ah d n):=by
 obtain⟨rfl,h⟩:=h
 exact Xo h _ 0 d (Nat.le_refl _) (Int.le_refl 0) (by omega) rfl
def Re:List bg×Int→List bg×Unit:=fun(d,n)=>(o5 (Io ah) (ZV ah d n) d,())
def MF:List bg×Int→Bool:=fun(d,n)=>decide (n=(d.length:Int)∧d.length≤1000000)
def adK:dD:=⟨bC, [yI], [136], [],MF,Re⟩
theorem ae_:dD.Sound Tryz.prog 205 adK:=im ar bU true 19 (ic adx (ic (Vk 1000000) iz)) [⟨205,2, [[0,1,2,6,7,8]]⟩,⟨205,7, [[0,1,2,6]]⟩,⟨205,9, [[0,1,2,6,7,8]]⟩] [] (fun A (data,n)=>ZV A data n) Io YS (fc Tryz.func205 fz) sz (fun A y=>match y with |.c0 p a2 a3 a4=>⟨36,by kernel_rfl,by kernel_rfl⟩|.c1 p=>⟨26,by kernel_rfl,by kernel_rfl⟩|.c2 p c2 c3 c4=>⟨44,by kernel_rfl,by kernel_rfl⟩) fun((data,n):List bg×Int) hp hv h=>oq (YO (of_decide_eq_true hp))
def YK(A:aK)(x2:List bg):LT (List bg×Unit) Empty:=.need (A.k MF (x2,(A.l x2))) (.ret ((A.k Re (x2,(A.l x2))).1,()))
theorem Xf{d:List bg}(h:d.length≤1000000):Ex Empty.elim d.length (YK ah d):=
 Ex.need (decide_eq_true ⟨rfl,h⟩) (Ex.ret (show(ah.k Re (d,ah.l d)).1.length=d.length from kL))
def Ni:List bg×Unit→List bg×Unit:=fun(d,_)=>(o5 Empty.elim (YK ah d) d,())
def CK:List bg×Unit→Bool:=fun(d,_)=>decide (d.length≤1000000)
def ad_:dD:=⟨bC, [], [136], [],CK,Ni⟩
theorem afR:dD.Sound Tryz.prog 135 ad_:=im ar bU true 13 (ic ae_ iz) [] [] (fun A (x2,())=>YK A x2) (fun _=>Empty.elim) Empty.elim (fc Tryz.func135 fz) sz (fun _ y=>y.elim) fun((x2,()):List bg×Unit) hp hv h=>oq (Xf (of_decide_eq_true hp))
def Lq(l:List bg):List bg:=(Ni (l,())).1
end
end Go.Ev.M
