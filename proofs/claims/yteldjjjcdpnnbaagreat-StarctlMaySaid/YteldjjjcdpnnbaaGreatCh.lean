/-
  PROVED: what comes of a node that may be may be. Conditions: none.
-/
import Derived.Test.YteldjjjcdpnnbaaGreatCg
namespace Go.Ev.M
open Go.Proofs
set_option maxRecDepth 100000
set_option linter.unusedVariables false
set_option linter.unusedSimpArgs false
open Go.Ev.Pl
theorem nP{c:dq}{k:Int}(hk:4≤k∧k≤8)(h1:0≤c.1∧c.1≤255)(h2:0≤c.2.1∧c.2.1≤k-1)(h3:0≤c.2.2.1∧c.2.2.1≤3)(h4:0≤c.2.2.2.1∧c.2.2.2.1≤4)(h5:0≤c.2.2.2.2∧c.2.2.2.2≤2^k.toNat-1):gm (c,k)=0:=by
 obtain⟨t,p,m,n,s⟩:=c
 rw[gm,decide_eq_false (show ¬k<4 by omega),decide_eq_false (show ¬8<k by omega),decide_eq_true h1.1,decide_eq_true h1.2,decide_eq_true h2.1,decide_eq_true h2.2,decide_eq_true h3.1,decide_eq_true h3.2,decide_eq_true h4.1,decide_eq_true h4.2,decide_eq_true h5.1,decide_eq_true h5.2]
 rfl
theorem kX{m:ak}{c:dq}(h:gm (c,m.1)=0)(h1:c.2.2.1<cO m)(h2:c.2.2.2.1≤cO m):dp m c=true:=by
 rw[dp,decide_eq_true h,decide_eq_true h1,decide_eq_true h2];rfl
theorem r9{m:ak}{x:Node}(hm:dy m=true)(h:CB m x=true):aS m x=0:=by rw[aS,hm,h];rfl
theorem xx{m:ak}{x:Node}(hm:dy m=true)(h1:0≤x.1∧x.1≤m.1-1)(h2:2≤x.2.1∧x.2.1≤4)(h3:0≤x.2.2.2.2.2.2.1∧x.2.2.2.2.2.2.1≤2)(h4:dE x.2.2.2.2.2.2.2=true)(h5:x.2.2.2.2.2.2.2.1=x.1)(h6:(x.2.2.2.2.2.2.2.2.2.1.length:Int)=m.1)
  (h7:x.2.1=2→(aj.n .bool m.2.2.2.2.2.2.1 x.1:Bool)=true) (h8:dp m x.2.2.1=true) (h9:gS x.2.2.2.1=0) (ha:x.2.2.2.1.1=x.1) (hb:x.2.2.2.1.2.1=m.1) (hc:x.2.2.1.2.2.2.2=x.2.2.2.1.2.2.1) (hd:x.2.2.2.2.1=0) (he:x.2.2.2.2.2.1=true→x.2.1=2):aS m x=0:=by
 refine r9 hm (bF.2 ⟨h1,by omega,h3,h4,h5,h6,?_,?_,?_,?_⟩)
 ·rw[rz]
  by_cases k:x.2.1=2
  ·rw[decide_eq_true k];exact h7 k
  ·rw[decide_eq_false k];rfl
 ·rw[mX,gb,decide_eq_true h2,cond_true,h8,decide_eq_true h9,decide_eq_true ha,decide_eq_true hb,decide_eq_true hc];rfl
 ·rw[nj,decide_eq_false (show ¬x.2.1=1 by omega)];exact decide_eq_true hd
 ·rw[oR]
  cases k:x.2.2.2.2.2.1
  ·rfl
  ·exact decide_eq_true (.inr (he k))
theorem lk{m:ak}{x:Node}(hm:dy m=true)(h1:0≤x.1∧x.1≤m.1-1)(h2:x.2.1=0∨x.2.1=1∨x.2.1=5)(h3:0≤x.2.2.2.2.2.2.1∧x.2.2.2.2.2.2.1≤2)(h4:dE x.2.2.2.2.2.2.2=true)(h5:x.2.2.2.2.2.2.2.1=x.1)(h6:(x.2.2.2.2.2.2.2.2.2.1.length:Int)=m.1)
  (h8:x.2.2.1=(0,0,0,0,0)) (h9:x.2.2.2.1=(0,0,0,0,0,0,0)) (hd:x.2.1=1→1≤x.2.2.2.2.1∧x.2.2.2.2.1≤(jZ m x.1).1) (hd0:¬x.2.1=1→x.2.2.2.2.1=0) (he:x.2.2.2.2.2.1=true→x.2.1=1):aS m x=0:=by
 refine r9 hm (bF.2 ⟨h1,by omega,h3,h4,h5,h6,?_,?_,?_,?_⟩)
 ·rw[rz,decide_eq_false (show ¬x.2.1=2 by omega)];rfl
 ·rw[mX,gb,decide_eq_false (show ¬(2≤x.2.1∧x.2.1≤4) by omega),cond_false,h8,h9];rfl
 ·rw[nj]
  by_cases k:x.2.1=1
  ·rw[decide_eq_true k];exact decide_eq_true (hd k)
  ·rw[decide_eq_false k];exact decide_eq_true (hd0 k)
 ·rw[oR]
  cases k:x.2.2.2.2.2.1
  ·rfl
  ·exact decide_eq_true (.inl (he k))
theorem Fi{m:ak}{n:Node}(h:aS m n=0)(hb:n.2.2.2.2.2.1=true):n.2.1=1∨n.2.1=2:=by
 have hc:=(bF.1 (aP h).2).2.2.2.2.2.2.2.2.2
 rw[oR,hb] at hc
 exact of_decide_eq_true hc
theorem BO{k:Int}(h:4≤k∧k≤8):aj.b .shl .i64 1 k=2^k.toNat:=by
 have:k=4∨k=5∨k=6∨k=7∨k=8:=by omega
 rcases this with rfl|rfl|rfl|rfl|rfl<;>decide
theorem Er{a b c:Int}(hb:4≤b∧b≤8)(ha:0≤a∧a≤b-1)(hc:0≤c∧c≤2^b.toNat-1):gS (a,b,c,1,0,0,0)=0:=by
 refine eF.2 ?_
 unfold gP
 have:((2^b.toNat:Nat):Int)=2^b.toNat:=by norm_cast
 exact⟨hb.1,hb.2,ha.1,by omega,by omega,by omega,hc.1,by omega,by omega,by omega,by omega,by omega,by omega,by omega,fun h=>absurd rfl h,fun h=>by omega⟩
theorem uH{m:ak}{n:Int}(hm:dy m=true)(h:0≤n∧n≤m.1-1):1≤(jZ m n).1:=by
 have hk:=(cy hm).1
 rw[jZ,gw,hm,cond_true,decide_eq_true h]
 simp only[cond_true,decide_true,bw]
 rw[js,js]
 rw[fI (a:=4*m.1) (by omega) (by omega),fI (a:=n+1) (by omega) (by omega),fI (a:=2*(n+1)) (by omega) (by omega),fI (by omega) (by omega)]
 omega
theorem R9{m:ak}{n:Int}(hm:dy m=true)(h:0≤n∧n≤m.1-1):1≤(yq m n).1∧(yq m n).1≤(jZ m n).1:=by
 have hk:=(cy hm).1
 rw[jZ,yq,gw,hm,cond_true,decide_eq_true h]
 simp only[cond_true,decide_true,bw]
 rw[js,js]
 rw[fI (a:=4*m.1) (by omega) (by omega),fI (a:=n+1) (by omega) (by omega),fI (a:=2*(n+1)) (by omega) (by omega),fI (a:=4*m.1+2*(n+1)) (by omega) (by omega)]
 omega
theorem Aj{m:ak}{c:dq}{r:Int}(hm:dy m=true)(h:dp m c=true):dp m (eY m c r)=true∧(eY m c r).2.1=c.2.1∧(eY m c r).2.2.2.2=c.2.2.2.2:=by
 rw[eY,l5,decide_eq_true (Jd hm h),cond_true]
 by_cases h1:0≤r∧r≤cO m
 ·rw[decide_eq_true h1,cond_true]
  by_cases h2:0<r
  ·cases h3:mg m c (r-1)
   ·rw[Bool.and_false];exact⟨h,rfl,rfl⟩
   ·rw[decide_eq_true h2,Bool.and_self,cond_true]
    have hf:=gM h
    have hc:=iZ hf.1
    have hl:=(cy hm).2.1
    refine⟨kX (nP hc.1 hc.2.1 hc.2.2.1 hc.2.2.2.1 (show 0≤r∧r≤4 by omega) hc.2.2.2.2.2) hf.2.1.2 h1.2,rfl,rfl⟩
  ·rw[decide_eq_false h2,Bool.false_and];exact⟨h,rfl,rfl⟩
 ·rw[decide_eq_false h1];exact⟨h,rfl,rfl⟩
theorem K6{m:ak}{n:Node}{s:Int}(h:aS m n=0)(he:(DL m n s).2=0):aS m (DL m n s).1=0:=by
 have hz:=bF.1 (aP h).2
 have hm:=(aP h).1
 have hk:=(cy hm)
 rw[DL,decide_eq_true h,cond_true] at he ⊢
 by_cases h1:n.2.1=0
 ·rw[decide_eq_true h1,cond_true] at he ⊢
  by_cases h2:0≤s∧s≤aj.b .shl .i64 1 m.1-1
  ·rw[decide_eq_true h2,cond_true] at he ⊢
   cases h3:ic s n.1
   ·rw[h3] at he;exact absurd (show(2:Int)=0 from he) (by decide)
   ·rw[BO hk.1] at h2
    exact xx hm hz.1 (show(2:Int)≤4∧(4:Int)≤4 by omega) hz.2.2.1 hz.2.2.2.1 hz.2.2.2.2.1 hz.2.2.2.2.2.1 (fun k=>absurd k (show ¬(4:Int)=2 by omega)) (kX (nP (c:=(0,0,0,0,s)) hk.1 (show(0:Int)≤0∧(0:Int)≤255 by omega) (show(0:Int)≤0∧(0:Int)≤m.1-1 by omega) (show(0:Int)≤0∧(0:Int)≤3 by omega) (show(0:Int)≤0∧(0:Int)≤4 by omega) h2) (show(0:Int)<cO m by omega) (show(0:Int)≤cO m by omega)) (Er hk.1 hz.1 h2) rfl rfl rfl rfl (fun k=>by have:=Fi h k;omega)
  ·rw[decide_eq_false h2] at he;exact absurd (show(2:Int)=0 from he) (by decide)
 ·rw[decide_eq_false h1] at he;exact absurd (show(181:Int)=0 from he) (by decide)
theorem N0{m:ak}{id:Int}(he:(pq m id).2=0):aS m (pq m id).1=0:=by
 rw[pq] at he ⊢
 cases hm:dy m
 ·rw[hm] at he;exact absurd (show(70:Int)=0 from he) (by decide)
 ·rw[hm,cond_true] at he
  have hk:=cy hm
  by_cases h1:0≤id∧id≤m.1-1
  ·rw[decide_eq_true h1,cond_true,cond_true]
   have hl:((List.replicate m.1.toNat rJ).length:Int)=m.1:=by rw[List.length_replicate];omega
   refine lk hm h1 (.inl rfl) (show(0:Int)≤0∧(0:Int)≤2 by omega) ?_ rfl hl rfl rfl (fun k=>absurd k (show ¬(0:Int)=1 by omega)) (fun _=>rfl) (fun k=>by cases k)
   show dE (id,([]:List Int),List.replicate m.1.toNat rJ,4,(-1))=true
   have ha:(List.replicate m.1.toNat rJ).all Dl=true:=by rw[List.all_eq_true];intro x hx;rw[List.eq_of_mem_replicate hx];decide
   simp only[dE,hl,ha]
   simp
   omega
  ·rw[decide_eq_false h1] at he;exact absurd (show(2:Int)=0 from he) (by decide)
theorem EN{m:ak}{n:Node}{on:Bool}(h:aS m n=0)(he:(p9 m n on).2=0):aS m (p9 m n on).1=0:=by
 have hz:=bF.1 (aP h).2
 have hm:=(aP h).1
 rw[p9,decide_eq_true h,cond_true] at he ⊢
 cases on
 ·exact N0 he
 ·rw[cond_true] at he ⊢
  by_cases h1:n.2.1=0
  ·rw[decide_eq_true h1,cond_true]
   exact lk hm hz.1 (.inr (.inl rfl)) hz.2.2.1 hz.2.2.2.1 hz.2.2.2.2.1 hz.2.2.2.2.2.1 rfl rfl (fun _=>⟨uH hm hz.1,Int.le_refl _⟩) (fun k=>absurd rfl k) (fun k=>rfl)
  ·rw[decide_eq_false h1] at he;exact absurd (show(181:Int)=0 from he) (by decide)
open Go.Ev.Pl
theorem LN{m:ak}{n:Node}{c:cf}(h:aS m n=0)(h1:dE c=true)(h2:c.1=n.2.2.2.2.2.2.2.1)(h3:c.2.2.1.length=n.2.2.2.2.2.2.2.2.2.1.length):aS m (n.1,n.2.1,n.2.2.1,n.2.2.2.1,n.2.2.2.2.1,n.2.2.2.2.2.1,n.2.2.2.2.2.2.1,c)=0:=by
 have hz:=bF.1 (aP h).2
 exact r9 (aP h).1 (bF.2 ⟨hz.1,hz.2.1,hz.2.2.1,h1,h2.trans hz.2.2.2.2.1,(congrArg Int.ofNat h3).trans hz.2.2.2.2.2.1,hz.2.2.2.2.2.2⟩)
theorem QS{c:cf}{d:List Int}(he:(vI c d).2=0):dE (vI c d).1=true∧(vI c d).1.1=c.1∧(vI c d).1.2.2.1.length=c.2.2.1.length:=by
 rw[vI] at he ⊢
 cases h:dE c
 ·rw[h] at he;exact absurd (show(120:Int)=0 from he) (by decide)
 ·rw[h,cond_true] at he
  rw[cond_true]
  by_cases h1:8<(d.length:Int)
  ·rw[decide_eq_true h1] at he;exact absurd (show(3:Int)=0 from he) (by decide)
  ·rw[decide_eq_false h1,cond_false]
   simp only[dE,Bool.and_eq_true,decide_eq_true_eq] at h ⊢
   exact⟨⟨h.1,h.2.1,h1,h.2.2.2⟩,trivial,trivial⟩
theorem Td{c:cf}(he:(H7 c).2=0):dE (H7 c).1=true∧(H7 c).1.1=c.1∧(H7 c).1.2.2.1.length=c.2.2.1.length:=by
 rw[H7] at he ⊢
 cases h:dE c
 ·rw[h] at he;exact absurd (show(120:Int)=0 from he) (by decide)
 ·rw[cond_true]
  simp only[dE,Bool.and_eq_true,decide_eq_true_eq] at h ⊢
  exact⟨⟨h.1,h.2.1,h.2.2.1,by omega,h.2.2.2.2⟩,trivial,trivial⟩
theorem JQ{c:cf}{w:Int}(he:(vF c w).2=0):dE (vF c w).1=true∧(vF c w).1.1=c.1∧(vF c w).1.2.2.1.length=c.2.2.1.length:=by
 rw[vF] at he ⊢
 cases h:dE c
 ·rw[h] at he;exact absurd (show(120:Int)=0 from he) (by decide)
 ·rw[h,cond_true] at he
  rw[cond_true]
  by_cases h1:-1≤w∧w≤3
  ·rw[decide_eq_true h1,cond_true]
   simp only[dE,Bool.and_eq_true,decide_eq_true_eq] at h ⊢
   exact⟨⟨h.1,h.2.1,h.2.2.1,h.2.2.2.1,h1,h.2.2.2.2.2⟩,trivial,trivial⟩
  ·rw[decide_eq_false h1] at he;exact absurd (show(2:Int)=0 from he) (by decide)
theorem M6{c:cf}(h:dE c=true):dE (yG c).1=true∧(yG c).1.1=c.1∧(yG c).1.2.2.1.length=c.2.2.1.length:=by
 rw[yG,h,cond_true]
 have hl:(c.2.2.1.map Bf).length=c.2.2.1.length:=List.length_map ..
 simp only[dE,Bool.and_eq_true,decide_eq_true_eq] at h ⊢
 refine⟨⟨by rw[hl];exact h.1,by rw[hl];exact h.2.1,h.2.2.1,?_,h.2.2.2.2.1,?_⟩,trivial,hl⟩
 ·have hp:=h.2.2.2.1
  rw[aZ,fI (by omega) (by omega),Hz]
  split<;>omega
 ·rw[List.all_eq_true]
  intro x hx
  obtain⟨y,hy,rfl⟩:=List.mem_map.1 hx
  have hm:=List.all_eq_true.1 h.2.2.2.2.2 y hy
  simp only[Dl,Bool.and_eq_true,decide_eq_true_eq] at hm
  have hm2:0≤(Bf y).2∧(Bf y).2≤255:=by
   show 0≤aj.mn (aj.b .add .i64 y.2 1) 255∧aj.mn (aj.b .add .i64 y.2 1) 255≤255
   rw[bw,fI (by omega) (by omega),pT];split<;>omega
  rw[Dl,Bool.and_eq_true];exact⟨decide_eq_true hm.1,decide_eq_true hm2⟩
theorem FP{c:cf}{s:Int}{d:List Int}(he:(jh c s d).2=0):dE (jh c s d).1=true∧(jh c s d).1.1=c.1∧(jh c s d).1.2.2.1.length=c.2.2.1.length:=by
 rw[jh] at he ⊢
 cases h:dE c
 ·rw[h] at he;exact absurd (show(120:Int)=0 from he) (by decide)
 rw[h,cond_true] at he
 rw[cond_true]
 by_cases h1:0≤s∧s≤(c.2.2.1.length:Int)-1
 ·rw[decide_eq_true h1,cond_true] at he ⊢
  by_cases h2:8<(d.length:Int)
  ·rw[decide_eq_true h2] at he;exact absurd (show(3:Int)=0 from he) (by decide)
  rw[decide_eq_false h2,cond_false]
  have hl:(c.2.2.1.set s.toNat (d,0)).length=c.2.2.1.length:=List.length_set ..
  simp only[dE,Bool.and_eq_true,decide_eq_true_eq] at h ⊢
  refine⟨⟨by rw[hl];exact h.1,by rw[hl];exact h.2.1,h.2.2.1,h.2.2.2.1,h.2.2.2.2.1,?_⟩,trivial,hl⟩
  rw[List.all_eq_true]
  intro x hx
  rcases List.mem_or_eq_of_mem_set hx with hx|rfl
  ·exact List.all_eq_true.1 h.2.2.2.2.2 x hx
  ·simp only[Dl,Bool.and_eq_true,decide_eq_true_eq];exact⟨h2,by omega⟩
 ·rw[decide_eq_false h1] at he;exact absurd (show(2:Int)=0 from he) (by decide)
theorem vv{m:ak}{n:Node}{r:cf×Int}(h:aS m n=0)(hr:r.2=0→dE r.1=true∧r.1.1=n.2.2.2.2.2.2.2.1∧r.1.2.2.1.length=n.2.2.2.2.2.2.2.2.2.1.length)(he:(C7 n r).2=0):aS m (C7 n r).1=0:=by
 rw[C7] at he ⊢
 by_cases k:r.2=0
 ·rw[decide_eq_true k,cond_true]
  obtain⟨a,b,c⟩:=hr k
  exact LN h a b c
 ·rw[decide_eq_false k] at he;exact absurd he k
theorem E2{m:ak}{n:Node}{o:xL}(h:aS m n=0)(he:(pK m n o).2=0):aS m (pK m n o).1=0:=by
 rw[pK,decide_eq_true h,cond_true] at he ⊢
 by_cases h1:1≤o.2.2.2.1∧o.2.2.2.1≤3
 ·rw[decide_eq_true h1,cond_true] at he ⊢
  cases hi:gb n
  ·exact h
  rw[hi,cond_true] at he
  rw[cond_true]
  by_cases k:o.2.2.2.1=1
  ·rw[decide_eq_true k,cond_true] at he ⊢;exact vv h QS he
  rw[decide_eq_false k,cond_false] at he ⊢
  by_cases k2:o.2.2.2.1=2
  ·rw[decide_eq_true k2,cond_true] at he ⊢;exact vv h Td he
  rw[decide_eq_false k2,cond_false] at he ⊢
  exact vv h JQ he
 ·rw[decide_eq_false h1] at he;exact absurd (show(2:Int)=0 from he) (by decide)
theorem Lc{m:ak}{n:Node}{c:dq}(h:aS m n=0)(hi:gb n=true)(h1:dp m c=true)(h2:c.2.2.2.2=n.2.2.1.2.2.2.2):aS m (n.1,n.2.1,c,n.2.2.2)=0:=by
 have hz:=bF.1 (aP h).2
 have hc:=dN h hi
 refine r9 (aP h).1 (bF.2 ⟨hz.1,hz.2.1,hz.2.2.1,hz.2.2.2.1,hz.2.2.2.2.1,hz.2.2.2.2.2.1,hz.2.2.2.2.2.2.1,?_,hz.2.2.2.2.2.2.2.2⟩)
 rw[mX,show gb (n.1,n.2.1,c,n.2.2.2)=true from hi,cond_true]
 show(dp m c&&(decide (gS n.2.2.2.1=0)&&(decide (n.2.2.2.1.1=n.1)&&(decide (n.2.2.2.1.2.1=m.1)&&decide (c.2.2.2.2=n.2.2.2.1.2.2.1)))))=true
 rw[h1,decide_eq_true hc.2.1,decide_eq_true hc.2.2.1,decide_eq_true hc.2.2.2.1,decide_eq_true (h2.trans hc.2.2.2.2)];rfl
theorem JK{m:ak}{c:dq}(hm:dy m=true)(h:dp m c=true):dp m (gQ c m.1).1=true∧(gQ c m.1).1.2.2.2.2=c.2.2.2.2:=by
 have hf:=gM h
 have hc:=iZ hf.1
 have hl:=(cy hm).2.1
 rw[gQ,decide_eq_true hf.1,cond_true]
 have ht:0≤(c.1+1).tmod 256∧(c.1+1).tmod 256≤255:=by
  have:=hc.2.1
  rw[Int.tmod_eq_emod_of_nonneg (by omega)];omega
 by_cases g:c.2.1+1=m.1
 ·rw[decide_eq_true g,cond_true]
  by_cases g2:c.2.2.2.1=0
  ·rw[decide_eq_true g2,cond_true]
   exact⟨kX (nP (c:=((c.1+1).tmod 256,0,c.2.2)) hc.1 ht (show(0:Int)≤0∧(0:Int)≤m.1-1 by omega) hc.2.2.2.1 hc.2.2.2.2.1 hc.2.2.2.2.2) hf.2.1.2 hf.2.2,rfl⟩
  ·rw[decide_eq_false g2,cond_false]
   exact⟨kX (nP (c:=((c.1+1).tmod 256,0,c.2.2.2.1-1,0,c.2.2.2.2)) hc.1 ht (show(0:Int)≤0∧(0:Int)≤m.1-1 by omega) (show 0≤c.2.2.2.1-1∧c.2.2.2.1-1≤3 by omega) (show(0:Int)≤0∧(0:Int)≤4 by omega) hc.2.2.2.2.2) (show c.2.2.2.1-1<cO m by omega) (show(0:Int)≤cO m by omega),rfl⟩
 ·rw[decide_eq_false g,cond_false]
  exact⟨kX (nP (c:=(c.1,c.2.1+1,c.2.2)) hc.1 hc.2.1 (show 0≤c.2.1+1∧c.2.1+1≤m.1-1 by omega) hc.2.2.2.1 hc.2.2.2.2.1 hc.2.2.2.2.2) hf.2.1.2 hf.2.2,rfl⟩
theorem FL{m:ak}{n:Node}(h:aS m n=0)(he:(pP m n).2=0):aS m (pP m n).1=0:=by
 rw[pP,decide_eq_true h,cond_true] at he ⊢
 cases hi:gb n
 ·rw[hi] at he;exact absurd (show(181:Int)=0 from he) (by decide)
 rw[cond_true]
 obtain⟨a,b⟩:=JK (aP h).1 (dN h hi).1
 have h1:=Lc (c:=(gQ n.2.2.1 m.1).1) h hi a b
 cases decide ((gQ n.2.2.1 m.1).1.2.1=0)
 ·exact h1
 ·obtain⟨c,d,e⟩:=M6 (j5 h)
  exact LN h1 c d e
theorem Js{k n:Int}(hk:4≤k∧k≤8)(h:0≤n∧n≤k-1):0≤aj.b .shl .i64 1 n∧aj.b .shl .i64 1 n≤2^k.toNat-1:=by
 have h1:k=4∨k=5∨k=6∨k=7∨k=8:=by omega
 have h2:n=0∨n=1∨n=2∨n=3∨n=4∨n=5∨n=6∨n=7:=by omega
 rcases h1 with rfl|rfl|rfl|rfl|rfl<;>rcases h2 with rfl|rfl|rfl|rfl|rfl|rfl|rfl|rfl<;>first|decide|omega
theorem FB{m:ak}{n:Node}(h:aS m n=0)(he:(rI m n).2.2.2=0):aS m (rI m n).1=0:=by
 have hz:=bF.1 (aP h).2
 have hm:=(aP h).1
 have hk:=cy hm
 rw[rI,decide_eq_true h,cond_true] at he ⊢
 by_cases h1:n.2.1=1
 ·obtain⟨ho,hv⟩:=Bc h (by omega)
  have ht:1≤n.2.2.2.2.1∧n.2.2.2.2.1≤(jZ m n.1).1:=by
   have hc:=hz.2.2.2.2.2.2.2.2.1
   rw[nj,decide_eq_true h1,cond_true,decide_eq_true_eq] at hc
   exact hc
  rw[decide_eq_true h1,cond_true]
  by_cases h2:0<n.2.2.2.2.1-1
  ·rw[decide_eq_true h2,cond_true]
   exact lk hm hz.1 (.inr (.inl h1)) hz.2.2.1 hz.2.2.2.1 hz.2.2.2.2.1 hz.2.2.2.2.2.1 ho hv (fun _=>show 1≤n.2.2.2.2.1-1∧n.2.2.2.2.1-1≤(jZ m n.1).1 by omega) (fun k=>absurd h1 k) (fun _=>h1)
  ·rw[decide_eq_false h2,cond_false]
   cases hc:(aj.n .bool m.2.2.2.2.2.2.1 n.1:Bool)
   ·rw[cond_false]
    exact lk hm hz.1 (.inr (.inl h1)) hz.2.2.1 hz.2.2.2.1 hz.2.2.2.2.1 hz.2.2.2.2.2.1 ho hv (fun _=>⟨uH hm hz.1,Int.le_refl _⟩) (fun k=>absurd h1 k) (fun _=>h1)
   ·rw[cond_true]
    have hs:=Js hk.1 hz.1
    exact xx hm hz.1 (show(2:Int)≤2∧(2:Int)≤4 by omega) hz.2.2.1 hz.2.2.2.1 hz.2.2.2.2.1 hz.2.2.2.2.2.1 (fun _=>hc) (kX (nP (c:=(0,n.1,0,0,aj.b .shl .i64 1 n.1)) hk.1 (show(0:Int)≤0∧(0:Int)≤255 by omega) hz.1 (show(0:Int)≤0∧(0:Int)≤3 by omega) (show(0:Int)≤0∧(0:Int)≤4 by omega) hs) (show(0:Int)<cO m by omega) (show(0:Int)≤cO m by omega)) (Er hk.1 hz.1 hs) rfl rfl rfl rfl (fun _=>rfl)
 ·rw[decide_eq_false h1] at he;exact absurd (show(181:Int)=0 from he) (by decide)
theorem z7{m:ak}{n:Node}{c:dq}{f:gT}(h:aS m n=0)(hf:dp m c=true)(hd:f.1=4→(jh n.2.2.2.2.2.2.2 c.2.1 f.2.2.2.2).2=0):aS m (jW m n c f)=0:=by
 have hz:=bF.1 (aP h).2
 have hm:=(aP h).1
 obtain⟨t1,t2,t3⟩:=Aj (r:=f.2.1) hm hf
 have hs:=(iZ (gM hf).1).2.2.2.2.2
 have hH:dE (bif decide (f.1=4) then(jh n.2.2.2.2.2.2.2 c.2.1 f.2.2.2.2).1 else n.2.2.2.2.2.2.2)=true∧(bif decide (f.1=4) then(jh n.2.2.2.2.2.2.2 c.2.1 f.2.2.2.2).1 else n.2.2.2.2.2.2.2).1=n.2.2.2.2.2.2.2.1∧(bif decide (f.1=4) then(jh n.2.2.2.2.2.2.2 c.2.1 f.2.2.2.2).1 else n.2.2.2.2.2.2.2).2.2.1.length=n.2.2.2.2.2.2.2.2.2.1.length:=by
  by_cases k:f.1=4
  ·rw[decide_eq_true k];exact FP (hd k)
  ·rw[decide_eq_false k];exact⟨j5 h,rfl,rfl⟩
 exact xx hm hz.1 (show(2:Int)≤3∧(3:Int)≤4 by omega) (show(0:Int)≤0∧(0:Int)≤2 by omega) hH.1 (hH.2.1.trans hz.2.2.2.2.1) ((congrArg Int.ofNat hH.2.2).trans hz.2.2.2.2.2.1) (fun k=>absurd k (show ¬(3:Int)=2 by omega)) t1 (Er (cy hm).1 hz.1 hs) rfl rfl t3 rfl (fun k=>by cases k)
theorem EV{m:ak}{n:Node}{s:List Seen}{o:Bool}(h:aS m n=0)(he:(nH m n s o).2.2.2=0):aS m (nH m n s o).1=0:=by
 have hz:=bF.1 (aP h).2
 have hm:=(aP h).1
 have hk:=cy hm
 rw[nH,decide_eq_true h,cond_true] at he ⊢
 by_cases h1:n.2.1=1
 ·rw[decide_eq_true h1,cond_true] at he ⊢
  by_cases h2:(s.length:Int)=2
  ·rw[decide_eq_true h2,cond_true]
   cases hx:(eU m.1 s).2.2
   ·exact h
   obtain⟨e1,e2,e3⟩:=EE hx
   have hl:=Ek e3
   rw[cond_true]
   by_cases h3:(eU m.1 s).1.1=1
   ·rw[decide_eq_true h3,cond_true]
    by_cases h4:(eU m.1 s).1.2.2.2.1=n.1
    ·rw[decide_eq_true h4];exact h
    ·rw[decide_eq_false h4,cond_false]
     cases o && !n.2.2.2.2.2.1
     ·rw[cond_false]
      exact z7 h (kX (nP (c:=(0,(eU m.1 s).1.2.2.2.1,0,0,aj.b .shl .i64 1 (eU m.1 s).1.2.2.2.1)) hk.1 (show(0:Int)≤0∧(0:Int)≤255 by omega) (show 0≤(eU m.1 s).1.2.2.2.1∧(eU m.1 s).1.2.2.2.1≤m.1-1 by omega) (show(0:Int)≤0∧(0:Int)≤3 by omega) (show(0:Int)≤0∧(0:Int)≤4 by omega) (Js hk.1 (by omega))) (show(0:Int)<cO m by omega) (show(0:Int)≤cO m by omega)) (fun k=>by omega)
     ·rw[cond_true]
      obtain⟨ho,hv⟩:=Bc h (by omega)
      exact lk hm hz.1 (.inr (.inl h1)) hz.2.2.1 hz.2.2.2.1 hz.2.2.2.2.1 hz.2.2.2.2.2.1 ho hv (fun _=>⟨uH hm hz.1,Int.le_refl _⟩) (fun k=>absurd h1 k) (fun _=>h1)
   ·rw[decide_eq_false h3,cond_false]
    cases hj:BU m n (eU m.1 s).1
    ·exact h
    ·rw[cond_true]
     have hd:=Ec h e3 hj
     have hf:dp m (eU m.1 s).1.2.2.1=true:=by rw[BU,Bool.and_eq_true] at hj;exact hj.1
     exact z7 h hf fun _=>hd
  ·rw[decide_eq_false h2] at he;exact absurd (show(2:Int)=0 from he) (by decide)
 ·rw[decide_eq_false h1] at he;exact absurd (show(181:Int)=0 from he) (by decide)
open Go.Ev.Pl
theorem IG{m:ak}{c:dq}{s:Int}(h:dp m c=true)(hs:0≤s∧s≤2^m.1.toNat-1):dp m (c.1,c.2.1,c.2.2.1,c.2.2.2.1,s)=true:=by
 have hf:=gM h
 have hc:=iZ hf.1
 exact kX (nP (c:=(c.1,c.2.1,c.2.2.1,c.2.2.2.1,s)) hc.1 hc.2.1 hc.2.2.1 hc.2.2.2.1 hc.2.2.2.2.1 hs) hf.2.1.2 hf.2.2
theorem Cx{v:gh}(h:gS v=0):0≤v.2.2.1∧v.2.2.1≤2^v.2.1.toNat-1:=by
 obtain⟨a,b,c,d,e,f,g⟩:=v
 have hm:=eF.1 h
 unfold gP at hm
 have:((2^b.toNat:Nat):Int)=2^b.toNat:=by norm_cast
 exact⟨hm.2.2.2.2.2.2.1,show c≤2^b.toNat-1 by omega⟩
theorem CY{m:ak}{n:Node}{v:gh}(h:aS m n=0)(hi:gb n=true)(hv:gS v=0)(h1:v.1=n.1)(h2:v.2.1=m.1):aS m (oY n v)=0:=by
 have hz:=bF.1 (aP h).2
 have hc:=dN h hi
 have hs:=Cx hv
 rw[h2] at hs
 refine r9 (aP h).1 (bF.2 ⟨hz.1,hz.2.1,hz.2.2.1,hz.2.2.2.1,hz.2.2.2.2.1,hz.2.2.2.2.2.1,hz.2.2.2.2.2.2.1,?_,hz.2.2.2.2.2.2.2.2⟩)
 rw[mX,show gb (oY n v)=true from hi,cond_true]
 show(dp m (n.2.2.1.1,n.2.2.1.2.1,n.2.2.1.2.2.1,n.2.2.1.2.2.2.1,v.2.2.1)&&(decide (gS v=0)&&(decide (v.1=n.1)&&(decide (v.2.1=m.1)&&decide (v.2.2.1=v.2.2.1)))))=true
 rw[IG hc.1 hs,decide_eq_true hv,decide_eq_true h1,decide_eq_true h2,decide_eq_true rfl];rfl
theorem K4{n:Node}(hi:gb n=true):2≤n.2.1∧n.2.1≤4:=of_decide_eq_true hi
theorem MV{m:ak}{x:Node}(h:aS m x=0)(hi:gb x=true):aS m (Rn x)=0:=by
 have hz:=bF.1 (aP h).2
 have hc:=dN h hi
 have hs:=K4 hi
 have ht:=Fv h (show ¬x.2.1=1 by omega)
 exact xx (aP h).1 hz.1 (show(2:Int)≤4∧(4:Int)≤4 by omega) hz.2.2.1 hz.2.2.2.1 hz.2.2.2.2.1 hz.2.2.2.2.2.1 (fun k=>absurd k (show ¬(4:Int)=2 by omega)) hc.1 hc.2.1 hc.2.2.1 hc.2.2.2.1 hc.2.2.2.2 ht (fun k=>by cases k)
theorem Fx{n:Node}(h:gS n.2.2.2.1=0):gS (dd n).1=0∧(dd n).1.1=n.2.2.2.1.1∧(dd n).1.2.1=n.2.2.2.1.2.1:=by
 rw[dd]
 cases decide (n.2.1=2)&&(decide (n.2.2.2.1.2.2.2.1<2)||decide (n.2.2.2.1.2.2.2.1≤n.2.2.2.1.2.2.2.2.1))
 ·rw[cond_false]
  generalize n.2.2.2.1=V at h ⊢
  obtain⟨a,b,c,d,e,f,g⟩:=V
  cases decide (n.2.1=3)
  ·obtain⟨c',d',e',f',g',w,e1,e2,_⟩:=Bu (eF.1 h)
   rw[cond_false,e1];exact⟨eF.2 e2,rfl,rfl⟩
  ·obtain⟨c',d',e',f',g',w,e1,e2,_⟩:=LK (eF.1 h)
   rw[cond_true,e1];exact⟨eF.2 e2,rfl,rfl⟩
 ·exact⟨h,rfl,rfl⟩
theorem MX{m:ak}{x:Node}(h:aS m x=0)(hi:gb x=true):aS m (yN m x).1=0:=by
 obtain⟨t1,t2,t3⟩:=Aj (r:=(gn m x).2.1) (aP h).1 (dN h hi).1
 exact Lc h hi t1 t3
theorem FU{m:ak}{n:Node}(h:aS m n=0)(hi:gb n=true):aS m (iJ n (dd n).1)=0:=by
 have hc:=dN h hi
 obtain⟨v1,v2,v3⟩:=Fx hc.2.1
 exact MV (CY h hi v1 (v2.trans hc.2.2.1) (v3.trans hc.2.2.2.1)) hi
theorem LU{m:ak}{n:Node}(h:aS m n=0)(he:(oS m n).2.2.2=0):aS m (oS m n).1=0:=by
 have hz:=bF.1 (aP h).2
 have hm:=(aP h).1
 rw[oS,decide_eq_true h,cond_true] at he ⊢
 cases hi:gb n&&decide (n.2.2.1.2.1=n.1)
 ·rw[hi] at he;exact absurd (show(181:Int)=0 from he) (by decide)
 rw[Bool.and_eq_true] at hi
 rw[cond_true,mR]
 cases decide ((dd n).2=2)
 ·rw[cond_false]
  cases decide ((dd n).2=3)
  ·rw[cond_false]
   cases decide ((dd n).2=4)
   ·rw[cond_false]
    exact MX (FU h hi.1) rfl
   ·rw[cond_true]
    have hr:=R9 hm hz.1
    exact lk hm hz.1 (.inr (.inl rfl)) hz.2.2.1 hz.2.2.2.1 hz.2.2.2.2.1 hz.2.2.2.2.2.1 rfl rfl (fun _=>hr) (fun k=>absurd rfl k) (fun _=>rfl)
  ·rw[cond_true]
   exact lk hm hz.1 (.inr (.inl rfl)) (show(0:Int)≤2∧(2:Int)≤2 by omega) hz.2.2.2.1 hz.2.2.2.2.1 hz.2.2.2.2.2.1 rfl rfl (fun _=>⟨uH hm hz.1,Int.le_refl _⟩) (fun k=>absurd rfl k) (fun _=>rfl)
 ·rw[cond_true]
  exact lk hm hz.1 (.inr (.inr rfl)) (show(0:Int)≤1∧(1:Int)≤2 by omega) hz.2.2.2.1 hz.2.2.2.2.1 hz.2.2.2.2.2.1 rfl rfl (fun k=>absurd k (show ¬(5:Int)=1 by omega)) (fun _=>rfl) (fun k=>by cases k)
theorem JA{c:dq}{v:gh}{s:Int}{seen:List Seen}{o:gK}(h:(gX (c,v,s,seen)).2=0)(ho:o=(gX (c,v,s,seen)).1∨o=pZ):gS (dU (v,s,o)).1=0∧(dU (v,s,o)).1.1=v.1∧(dU (v,s,o)).1.2.1=v.2.1:=by
 obtain⟨t,p,m,n,x⟩:=c
 obtain⟨a,b,c,d,e,f,g⟩:=v
 rcases ho with rfl|rfl
 ·obtain⟨c',d',e',f',g',e1,e2,_⟩:=zT h
  rw[e1];exact⟨eF.2 e2,rfl,rfl⟩
 ·obtain⟨h1,h2,h3,h4,_⟩:=pN h
  have hok:=dJ.1 h1
  have h3:s<b:=h3
  have h4:s≠a:=h4
  obtain⟨c',f',g',e1,e2,_⟩:=qe hok h2 h3 h4
  have hm:=hok
  unfold gP at hm
  rw[BL rfl,EI e1 (show 0≤e by omega) (show e≤1048576 by omega)]
  exact⟨eF.2 (Uy e2 (inc_le (d:=e) (show 0≤e by omega) (show e≤1048576 by omega))),rfl,rfl⟩
theorem N4{m:ak}{x:Node}(h:aS m x=0):aS m (od x)=0:=by
 rw[od]
 by_cases k:x.2.1=4
 ·cases Br x.2.2.2.1
  ·rw[decide_eq_true k,Bool.not_false,Bool.and_self,cond_true]
   have hz:=bF.1 (aP h).2
   have hi:gb x=true:=decide_eq_true (by omega)
   have hc:=dN h hi
   have ht:=Fv h (show ¬x.2.1=1 by omega)
   exact xx (aP h).1 hz.1 (show(2:Int)≤3∧(3:Int)≤4 by omega) hz.2.2.1 hz.2.2.2.1 hz.2.2.2.2.1 hz.2.2.2.2.2.1 (fun k=>absurd k (show ¬(3:Int)=2 by omega)) hc.1 hc.2.1 hc.2.2.1 hc.2.2.2.1 hc.2.2.2.2 ht (fun j=>by have:=Fi h j;omega)
  ·rw[Bool.not_true,Bool.and_false];exact h
 ·rw[decide_eq_false k];exact h
theorem LP{m:ak}{x:Node}{f:gT}(h:aS m x=0)(hi:gb x=true)(hd:(jh x.2.2.2.2.2.2.2 x.2.2.1.2.1 f.2.2.2.2).2=0):aS m (wH m x f)=0:=by
 obtain⟨t1,t2,t3⟩:=Aj (r:=f.2.1) (aP h).1 (dN h hi).1
 have h1:=Lc h hi t1 t3
 rw[wH]
 by_cases k:f.1=3
 ·rw[decide_eq_true k];exact h1
 ·rw[decide_eq_false k]
  obtain⟨a,b,c⟩:=FP hd
  exact LN h1 a b c
theorem EX{m:ak}{n:Node}{s:List Seen}(h:aS m n=0)(he:(nR m n s).2.2=0):aS m (nR m n s).1=0:=by
 rw[nR,decide_eq_true h,cond_true] at he ⊢
 cases hi:gb n&&decide (¬n.2.2.1.2.1=n.1)
 ·rw[hi] at he;exact absurd (show(181:Int)=0 from he) (by decide)
 rw[hi,cond_true] at he
 rw[Bool.and_eq_true] at hi
 rw[cond_true]
 have hv:=fun(o:gK) (g:(ot n s).2=0)=>JA (c:=n.2.2.1) (v:=n.2.2.2.1) (s:=n.2.2.1.2.1) (seen:=s) (o:=o) g
 have hs:gX (n.2.2.1,n.2.2.2.1,n.2.2.1.2.1,s)=ot n s:=rfl
 rw[hs] at hv
 generalize ot n s=S at hv he ⊢
 by_cases g:S.2=0
 ·rw[decide_eq_true g,cond_true]
  have hc:=dN h hi.1
  have vw:∀o:gK,o=S.1∨o=pZ→aS m (oY n (Bg n o))=0:=fun o ho=>by
   obtain⟨a,b,c⟩:=hv o g ho
   exact CY h hi.1 a (b.trans hc.2.2.1) (c.trans hc.2.2.2.1)
  refine N4 ?_
  by_cases k:S.1.1=3
  ·cases hl:kh m n.2.2.1 S.1.2.2.2.1
   ·rw[Bs k hl];exact vw _ (.inr rfl)
   ·rw[qU hl,decide_eq_true k]
    have hd:=BH h hl
    exact LP (vw _ (.inl rfl)) hi.1 hd
  ·rw[D3 k,decide_eq_false k];exact vw _ (.inl rfl)
 ·rw[decide_eq_false g] at he;exact absurd he g
open Go.Ev.Pl
theorem dX{Y:Type}{step:Y→LT Bool Y}{a:Int}{m:ak}{x:Node}{X X':LT Bool Y}{r:Bool}(h:a=0→aS m x=0)(h1:aA step X r)(h2:aA step X' r):aA step (.br (aj.c .neq a 0) X (.need true (.br (aj.not (aj.c .eql (aS m x) 0)) (.ret false) X'))) r:=
 ax (p:=¬a=0) aT (fun _=>h1) fun g=>af.2 ⟨rfl,(ah (by rw[h (Decidable.not_not.1 g)];rfl)).2 h2⟩
end Go.Ev.M
