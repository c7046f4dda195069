/-
  PROVED: what comes of a node that may be may be. Conditions: none.
-/
import Derived.Test.YtjceiokllpmnkaaGreatCg
namespace Go.Ev.M
open Go.Proofs
set_option maxRecDepth 100000
set_option linter.unusedVariables false
set_option linter.unusedSimpArgs false
open Go.Ev.Pl
theorem vf{c:dM}{k:Int}(hk:4≤k∧k≤8)(h1:0≤c.1∧c.1≤255)(h2:0≤c.2.1∧c.2.1≤k-1)(h3:0≤c.2.2.1∧c.2.2.1≤3)(h4:0≤c.2.2.2.1∧c.2.2.2.1≤4)(h5:0≤c.2.2.2.2∧c.2.2.2.2≤2^k.toNat-1):gI (c,k)=0:=by
 obtain⟨t,p,m,n,s⟩:=c
 rw[gI,decide_eq_false (show ¬k<4 by omega),decide_eq_false (show ¬8<k by omega),decide_eq_true h1.1,decide_eq_true h1.2,decide_eq_true h2.1,decide_eq_true h2.2,decide_eq_true h3.1,decide_eq_true h3.2,decide_eq_true h4.1,decide_eq_true h4.2,decide_eq_true h5.1,decide_eq_true h5.2]
 rfl
theorem pH{m:ap}{c:dM}(h:gI (c,m.1)=0)(h1:c.2.2.1<dS m)(h2:c.2.2.2.1≤dS m):dK m c=true:=by
 rw[dK,decide_eq_true h,decide_eq_true h1,decide_eq_true h2];rfl
theorem w9{m:ap}{x:Node}(hm:dR m=true)(h:Av m x=true):dh m x=0:=by rw[dh,hm,h];rfl
theorem Ld{m:ap}{x:Node}(hm:dR m=true)(h1:0≤x.1∧x.1≤m.1-1)(h2:2≤x.2.1∧x.2.1≤4)(h3:0≤x.2.2.2.2.2.2.1∧x.2.2.2.2.2.2.1≤2)(h4:fN x.2.2.2.2.2.2.2=true)(h5:x.2.2.2.2.2.2.2.1=x.1)(h6:(x.2.2.2.2.2.2.2.2.2.1.length:Int)=m.1)
  (h7:x.2.1=2→(ah.n .bool m.2.2.2.2.2.2.1 x.1:Bool)=true) (h8:dK m x.2.2.1=true) (h9:lM x.2.2.2.1=0) (ha:x.2.2.2.1.1=x.1) (hb:x.2.2.2.1.2.1=m.1) (hc:x.2.2.1.2.2.2.2=x.2.2.2.1.2.2.1) (hd:x.2.2.2.2.1=0) (he:x.2.2.2.2.2.1=true→x.2.1=2):dh m x=0:=by
 refine w9 hm (eu.2 ⟨h1,by omega,h3,h4,h5,h6,?_,?_,?_,?_⟩)
 ·rw[yJ]
  by_cases k:x.2.1=2
  ·rw[decide_eq_true k];exact h7 k
  ·rw[decide_eq_false k];rfl
 ·rw[qp,kJ,decide_eq_true h2,cond_true,h8,decide_eq_true h9,decide_eq_true ha,decide_eq_true hb,decide_eq_true hc];rfl
 ·rw[vJ,decide_eq_false (show ¬x.2.1=1 by omega)];exact decide_eq_true hd
 ·rw[tj]
  cases k:x.2.2.2.2.2.1
  ·rfl
  ·exact decide_eq_true (.inr (he k))
theorem Hq{m:ap}{n:Node}(h:dh m n=0)(hb:n.2.2.2.2.2.1=true):n.2.1=1∨n.2.1=2:=by
 have hc:=(eu.1 (dx h).2).2.2.2.2.2.2.2.2.2
 rw[tj,hb] at hc
 exact of_decide_eq_true hc
theorem I9{m:ap}{c:dM}{r:Int}(hm:dR m=true)(h:dK m c=true):dK m (iT m c r)=true∧(iT m c r).2.1=c.2.1∧(iT m c r).2.2.2.2=c.2.2.2.2:=by
 rw[iT,vE,decide_eq_true (E0 hm h),cond_true]
 by_cases h1:0≤r∧r≤dS m
 ·rw[decide_eq_true h1,cond_true]
  by_cases h2:0<r
  ·cases h3:oC m c (r-1)
   ·rw[Bool.and_false];exact⟨h,rfl,rfl⟩
   ·rw[decide_eq_true h2,Bool.and_self,cond_true]
    have hf:=xX h
    have hc:=nV hf.1
    have hl:=(gK hm).2.1
    refine⟨pH (vf hc.1 hc.2.1 hc.2.2.1 hc.2.2.2.1 (show 0≤r∧r≤4 by omega) hc.2.2.2.2.2) hf.2.1.2 h1.2,rfl,rfl⟩
  ·rw[decide_eq_false h2,Bool.false_and];exact⟨h,rfl,rfl⟩
 ·rw[decide_eq_false h1];exact⟨h,rfl,rfl⟩
open Go.Ev.Pl
theorem JJ{m:ap}{n:Node}{c:ek}(h:dh m n=0)(h1:fN c=true)(h2:c.1=n.2.2.2.2.2.2.2.1)(h3:c.2.2.1.length=n.2.2.2.2.2.2.2.2.2.1.length):dh m (n.1,n.2.1,n.2.2.1,n.2.2.2.1,n.2.2.2.2.1,n.2.2.2.2.2.1,n.2.2.2.2.2.2.1,c)=0:=by
 have hz:=eu.1 (dx h).2
 exact w9 (dx h).1 (eu.2 ⟨hz.1,hz.2.1,hz.2.2.1,h1,h2.trans hz.2.2.2.2.1,(congrArg Int.ofNat h3).trans hz.2.2.2.2.2.1,hz.2.2.2.2.2.2⟩)
theorem Ho{c:ek}(h:fN c=true):fN (vy c).1=true∧(vy c).1.1=c.1∧(vy c).1.2.2.1.length=c.2.2.1.length:=by
 rw[vy,h,cond_true]
 have hl:(c.2.2.1.map wZ).length=c.2.2.1.length:=List.length_map ..
 simp only[fN,Bool.and_eq_true,decide_eq_true_eq] at h ⊢
 refine⟨⟨by rw[hl];exact h.1,by rw[hl];exact h.2.1,h.2.2.1,?_,h.2.2.2.2.1,?_⟩,trivial,hl⟩
 ·have hp:=h.2.2.2.1
  rw[aS,fU (by omega) (by omega),Ez]
  split<;>omega
 ·rw[List.all_eq_true]
  intro x hx
  obtain⟨y,hy,rfl⟩:=List.mem_map.1 hx
  have hm:=List.all_eq_true.1 h.2.2.2.2.2 y hy
  simp only[AT,Bool.and_eq_true,decide_eq_true_eq] at hm
  have hm2:0≤(wZ y).2∧(wZ y).2≤255:=by
   show 0≤ah.mn (ah.b .add .i64 y.2 1) 255∧ah.mn (ah.b .add .i64 y.2 1) 255≤255
   rw[bi,fU (by omega) (by omega),ot];split<;>omega
  rw[AT,Bool.and_eq_true];exact⟨decide_eq_true hm.1,decide_eq_true hm2⟩
theorem Hm{c:ek}{s:Int}{d:List Int}(he:(kR c s d).2=0):fN (kR c s d).1=true∧(kR c s d).1.1=c.1∧(kR c s d).1.2.2.1.length=c.2.2.1.length:=by
 rw[kR] at he ⊢
 cases h:fN c
 ·rw[h] at he;exact absurd (show(120:Int)=0 from he) (by decide)
 rw[h,cond_true] at he
 rw[cond_true]
 by_cases h1:0≤s∧s≤(c.2.2.1.length:Int)-1
 ·rw[decide_eq_true h1,cond_true] at he ⊢
  by_cases h2:8<(d.length:Int)
  ·rw[decide_eq_true h2] at he;exact absurd (show(3:Int)=0 from he) (by decide)
  rw[decide_eq_false h2,cond_false]
  have hl:(c.2.2.1.set s.toNat (d,0)).length=c.2.2.1.length:=List.length_set ..
  simp only[fN,Bool.and_eq_true,decide_eq_true_eq] at h ⊢
  refine⟨⟨by rw[hl];exact h.1,by rw[hl];exact h.2.1,h.2.2.1,h.2.2.2.1,h.2.2.2.2.1,?_⟩,trivial,hl⟩
  rw[List.all_eq_true]
  intro x hx
  rcases List.mem_or_eq_of_mem_set hx with hx|rfl
  ·exact List.all_eq_true.1 h.2.2.2.2.2 x hx
  ·simp only[AT,Bool.and_eq_true,decide_eq_true_eq];exact⟨h2,by omega⟩
 ·rw[decide_eq_false h1] at he;exact absurd (show(2:Int)=0 from he) (by decide)
theorem JZ{m:ap}{n:Node}{c:dM}(h:dh m n=0)(hi:kJ n=true)(h1:dK m c=true)(h2:c.2.2.2.2=n.2.2.1.2.2.2.2):dh m (n.1,n.2.1,c,n.2.2.2)=0:=by
 have hz:=eu.1 (dx h).2
 have hc:=jJ h hi
 refine w9 (dx h).1 (eu.2 ⟨hz.1,hz.2.1,hz.2.2.1,hz.2.2.2.1,hz.2.2.2.2.1,hz.2.2.2.2.2.1,hz.2.2.2.2.2.2.1,?_,hz.2.2.2.2.2.2.2.2⟩)
 rw[qp,show kJ (n.1,n.2.1,c,n.2.2.2)=true from hi,cond_true]
 show(dK m c&&(decide (lM n.2.2.2.1=0)&&(decide (n.2.2.2.1.1=n.1)&&(decide (n.2.2.2.1.2.1=m.1)&&decide (c.2.2.2.2=n.2.2.2.1.2.2.1)))))=true
 rw[h1,decide_eq_true hc.2.1,decide_eq_true hc.2.2.1,decide_eq_true hc.2.2.2.1,decide_eq_true (h2.trans hc.2.2.2.2)];rfl
theorem E5{m:ap}{c:dM}(hm:dR m=true)(h:dK m c=true):dK m (gB c m.1).1=true∧(gB c m.1).1.2.2.2.2=c.2.2.2.2:=by
 have hf:=xX h
 have hc:=nV hf.1
 have hl:=(gK hm).2.1
 rw[gB,decide_eq_true hf.1,cond_true]
 have ht:0≤(c.1+1).tmod 256∧(c.1+1).tmod 256≤255:=by
  have:=hc.2.1
  rw[Int.tmod_eq_emod_of_nonneg (by omega)];omega
 by_cases g:c.2.1+1=m.1
 ·rw[decide_eq_true g,cond_true]
  by_cases g2:c.2.2.2.1=0
  ·rw[decide_eq_true g2,cond_true]
   exact⟨pH (vf (c:=((c.1+1).tmod 256,0,c.2.2)) hc.1 ht (show(0:Int)≤0∧(0:Int)≤m.1-1 by omega) hc.2.2.2.1 hc.2.2.2.2.1 hc.2.2.2.2.2) hf.2.1.2 hf.2.2,rfl⟩
  ·rw[decide_eq_false g2,cond_false]
   exact⟨pH (vf (c:=((c.1+1).tmod 256,0,c.2.2.2.1-1,0,c.2.2.2.2)) hc.1 ht (show(0:Int)≤0∧(0:Int)≤m.1-1 by omega) (show 0≤c.2.2.2.1-1∧c.2.2.2.1-1≤3 by omega) (show(0:Int)≤0∧(0:Int)≤4 by omega) hc.2.2.2.2.2) (show c.2.2.2.1-1<dS m by omega) (show(0:Int)≤dS m by omega),rfl⟩
 ·rw[decide_eq_false g,cond_false]
  exact⟨pH (vf (c:=(c.1,c.2.1+1,c.2.2)) hc.1 hc.2.1 (show 0≤c.2.1+1∧c.2.1+1≤m.1-1 by omega) hc.2.2.2.1 hc.2.2.2.2.1 hc.2.2.2.2.2) hf.2.1.2 hf.2.2,rfl⟩
theorem Bc{m:ap}{n:Node}(h:dh m n=0)(he:(mU m n).2=0):dh m (mU m n).1=0:=by
 rw[mU,decide_eq_true h,cond_true] at he ⊢
 cases hi:kJ n
 ·rw[hi] at he;exact absurd (show(181:Int)=0 from he) (by decide)
 rw[cond_true]
 obtain⟨a,b⟩:=E5 (dx h).1 (jJ h hi).1
 have h1:=JZ (c:=(gB n.2.2.1 m.1).1) h hi a b
 cases decide ((gB n.2.2.1 m.1).1.2.1=0)
 ·exact h1
 ·obtain⟨c,d,e⟩:=Ho (ta h)
  exact JJ h1 c d e
open Go.Ev.Pl
theorem DU{m:ap}{c:dM}{s:Int}(h:dK m c=true)(hs:0≤s∧s≤2^m.1.toNat-1):dK m (c.1,c.2.1,c.2.2.1,c.2.2.2.1,s)=true:=by
 have hf:=xX h
 have hc:=nV hf.1
 exact pH (vf (c:=(c.1,c.2.1,c.2.2.1,c.2.2.2.1,s)) hc.1 hc.2.1 hc.2.2.1 hc.2.2.2.1 hc.2.2.2.2.1 hs) hf.2.1.2 hf.2.2
theorem E3{v:sn}(h:lM v=0):0≤v.2.2.1∧v.2.2.1≤2^v.2.1.toNat-1:=by
 obtain⟨a,b,c,d,e,f,g⟩:=v
 have hm:=kG.1 h
 unfold gT at hm
 have:((2^b.toNat:Nat):Int)=2^b.toNat:=by norm_cast
 exact⟨hm.2.2.2.2.2.2.1,show c≤2^b.toNat-1 by omega⟩
theorem EQ{m:ap}{n:Node}{v:sn}(h:dh m n=0)(hi:kJ n=true)(hv:lM v=0)(h1:v.1=n.1)(h2:v.2.1=m.1):dh m (zH n v)=0:=by
 have hz:=eu.1 (dx h).2
 have hc:=jJ h hi
 have hs:=E3 hv
 rw[h2] at hs
 refine w9 (dx h).1 (eu.2 ⟨hz.1,hz.2.1,hz.2.2.1,hz.2.2.2.1,hz.2.2.2.2.1,hz.2.2.2.2.2.1,hz.2.2.2.2.2.2.1,?_,hz.2.2.2.2.2.2.2.2⟩)
 rw[qp,show kJ (zH n v)=true from hi,cond_true]
 show(dK m (n.2.2.1.1,n.2.2.1.2.1,n.2.2.1.2.2.1,n.2.2.1.2.2.2.1,v.2.2.1)&&(decide (lM v=0)&&(decide (v.1=n.1)&&(decide (v.2.1=m.1)&&decide (v.2.2.1=v.2.2.1)))))=true
 rw[DU hc.1 hs,decide_eq_true hv,decide_eq_true h1,decide_eq_true h2,decide_eq_true rfl];rfl
theorem Ek{c:dM}{v:sn}{s:Int}{seen:List Seen}{o:gU}(h:(eD (c,v,s,seen)).2=0)(ho:o=(eD (c,v,s,seen)).1∨o=xg):lM (fV (v,s,o)).1=0∧(fV (v,s,o)).1.1=v.1∧(fV (v,s,o)).1.2.1=v.2.1:=by
 obtain⟨t,p,m,n,x⟩:=c
 obtain⟨a,b,c,d,e,f,g⟩:=v
 rcases ho with rfl|rfl
 ·obtain⟨c',d',e',f',g',e1,e2,_⟩:=wi h
  rw[e1];exact⟨kG.2 e2,rfl,rfl⟩
 ·obtain⟨h1,h2,h3,h4,_⟩:=kN h
  have hok:=fx.1 h1
  have h3:s<b:=h3
  have h4:s≠a:=h4
  obtain⟨c',f',g',e1,e2,_⟩:=pn hok h2 h3 h4
  have hm:=hok
  unfold gT at hm
  rw[s7 rfl,xS e1 (show 0≤e by omega) (show e≤1048576 by omega)]
  exact⟨kG.2 (PE e2 (inc_le (d:=e) (show 0≤e by omega) (show e≤1048576 by omega))),rfl,rfl⟩
theorem Ht{m:ap}{x:Node}(h:dh m x=0):dh m (sS x)=0:=by
 rw[sS]
 by_cases k:x.2.1=4
 ·cases A4 x.2.2.2.1
  ·rw[decide_eq_true k,Bool.not_false,Bool.and_self,cond_true]
   have hz:=eu.1 (dx h).2
   have hi:kJ x=true:=decide_eq_true (by omega)
   have hc:=jJ h hi
   have ht:=Hy h (show ¬x.2.1=1 by omega)
   exact Ld (dx h).1 hz.1 (show(2:Int)≤3∧(3:Int)≤4 by omega) hz.2.2.1 hz.2.2.2.1 hz.2.2.2.2.1 hz.2.2.2.2.2.1 (fun k=>absurd k (show ¬(3:Int)=2 by omega)) hc.1 hc.2.1 hc.2.2.1 hc.2.2.2.1 hc.2.2.2.2 ht (fun j=>by have:=Hq h j;omega)
  ·rw[Bool.not_true,Bool.and_false];exact h
 ·rw[decide_eq_false k];exact h
theorem Ec{m:ap}{x:Node}{f:oz}(h:dh m x=0)(hi:kJ x=true)(hd:(kR x.2.2.2.2.2.2.2 x.2.2.1.2.1 f.2.2.2.2).2=0):dh m (zh m x f)=0:=by
 obtain⟨t1,t2,t3⟩:=I9 (r:=f.2.1) (dx h).1 (jJ h hi).1
 have h1:=JZ h hi t1 t3
 rw[zh]
 by_cases k:f.1=3
 ·rw[decide_eq_true k];exact h1
 ·rw[decide_eq_false k]
  obtain⟨a,b,c⟩:=Hm hd
  exact JJ h1 a b c
theorem Br{m:ap}{n:Node}{s:List Seen}(h:dh m n=0)(he:(j_ m n s).2.2=0):dh m (j_ m n s).1=0:=by
 rw[j_,decide_eq_true h,cond_true] at he ⊢
 cases hi:kJ n&&decide (¬n.2.2.1.2.1=n.1)
 ·rw[hi] at he;exact absurd (show(181:Int)=0 from he) (by decide)
 rw[hi,cond_true] at he
 rw[Bool.and_eq_true] at hi
 rw[cond_true]
 have hv:=fun(o:gU) (g:(jl n s).2=0)=>Ek (c:=n.2.2.1) (v:=n.2.2.2.1) (s:=n.2.2.1.2.1) (seen:=s) (o:=o) g
 have hs:eD (n.2.2.1,n.2.2.2.1,n.2.2.1.2.1,s)=jl n s:=rfl
 rw[hs] at hv
 generalize jl n s=S at hv he ⊢
 by_cases g:S.2=0
 ·rw[decide_eq_true g,cond_true]
  have hc:=jJ h hi.1
  have vw:∀o:gU,o=S.1∨o=xg→dh m (zH n (vA n o))=0:=fun o ho=>by
   obtain⟨a,b,c⟩:=hv o g ho
   exact EQ h hi.1 a (b.trans hc.2.2.1) (c.trans hc.2.2.2.1)
  refine Ht ?_
  by_cases k:S.1.1=3
  ·cases hl:oh m n.2.2.1 S.1.2.2.2.1
   ·rw[B4 k hl];exact vw _ (.inr rfl)
   ·rw[zQ hl,decide_eq_true k]
    have hd:=Be h hl
    exact Ec (vw _ (.inl rfl)) hi.1 hd
  ·rw[Fy k,decide_eq_false k];exact vw _ (.inl rfl)
 ·rw[decide_eq_false g] at he;exact absurd he g
open Go.Ev.Pl
end Go.Ev.M
