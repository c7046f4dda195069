/-
  PROVED: that the frame of a node that sends is right for the others. Conditions: none.
-/
import Derived.Test.YteldjjjcdpnnbaaGreatCh
namespace Go.Ev.M
open Go.Proofs
set_option maxRecDepth 100000
set_option linter.unusedVariables false
set_option linter.unusedSimpArgs false
open Go.Ev.Pl
theorem yP{k r t p m n s fr:Int}{d:List Int}(h:eX (k,r,(t,p,m,n,s),fr,d)=true):((fo (k,r,(t,p,m,n,s),fr,d)).length:Int)=wN (k,(d.length:Int))∧(fo (k,r,(t,p,m,n,s),fr,d)).length≤143:=by
 obtain⟨_,_,hd,hk⟩:=jI.1 h
 have hb:=fQ d
 have hs:=ia (t,p,m,n,s)
 rcases hk with ⟨rfl,_,h0,_⟩|⟨rfl,_⟩|⟨rfl,h0,_⟩|⟨rfl,_⟩
 ·have e:(fo (1,r,(t,p,m,n,s),fr,d)).length=40:=by
   show(aV 0 (bitsOf 0 2++(bitsOf fr.toNat 3++(bitsOf t.toNat 8++bitsOf 0 3)))).length=40
   simp only[dh,List.length_append,ao]
  rw[e,h0];exact⟨rfl,by decide⟩
 ·have e:(fo (2,r,(t,p,m,n,s),fr,d)).length=29+8*d.length:=by
   show(aV (over 0 (aW (t,p,m,n,s))) (bitsOf 1 2++(bitsOf r.toNat 3++aU d))).length=_
   simp only[dh,List.length_append,ao,hb];omega
  rw[e]
  refine⟨?_,by omega⟩
  have hh:0≤(d.length:Int)∧(d.length:Int)≤8:=by omega
  simp only[wN,if_pos hh]
  rw[if_neg (by decide),if_pos trivial];omega
 ·have e:(fo (3,r,(t,p,m,n,s),fr,d)).length=54:=by
   show(aV 0 (bitsOf 2 2++(bitsOf r.toNat 3++(bitsOf 0 1++aW (t,p,m,n,s))))).length=54
   simp only[dh,List.length_append,ao,hs]
  rw[e,h0];exact⟨rfl,by decide⟩
 ·have e:(fo (4,r,(t,p,m,n,s),fr,d)).length=79+8*d.length:=by
   show(aV (over 0 (aW (t,p,m,n,s))) (aV 0 (bitsOf 3 2++(bitsOf r.toNat 3++(bitsOf 0 2++aW (t,p,m,n,s))))++aU d)).length=_
   simp only[dh,List.length_append,ao,hb,hs];omega
  rw[e]
  refine⟨?_,by omega⟩
  have hh:0≤(d.length:Int)∧(d.length:Int)≤8:=by omega
  simp only[wN,if_pos hh]
  rw[if_neg (by decide),if_neg (by decide),if_neg (by decide),if_pos trivial];omega
theorem Kc{c s:Int}(h0:0≤c)(h1:c<256)(h2:0≤s)(h3:s<8)(hb:ic c s=true):gl c s=c:=by
 have hi:=D8 (n:=8) h0 (by omega) (show c<((2^(8:Int).toNat:Nat):Int) from h1) h2 h3
 refine Nl hi.1 hi.2 h0 h1 fun i j k=>?_
 rw[Ag h0 h1 h2 h3 j]
 by_cases e:s=i
 ·subst e;rw[hb];rfl
 ·rw[show(s==i)=false from by simpa using e,Bool.or_false]
theorem CZ{m:ak}{k n:Int}(h:(bo m k n).2=0):(bo m k n).1=2∨(bo m k n).1=3∨(bo m k n).1=4:=by
 unfold bo at h ⊢
 by_cases h1:gw m n=0
 ·by_cases h2:0≤k∧k≤cO m-1
  ·rw[decide_eq_true h1,decide_eq_true h2,cond_true,cond_true]
   generalize (aj.n .bool (aj.n aX m.2.2.2.2.2.2.2 k:Mode).2.1 n:Bool)=a
   generalize (aj.n (.int .i64) (aj.n aX m.2.2.2.2.2.2.2 k:Mode).1 n:Int)=b
   show gN (a,b)=2∨gN (a,b)=3∨gN (a,b)=4
   simp only[gN,t183,LT.val,Bool.cond_eq_ite]
   repeat' split
   all_goals decide
  ·rw[decide_eq_true h1,decide_eq_false h2,cond_true,cond_false] at h;exact absurd h (by decide)
 ·rw[decide_eq_false h1,cond_false] at h;exact absurd h h1
theorem MS{m:ak}{n:Node}(hm:dy m=true):0≤J9 m n∧J9 m n≤4:=by
 have hl:=(cy hm).2.1
 rw[J9,kN]
 by_cases h:gj m n.2.2.1=0
 ·rw[decide_eq_true h,cond_true]
  by_cases h1:-1≤n.2.2.2.2.2.2.2.2.2.2.2∧n.2.2.2.2.2.2.2.2.2.2.2<cO m
  ·rw[decide_eq_true h1,cond_true]
   cases h2:mg m n.2.2.1 n.2.2.2.2.2.2.2.2.2.2.2
   ·exact(show(0:Int)≤0∧(0:Int)≤4 by omega)
   ·show 0≤n.2.2.2.2.2.2.2.2.2.2.2+1∧n.2.2.2.2.2.2.2.2.2.2.2+1≤4;omega
  ·rw[decide_eq_false h1];exact(show(0:Int)≤0∧(0:Int)≤4 by omega)
 ·rw[decide_eq_false h,cond_false]
  rw[decide_eq_false (show ¬(gj m n.2.2.1=0) from h)];exact(show(0:Int)≤0∧(0:Int)≤4 by omega)
theorem Mb{c:cf}{k:Int}(h:dE c=true)(hk:0≤k∧k≤8):(((nc c k).1).length:Int)=k:=by
 rw[nc,h,cond_true,decide_eq_true hk,cond_true]
 cases decide (0<c.2.2.2.1)
 ·show((List.replicate k.toNat (0:Int)).length:Int)=k
  rw[List.length_replicate];omega
 ·show((c.2.1.take k.toNat++List.replicate (k.toNat-c.2.1.length) (0:Int)).length:Int)=k
  rw[List.length_append,List.length_take,List.length_replicate];omega
theorem Gt{c:cf}{k:Int}(h:bp c.2.1):bp (nc c k).1:=by
 have hr:∀j:Nat,bp (List.replicate j (0:Int)):=fun j x hx=>by rw[List.eq_of_mem_replicate hx];omega
 rw[nc]
 cases dE c
 ·intro x hx;cases hx
 cases decide (0≤k∧k≤8)
 ·intro x hx;cases hx
 cases decide (0<c.2.2.2.1)
 ·exact hr _
 ·intro x hx
  rcases List.mem_append.1 hx with hx|hx
  ·exact h x (List.mem_of_mem_take hx)
  ·exact hr _ x hx
theorem F2{m:ak}{x:Node}(h:aS m x=0)(hi:gb x=true):((gn m x).2.2.2.2.length:Int)=bif decide ((bo m x.2.2.1.2.2.1 x.1).1=3) then 0 else BN m x.2.2.1.2.2.1 x.1:=by
 have hm:=(aP h).1
 have hz:=bF.1 (aP h).2
 have hd:=Bl hm hz.1 (gM (dN h hi).1).2.1
 rw[gn]
 cases decide ((bo m x.2.2.1.2.2.1 x.1).1=3)
 ·exact Mb (j5 h) hd
 ·rfl
theorem Sc{m:ak}{x:Node}(h:aS m x=0)(hi:gb x=true):eX (gn m x)=true:=by
 have hm:=(aP h).1
 have hz:=bF.1 (aP h).2
 have hf:=gM (dN h hi).1
 have hc:=iZ hf.1
 have hk:=CZ (BS hm hz.1 hf.2.1)
 have hr:=MS (n:=x) hm
 have hd:=Bl hm hz.1 hf.2.1
 have hl:=F2 h hi
 have h8:(gn m x).2.2.2.2.length≤8:=by
  cases k:decide ((bo m x.2.2.1.2.2.1 x.1).1=3)
  ·rw[k,cond_false] at hl;omega
  ·rw[k,cond_true] at hl;omega
 have hp:(2:Int)^m.1.toNat≤256:=by rw[←BO hc.1];exact(oN hc.1).2
 have e1:x.2.2.1.2.1≤7:=by omega
 have e2:x.2.2.1.2.2.2.2≤255:=by omega
 have hs:eP x.2.2.1=true:=(jD (t:=x.2.2.1.1) (p:=x.2.2.1.2.1) (m:=x.2.2.1.2.2.1) (n:=x.2.2.1.2.2.2.1) (s:=x.2.2.1.2.2.2.2)).2 ⟨hc.2.1,⟨hc.2.2.1.1,e1⟩,hc.2.2.2.1,hc.2.2.2.2.1,hc.2.2.2.2.2.1,e2⟩
 rw[eX]
 simp only[Bool.and_eq_true,decide_eq_true_eq]
 refine⟨⟨⟨hs,hr⟩,h8⟩,?_⟩
 show(bif (bo m x.2.2.1.2.2.1 x.1).1==1 then _ else bif (bo m x.2.2.1.2.2.1 x.1).1==3 then(gn m x).2.2.2.2.isEmpty&&(0:Int)==0 else((bo m x.2.2.1.2.2.1 x.1).1==2||(bo m x.2.2.1.2.2.1 x.1).1==4)&&(0:Int)==0)=true
 rcases hk with k|k|k
 ·rw[k];rfl
 ·rw[decide_eq_true k,cond_true] at hl
  have:(gn m x).2.2.2.2=[]:=List.eq_nil_of_length_eq_zero (by omega)
  rw[k,this];rfl
 ·rw[k];rfl
theorem JW{f:gT}(h:eX f=true)(hd:bp f.2.2.2.2)(hk:¬f.1=1):o8 (bS (fo f),f.2.2.1)=(f,true):=by
 obtain⟨k,r,⟨t,p,m,n,s⟩,fr,d⟩:=f
 have hl:=(yP h).2
 have hs:eP (t,p,m,n,s)=true:=by
  rw[eX] at h;simp only[Bool.and_eq_true] at h;exact h.1.1.1
 have e:kI (bS (fo (k,r,(t,p,m,n,s),fr,d)),(t,p,m,n,s))=((k,r,(t,p,m,n,s),fr,d),0):=by
  rw[kI,iN (by omega),hs,gG,B9 h hd];rfl
 rw[o8,e]
 have hk:(k==1)=false:=by simpa using hk
 simp[hk]
theorem KX{f:gT}{v:gh}{w:Int}(h:eX f=true)(hd:bp f.2.2.2.2)(hk:¬f.1=1)(hv:gS v=0)(hc:gm (f.2.2.1,v.2.1)=0)(hst:v.2.2.2.2.2.1=0)(hp:0≤f.2.2.1.2.1∧f.2.2.1.2.1<v.2.1)(hne:¬f.2.2.1.2.1=v.1)(hb:gl v.2.2.1 f.2.2.1.2.1=f.2.2.1.2.2.2.2):gX (f.2.2.1,v,f.2.2.1.2.1, [(0,0,(0,([]:List Int))),(2,w,bS (fo f))])=((3,0,1,f,w),0):=by
 have hg:=JW h hd hk
 obtain⟨k,r,⟨t,p,m,n,s⟩,fr,d⟩:=f
 obtain⟨a,b,c,x,y,z,g⟩:=v
 have hst:z=0:=hst
 subst hst
 have hb:gl c p=s:=hb
 have hvw:MW ((a,b,c,x,y,0,g),p)=[s]:=by rw[MW,A5,hb];rfl
 rw[gX]
 simp only
 rw[show iB (a,b,c,x,y,0,g)=0 from(Ni).trans hv,show gm ((t,p,m,n,s),b)=0 from hc,decide_eq_false (show ¬p<0 from Int.not_lt.2 hp.1),decide_eq_false (show ¬b≤p from Int.not_le.2 hp.2),show(p==a)=false from by simpa using hne]
 rw[hvw]
 show rh t p m n [(0,0,(0,([]:List Int))),(2,w,bS (fo (k,r,(t,p,m,n,s),fr,d)))] 0 [s]=_
 rw[rh,jX,ja,ja]
 simp only
 rw[hg]
 rfl
open Go.Ev.Pl
theorem Nr{m:ak}{n:Node}(h2:(oS m n).2.2.2=0)(h3:(oS m n).2.2.1=true):aS m n=0∧gb n=true∧n.2.2.1.2.1=n.1∧(¬(dd n).2=2∧¬(dd n).2=3∧¬(dd n).2=4)∧oS m n=yN m (iJ n (dd n).1):=by
 by_cases h:aS m n=0
 ·cases hi:gb n&&decide (n.2.2.1.2.1=n.1)
  ·have e:oS m n=(dM,ng,false,181):=by rw[oS,decide_eq_true h,hi];rfl
   rw[e] at h3;cases h3
  ·have e:oS m n=mR m n:=by rw[oS,decide_eq_true h,hi];rfl
   rw[Bool.and_eq_true,decide_eq_true_eq] at hi
   rw[e,mR] at h3 ⊢
   by_cases k2:(dd n).2=2
   ·rw[decide_eq_true k2] at h3;cases h3
   by_cases k3:(dd n).2=3
   ·rw[decide_eq_false k2,decide_eq_true k3] at h3;cases h3
   by_cases k4:(dd n).2=4
   ·rw[decide_eq_false k2,decide_eq_false k3,decide_eq_true k4] at h3;cases h3
   rw[decide_eq_false k2,decide_eq_false k3,decide_eq_false k4]
   exact⟨h,hi.1,hi.2,⟨k2,k3,k4⟩,rfl⟩
 ·have e:oS m n=(dM,ng,false,aS m n):=by rw[oS,decide_eq_false h];rfl
  rw[e] at h3;cases h3
theorem E7{v:gh}(h:gS v=0)(hv:¬(fw v).2.1=2):ic (fw v).1.2.2.1 v.1=true:=by
 have hr:=uI h
 obtain⟨a,b,c,d,e,f,g⟩:=v
 obtain⟨c',d',e',f',g',w,e1,_,_,e4⟩:=Bu (eF.1 h)
 rw[e1] at hr hv ⊢
 exact e4 (hr.resolve_right hv)
theorem M1{n:Node}(h:gS n.2.2.2.1=0)(hv:¬(dd n).2=2∧¬(dd n).2=3∧¬(dd n).2=4):ic (dd n).1.2.2.1 n.2.2.2.1.1=true:=by
 rw[dd] at hv ⊢
 cases k:decide (n.2.1=2)&&(decide (n.2.2.2.1.2.2.2.1<2)||decide (n.2.2.2.1.2.2.2.1≤n.2.2.2.1.2.2.2.2.1))
 ·rw[k,cond_false] at hv
  rw[cond_false]
  cases k3:decide (n.2.1=3)
  ·rw[k3,cond_false] at hv
   exact E7 h hv.1
  ·rw[k3,cond_true] at hv
   rw[cond_true]
   have e:ib n.2.2.2.1=fw n.2.2.2.1:=by
    have hv:=hv.2.1
    generalize n.2.2.2.1=V at h hv ⊢
    obtain⟨a,b,c,d,e,f,g⟩:=V
    simp only[ib,t27,LT.val,ap,Ni,h] at hv ⊢
    cases k1:aj.c .eql d 0
    ·rfl
    cases k2:aj.c .eql e 0
    ·rfl
    ·rw[k1,k2] at hv;exact absurd rfl hv
   rw[e] at hv ⊢
   exact E7 h hv.1
 ·rw[k] at hv;exact absurd rfl hv.2.2
def E3(y:Node)(c:dq):Node:=(y.1,y.2.1,c,(y.2.2.2.1.1,y.2.2.2.1.2.1,c.2.2.2.2,y.2.2.2.1.2.2.2),y.2.2.2.2)
theorem FE{m:ak}{y:Node}{c:dq}(h:aS m y=0)(hi:gb y=true)(hs:y.2.2.2.1.2.2.2.2.2.1=0)(hf:dp m c=true):gS (E3 y c).2.2.2.1=0:=by
 have hc:=dN h hi
 have hr:=(iZ (gM hf).1).2.2.2.2.2
 have hn:=hc.2.2.2.1
 show gS (y.2.2.2.1.1,y.2.2.2.1.2.1,c.2.2.2.2,y.2.2.2.1.2.2.2)=0
 have h35:=hc.2.1
 generalize y.2.2.2.1=V at hs hn h35 ⊢
 obtain⟨a,b,s,d,e,f,g⟩:=V
 have hs:f=0:=hs
 have hn:b=m.1:=hn
 subst hs hn
 have hm:=eF.1 h35
 refine eF.2 ?_
 unfold gP at hm ⊢
 have:((2^m.1.toNat:Nat):Int)=2^m.1.toNat:=by norm_cast
 have hlt:c.2.2.2.2<((2^m.1.toNat:Nat):Int):=by rw[this];exact Int.lt_of_le_sub_one hr.2
 exact⟨hm.1,hm.2.1,hm.2.2.1,hm.2.2.2.1,hm.2.2.2.2.1,hm.2.2.2.2.2.1,hr.1,hlt,hm.2.2.2.2.2.2.2.2.1,hm.2.2.2.2.2.2.2.2.2.1,hm.2.2.2.2.2.2.2.2.2.2.1,hm.2.2.2.2.2.2.2.2.2.2.2.1,hm.2.2.2.2.2.2.2.2.2.2.2.2.1,hm.2.2.2.2.2.2.2.2.2.2.2.2.2.1,fun k=>absurd rfl k,fun k=>by omega⟩
theorem QY{m:ak}{y:Node}{c:dq}(h:aS m y=0)(hi:gb y=true)(hs:y.2.2.2.1.2.2.2.2.2.1=0)(hf:dp m c=true):aS m (E3 y c)=0:=by
 have hz:=bF.1 (aP h).2
 have hc:=dN h hi
 have hv:=FE h hi hs hf
 refine r9 (aP h).1 (bF.2 ⟨hz.1,hz.2.1,hz.2.2.1,hz.2.2.2.1,hz.2.2.2.2.1,hz.2.2.2.2.2.1,hz.2.2.2.2.2.2.1,?_,hz.2.2.2.2.2.2.2.2⟩)
 rw[mX,show gb (E3 y c)=true from hi,cond_true]
 show(dp m c&&(decide (gS (E3 y c).2.2.2.1=0)&&(decide (y.2.2.2.1.1=y.1)&&(decide (y.2.2.2.1.2.1=m.1)&&decide (c.2.2.2.2=c.2.2.2.2)))))=true
 rw[hf,decide_eq_true hv,decide_eq_true hc.2.2.1,decide_eq_true hc.2.2.2.1,decide_eq_true rfl];rfl
theorem Xl{x:Node}:(od x).2.2.1=x.2.2.1:=by
 rw[od];cases decide (x.2.1=4) && !(Br x.2.2.2.1)<;>rfl
theorem Qk{m:ak}{y:Node}{f:gT}{w:Int}(h:aS m y=0)(hi:gb y=true)(hs:y.2.2.2.1.2.2.2.2.2.1=0)(hf:dp m f.2.2.1=true)(h1:eX f=true)(h2:bp f.2.2.2.2)(h3:¬f.1=1)(h4:¬f.2.2.1.2.1=y.1)(h5:gl f.2.2.1.2.2.2.2 f.2.2.1.2.1=f.2.2.1.2.2.2.2)(h6:kh m f.2.2.1 f=true) :
  ∃z:Node,nR m (E3 y f.2.2.1) [(0,0,(0,([]:List Int))),(2,w,bS (fo f))]=(z,(3,0,1,f,w),0)∧z.2.2.1=eY m f.2.2.1 f.2.1:=by
 have hn:=QY h hi hs hf
 have hv:=FE h hi hs hf
 have hc:=dN h hi
 have hk:=iZ (gM hf).1
 have hp:0≤f.2.2.1.2.1∧f.2.2.1.2.1<y.2.2.2.1.2.1:=by rw[hc.2.2.2.1];omega
 have hne:¬f.2.2.1.2.1=y.2.2.2.1.1:=by rw[hc.2.2.1];exact h4
 have hch:gm (f.2.2.1,y.2.2.2.1.2.1)=0:=by rw[hc.2.2.2.1];exact(gM hf).1
 have es:ot (E3 y f.2.2.1) [(0,0,(0,([]:List Int))),(2,w,bS (fo f))]=((3,0,1,f,w),0):=KX (v:=(E3 y f.2.2.1).2.2.2.1) h1 h2 h3 hv hch hs hp hne h5
 have el:mj m (E3 y f.2.2.1) (3,0,1,f,w)=(3,0,1,f,w):=qU h6
 refine⟨ul m (E3 y f.2.2.1) (3,0,1,f,w),?_,?_⟩
 ·rw[nR,decide_eq_true hn,show gb (E3 y f.2.2.1)=true from hi,decide_eq_true (show ¬(E3 y f.2.2.1).2.2.1.2.1=(E3 y f.2.2.1).1 from h4),es,el];rfl
 ·rw[ul,Xl]
  have ea:(Bg (E3 y f.2.2.1) (3,0,1,f,w)).2.2.1=f.2.2.1.2.2.2.2:=by
   rw[Bg,EP rfl]
   show(lz ((y.2.2.2.1.1,y.2.2.2.1.2.1,f.2.2.1.2.2.2.2,y.2.2.2.1.2.2.2),f.2.2.1.2.1,(0:Int))).1.2.2.1=_
   have hv:gS (y.2.2.2.1.1,y.2.2.2.1.2.1,f.2.2.1.2.2.2.2,y.2.2.2.1.2.2.2)=0:=hv
   generalize y.2.2.2.1=V at hs hv hp hne ⊢
   obtain⟨a,b,s,d,e,st,g⟩:=V
   have hs:st=0:=hs
   subst hs
   rw[D1 (eF.1 hv) hp.1 hp.2 hne]
   exact h5
  show eY m (f.2.2.1.1,f.2.2.1.2.1,f.2.2.1.2.2.1,f.2.2.1.2.2.2.1,(Bg (E3 y f.2.2.1) (3,0,1,f,w)).2.2.1) f.2.1=_
  rw[ea]
end Go.Ev.M
