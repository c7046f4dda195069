/-
  PROVED: the statements FrameAgree and FrameBack of their functions. Conditions: none.
-/
import Derived.Test.YteldjjjcdpnnbaaEa
namespace Go.Ev.M
open Go.Proofs
set_option maxRecDepth 100000
set_option linter.unusedVariables false
set_option linter.unusedSimpArgs false
open Go.Ev.Pl
theorem lI{k r t p m n s fr:Int}{d:List Int}(h:eB (k,r,(t,p,m,n,s),fr,d)=true):((aS (k,r,(t,p,m,n,s),fr,d)).length:Int)=Dn (k,(d.length:Int))∧(aS (k,r,(t,p,m,n,s),fr,d)).length≤143:=by
 obtain⟨_,_,hd,hk⟩:=fO.1 h
 have hb:=dP d
 have hs:=dy (t,p,m,n,s)
 rcases hk with ⟨rfl,_,h0,_⟩|⟨rfl,_⟩|⟨rfl,h0,_⟩|⟨rfl,_⟩
 ·have e:(aS (1,r,(t,p,m,n,s),fr,d)).length=40:=by
   show(aC 0 (bitsOf 0 2++(bitsOf fr.toNat 3++(bitsOf t.toNat 8++bitsOf 0 3)))).length=40
   simp only[bQ,List.length_append,ak]
  rw[e,h0];exact⟨rfl,by decide⟩
 ·have e:(aS (2,r,(t,p,m,n,s),fr,d)).length=29+8*d.length:=by
   show(aC (over 0 (aF (t,p,m,n,s))) (bitsOf 1 2++(bitsOf r.toNat 3++aB d))).length=_
   simp only[bQ,List.length_append,ak,hb];omega
  rw[e]
  refine⟨?_,by omega⟩
  have hh:0≤(d.length:Int)∧(d.length:Int)≤8:=by omega
  simp only[Dn,if_pos hh]
  rw[if_neg (by decide),if_pos trivial];omega
 ·have e:(aS (3,r,(t,p,m,n,s),fr,d)).length=54:=by
   show(aC 0 (bitsOf 2 2++(bitsOf r.toNat 3++(bitsOf 0 1++aF (t,p,m,n,s))))).length=54
   simp only[bQ,List.length_append,ak,hs]
  rw[e,h0];exact⟨rfl,by decide⟩
 ·have e:(aS (4,r,(t,p,m,n,s),fr,d)).length=79+8*d.length:=by
   show(aC (over 0 (aF (t,p,m,n,s))) (aC 0 (bitsOf 3 2++(bitsOf r.toNat 3++(bitsOf 0 2++aF (t,p,m,n,s))))++aB d)).length=_
   simp only[bQ,List.length_append,ak,hb,hs];omega
  rw[e]
  refine⟨?_,by omega⟩
  have hh:0≤(d.length:Int)∧(d.length:Int)≤8:=by omega
  simp only[Dn,if_pos hh]
  rw[if_neg (by decide),if_neg (by decide),if_neg (by decide),if_pos trivial];omega
theorem Cy{l:List Bool}{c:Int×Int×Int×Int×Int}(h:l.length≤4096):l7 (aU l,c)=bif !cO c then(bU,40) else gF l c:=by
 rw[l7,fC h,d_];rfl
theorem BN{k r t p m n s fr:Int}{d:List Int}(h:eB (k,r,(t,p,m,n,s),fr,d)=true)(hd:aT d)(c:Int×Int×Int×Int×Int) :
  (mQ (aU (aS (k,r,(t,p,m,n,s),fr,d)),c)).2=(!(k==1)&&(t,p,m,n,s)==c):=by
 have hlen:=(lI h).2
 have hown:=pO h hd
 have hst:=(fO.1 h).1
 rw[mQ]
 show(bif (l7 (aU (aS (k,r,(t,p,m,n,s),fr,d)),c)).2 != 0||(l7 (aU (aS (k,r,(t,p,m,n,s),fr,d)),c)).1.1==1||(l7 (aU (aS (k,r,(t,p,m,n,s),fr,d)),c)).1.2.2.1 != c then(bU,false) else((l7 (aU (aS (k,r,(t,p,m,n,s),fr,d)),c)).1,true)).2=_
 rw[Cy (by omega)]
 by_cases hc:(t,p,m,n,s)=c
 ·subst hc
  rw[hst,Bool.not_true,cond_false,hown]
  show(bif (((0:Int) != 0)||k==1||(t,p,m,n,s) != (t,p,m,n,s)) then(bU,false) else((k,r,(t,p,m,n,s),fr,d),true)).2=_
  rw[bne_self_eq_false,bne_self_eq_false,beq_self_eq_true]
  cases k==1<;>rfl
 ·rw[show((t,p,m,n,s)==c)=false from beq_eq_false_iff_ne.2 hc,Bool.and_false]
  cases hso:cO c
  ·rfl
  ·rw[Bool.not_true,cond_false]
   by_cases he:(gF (aS (k,r,(t,p,m,n,s),fr,d)) c).2=0
   ·obtain⟨g,hg⟩:∃g,gF (aS (k,r,(t,p,m,n,s),fr,d)) c=(g,0):=⟨_,Prod.ext rfl he⟩
    have:=yv hst hso hown hg
    subst this
    rw[hg]
    have hne:((t,p,m,n,s) != c)=true:=bne_iff_ne.2 hc
    show(bif (((0:Int) != 0)||k==1||(t,p,m,n,s) != c) then(bU,false) else((k,r,(t,p,m,n,s),fr,d),true)).2=_
    rw[hne,Bool.or_true];rfl
   ·rw[show((gF (aS (k,r,(t,p,m,n,s),fr,d)) c).2 != 0)=true from bne_iff_ne.2 he];rfl
end Go.Ev.M
