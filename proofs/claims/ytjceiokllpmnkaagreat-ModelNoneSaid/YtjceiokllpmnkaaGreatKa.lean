/-
  PROVED: what Join and Seal compute, in the program and in the document. Conditions: none.
-/
import Derived.Test.YtjceiokllpmnkaaGreatFb
namespace Go.Ev.M
open Go.Proofs
set_option maxRecDepth 100000
set_option linter.unusedVariables false
set_option linter.unusedSimpArgs false
open Go.Ev.Pl
structure FQ where
 (a0 a2:List (Int×List Int)) (a3 a5:Int)
structure zT where
 (b1:List (Int×List Int)) (b2 b4 b5:Int)
structure EY where
 (c0 c1 c2 c4:Int) (c5:List (Int×List Int)) (c6 c7 c8 c9:Int) (c10:List Int) (c11 c12 c13:Int) (c14:List Int)
inductive zn where
 | c0 (p:FQ) (a1:Int) (a4:Int)
 | c1 (p:zT) (b0:Int) (b3:Int) (b6:List Int)
 | c2 (p:EY) (c3:Int) (iQ:List Int)
noncomputable def KR:zn→ei
 | .c0 p a1 a4=>⟨[⟨298,53,(en [(0,.sl (.struct [yI,yB]) p.a0),(2,.ptr 0 0),(4,vi a1),(12,.sl (.struct [yI,yB]) p.a2),(13,vi p.a3),(14,vi a4)]),[.inLoop (cw Tryz.f298 [1,1,0,1,0,0]),.inBlock 0,.code (cw Tryz.f298 [1,1,1])],[],none⟩],[.flat false [vi p.a5,.bd true],.dead]⟩
 | .c1 p b0 b3 b6=>⟨[⟨298,53,(en [(2,.ptr 0 0),(8,.ptr 1 0),(9,vi b0),(35,.sl (.struct [yI,yB]) p.b1),(36,vi p.b2),(37,vi b3)]),[.inLoop (cw Tryz.f298 [1,1,1,1,1,1,0,1,0,0]),.inBlock 2,.code (cw Tryz.f298 [1,1,1,1,1,1,1])],[],none⟩],[.flat false [vi p.b4,.bd true],.flat false [vi p.b5,.own 2],.arr false yU b6,.dead]⟩
 | .c2 p c3 iQ=>⟨[⟨325,52,(en [(1,vi p.c0),(3,vi p.c1),(4,vi p.c2),(5,.ptr 0 0),(7,.ptr 1 0),(10,vi c3)]),[.inLoop (cw Tryz.f325 [1,1,1,0,0]),.inBlock 0],[],none⟩,⟨298,53,(en [(2,.ptr 2 0),(8,.ptr 3 0),(9,vi p.c4),(11,.ptr 4 0),(35,.sl (.struct [yI,yB]) p.c5),(36,vi p.c6),(37,vi p.c7)]),[.ops (ow Tryz.f298 [1,1,1,1,1,1,0,1,0,0,1,1,0,0,1,0]) ((ow Tryz.f298 [1,1,1,1,1,1,0,1,0,0,1,1,0,0,1,0]).toList.drop 5),.code (cw Tryz.f298 [1,1,1,1,1,1,0,1,0,0,1,1,0,0,1,1]),.inBlock 3,.code (cw Tryz.f298 [1,1,1,1,1,1,0,1,0,0,1,1,1]),.inLoop (cw Tryz.f298 [1,1,1,1,1,1,0,1,0,0]),.inBlock 2,.code (cw Tryz.f298 [1,1,1,1,1,1,1])],[],none⟩],[.flat false [vi p.c8,.own 5],.flat false [vi p.c9,.sl yU p.c10],.flat false [vi p.c11,.bd true],.flat false [vi p.c12,.own 5],.flat false [vi p.c13,.sl yU p.c14],.arr false yU iQ,.dead]⟩
def Ql(A:bK)(l:List (Int×List Int)):LT ((Int×List Int)×Int) zn:=.more (.c0 ⟨l,l,(A.l l),0⟩ 0 0)
def ot(A:bK):zn→LT ((Int×List Int)×Int) zn
 | .c0 p a1 a4=>.br (A.c .lss a4 p.a3) (.need (A.and (A.c .leq 0 a4) (A.c .lss a4 (A.l p.a2))) (.need (A.k (@tt ((Int×List Int))) (A.n (.struct [yI,yB]) p.a2 a4:Int×List Int)) (.br (A.c .neq (A.k gZ (A.n (.struct [yI,yB]) p.a2 a4:Int×List Int)) 0) (.ret ((0,([]:List Int)),(A.k gZ (A.n (.struct [yI,yB]) p.a2 a4:Int×List Int)))) (.more (.c0 p (A.mn (A.b .add .i64 a1 (A.n (.struct [yI,yB]) p.a2 a4:Int×List Int).1) 4097) (A.b .add .i64 a4 1)))))) (.br (A.c .gtr a1 4096) (.ret ((0,([]:List Int)),3)) (.need (A.k (@tt Int) a1) (.need (A.and (A.c .eql (A.k bZ a1) (A.k bZ a1)) (A.and (A.c .leq 0 (A.k bZ a1)) (A.c .leq (A.k bZ a1) 140737488355328))) (.more (.c1 ⟨p.a0,(A.l p.a0),p.a5,a1⟩ 0 0 (A.r (A.k bZ a1) (0:Int)))))))
 | .c1 p b0 b3 b6=>.br (A.c .lss b3 p.b2) (.need (A.and (A.c .leq 0 b3) (A.c .lss b3 (A.l p.b1))) (.br (A.c .eql (A.b .rem .i64 b0 8) 0) (.br (A.c .eql (A.n (.struct [yI,yB]) p.b1 b3:Int×List Int).1 (A.n (.struct [yI,yB]) p.b1 b3:Int×List Int).1) (.need (A.and (A.c .leq 0 (A.b .quo .i64 b0 8)) (A.and (A.c .leq (A.b .quo .i64 b0 8) (A.l b6)) (A.c .leq (A.l b6) (A.l b6)))) (.need (A.and (A.c .leq 0 0) (A.and (A.c .leq 0 (A.l (A.n (.struct [yI,yB]) p.b1 b3:Int×List Int).2)) (A.c .leq (A.l (A.n (.struct [yI,yB]) p.b1 b3:Int×List Int).2) (A.l (A.n (.struct [yI,yB]) p.b1 b3:Int×List Int).2)))) (.more (.c1 p (A.b .add .i64 b0 (A.n (.struct [yI,yB]) p.b1 b3:Int×List Int).1) (A.b .add .i64 b3 1) (A.spl b6 (A.b .quo .i64 b0 8) (A.s (A.s (A.n (.struct [yI,yB]) p.b1 b3:Int×List Int).2 0 (A.l (A.n (.struct [yI,yB]) p.b1 b3:Int×List Int).2)) 0 (A.mn (A.l (A.s (A.n (.struct [yI,yB]) p.b1 b3:Int×List Int).2 0 (A.l (A.n (.struct [yI,yB]) p.b1 b3:Int×List Int).2))) (A.b .sub .i64 (A.l b6) (A.b .quo .i64 b0 8))))))))) (.more (.c2 ⟨b0,0,(A.n (.struct [yI,yB]) p.b1 b3:Int×List Int).1,b0,p.b1,p.b2,b3,p.b5,(A.n (.struct [yI,yB]) p.b1 b3:Int×List Int).1,(A.n (.struct [yI,yB]) p.b1 b3:Int×List Int).2,p.b4,p.b5,(A.n (.struct [yI,yB]) p.b1 b3:Int×List Int).1,(A.n (.struct [yI,yB]) p.b1 b3:Int×List Int).2⟩ 0 b6))) (.more (.c2 ⟨b0,0,(A.n (.struct [yI,yB]) p.b1 b3:Int×List Int).1,b0,p.b1,p.b2,b3,p.b5,(A.n (.struct [yI,yB]) p.b1 b3:Int×List Int).1,(A.n (.struct [yI,yB]) p.b1 b3:Int×List Int).2,p.b4,p.b5,(A.n (.struct [yI,yB]) p.b1 b3:Int×List Int).1,(A.n (.struct [yI,yB]) p.b1 b3:Int×List Int).2⟩ 0 b6)))) (.ret ((p.b5,b6),0))
 | .c2 p c3 iQ=>.br (A.c .lss c3 p.c2) (.need (A.k l9 ((p.c9,p.c10),c3)) (.br (A.k oY ((p.c9,p.c10),c3)) (.need (A.and (A.c .leq 0 (A.b .quo .i64 (A.b .sub .i64 (A.b .add .i64 p.c0 c3) p.c1) 8)) (A.c .lss (A.b .quo .i64 (A.b .sub .i64 (A.b .add .i64 p.c0 c3) p.c1) 8) (A.l iQ))) (.need (A.k kX (A.b .sub .i64 (A.b .add .i64 p.c0 c3) p.c1)) (.need (A.and (A.c .leq 0 (A.b .quo .i64 (A.b .sub .i64 (A.b .add .i64 p.c0 c3) p.c1) 8)) (A.c .lss (A.b .quo .i64 (A.b .sub .i64 (A.b .add .i64 p.c0 c3) p.c1) 8) (A.l iQ))) (.more (.c2 p (A.b .add .i64 c3 1) (A.set iQ (A.b .quo .i64 (A.b .sub .i64 (A.b .add .i64 p.c0 c3) p.c1) 8) (A.b .or .u8 (A.n yU iQ (A.b .quo .i64 (A.b .sub .i64 (A.b .add .i64 p.c0 c3) p.c1) 8):Int) (A.k qL (A.b .sub .i64 (A.b .add .i64 p.c0 c3) p.c1))))))))) (.more (.c2 p (A.b .add .i64 c3 1) iQ)))) (.more (.c1 ⟨p.c5,p.c6,p.c11,p.c12⟩ (A.b .add .i64 p.c4 p.c13) (A.b .add .i64 p.c7 1) iQ))
theorem EX(l m:List Bool)(i:Nat):(l++m).getD i false=if i<l.length then l.getD i false else m.getD (i-l.length) false:=by
 rw[List.getD_eq_getElem?_getD,List.getD_eq_getElem?_getD,List.getD_eq_getElem?_getD,List.getElem?_append]
 split<;>rfl
theorem zI{B b:List Int}{L:List Bool}{n m q:Nat}(h:Holds B L m)(hL:L.length=8*q)(hb:okB n b)(hm:q+b.length≤m):Holds (B.take q++b++B.drop (q+b.length)) (L++unpack n b) m:=by
 have hB:=h.1
 have hn:=hb.1
 refine⟨?_,fun x hx=>?_,fun i hi=>?_⟩
 ·rw[List.length_append,List.length_append,List.length_take,List.length_drop];omega
 ·rcases List.mem_append.1 hx with h2|h2
  ·rcases List.mem_append.1 h2 with h3|h3
   ·exact h.2.1 x (List.mem_of_mem_take h3)
   ·exact hb.2.1 x h3
  ·exact h.2.1 x (List.mem_of_mem_drop h2)
 ·have htl:(B.take q).length=q:=by rw[List.length_take];omega
  rw[EX,hL,iA]
  by_cases h1:i/8<q
  ·have e:dU (B.take q++b++B.drop (q+b.length)) i=dU B i:=by
    rw[dU,dU,List.getD_eq_getElem?_getD,List.getD_eq_getElem?_getD,List.append_assoc,List.getElem?_append_left (by omega),List.getElem?_take_of_lt h1]
   rw[e,if_pos (by omega)]
   exact h.2.2 i hi
  ·rw[if_neg (by omega)]
   by_cases h2:i/8<q+b.length
   ·have e:dU (B.take q++b++B.drop (q+b.length)) i=dU b (i-8*q):=by
     rw[dU,dU,List.getD_eq_getElem?_getD,List.getD_eq_getElem?_getD,List.append_assoc,List.getElem?_append_right (by omega),htl,List.getElem?_append_left (by omega),show(i-8*q)/8=i/8-q from by omega,show(i-8*q)%8=i%8 from by omega]
    rw[e]
    by_cases h3:i-8*q<n
    ·rw[show decide (i-8*q<n)=true from by simpa using h3,Bool.true_and]
    ·rw[show decide (i-8*q<n)=false from by simpa using h3,Bool.false_and]
     exact hb.2.2 _ (by omega) (by omega)
   ·have e:dU (B.take q++b++B.drop (q+b.length)) i=dU B i:=by
     rw[dU,dU,List.getD_eq_getElem?_getD,List.getD_eq_getElem?_getD,List.getElem?_append_right (by rw[List.length_append];omega),List.length_append,htl,List.getElem?_drop,show q+b.length+(i/8-(q+b.length))=i/8 from by omega]
    rw[e,h.2.2 i hi,show decide (i-8*q<n)=false from by simp[-List.length_flatMap];omega,Bool.false_and,List.getD_eq_getElem?_getD,List.getElem?_eq_none (by omega)];rfl
theorem H8{l:List (Int×List Int)}(i:Nat):((l.take i).flatMap bi).length≤(l.flatMap bi).length:=by
 conv=>rhs;rw[←List.take_append_drop i l,List.flatMap_append,List.length_append]
 omega
theorem Hq{l:List (Int×List Int)}{i n m:Nat}{b:List Int}(hi:i<l.length)(hll:l.length≤140737488355328)(hx:l[i]=((n:Int),b))(hb:okB n b)(hn:n≤4096)(hm:((l.take (i+1)).flatMap bi).length≤8*m)(hm2:m≤5000){R:(Int×List Int)×Int}
  (hnext:∀(p:zT) (B:List Int),p.b1=l→p.b2=(l.length:Int)→p.b5=((l.flatMap bi).length:Int)→Holds B ((l.take (i+1)).flatMap bi) m→aK (ot ai) (.more (.c1 p ((((l.take (i+1)).flatMap bi).length:Nat):Int) ((i+1:Nat):Int) B)) R) :
  ∀(j k:Nat) (p:EY) (B:List Int),p.c0=((((l.take i).flatMap bi).length:Nat):Int)→p.c1=0→p.c2=(n:Int)→p.c4=((((l.take i).flatMap bi).length:Nat):Int)→p.c5=l→p.c6=(l.length:Int)→p.c7=(i:Int)→p.c10=b→p.c12=((l.flatMap bi).length:Int)→p.c13=(n:Int)→n-k=j→k≤n→Holds B ((l.take i).flatMap bi++unpack k b) m→aK (ot ai) (.more (.c2 p (k:Int) B)) R:=by
 have hb0:=hb.1
 have htf:=mO hi
 have hL:bi l[i]=unpack n b:=by rw[hx,bi];rfl
 rw[hL] at htf
 intro j
 induction j with
 | zero=>
   intro k p B h0 h1 h2 h4 h5 h6 h7 h10 h12 h13 hj hk hB
   have:k=n:=by omega
   subst this
   simp only[ap,ot]
   refine(aj (by rw[h2,aT];simp)).2 ?_
   rw[←htf] at hB
   have e1:ai.b .add .i64 p.c4 p.c13=((((l.take (i+1)).flatMap bi).length:Nat):Int):=by
    rw[h4,h13,dV (by rw[htf,List.length_append] at hm;omega),htf,List.length_append,aW]
   have e2:ai.b .add .i64 p.c7 1=((i+1:Nat):Int):=by rw[h7,fe (by omega)]
   rw[e1,e2]
   exact hnext _ B h5 h6 h12 hB
 | succ j ih=>
   intro k p B h0 h1 h2 h4 h5 h6 h7 h10 h12 h13 hj hk hB
   have hm':=hm
   rw[htf,List.length_append,aW] at hm'
   simp only[ap,ot]
   have hat:ai.b .sub .i64 (ai.b .add .i64 p.c0 (k:Int)) p.c1=(((((l.take i).flatMap bi).length+k:Nat)):Int):=by
    rw[h0,h1,dV (by omega),show ai.b .sub .i64 ((((l.take i).flatMap bi).length+k:Nat):Int) 0=((((l.take i).flatMap bi).length+k-0:Nat):Int) from iX (j:=0) (by omega) (by omega)];rfl
   have hlen:((l.take i).flatMap bi++unpack k b).length=((l.take i).flatMap bi).length+k:=by rw[List.length_append,aW]
   refine(ak (by rw[h2,aT];simp[-List.length_flatMap];omega)).2 (af.2 ⟨by rw[h10,al];simp[l9];omega,?_⟩)
   have hc:ai.k oY ((p.c9,p.c10),(k:Int))=dU b k:=by
    rw[h10,al,sL hb.2.1 (by omega) (by omega) (by omega),Int.toNat_natCast]
   rw[hat]
   have hs:=y5 k b
   cases hbit:dU b k
   ·rw[hbit] at hs
    refine(aj (hc.trans hbit)).2 ?_
    refine bD (congrArg LT.more (congr (congrArg (zn.c2 p) (fe (by omega))) rfl)) (ih (k+1) p B h0 h1 h2 h4 h5 h6 h7 h10 h12 h13 (by omega) (by omega) ?_)
    rw[hs,←List.append_assoc]
    exact hB.skip
   ·rw[hbit] at hs
    refine(ak (hc.trans hbit)).2 (af.2 ⟨ky hB.1 (by omega) (by omega),af.2 ⟨pK,af.2 ⟨ky hB.1 (by omega) (by omega),?_⟩⟩⟩)
    refine bD (congrArg LT.more (congr (congrArg (zn.c2 p) (fe (by omega))) rfl)) (ih (k+1) p _ h0 h1 h2 h4 h5 h6 h7 h10 h12 h13 (by omega) (by omega) ?_)
    rw[hs,←List.append_assoc]
    exact tK hB hlen (by omega) (by omega)
theorem Ga{l:List (Int×List Int)}(hll:l.length≤140737488355328)(hby:∀x∈l,cn x.2)(hok:∀x∈l,bS x=true)(hT:(l.flatMap bi).length≤4096):∀(j i:Nat) (p:zT) (B:List Int),p.b1=l→p.b2=(l.length:Int)→p.b5=((l.flatMap bi).length:Int)→l.length-i=j→i≤l.length→Holds B ((l.take i).flatMap bi) (((l.flatMap bi).length+7)/8)→aK (ot ai) (.more (.c1 p ((((l.take i).flatMap bi).length:Nat):Int) (i:Int) B)) (bM (l.flatMap bi),0):=by
 intro j
 induction j with
 | zero=>
   intro i p B h1 h2 h5 hj hi hB
   have:i=l.length:=by omega
   subst this
   rw[List.take_length] at hB ⊢
   simp only[ap,ot]
   refine(aj (by rw[h2,aT];simp)).2 ?_
   rw[h5,hB.done rfl]
   exact .ret _
 | succ j ih=>
   intro i p B h1 h2 h5 hj hi hB
   have hi':i<l.length:=by omega
   have hmem:=List.getElem_mem hi'
   have hxo:=hok _ hmem
   obtain⟨n0,b,hx⟩:∃n0 b,l[i]=(n0,b):=⟨_,_,rfl⟩
   have hby':=hby _ hmem
   rw[hx] at hxo hby'
   obtain⟨h3,h4,hb⟩:=(gN hby').1 hxo
   obtain⟨n,rfl⟩:=Int.eq_ofNat_of_zero_le h3
   have hb:okB n b:=hb
   have hb0:b.length=(n+7)/8:=hb.1
   have htf:=mO hi'
   have hL:bi l[i]=unpack n b:=by rw[hx,bi];rfl
   rw[hL] at htf
   have hle:=H8 (l:=l) (i+1)
   have hle':=hle
   rw[htf,List.length_append,aW] at hle'
   have hn1:(ai.n (.struct [(.int .i64),(.slice (.int .u8))]) p.b1 (i:Int):Int×List Int)=((n:Int),b):=by rw[h1,sN hi',hx]
   simp only[ap,ot]
   refine(ak (by rw[h2,aT];simp[-List.length_flatMap];omega)).2 (af.2 ⟨by rw[h1];exact cB hi',?_⟩)
   rw[hn1]
   dsimp only
   have hmore:aK (ot ai) (.more (.c2 ⟨((((l.take i).flatMap bi).length:Nat):Int),0,(n:Int),((((l.take i).flatMap bi).length:Nat):Int),p.b1,p.b2,(i:Int),p.b5,(n:Int),b,p.b4,p.b5,(n:Int),b⟩ 0 B)) (bM (l.flatMap bi),0):=by
    refine Hq hi' hll hx hb (by omega) (m:=((l.flatMap bi).length+7)/8) (by omega) (by omega) (fun p' B' g1 g2 g3 g4=>ih (i+1) p' B' g1 g2 g3 (by omega) (by omega) g4) n 0 _ B rfl rfl rfl rfl h1 h2 rfl rfl h5 rfl (by omega) (by omega) ?_
    rw[show unpack 0 b=[] from rfl,List.append_nil]
    exact hB
   by_cases h8:((l.take i).flatMap bi).length%8=0
   ·refine(ak (ng (by rw[ry,h8];rfl))).2 ((ak (ng rfl)).2 ?_)
    have hlB:ai.l B=((((l.flatMap bi).length+7)/8:Nat):Int):=by rw[←hB.1];rfl
    have hlb:ai.l b=(b.length:Int):=rfl
    refine af.2 ⟨by rw[kQ (by omega),hlB,iD,f_,f_,aM,aM];simp[-List.length_flatMap];omega,af.2 ⟨by show ai.and (ai.c .leq 0 0) (ai.and (ai.c .leq 0 (b.length:Int)) (ai.c .leq (b.length:Int) (b.length:Int)))=true;rw[iD,f_,aM,aM];simp[ay],?_⟩⟩
    have e0:ai.s b 0 (ai.l b)=b:=AO (i:=0)
    have e1:ai.mn (ai.l b) (ai.b .sub .i64 (ai.l B) (ai.b .quo .i64 ((((l.take i).flatMap bi).length:Nat):Int) 8))=(b.length:Int):=by
     rw[hlB,kQ (by omega),iX (by omega) (by omega),hlb,nC,if_neg (by omega)]
    have e2:ai.s b 0 (b.length:Int)=b:=e0
    have e3:ai.spl B (ai.b .quo .i64 ((((l.take i).flatMap bi).length:Nat):Int) 8) b=B.take (((l.take i).flatMap bi).length/8)++b++B.drop (((l.take i).flatMap bi).length/8+b.length):=by
     rw[kQ (by omega),kS,Int.toNat_natCast]
    have hnew:=zI hB (q:=((l.take i).flatMap bi).length/8) (by omega) hb (by omega)
    rw[←htf,←e3] at hnew
    have e4:ai.b .add .i64 ((((l.take i).flatMap bi).length:Nat):Int) (n:Int)=((((l.take (i+1)).flatMap bi).length:Nat):Int):=by
     rw[dV (by omega),htf,List.length_append,aW]
    have fin:aK (ot ai) (.more (.c1 p (ai.b .add .i64 ((((l.take i).flatMap bi).length:Nat):Int) (n:Int)) (ai.b .add .i64 (i:Int) 1) (ai.spl B (ai.b .quo .i64 ((((l.take i).flatMap bi).length:Nat):Int) 8) (ai.s (ai.s b 0 (ai.l b)) 0 (ai.mn (ai.l (ai.s b 0 (ai.l b))) (ai.b .sub .i64 (ai.l B) (ai.b .quo .i64 ((((l.take i).flatMap bi).length:Nat):Int) 8))))))) (bM (l.flatMap bi),0):=by
     rw[e0,e1,e2,e4,fe (by omega)]
     exact ih (i+1) p _ h1 h2 h5 (by omega) (by omega) hnew
    exact fin
   ·exact(aj (AS (by rw[ry];omega))).2 hmore
theorem Ho{l:List (Int×List Int)}(hll:l.length≤140737488355328)(hby:∀x∈l,cn x.2∧x.2.length≤140737488355328):∀(j i:Nat) (p:FQ) (t:Int),p.a0=l→p.a2=l→p.a3=(l.length:Int)→t=((min ((l.take i).flatMap bi).length 4097:Nat):Int)→l.length-i=j→i≤l.length→(∀x∈l.take i,bS x=true)→aK (ot ai) (.more (.c0 p t (i:Int))) (vg l):=by
 intro j
 induction j with
 | zero=>
   intro i p t h0 h2 h3 ht hj hi hok
   have:i=l.length:=by omega
   subst this
   rw[List.take_length] at hok ht
   simp only[ap,ot]
   refine(aj (by rw[h3,aT];simp)).2 ?_
   rw[vg,List.all_eq_true.2 hok,cond_true]
   by_cases h4:4096<(l.flatMap bi).length
   ·refine(ak (by rw[aL,ht];simp[-List.length_flatMap];omega)).2 ?_
    rw[Fe h4]
    exact .ret _
   ·refine(aj (by rw[aL,ht];simp[-List.length_flatMap];omega)).2 ?_
    have ht':t=(((l.flatMap bi).length:Nat):Int):=by omega
    have hneed:ai.k bZ t=((((l.flatMap bi).length+7)/8:Nat):Int):=by rw[al,ht',kp (by omega) (by omega),Int.toNat_natCast]
    refine af.2 ⟨rfl,af.2 ⟨by rw[hneed,iD,ng rfl,ay,aM,aM];simp[-List.length_flatMap];omega,?_⟩⟩
    rw[mD (by omega),hneed,kV,Int.toNat_natCast]
    exact Ga hll (fun x hx=>(hby x hx).1) hok (by omega) l.length 0 _ _ h0 (by show ai.l p.a0=_;rw[h0];rfl) ht' (by omega) (by omega) (Holds.blank _)
 | succ j ih=>
   intro i p t h0 h2 h3 ht hj hi hok
   have hi':i<l.length:=by omega
   have hmem:=List.getElem_mem hi'
   simp only[ap,ot]
   refine(ak (by rw[h3,aT];simp[-List.length_flatMap];omega)).2 (af.2 ⟨by rw[h2];exact cB hi',af.2 ⟨rfl,?_⟩⟩)
   have hn1:(ai.n (.struct [(.int .i64),(.slice (.int .u8))]) p.a2 (i:Int):Int×List Int)=l[i]:=by rw[h2,sN hi']
   rw[hn1]
   have hc:ai.k gZ l[i]=bif bS l[i] then 0 else 10:=by
    obtain⟨n0,b,hx⟩:∃n0 b,l[i]=(n0,b):=⟨_,_,rfl⟩
    have:=hby _ hmem
    rw[hx] at this ⊢
    exact i6 this.1 this.2
   rw[hc]
   cases hx:bS l[i]
   ·refine(ak rfl).2 ?_
    rw[vg,show l.all bS=false from List.all_eq_false.2 ⟨l[i],hmem,by rw[hx];decide⟩]
    exact .ret _
   ·refine(aj rfl).2 ?_
    have hle:=J_ hx
    have hN:l[i].1=(((bi l[i]).length:Nat):Int):=by
     rw[fB]
     simp only[bS,Bool.and_eq_true,decide_eq_true_eq] at hx
     omega
    refine bD (congrArg LT.more (congr (congrArg (zn.c0 p) rfl) (fe (by omega)))) (ih (i+1) p _ h0 h2 h3 ?_ (by omega) (by omega) ?_)
    ·rw[hN,ht,dV (by omega),nC,mO hi',List.length_append]
     by_cases h9:(4097:Int)<((min ((l.take i).flatMap bi).length 4097+(bi l[i]).length:Nat):Int)
     ·rw[if_pos h9];omega
     ·rw[if_neg h9];omega
    ·intro x hx2
     rw[List.take_succ_eq_append_getElem hi'] at hx2
     rcases List.mem_append.1 hx2 with h4|h4
     ·exact hok x h4
     ·rw[List.mem_singleton.1 h4];exact hx
def aN:(List (Int×List Int))→((Int×List Int)×Int):=vg
def OJ:aG:=⟨[(.slice (.struct [yI,yB]))], [(.struct [yI,yB]),yI],(@tt (List (Int×List Int))),aN⟩
theorem Pj:Sd 298 OJ:=aQ aA dY true 24 [⟨298,3, [[0,2,4,12,13,14]]⟩,⟨298,15, [[2,8,9,35,36,37]]⟩,⟨325,4, [[1,3,4,5,7,10], [2,8,9,11,35,36,37]]⟩] [] (fun A l=>Ql A l) ot KR (fc Tryz.func298 (fc Tryz.func322 (fc Tryz.func324 (fc Tryz.func325 fz)))) (sc yX (sc AZ (sc DC (sc AB sz)))) (fun A y=>match y with |.c0 p a1 a4=>⟨55,by kernel_rfl,by kernel_rfl⟩|.c1 p b0 b3 b6=>⟨82,by kernel_rfl,by kernel_rfl⟩|.c2 p c3 iQ=>⟨57,by kernel_rfl,by kernel_rfl⟩) fun(l:List (Int×List Int)) hp h=>by
 show aK (ot ai) (Ql ai l) (aN l)
 exact Ho (ol h).1 (ol h).2 l.length 0 _ 0 rfl rfl rfl rfl rfl (by omega) (by intro x hx;cases hx)
def KE(A:bK)(bN:Int)(bB:List Int)(unsentN:Int)(unsentB:List Int):LT ((Int×List Int)×Int) Empty:=.need (A.k (@tt (List (Int×List Int))) [(unsentN,unsentB),(bN,bB)]) (.br (A.c .neq (A.k gU [(unsentN,unsentB),(bN,bB)]).2 0) (.ret ((0,([]:List Int)),(A.k gU [(unsentN,unsentB),(bN,bB)]).2)) (.need (A.k (@tt ((Int×List Int)×Int×Int)) ((bN,bB),(A.v .u64 (A.k gU [(unsentN,unsentB),(bN,bB)]).1),24)) (.ret (A.k ah ((bN,bB),(A.v .u64 (A.k gU [(unsentN,unsentB),(bN,bB)]).1),24)))))
theorem Ik{n m:Int}{b u:List Int}(h:Ty.dM [(.struct [(.int .i64),(.slice (.int .u8))]),(.struct [(.int .i64),(.slice (.int .u8))])] ((n,b),(m,u))):aK Empty.elim (KE ai n b m u) (ya ((n,b),(m,u))):=by
 unfold KE
 have hs:ai.k gU [(m,u),(n,b)]=bif bS (m,u)&&bS (n,b) then(((over (over 0 (bi (m,u))) (bi (n,b)):Nat):Int),0) else(0,10):=by
  rw[al,gU,xX]
  show(bif (bS (m,u)&&(bS (n,b)&&true)) then(((over 0 (bi (m,u)++(bi (n,b) ++ [])):Nat):Int),(0:Int)) else(0,10))=_
  rw[Bool.and_true,List.append_nil,gz]
 refine af.2 ⟨rfl,?_⟩
 have hlt:=jS (jS (r:=0) (by decide) (bi (m,u))) (bi (n,b))
 rw[ya]
 cases hok:bS (m,u)&&bS (n,b)
 ·rw[hok,cond_false] at hs
  refine(ak (show((ai.k gU [(m,u),(n,b)]).2 != 0)=true by rw[hs];rfl)).2 ?_
  exact bD (congrArg LT.ret (show((0,([]:List Int)),(ai.k gU [(m,u),(n,b)]).2)=(zB,10) by rw[hs];rfl)) (.ret _)
 ·rw[hok,cond_true] at hs
  refine(aj (show((ai.k gU [(m,u),(n,b)]).2 != 0)=false by rw[hs];rfl)).2 (af.2 ⟨rfl,?_⟩)
  refine bD (congrArg LT.ret (show ai.k ah ((n,b),ai.v .u64 (ai.k gU [(m,u),(n,b)]).1,24)=CM (dW (over 0 (bi (m,u))) (bi (n,b))) from ?_)) (.ret _)
  rw[Bool.and_eq_true] at hok
  rw[hs,gD (by omega),al,ah,Cm,hok.2,xt (by omega),Int.toNat_natCast,Nat.div_eq_of_lt (by simp only[show(24:Int).toNat=24 from rfl];omega)]
  rfl
def aD:((Int×List Int)×(Int×List Int))→((Int×List Int)×Int):=ya
def O9:aG:=⟨[(.struct [yI,yB]),(.struct [yI,yB])], [(.struct [yI,yB]),yI],(@tt ((Int×List Int)×(Int×List Int))),aD⟩
theorem Ot:Sd 297 O9:=a_ aA dY true 44 [] (fun A ((bN,bB),unsentN,unsentB)=>KE A bN bB unsentN unsentB) (fc Tryz.func297 fz) (sc C9 (sc Jo sz)) fun((bN,bB),unsentN,unsentB) hp h=>Ik h
end Go.Ev.M
