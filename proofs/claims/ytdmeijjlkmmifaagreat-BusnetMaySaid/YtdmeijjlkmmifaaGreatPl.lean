/-
  PROVED: plain laws of bits in bytes, of remainders, and of states and bF as truths. Conditions: none.
-/
set_option linter.unusedVariables false
set_option linter.unusedSimpArgs false
namespace Go.Ev.Pl
def byteOf(f:Nat->Bool):Nat:=(List.range 8).foldl (λa k=>2*a+(f k).toNat) 0
theorem JB(f:Nat->Bool):byteOf f=128*(f 0).toNat+64*(f 1).toNat+32*(f 2).toNat+16*(f 3).toNat+8*(f 4).toNat+4*(f 5).toNat+2*(f 6).toNat+(f 7).toNat:=by
 show 2*(2*(2*(2*(2*(2*(2*(2*0+(f 0).toNat)+(f 1).toNat)+(f 2).toNat)+(f 3).toNat)+(f 4).toNat)+(f 5).toNat)+(f 6).toNat)+(f 7).toNat=_;omega
theorem Pt:∀a b c d e f g h:Bool,∀k:Fin 8,(128*a.toNat+64*b.toNat+32*c.toNat+16*d.toNat+8*e.toNat+4*f.toNat+2*g.toNat+h.toNat).testBit (7-k.val)=[a,b,c,d,e,f,g,h].getD k.val false:=by decide +kernel
theorem Pv(f:Nat->Bool)(k:Nat)(a:k<8):(byteOf f).testBit (7-k)=f k:=by
 rw[JB,Pt _ _ _ _ _ _ _ _ ⟨k,a⟩];have:k=0\/k=1\/k=2\/k=3\/k=4\/k=5\/k=6\/k=7:=by omega
 rcases this with rfl|rfl|rfl|rfl|rfl|rfl|rfl|rfl<;>rfl
theorem Uz(f:Nat->Bool):byteOf f<256:=by
 rw[JB];have h:=λk=>Bool.toNat_le (f k);have:=h 0;have:=h 1;have:=h 2;have:=h 3;have:=h 4;have:=h 5;have:=h 6;have:=h 7;omega
def jo(l:List Int)(i:Nat):Bool:=(l.getD (i/8) 0).toNat.testBit (7-i%8)
def gz(l:List Int):Prop:=∀x∈l,0<=x/\x<=255
def pack(l:List Bool):List Int:=(List.range ((l.length+7)/8)).map λj=>((byteOf λk=>l.getD (8*j+k) false:Nat):Int)
theorem xM(l:List Bool):(pack l).length=(l.length+7)/8:=by simp[pack]
theorem LD(l:List Bool):gz (pack l):=by
 intro x a;simp only[pack,List.mem_map] at a;obtain⟨j,_,rfl⟩:=a;have:=Uz λk=>l.getD (8*j+k) false;omega
theorem Of(l:List Bool)(i:Nat)(b:i<8*((l.length+7)/8)):jo (pack l) i=l.getD i false:=by
 have a:i/8<(l.length+7)/8:=by omega
 have e:(pack l).getD (i/8) 0=((byteOf λk=>l.getD (8*(i/8)+k) false:Nat):Int):=by
  rw[List.getD_eq_getElem?_getD,pack,List.getElem?_map,List.getElem?_range a];rfl
 rw[jo,e,Int.toNat_natCast,Pv _ _ (Nat.mod_lt _ (by decide)),Nat.div_add_mod]
theorem Xm{a b:List Int}(f:gz a)(g:gz b)(l:a.length=b.length)(h:∀i,i<8*a.length->jo a i=jo b i):a=b:=by
 apply List.ext_getElem l;intro j c e;have n:=f _ (List.getElem_mem c);have o:=g _ (List.getElem_mem e);have:a[j].toNat=b[j].toNat:=Nat.eq_of_testBit_eq λk=>by
  by_cases m:k<8
  ·have:=h (8*j+(7-k)) (by omega)
   rw[jo,jo,show(8*j+(7-k))/8=j from by omega,show 7-(8*j+(7-k))%8=k from by omega,List.getD_eq_getElem?_getD,List.getD_eq_getElem?_getD,List.getElem?_eq_getElem c,List.getElem?_eq_getElem e] at this;exact this
  ·rw[Nat.testBit_lt_two_pow (Nat.lt_of_lt_of_le (by omega:a[j].toNat<2^8) (Nat.pow_le_pow_right (by decide) (by omega))),Nat.testBit_lt_two_pow (Nat.lt_of_lt_of_le (by omega:b[j].toNat<2^8) (Nat.pow_le_pow_right (by decide) (by omega)))]
 omega
def unpack(n:Nat)(b:List Int):List Bool:=(List.range n).map (jo b)
theorem eY(n:Nat)(b:List Int):(unpack n b).length=n:=by simp[unpack]
theorem rA(n:Nat)(b:List Int)(i:Nat):(unpack n b).getD i false=(decide (i<n)&&jo b i):=by
 rw[List.getD_eq_getElem?_getD,unpack,List.getElem?_map];by_cases a:i<n
 ·rw[List.getElem?_range a];simp[a]
 ·rw[List.getElem?_eq_none (by simpa using a)];simp[a]
def okB(n:Nat)(b:List Int):Prop:=b.length=(n+7)/8/\gz b/\∀i,n<=i->i<8*b.length->jo b i=false
theorem ZX(l:List Bool):okB l.length (pack l):=by
 refine⟨xM l,LD l,λi b a=>?_⟩;rw[xM] at a;rw[Of l i a,List.getD_eq_getElem?_getD,List.getElem?_eq_none b];rfl
theorem Tx{l:List Bool}{b:List Int}(a:b.length=(l.length+7)/8)(e:gz b)(f:∀i,i<8*b.length->jo b i=l.getD i false):b=pack l:=
 Xm e (LD l) (by rw[xM,a]) λi c=>by rw[f i c,Of l i (by rw[<-a];exact c)]
theorem ak0:∀c:Fin 256,∀k j:Fin 8,(c.val ||| 128 >>> k.val).testBit (7-j.val)=(c.val.testBit (7-j.val)||k==j):=by decide +kernel
end Go.Ev.Pl
namespace Go.Ev.Pl
def nN(l:List Bool):Nat:=l.foldl (λa x=>2*a+x.toNat) 0
theorem N5(l:List Bool):∀a:Nat,l.foldl (λa x=>2*a+x.toNat) a=a*2^l.length+nN l:=by
 induction l with
 | nil=>intro a;simp[nN]
 | cons x l ih=>
   intro a;rw[List.foldl_cons,ih,show nN (x::l)=List.foldl (λa x=>2*a+x.toNat) (2*0+x.toNat) l from rfl,ih (2*0+x.toNat),List.length_cons,Nat.pow_succ,Nat.mul_zero,Nat.zero_add,Nat.add_mul,<-Nat.mul_assoc a,Nat.mul_comm 2 a,Nat.mul_assoc a 2,Nat.mul_comm 2,<-Nat.mul_assoc,Nat.add_assoc]
theorem Bv(l m:List Bool):nN (l++m)=nN l*2^m.length+nN m:=by
 rw[nN,List.foldl_append,N5];rfl
theorem J4(x:Bool):nN [x]=x.toNat:=by cases x<;>rfl
theorem Qe(x:Bool)(l:List Bool):nN (x::l)=x.toNat*2^l.length+nN l:=by
 rw[show x::l=[x]++l from rfl,Bv,J4]
theorem Ae(l:List Bool)(x:Bool):nN (l ++ [x])=2*nN l+x.toNat:=by
 rw[Bv,J4,show[x].length=1 from rfl,Nat.pow_one,Nat.mul_comm]
theorem N6(l:List Bool):nN l<2^l.length:=by
 induction l with
 | nil=>decide
 | cons x l ih=>
   rw[Qe,List.length_cons,Nat.pow_succ];cases x
   ·simp only[Bool.toNat_false,Nat.zero_mul];omega
   ·simp only[Bool.toNat_true,Nat.one_mul];omega
def bitsOf(v w:Nat):List Bool:=(List.range w).map λk=>v.testBit (w-1-k)
theorem mo(v w:Nat):(bitsOf v w).length=w:=by simp[bitsOf]
theorem Dy(v w:Nat):bitsOf v (w+1)=bitsOf (v/2) w ++ [v.testBit 0]:=by
 rw[bitsOf,List.range_succ,List.map_append,bitsOf];congr 1
 ·apply List.map_congr_left
  intro k a;have:=List.mem_range.1 a;rw[show w+1-1-k=(w-1-k)+1 from by omega,Nat.testBit_succ]
 ·simp
theorem Lv(v w:Nat):nN (bitsOf v w)=v%2^w:=by
 induction w generalizing v with
 | zero=>rw[Nat.pow_zero,Nat.mod_one];rfl
 | succ w ih=>
   rw[Dy,Ae,ih,Nat.pow_succ,Nat.mul_comm (2^w),Nat.mod_mul,Nat.testBit_zero];have:(decide (v%2=1)).toNat=v%2:=by
    by_cases h:v%2=1
    ·rw[h];rfl
    ·rw[show v%2=0 from by omega];rfl
   omega
theorem afr{l:List Bool}(h:l≠ []):∃m x,l=m ++ [x]:=⟨l.dropLast,l.getLast h,(List.dropLast_concat_getLast h).symm⟩
theorem AI:∀(w:Nat) (l:List Bool),l.length=w->bitsOf (nN l) w=l:=by
 intro w
 induction w with
 | zero=>intro l h;rw[List.length_eq_zero_iff.1 h];rfl
 | succ w ih=>
   intro l h;obtain⟨m,x,rfl⟩:=afr (l:=l) (by intro a;rw[a] at h;cases h);rw[List.length_append,show[x].length=1 from rfl] at h;rw[Dy,Ae];have b:(2*nN m+x.toNat)/2=nN m:=by cases x<;>simp<;>omega
   have c:(2*nN m+x.toNat).testBit 0=x:=by
    rw[Nat.testBit_zero];cases x
    ·simp
    ·simp<;>omega
   rw[b,c,ih m (by omega)]
def step1(r:Nat)(x:Bool):Nat:=bif decide (8388608<=r) != x then(2*r%16777216) ^^^ 6122955 else 2*r%16777216
def over(r:Nat)(l:List Bool):Nat:=l.foldl step1 r
theorem Gu(r:Nat):over r []=r:=rfl
theorem pj(r:Nat)(x:Bool)(l:List Bool):over r (x::l)=over (step1 r x) l:=rfl
theorem xK(r:Nat)(l m:List Bool):over r (l++m)=over (over r l) m:=List.foldl_append
theorem G9(r:Nat)(x:Bool):step1 r x<16777216:=by
 rw[step1];have h:2*r%16777216<2^24:=Nat.mod_lt _ (by decide);cases decide (8388608<=r) != x
 ·exact h
 ·exact Nat.xor_lt_two_pow h (by decide)
theorem LA{r:Nat}(h:r<16777216)(l:List Bool):over r l<16777216:=by
 induction l generalizing r with
 | nil=>exact h
 | cons x l ih=>exact ih (G9 r x)
theorem af9{r s:Nat}(b:r<16777216)(c:s<16777216):decide (8388608<=r ^^^ s)=(decide (8388608<=r) != decide (8388608<=s)):=by
 have t:∀{a:Nat},a<16777216->decide (8388608<=a)=a.testBit 23:=by
  intro a f;rw[Nat.testBit_eq_decide_div_mod_eq];apply decide_eq_decide.2;omega
 have e:r ^^^ s<2^24:=Nat.xor_lt_two_pow b c;rw[t b,t c,t e,Nat.testBit_xor]
theorem af8(r s:Nat):2*(r ^^^ s)%16777216=(2*r%16777216) ^^^ (2*s%16777216):=by
 have h:∀a:Nat,2*a=a <<< 1:=λa=>by rw[Nat.shiftLeft_eq,Nat.mul_comm]
 rw[show(16777216:Nat)=2^24 from rfl,<-Nat.xor_mod_two_pow,h,h,h,Nat.shiftLeft_xor_distrib]
theorem anB(a b c:Nat):a ^^^ (b ^^^ c)=b ^^^ (a ^^^ c):=by rw[<-Nat.xor_assoc,Nat.xor_comm a,Nat.xor_assoc]
theorem Kl{r s:Nat}(c:r<16777216)(e:s<16777216)(x y:Bool):step1 (r ^^^ s) (x != y)=step1 r x ^^^ step1 s y:=by
 rw[step1,step1,step1,af9 c e,af8];generalize 2*r%16777216=a;generalize 2*s%16777216=b;cases decide (8388608<=r)<;>cases decide (8388608<=s)<;>cases x<;>cases y<;>simp[Nat.xor_assoc,Nat.xor_comm,anB]
def lay(l m:List Bool):List Bool:=List.zipWith (λx y=>x != y) l m
theorem Z5{l:List Bool}:∀{m:List Bool} {r s:Nat},l.length=m.length->r<16777216->s<16777216->over (r ^^^ s) (lay l m)=over r l ^^^ over s m:=by
 induction l with
 | nil=>intro m r s h _ _;rw[List.length_eq_zero_iff.1 h.symm];rfl
 | cons x l ih=>
   intro m r s h a b;cases m with
   | nil=>cases h
   | cons y m=>
     rw[show lay (x::l) (y::m)=(x != y)::lay l m from rfl,pj,pj,pj,Kl a b];exact ih (by simpa using h) (G9 r x) (G9 s y)
end Go.Ev.Pl
namespace Go.Ev.Pl
def IW(l:List Bool)(a w:Nat):Nat:=nN ((l.drop a).take w)
theorem PR(l:List Bool)(a w:Nat):IW l a w<2^w:=
 Nat.lt_of_lt_of_le (N6 _) (Nat.pow_le_pow_right (by decide) (by rw[List.length_take];omega))
theorem X3{l:List Bool}{a w:Nat}(h:a+w<=l.length):bitsOf (IW l a w) w=(l.drop a).take w:=
 AI w _ (by rw[List.length_take,List.length_drop];omega)
def G3(c:Int×Int×Int×Int×Int):Bool:=
 decide (0<=c.1)&&decide (c.1<=255)&&(decide (0<=c.2.1)&&decide (c.2.1<=7))&&(decide (0<=c.2.2.1)&&decide (c.2.2.1<=3))&&(decide (0<=c.2.2.2.1)&&decide (c.2.2.2.1<=4))&&(decide (0<=c.2.2.2.2)&&decide (c.2.2.2.2<=255))
theorem abm{t p m n s:Int}:G3 (t,p,m,n,s)=true↔(0<=t/\t<=255)/\(0<=p/\p<=7)/\(0<=m/\m<=3)/\(0<=n/\n<=4)/\(0<=s/\s<=255):=by
 simp only[G3,Bool.and_eq_true,decide_eq_true_eq,and_assoc]
def zX(f:Int×Int×(Int×Int×Int×Int×Int)×Int×List Int):Bool:=
 G3 f.2.2.1&&(decide (0<=f.2.1)&&decide (f.2.1<=4))&&decide (f.2.2.2.2.length<=8) &&
  (bif f.1==1 then f.2.1==0&&f.2.2.2.2.isEmpty&&(decide (0<=f.2.2.2.1)&&decide (f.2.2.2.1<=7))&&(f.2.2.1.2==(0,0,0,0))
  else bif f.1==3 then f.2.2.2.2.isEmpty&&f.2.2.2.1==0
  else(f.1==2||f.1==4)&&f.2.2.2.1==0)
def Ib:Int×Int×(Int×Int×Int×Int×Int)×Int×List Int:=(0,0,(0,0,0,0,0),0, [])
end Go.Ev.Pl
namespace Go.Ev.Pl
variable{d:List Int}
theorem NS{k r t p m n s b:Int}(h:zX (k,r,(t,p,m,n,s),b,d)=true):
  G3 (t,p,m,n,s)=true/\(0<=r/\r<=4)/\d.length<=8/\
   ((k=1/\r=0/\d=[]/\(0<=b/\b<=7)/\p=0/\m=0/\n=0/\s=0)\/(k=2/\b=0)\/(k=3/\d=[]/\b=0)\/(k=4/\b=0)):=by
 simp only[zX,Bool.and_eq_true,decide_eq_true_eq] at h;obtain⟨⟨⟨g,i⟩,j⟩,a⟩:=h;refine⟨g,i,j,?_⟩;by_cases e:k=1
 ·subst e
  simp[List.isEmpty_iff] at a;exact .inl ⟨rfl,by omega,a.1.1.2,by omega,a.2.1,a.2.2.1,a.2.2.2.1,a.2.2.2.2⟩
 ·rw[show(k==1)=false from by simpa using e,cond_false] at a
  by_cases f:k=3
  ·subst f
   simp[List.isEmpty_iff] at a;exact .inr (.inr (.inl ⟨rfl,a.1,a.2⟩))
  ·rw[show(k==3)=false from by simpa using f,cond_false] at a
   simp at a;rcases a.1 with c|c
   ·exact .inr (.inl ⟨c,a.2⟩)
   ·exact .inr (.inr (.inr ⟨c,a.2⟩))
theorem YO{k r t p m n s fr:Int}:zX (k,r,(t,p,m,n,s),fr,d)=true↔G3 (t,p,m,n,s)=true/\(0<=r/\r<=4)/\d.length<=8/\
   ((k=1/\r=0/\d.length=0/\(0<=fr/\fr<=7)/\p=0/\m=0/\n=0/\s=0)\/(k=2/\fr=0)\/(k=3/\d.length=0/\fr=0)\/(k=4/\fr=0)):=by
 constructor
 ·intro h
  obtain⟨f,g,i,e⟩:=NS h;refine⟨f,g,i,?_⟩;rcases e with ⟨a,b,rfl,c⟩|e|⟨a,rfl,b⟩|e
  ·exact .inl ⟨a,b,rfl,c⟩
  ·exact .inr (.inl e)
  ·exact .inr (.inr (.inl ⟨a,rfl,b⟩))
  ·exact .inr (.inr (.inr e))
 ·intro ⟨f,g,i,e⟩
  rcases e with ⟨rfl,rfl,b,c,rfl,rfl,rfl,rfl⟩|⟨rfl,rfl⟩|⟨rfl,b,rfl⟩|⟨rfl,rfl⟩
  ·rw[List.length_eq_zero_iff.1 b];simp[zX,f,c]
  ·simp[zX,f,g,i]
  ·rw[List.length_eq_zero_iff.1 b];simp[zX,f,g]
  ·simp[zX,f,g,i]
end Go.Ev.Pl
namespace Go.Ev.Pl
theorem getD_drop(l:List Bool)(i j:Nat):(l.drop i).getD j false=l.getD (i+j) false:=by
 rw[List.getD_eq_getElem?_getD,List.getD_eq_getElem?_getD,List.getElem?_drop]
theorem getD_take(l:List Bool)(i j:Nat):(l.take i).getD j false=(decide (j<i)&&l.getD j false):=by
 rw[List.getD_eq_getElem?_getD,List.getD_eq_getElem?_getD,List.getElem?_take];by_cases h:j<i
 ·simp[h]
 ·simp[h]
end Go.Ev.Pl
namespace Go.Ev.Pl
def lW(B:List Int)(l:List Bool)(m:Nat):Prop:=B.length=m/\gz B/\∀i,i<8*m->jo B i=l.getD i false
theorem JY(l:List Bool)(x:Bool)(i:Nat):(l ++ [x]).getD i false=(l.getD i false||(x&&i==l.length)):=by
 rw[List.getD_eq_getElem?_getD,List.getD_eq_getElem?_getD,List.getElem?_append];by_cases h:i<l.length
 ·rw[if_pos h];simp;intro _ a;omega
 ·rw[if_neg h,List.getElem?_eq_none (l:=l) (by omega)]
  by_cases a:i=l.length
  ·subst a;simp
  ·rw[List.getElem?_eq_none (by simp;omega)];simp[a]
variable{B:List Int}
theorem F7(h:gz B)(i:Nat):(B.getD i 0).toNat<256:=by
 rw[List.getD_eq_getElem?_getD];by_cases a:i<B.length
 ·rw[List.getElem?_eq_getElem a]
  have:=h _ (List.getElem_mem a);simp only[Option.getD_some];omega
 ·rw[List.getElem?_eq_none (by omega)];decide
variable{i:Nat}
theorem Xh(h:gz B)(b:i/8<B.length)(j:Nat):
  jo (B.set (i/8) (((B.getD (i/8) 0).toNat ||| 128 >>> (i%8):Nat):Int)) j=(jo B j||j==i):=by
 rw[jo,jo,List.getD_eq_getElem?_getD,List.getElem?_set];by_cases a:i/8=j/8
 ·rw[if_pos a,if_pos b]
  simp only[Option.getD_some,Int.toNat_natCast];have:=ak0 ⟨(B.getD (i/8) 0).toNat,F7 h _⟩ ⟨i%8,Nat.mod_lt _ (by decide)⟩ ⟨j%8,Nat.mod_lt _ (by decide)⟩;simp only at this;rw[this,a];congr 1;rw[Bool.eq_iff_iff];simp only[beq_iff_eq,Fin.mk.injEq];omega
 ·rw[if_neg a,<-List.getD_eq_getElem?_getD,show(j==i)=false from by simp;omega,Bool.or_false]
theorem Q7(h:gz B){v:Nat}(c:v<256):gz (B.set i (v:Int)):=by
 intro x b;rcases List.mem_or_eq_of_mem_set b with a|rfl
 ·exact h x a
 ·omega
variable{l:List Bool}{m:Nat}
theorem lW.set(h:lW B l m)(e:l.length<8*m):
  lW (B.set (l.length/8) (((B.getD (l.length/8) 0).toNat ||| 128 >>> (l.length%8):Nat):Int)) (l ++ [true]) m:=by
 have b:l.length/8<B.length:=by rw[h.1];omega
 have c:∀k:Fin 8,128 >>> k.val<256:=by decide
 refine⟨by rw[List.length_set,h.1],Q7 h.2.1 ?_,λi a=>?_⟩
 ·exact Nat.or_lt_two_pow (n:=8) (F7 h.2.1 _) (c ⟨l.length%8,Nat.mod_lt _ (by decide)⟩)
 ·rw[Xh h.2.1 b,h.2.2 i a,JY,Bool.true_and]
theorem lW.skip(h:lW B l m):lW B (l ++ [false]) m:=
 ⟨h.1,h.2.1,λi a=>by rw[h.2.2 i a,JY,Bool.false_and,Bool.or_false]⟩
theorem lW.done(h:lW B l m)(b:m=(l.length+7)/8):B=pack l:=
 Tx (by rw[h.1,b]) h.2.1 λi a=>h.2.2 i (by rw[h.1] at a;exact a)
theorem lW.blank(m:Nat):lW (List.replicate m 0) [] m:=by
 refine⟨by simp,λx a=>by rw[(List.mem_replicate.1 a).2];decide,λi h=>?_⟩;rw[jo,List.getD_eq_getElem?_getD,List.getElem?_replicate,List.getD_nil];split<;>exact Nat.zero_testBit _
theorem lW.grown{n:Nat}{b:List Int}(h:okB n b)(g:b.length<=m):lW (b++List.replicate (m-b.length) 0) (unpack n b) m:=by
 refine⟨by simp;omega,λx e=>?_,λi f=>?_⟩
 ·rcases List.mem_append.1 e with a|a
  ·exact h.2.1 x a
  ·rw[(List.mem_replicate.1 a).2];decide
 ·rw[rA,jo,List.getD_eq_getElem?_getD,List.getElem?_append]
  by_cases a:i/8<b.length
  ·rw[if_pos a,<-List.getD_eq_getElem?_getD]
   by_cases c:i<n
   ·simp only[c,decide_true,Bool.true_and];rfl
   ·simp only[c,decide_false,Bool.false_and]
    exact h.2.2 i (by omega) (by omega)
  ·rw[if_neg a,List.getElem?_replicate]
   have:¬i<n:=by have:=h.1;omega
   simp only[this,decide_false,Bool.false_and];split<;>exact Nat.zero_testBit _
theorem OY(n:Nat)(b:List Int):unpack (n+1) b=unpack n b ++ [jo b n]:=by
 rw[unpack,List.range_succ,List.map_append];rfl
end Go.Ev.Pl
namespace Go.Ev.Pl
def jg(x:Int×List Int):Bool:=
 decide (0<=x.1)&&decide (x.1<=4096)&&(x.2.length==(x.1.toNat+7)/8)&&(List.range (8*x.2.length)).all λi=>decide (i<x.1.toNat) || !jo x.2 i
theorem sJ{n:Int}{b:List Int}(l:gz b):jg (n,b)=true↔0<=n/\n<=4096/\okB n.toNat b:=by
 simp only[jg,Bool.and_eq_true,decide_eq_true_eq,beq_iff_eq,List.all_eq_true,List.mem_range,Bool.or_eq_true,Bool.not_eq_true',okB];constructor
 ·intro ⟨⟨⟨a,c⟩,e⟩,f⟩
  refine⟨a,c,e,l,λi h g=>?_⟩;rcases f i g with j|j
  ·omega
  ·exact j
 ·intro ⟨a,c,e,_,f⟩
  refine⟨⟨⟨a,c⟩,e⟩,λi h=>?_⟩;by_cases g:i<n.toNat
  ·exact .inl g
  ·exact .inr (f i (by omega) h)
def o6(x:Int×List Int):List Bool:=unpack x.1.toNat x.2
def M_(l:List Bool):Int×List Int:=((l.length:Int),pack l)
theorem zP(x:Int×List Int):(o6 x).length=x.1.toNat:=eY _ _
theorem aiB{l:List Bool}(h:l.length<=4096):jg (M_ l)=true:=by
 rw[M_,sJ (LD l)];refine⟨by omega,by omega,?_⟩;rw[Int.toNat_natCast];exact ZX l
def zB:Int×List Int:=(0, [])
def zS:Int×Int×Int×Int×Int:=(0,0,0,0,0)
def ofS(l:List Bool):(Int×List Int)×Int:=bif decide (4096<l.length) then(zB,3) else(M_ l,0)
def aak:(Int×List Int)×Int×Int->(Int×List Int)×Int:=λ(b,v,w)=>
 bif !jg b then(zB,10)
 else bif decide (w<0)||decide (64<w)||decide ((2:Int)^w.toNat<=v) then(zB,2)
 else ofS (o6 b++bitsOf v.toNat w.toNat)
def aef:(Int×List Int)×Int×Int->Int×Int:=λ(b,a,w)=>
 bif !jg b then(0,10)
 else bif decide (w<0)||decide (64<w)||decide (a<0)||decide (b.1<a+w) then(0,2)
 else((IW (o6 b) a.toNat w.toNat:Nat),0)
def Q8:(Int×List Int)×Int×Int->(Int×List Int)×Int:=λ(b,i,j)=>
 bif !jg b then(zB,10)
 else bif decide (i<0)||decide (j<i)||decide (b.1<j) then(zB,2)
 else(M_ (((o6 b).take j.toNat).drop i.toNat),0)
def S8(l:List (Int×List Int)):(Int×List Int)×Int:=
 bif l.all jg then ofS (l.flatMap o6) else(zB,10)
def VK(l:List (Int×List Int)):Int×Int:=
 bif l.all jg then((over 0 (l.flatMap o6):Nat),0) else(0,10)
def qZ:(Int×Int×Int×Int×Int)×Int->Int:=λ((t,p,m,n,s),k)=>
 bif decide (k<4)||decide (8<k) then 2
 else bif (decide (0<=t)&&decide (t<=255))&&((decide (0<=p)&&decide (p<=k-1))&&((decide (0<=m)&&decide (m<=3))&&((decide (0<=n)&&decide (n<=4))&&(decide (0<=s)&&decide (s<=2^k.toNat-1))))) then 0 else 40
theorem ajG(c:Int×Int×Int×Int×Int):qZ (c,8)=bif G3 c then 0 else 40:=by
 obtain⟨t,p,m,n,s⟩:=c;have e:G3 (t,p,m,n,s)=((decide (0<=t)&&decide (t<=255))&&((decide (0<=p)&&decide (p<=8-1))&&((decide (0<=m)&&decide (m<=3))&&((decide (0<=n)&&decide (n<=4))&&(decide (0<=s)&&decide (s<=2^(8:Int).toNat-1)))))):=by
  rw[G3,show(2:Int)^(8:Int).toNat-1=255 from rfl,show(8:Int)-1=7 from rfl];simp only[Bool.and_assoc]
 rw[e];rfl
def TR:Int×Int->Int:=λ(k,d)=>
 if 0<=d/\d<=8 then(if k=1 then(if d=0 then 40 else 0) else if k=2 then 29+8*d else if k=3 then(if d=0 then 54 else 0) else if k=4 then 79+8*d else 0) else 0
end Go.Ev.Pl
namespace Go.Ev.Pl
def OU:List Nat:=(List.range 16).map λi=>over (i*1048576) [false,false,false,false]
theorem VO:∀h v:Fin 16,over (h.val*1048576) (bitsOf v.val 4)=OU.getD (h.val ^^^ v.val) 0:=by decide +kernel
theorem VT:∀h v:Fin 16,h.val ^^^ v.val<16:=by decide +kernel
variable{r:Nat}
theorem v8(h:r<8388608):step1 r false=2*r:=by
 rw[step1,show decide (8388608<=r)=false from by simp;omega];show 2*r%16777216=2*r;omega
theorem Qn(h:r<1048576):over r [false,false,false,false]=16*r:=by
 rw[pj,v8 (by omega),pj,v8 (by omega),pj,v8 (by omega),pj,v8 (by omega),Gu];omega
theorem adH{h l:Nat}(b:l<1048576):h*1048576+l=(h*1048576) ^^^ l:=by
 apply Nat.eq_of_testBit_eq;intro j;rw[Nat.testBit_xor,Nat.mul_comm,show(1048576:Nat)=2^20 from rfl,Nat.testBit_two_pow_mul_add _ b,Nat.testBit_two_pow_mul];by_cases a:j<20
 ·rw[if_pos a,show decide (j >= 20)=false from by simp;omega];simp
 ·rw[if_neg a,show decide (j >= 20)=true from by simp;omega,Nat.testBit_lt_two_pow (Nat.lt_of_lt_of_le (show l<2^20 from b) (Nat.pow_le_pow_right (by decide) (by omega)))];simp
theorem UW(l:List Bool):lay l (List.replicate l.length false)=l:=by
 induction l with
 | nil=>rfl
 | cons x l ih=>
   rw[List.length_cons,List.replicate_succ];show(x != false)::lay l _=_;rw[ih,Bool.bne_false]
theorem U4{l:List Bool}(g:r<16777216)(a:l.length=4):over r l=(16*r%16777216) ^^^ OU.getD ((r/1048576) ^^^ nN l) 0:=by
 have f:nN l<2^4:=by have:=N6 l;rwa [a] at this
 have b:=VO ⟨r/1048576,by omega⟩ ⟨nN l,f⟩;simp only at b;rw[AI _ _ a] at b;have e:r=(r/1048576*1048576) ^^^ (r%1048576):=by
  rw[<-adH (Nat.mod_lt _ (by decide))];omega
 have c:=Z5 (l:=l) (m:=[false,false,false,false]) (r:=r/1048576*1048576) (s:=r%1048576) (by rw[a];rfl) (by omega) (by omega);rw[<-e,show[false,false,false,false]=List.replicate l.length false from by rw[a];rfl,UW,b,show List.replicate l.length false=[false,false,false,false] from by rw[a];rfl,Qn (Nat.mod_lt _ (by decide))] at c;rw[c,show 16*r%16777216=16*(r%1048576) from by omega,Nat.xor_comm]
theorem abp(a:r<16777216)(x:Bool):step1 (r ^^^ (x.toNat*8388608)) false=step1 r x:=by
 have h:=Kl a (s:=x.toNat*8388608) (by cases x<;>decide) x x;rw[bne_self_eq_false] at h;rw[h,show step1 (x.toNat*8388608) x=0 from by cases x<;>decide +kernel,Nat.xor_zero]
end Go.Ev.Pl
