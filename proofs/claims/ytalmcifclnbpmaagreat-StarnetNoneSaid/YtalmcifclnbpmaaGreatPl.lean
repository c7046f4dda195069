/- PROVED: laws of bits. Conditions: none. -/
set_option linter.unusedVariables false
set_option linter.defProp false
set_option linter.unusedSimpArgs false
namespace Go.Ev.Pl
def byteOf(f:Nat->Bool):Nat:=(List.range 8).foldl (λa k=>2*a+(f k).toNat) 0
def J4(f:Nat->Bool):byteOf f=128*(f 0).toNat+64*(f 1).toNat+32*(f 2).toNat+16*(f 3).toNat+8*(f 4).toNat+4*(f 5).toNat+2*(f 6).toNat+(f 7).toNat:=by
 show 2*(2*(2*(2*(2*(2*(2*(2*0+(f 0).toNat)+(f 1).toNat)+(f 2).toNat)+(f 3).toNat)+(f 4).toNat)+(f 5).toNat)+(f 6).toNat)+(f 7).toNat=_;omega
def PO:∀a b c d e f g h:Bool,∀k:Fin 8,(128*a.toNat+64*b.toNat+32*c.toNat+16*d.toNat+8*e.toNat+4*f.toNat+2*g.toNat+h.toNat).testBit (7-k.val)=[a,b,c,d,e,f,g,h].getD k.val false:=by decide +kernel
def PQ(f:Nat->Bool)(k:Nat)(c:k<8):(byteOf f).testBit (7-k)=f k:=by
 rw[J4,PO _ _ _ _ _ _ _ _ ⟨k,c⟩];have:k=0\/k=1\/k=2\/k=3\/k=4\/k=5\/k=6\/k=7:=by omega
 rcases this with rfl|rfl|rfl|rfl|rfl|rfl|rfl|rfl<;>rfl
def Ux(f:Nat->Bool):byteOf f<256:=by
 rw[J4];have h:=λk=>Bool.toNat_le<|f k;have:=h 0;have:=h 1;have:=h 2;have:=h 3;have:=h 4;have:=h 5;have:=h 6;have:=h 7;omega
def zd(l:List Int)(i:Nat):Bool:=(l.getD (i/8) 0).toNat.testBit<|7-i%8
def oH(l:List Int):Prop:=∀x∈l,0<=x/\x<=255
def pack(l:List Bool):List Int:=(List.range<|(l.length+7)/8).map λj=>((byteOf λk=>l.getD (8*j+k) false:Nat):Int)
def OH(l:List Bool):(pack l).length=(l.length+7)/8:=by simp[pack]
def afj(l:List Bool):oH<|pack l:=by
 intro x c;simp only[pack,List.mem_map] at c;obtain⟨j,_,rfl⟩:=c;have:=Ux λk=>l.getD (8*j+k) false;omega
def aak(l:List Bool)(i:Nat)(f:i<8*((l.length+7)/8)):zd (pack l) i=l.getD i false:=by
 have c:i/8<(l.length+7)/8:=by omega
 have e:(pack l).getD (i/8) 0=((byteOf λk=>l.getD (8*(i/8)+k) false:Nat):Int):=by
  rw[List.getD_eq_getElem?_getD,pack,List.getElem?_map,List.getElem?_range c];rfl
 rw[zd,e,Int.toNat_natCast,PQ _ _<|Nat.mod_lt _<|by decide,Nat.div_add_mod]
def XM{a b:List Int}(g:oH a)(l:oH b)(p:a.length=b.length)(h:∀i,i<8*a.length->zd a i=zd b i):a=b:=by
 apply List.ext_getElem p;intro j c f;have u:=g _<|List.getElem_mem c;have v:=l _<|List.getElem_mem f;have:a[j].toNat=b[j].toNat:=Nat.eq_of_testBit_eq λk=>by
  by_cases t:k<8
  .have:=h (8*j+(7-k)) (by omega);rw[zd,zd,show(8*j+(7-k))/8=j from by omega,show 7-(8*j+(7-k))%8=k from by omega,List.getD_eq_getElem?_getD,List.getD_eq_getElem?_getD,List.getElem?_eq_getElem c,List.getElem?_eq_getElem f] at this;exact this
  .rw[Nat.testBit_lt_two_pow<|Nat.lt_of_lt_of_le (by omega:a[j].toNat<2^8)<|Nat.pow_le_pow_right (by decide)<|by omega,Nat.testBit_lt_two_pow<|Nat.lt_of_lt_of_le (by omega:b[j].toNat<2^8)<|Nat.pow_le_pow_right (by decide)<|by omega]
 omega
def unpack(n:Nat)(b:List Int):List Bool:=(List.range n).map<|zd b
def Pn(n:Nat)(b:List Int)(i:Nat):(unpack n b).getD i false=(decide (i<n)&&zd b i):=by
 rw[List.getD_eq_getElem?_getD,unpack,List.getElem?_map];by_cases c:i<n
 .rw[List.getElem?_range c];simp[c]
 .rw[List.getElem?_eq_none<|by simpa using c];simp[c]
def okB(n:Nat)(b:List Int):Prop:=b.length=(n+7)/8/\oH b/\∀i,n<=i->i<8*b.length->zd b i=false
def afi{l:List Bool}{b:List Int}(c:b.length=(l.length+7)/8)(g:oH b)(h:∀i,i<8*b.length->zd b i=l.getD i false):b=pack l:=
 XM g (afj l) (by rw[OH,c]) λi f=>by rw[h i f,aak l i (by rw[<-c];exact f)]
def alI:∀c:Fin 256,∀k j:Fin 8,(c.val ||| 128 >>> k.val).testBit (7-j.val)=(c.val.testBit (7-j.val)||k==j):=by decide +kernel
end Go.Ev.Pl
namespace Go.Ev.Pl
def step1(r:Nat)(x:Bool):Nat:=bif decide (8388608<=r) != x then(2*r%16777216) ^^^ 6122955 else 2*r%16777216
def over(r:Nat)(l:List Bool):Nat:=l.foldl step1 r
end Go.Ev.Pl
namespace Go.Ev.Pl
def Ie(c:Int×Int×Int×Int×Int):Bool:=
 decide (0<=c.1)&&decide (c.1<=255)&&(decide (0<=c.2.1)&&decide (c.2.1<=7))&&(decide (0<=c.2.2.1)&&decide (c.2.2.1<=3))&&(decide (0<=c.2.2.2.1)&&decide (c.2.2.2.1<=4))&&(decide (0<=c.2.2.2.2)&&decide (c.2.2.2.2<=255))
def abI{t p m n s:Int}:Ie (t,p,m,n,s)=true↔(0<=t/\t<=255)/\(0<=p/\p<=7)/\(0<=m/\m<=3)/\(0<=n/\n<=4)/\(0<=s/\s<=255):=by
 simp only[Ie,Bool.and_eq_true,decide_eq_true_eq,and_assoc]
def Ae(f:Int×Int×(Int×Int×Int×Int×Int)×Int×List Int):Bool:=
 Ie f.2.2.1&&(decide (0<=f.2.1)&&decide (f.2.1<=4))&&decide (f.2.2.2.2.length<=8) &&
  (bif f.1==1 then f.2.1==0&&f.2.2.2.2.isEmpty&&(decide (0<=f.2.2.2.1)&&decide (f.2.2.2.1<=7))&&(f.2.2.1.2==(0,0,0,0))
  else bif f.1==3 then f.2.2.2.2.isEmpty&&f.2.2.2.1==0
  else(f.1==2||f.1==4)&&f.2.2.2.1==0)
def I5:Int×Int×(Int×Int×Int×Int×Int)×Int×List Int:=(0,0,(0,0,0,0,0),0,[])
end Go.Ev.Pl
namespace Go.Ev.Pl
variable{d:List Int}
def Oi{k r t p m n s f:Int}(h:Ae (k,r,(t,p,m,n,s),f,d)=true):
  Ie (t,p,m,n,s)=true/\(0<=r/\r<=4)/\d.length<=8/\
   ((k=1/\r=0/\d=[]/\(0<=f/\f<=7)/\p=0/\m=0/\n=0/\s=0)\/(k=2/\f=0)\/(k=3/\d=[]/\f=0)\/(k=4/\f=0)):=by
 simp only[Ae,Bool.and_eq_true,decide_eq_true_eq] at h;have⟨⟨⟨l,u⟩,v⟩,c⟩:=h;refine⟨l,u,v,?_⟩;by_cases i:k=1
 .subst i;simp[List.isEmpty_iff] at c;exact .inl ⟨rfl,by omega,c.1.1.2,by omega,c.2.1,c.2.2.1,c.2.2.2.1,c.2.2.2.2⟩
 .rw[show(k==1)=false from by simpa using i,cond_false] at c;by_cases j:k=3
  .subst j;simp[List.isEmpty_iff] at c;exact .inr<|.inr<|.inl ⟨rfl,c.1,c.2⟩
  .rw[show(k==3)=false from by simpa using j,cond_false] at c;simp at c;rcases c.1 with g|g
   .exact .inr<|.inl ⟨g,c.2⟩
   .exact .inr<|.inr<|.inr ⟨g,c.2⟩
def Y1{k r t p m n s fr:Int}:Ae (k,r,(t,p,m,n,s),fr,d)=true↔Ie (t,p,m,n,s)=true/\(0<=r/\r<=4)/\d.length<=8/\
   ((k=1/\r=0/\d.length=0/\(0<=fr/\fr<=7)/\p=0/\m=0/\n=0/\s=0)\/(k=2/\fr=0)\/(k=3/\d.length=0/\fr=0)\/(k=4/\fr=0)):=by
 constructor
 .intro h;have⟨g,i,j,f⟩:=Oi h;refine⟨g,i,j,?_⟩;rcases f with ⟨a,b,rfl,c⟩|f|⟨a,rfl,b⟩|f
  .exact .inl ⟨a,b,rfl,c⟩
  .exact .inr<|.inl f
  .exact .inr<|.inr<|.inl ⟨a,rfl,b⟩
  .exact .inr<|.inr<|.inr f
 .intro ⟨g,i,j,f⟩;rcases f with ⟨rfl,rfl,b,c,rfl,rfl,rfl,rfl⟩|⟨rfl,rfl⟩|⟨rfl,b,rfl⟩|⟨rfl,rfl⟩
  .rw[List.length_eq_zero_iff.1 b];simp[Ae,g,c]
  .simp[Ae,g,i,j]
  .rw[List.length_eq_zero_iff.1 b];simp[Ae,g,i]
  .simp[Ae,g,i,j]
end Go.Ev.Pl
namespace Go.Ev.Pl
end Go.Ev.Pl
namespace Go.Ev.Pl
def zt(B:List Int)(l:List Bool)(m:Nat):Prop:=B.length=m/\oH B/\∀i,i<8*m->zd B i=l.getD i false
def Ku(l:List Bool)(x:Bool)(i:Nat):(l ++ [x]).getD i false=(l.getD i false||(x&&i==l.length)):=by
 rw[List.getD_eq_getElem?_getD,List.getD_eq_getElem?_getD,List.getElem?_append];by_cases h:i<l.length
 .rw[if_pos h];simp;intro _ c;omega
 .rw[if_neg h,List.getElem?_eq_none (l:=l)<|by omega];by_cases c:i=l.length
  .subst c;simp
  .rw[List.getElem?_eq_none (by simp;omega)];simp[c]
variable{B:List Int}
def Oj(h:oH B)(i:Nat):(B.getD i 0).toNat<256:=by
 rw[List.getD_eq_getElem?_getD];by_cases c:i<B.length
 .rw[List.getElem?_eq_getElem c];have:=h _<|List.getElem_mem c;simp only[Option.getD_some];omega
 .rw[List.getElem?_eq_none<|by omega];decide
variable{i:Nat}
def XI(h:oH B)(f:i/8<B.length)(j:Nat):
  zd (B.set (i/8) (((B.getD (i/8) 0).toNat ||| 128 >>> (i%8):Nat):Int)) j=(zd B j||j==i):=by
 rw[zd,zd,List.getD_eq_getElem?_getD,List.getElem?_set];by_cases c:i/8=j/8
 .rw[if_pos c,if_pos f];simp only[Option.getD_some,Int.toNat_natCast];have:=alI ⟨(B.getD (i/8) 0).toNat,Oj h _⟩ ⟨i%8,Nat.mod_lt _<|by decide⟩ ⟨j%8,Nat.mod_lt _<|by decide⟩;simp only at this;rw[this,c];congr 1;rw[Bool.eq_iff_iff];simp only[beq_iff_eq,Fin.mk.injEq];omega
 .rw[if_neg c,<-List.getD_eq_getElem?_getD,show(j==i)=false from by simp;omega,Bool.or_false]
def Ro(h:oH B){v:Nat}(g:v<256):oH<|B.set i v:=by
 intro x f;rcases List.mem_or_eq_of_mem_set f with c|rfl
 .exact h x c
 .omega
variable{l:List Bool}
def zt.set{m:Nat}(h:zt B l m)(j:l.length<8*m):
  zt (B.set (l.length/8) (((B.getD (l.length/8) 0).toNat ||| 128 >>> (l.length%8):Nat):Int)) (l ++ [true]) m:=by
 have f:l.length/8<B.length:=by rw[h.1];omega
 have g:∀k:Fin 8,128 >>> k.val<256:=by decide
 refine⟨by rw[List.length_set,h.1],Ro h.2.1 ?_,λi c=>?_⟩
 .exact Nat.or_lt_two_pow (n:=8) (Oj h.2.1 _)<|g ⟨l.length%8,Nat.mod_lt _<|by decide⟩
 .rw[XI h.2.1 f,h.2.2 i c,Ku,Bool.true_and]
def zt.skip{m:Nat}(h:zt B l m):zt B (l ++ [false]) m:=
 ⟨h.1,h.2.1,λi c=>by rw[h.2.2 i c,Ku,Bool.false_and,Bool.or_false]⟩
def zt.done{m:Nat}(h:zt B l m)(f:m=(l.length+7)/8):B=pack l:=
 afi (by rw[h.1,f]) h.2.1 λi c=>h.2.2 i (by rw[h.1] at c;exact c)
def zt.grown{n m:Nat}{b:List Int}(h:okB n b)(l:b.length<=m):zt (b++List.replicate (m-b.length) 0) (unpack n b) m:=by
 refine⟨by simp;omega,λx g=>?_,λi j=>?_⟩
 .rcases List.mem_append.1 g with c|c
  .exact h.2.1 x c
  .rw[(List.mem_replicate.1 c).2];decide
 .rw[Pn,zd,List.getD_eq_getElem?_getD,List.getElem?_append];by_cases c:i/8<b.length
  .rw[if_pos c,<-List.getD_eq_getElem?_getD];by_cases f:i<n
   .simp only[f,decide_true,Bool.true_and];rfl
   .simp only[f,decide_false,Bool.false_and];exact h.2.2 i (by omega) (by omega)
  .rw[if_neg c,List.getElem?_replicate];have:¬i<n:=by have:=h.1;omega
   simp only[this,decide_false,Bool.false_and];split<;>exact Nat.zero_testBit _
end Go.Ev.Pl
namespace Go.Ev.Pl
def zS:Int×Int×Int×Int×Int:=(0,0,0,0,0)
def rz:(Int×Int×Int×Int×Int)×Int->Int:=λ((t,p,m,n,s),k)=>
 bif decide (k<4)||decide (8<k) then 2
 else bif (decide (0<=t)&&decide (t<=255))&&((decide (0<=p)&&decide (p<=k-1))&&((decide (0<=m)&&decide (m<=3))&&((decide (0<=n)&&decide (n<=4))&&(decide (0<=s)&&decide (s<=2^k.toNat-1))))) then 0 else 40
def aku(c:Int×Int×Int×Int×Int):rz (c,8)=bif Ie c then 0 else 40:=by
 have⟨t,p,m,n,s⟩:=c;have e:Ie (t,p,m,n,s)=((decide (0<=t)&&decide (t<=255))&&((decide (0<=p)&&decide (p<=8-1))&&((decide (0<=m)&&decide (m<=3))&&((decide (0<=n)&&decide (n<=4))&&(decide (0<=s)&&decide (s<=2^(8:Int).toNat-1)))))):=by
  rw[Ie,show(2:Int)^(8:Int).toNat-1=255 from rfl,show(8:Int)-1=7 from rfl];simp only[Bool.and_assoc]
 rw[e];rfl
def TU:Int×Int->Int:=λ(k,d)=>
 if 0<=d/\d<=8 then(if k=1 then(if d=0 then 40 else 0) else if k=2 then 29+8*d else if k=3 then(if d=0 then 54 else 0) else if k=4 then 79+8*d else 0) else 0
end Go.Ev.Pl
namespace Go.Ev.Pl
end Go.Ev.Pl
