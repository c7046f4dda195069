/- PROVED: laws of bits. Conditions: none. -/
set_option linter.unusedVariables false
set_option linter.defProp false
set_option linter.unusedSimpArgs false
namespace Go.Ev.Pl
def byteOf(f:Nat->Bool):Nat:=(List.range 8).foldl (λa k=>2*a+(f k).toNat) 0
def Ks(f:Nat->Bool):byteOf f=128*(f 0).toNat+64*(f 1).toNat+32*(f 2).toNat+16*(f 3).toNat+8*(f 4).toNat+4*(f 5).toNat+2*(f 6).toNat+(f 7).toNat:=by
 show 2*(2*(2*(2*(2*(2*(2*(2*0+(f 0).toNat)+(f 1).toNat)+(f 2).toNat)+(f 3).toNat)+(f 4).toNat)+(f 5).toNat)+(f 6).toNat)+(f 7).toNat=_;omega
def QL:∀a b c d e f g h:Bool,∀k:Fin 8,(128*a.toNat+64*b.toNat+32*c.toNat+16*d.toNat+8*e.toNat+4*f.toNat+2*g.toNat+h.toNat).testBit (7-k.val)=[a,b,c,d,e,f,g,h].getD k.val false:=by decide +kernel
def QM(f:Nat->Bool)(k:Nat)(a:k<8):(byteOf f).testBit (7-k)=f k:=by
 rw[Ks,QL _ _ _ _ _ _ _ _ ⟨k,a⟩];have:k=0\/k=1\/k=2\/k=3\/k=4\/k=5\/k=6\/k=7:=by omega
 rcases this with rfl|rfl|rfl|rfl|rfl|rfl|rfl|rfl<;>rfl
def Vv(f:Nat->Bool):byteOf f<256:=by
 rw[Ks];have h:=λk=>Bool.toNat_le<|f k;have:=h 0;have:=h 1;have:=h 2;have:=h 3;have:=h 4;have:=h 5;have:=h 6;have:=h 7;omega
def y_(l:List Int)(i:Nat):Bool:=(l.getD (i/8) 0).toNat.testBit<|7-i%8
def oL(l:List Int):Prop:=∀x∈l,0<=x/\x<=255
def pack(l:List Bool):List Int:=(List.range<|(l.length+7)/8).map λj=>((byteOf λk=>l.getD (8*j+k) false:Nat):Int)
def Px(l:List Bool):(pack l).length=(l.length+7)/8:=by simp[pack]
def af7(l:List Bool):oL<|pack l:=by
 intro x a;simp only[pack,List.mem_map] at a;obtain⟨j,_,rfl⟩:=a;have:=Vv λk=>l.getD (8*j+k) false;omega
def abw(l:List Bool)(i:Nat)(b:i<8*((l.length+7)/8)):y_ (pack l) i=l.getD i false:=by
 have a:i/8<(l.length+7)/8:=by omega
 have e:(pack l).getD (i/8) 0=((byteOf λk=>l.getD (8*(i/8)+k) false:Nat):Int):=by
  rw[List.getD_eq_getElem?_getD,pack,List.getElem?_map,List.getElem?_range a];rfl
 rw[y_,e,Int.toNat_natCast,QM _ _<|Nat.mod_lt _<|by decide,Nat.div_add_mod]
def YL{a b:List Int}(f:oL a)(g:oL b)(l:a.length=b.length)(h:∀i,i<8*a.length->y_ a i=y_ b i):a=b:=by
 apply List.ext_getElem l;intro j c e;have n:=f _<|List.getElem_mem c;have o:=g _<|List.getElem_mem e;have:a[j].toNat=b[j].toNat:=Nat.eq_of_testBit_eq λk=>by
  by_cases m:k<8
  .have:=h (8*j+(7-k)) (by omega);rw[y_,y_,show(8*j+(7-k))/8=j from by omega,show 7-(8*j+(7-k))%8=k from by omega,List.getD_eq_getElem?_getD,List.getD_eq_getElem?_getD,List.getElem?_eq_getElem c,List.getElem?_eq_getElem e] at this;exact this
  .rw[Nat.testBit_lt_two_pow<|Nat.lt_of_lt_of_le (by omega:a[j].toNat<2^8)<|Nat.pow_le_pow_right (by decide)<|by omega,Nat.testBit_lt_two_pow<|Nat.lt_of_lt_of_le (by omega:b[j].toNat<2^8)<|Nat.pow_le_pow_right (by decide)<|by omega]
 omega
def unpack(n:Nat)(b:List Int):List Bool:=(List.range n).map<|y_ b
def Qp(n:Nat)(b:List Int)(i:Nat):(unpack n b).getD i false=(decide (i<n)&&y_ b i):=by
 rw[List.getD_eq_getElem?_getD,unpack,List.getElem?_map];by_cases a:i<n
 .rw[List.getElem?_range a];simp[a]
 .rw[List.getElem?_eq_none<|by simpa using a];simp[a]
def okB(n:Nat)(b:List Int):Prop:=b.length=(n+7)/8/\oL b/\∀i,n<=i->i<8*b.length->y_ b i=false
def af6{l:List Bool}{b:List Int}(a:b.length=(l.length+7)/8)(e:oL b)(f:∀i,i<8*b.length->y_ b i=l.getD i false):b=pack l:=
 YL e (af7 l) (by rw[Px,a]) λi c=>by rw[f i c,abw l i (by rw[<-a];exact c)]
def amZ:∀c:Fin 256,∀k j:Fin 8,(c.val ||| 128 >>> k.val).testBit (7-j.val)=(c.val.testBit (7-j.val)||k==j):=by decide +kernel
end Go.Ev.Pl
namespace Go.Ev.Pl
def step1(r:Nat)(x:Bool):Nat:=bif decide (8388608<=r) != x then(2*r%16777216) ^^^ 6122955 else 2*r%16777216
def over(r:Nat)(l:List Bool):Nat:=l.foldl step1 r
end Go.Ev.Pl
namespace Go.Ev.Pl
def IK(c:Int×Int×Int×Int×Int):Bool:=
 decide (0<=c.1)&&decide (c.1<=255)&&(decide (0<=c.2.1)&&decide (c.2.1<=7))&&(decide (0<=c.2.2.1)&&decide (c.2.2.1<=3))&&(decide (0<=c.2.2.2.1)&&decide (c.2.2.2.1<=4))&&(decide (0<=c.2.2.2.2)&&decide (c.2.2.2.2<=255))
def acW{t p m n s:Int}:IK (t,p,m,n,s)=true↔(0<=t/\t<=255)/\(0<=p/\p<=7)/\(0<=m/\m<=3)/\(0<=n/\n<=4)/\(0<=s/\s<=255):=by
 simp only[IK,Bool.and_eq_true,decide_eq_true_eq,and_assoc]
def Ah(f:Int×Int×(Int×Int×Int×Int×Int)×Int×List Int):Bool:=
 IK f.2.2.1&&(decide (0<=f.2.1)&&decide (f.2.1<=4))&&decide (f.2.2.2.2.length<=8) &&
  (bif f.1==1 then f.2.1==0&&f.2.2.2.2.isEmpty&&(decide (0<=f.2.2.2.1)&&decide (f.2.2.2.1<=7))&&(f.2.2.1.2==(0,0,0,0))
  else bif f.1==3 then f.2.2.2.2.isEmpty&&f.2.2.2.1==0
  else(f.1==2||f.1==4)&&f.2.2.2.1==0)
def Jo:Int×Int×(Int×Int×Int×Int×Int)×Int×List Int:=(0,0,(0,0,0,0,0),0,[])
end Go.Ev.Pl
namespace Go.Ev.Pl
variable{d:List Int}
def OZ{k r t p m n s b:Int}(h:Ah (k,r,(t,p,m,n,s),b,d)=true):
  IK (t,p,m,n,s)=true/\(0<=r/\r<=4)/\d.length<=8/\
   ((k=1/\r=0/\d=[]/\(0<=b/\b<=7)/\p=0/\m=0/\n=0/\s=0)\/(k=2/\b=0)\/(k=3/\d=[]/\b=0)\/(k=4/\b=0)):=by
 simp only[Ah,Bool.and_eq_true,decide_eq_true_eq] at h;have⟨⟨⟨g,i⟩,j⟩,a⟩:=h;refine⟨g,i,j,?_⟩;by_cases e:k=1
 .subst e;simp[List.isEmpty_iff] at a;exact .inl ⟨rfl,by omega,a.1.1.2,by omega,a.2.1,a.2.2.1,a.2.2.2.1,a.2.2.2.2⟩
 .rw[show(k==1)=false from by simpa using e,cond_false] at a;by_cases f:k=3
  .subst f;simp[List.isEmpty_iff] at a;exact .inr<|.inr<|.inl ⟨rfl,a.1,a.2⟩
  .rw[show(k==3)=false from by simpa using f,cond_false] at a;simp at a;rcases a.1 with c|c
   .exact .inr<|.inl ⟨c,a.2⟩
   .exact .inr<|.inr<|.inr ⟨c,a.2⟩
def aaa{k r t p m n s fr:Int}:Ah (k,r,(t,p,m,n,s),fr,d)=true↔IK (t,p,m,n,s)=true/\(0<=r/\r<=4)/\d.length<=8/\
   ((k=1/\r=0/\d.length=0/\(0<=fr/\fr<=7)/\p=0/\m=0/\n=0/\s=0)\/(k=2/\fr=0)\/(k=3/\d.length=0/\fr=0)\/(k=4/\fr=0)):=by
 constructor
 .intro h;have⟨f,g,i,e⟩:=OZ h;refine⟨f,g,i,?_⟩;rcases e with ⟨a,b,rfl,c⟩|e|⟨a,rfl,b⟩|e
  .exact .inl ⟨a,b,rfl,c⟩
  .exact .inr<|.inl e
  .exact .inr<|.inr<|.inl ⟨a,rfl,b⟩
  .exact .inr<|.inr<|.inr e
 .intro ⟨f,g,i,e⟩;rcases e with ⟨rfl,rfl,b,c,rfl,rfl,rfl,rfl⟩|⟨rfl,rfl⟩|⟨rfl,b,rfl⟩|⟨rfl,rfl⟩
  .rw[List.length_eq_zero_iff.1 b];simp[Ah,f,c]
  .simp[Ah,f,g,i]
  .rw[List.length_eq_zero_iff.1 b];simp[Ah,f,g]
  .simp[Ah,f,g,i]
end Go.Ev.Pl
namespace Go.Ev.Pl
end Go.Ev.Pl
namespace Go.Ev.Pl
def zq(B:List Int)(l:List Bool)(m:Nat):Prop:=B.length=m/\oL B/\∀i,i<8*m->y_ B i=l.getD i false
def KO(l:List Bool)(x:Bool)(i:Nat):(l ++ [x]).getD i false=(l.getD i false||(x&&i==l.length)):=by
 rw[List.getD_eq_getElem?_getD,List.getD_eq_getElem?_getD,List.getElem?_append];by_cases h:i<l.length
 .rw[if_pos h];simp;intro _ a;omega
 .rw[if_neg h,List.getElem?_eq_none (l:=l)<|by omega];by_cases a:i=l.length
  .subst a;simp
  .rw[List.getElem?_eq_none (by simp;omega)];simp[a]
variable{B:List Int}
def O1(h:oL B)(i:Nat):(B.getD i 0).toNat<256:=by
 rw[List.getD_eq_getElem?_getD];by_cases a:i<B.length
 .rw[List.getElem?_eq_getElem a];have:=h _<|List.getElem_mem a;simp only[Option.getD_some];omega
 .rw[List.getElem?_eq_none<|by omega];decide
variable{i:Nat}
def YH(h:oL B)(b:i/8<B.length)(j:Nat):
  y_ (B.set (i/8) (((B.getD (i/8) 0).toNat ||| 128 >>> (i%8):Nat):Int)) j=(y_ B j||j==i):=by
 rw[y_,y_,List.getD_eq_getElem?_getD,List.getElem?_set];by_cases a:i/8=j/8
 .rw[if_pos a,if_pos b];simp only[Option.getD_some,Int.toNat_natCast];have:=amZ ⟨(B.getD (i/8) 0).toNat,O1 h _⟩ ⟨i%8,Nat.mod_lt _<|by decide⟩ ⟨j%8,Nat.mod_lt _<|by decide⟩;simp only at this;rw[this,a];congr 1;rw[Bool.eq_iff_iff];simp only[beq_iff_eq,Fin.mk.injEq];omega
 .rw[if_neg a,<-List.getD_eq_getElem?_getD,show(j==i)=false from by simp;omega,Bool.or_false]
def Si(h:oL B){v:Nat}(c:v<256):oL<|B.set i v:=by
 intro x b;rcases List.mem_or_eq_of_mem_set b with a|rfl
 .exact h x a
 .omega
variable{l:List Bool}{m:Nat}
def zq.set(h:zq B l m)(e:l.length<8*m):
  zq (B.set (l.length/8) (((B.getD (l.length/8) 0).toNat ||| 128 >>> (l.length%8):Nat):Int)) (l ++ [true]) m:=by
 have b:l.length/8<B.length:=by rw[h.1];omega
 have c:∀k:Fin 8,128 >>> k.val<256:=by decide
 refine⟨by rw[List.length_set,h.1],Si h.2.1 ?_,λi a=>?_⟩
 .exact Nat.or_lt_two_pow (n:=8) (O1 h.2.1 _)<|c ⟨l.length%8,Nat.mod_lt _<|by decide⟩
 .rw[YH h.2.1 b,h.2.2 i a,KO,Bool.true_and]
def zq.skip(h:zq B l m):zq B (l ++ [false]) m:=
 ⟨h.1,h.2.1,λi a=>by rw[h.2.2 i a,KO,Bool.false_and,Bool.or_false]⟩
def zq.done(h:zq B l m)(b:m=(l.length+7)/8):B=pack l:=
 af6 (by rw[h.1,b]) h.2.1 λi a=>h.2.2 i (by rw[h.1] at a;exact a)
def zq.grown{n:Nat}{b:List Int}(h:okB n b)(g:b.length<=m):zq (b++List.replicate (m-b.length) 0) (unpack n b) m:=by
 refine⟨by simp;omega,λx e=>?_,λi f=>?_⟩
 .rcases List.mem_append.1 e with a|a
  .exact h.2.1 x a
  .rw[(List.mem_replicate.1 a).2];decide
 .rw[Qp,y_,List.getD_eq_getElem?_getD,List.getElem?_append];by_cases a:i/8<b.length
  .rw[if_pos a,<-List.getD_eq_getElem?_getD];by_cases c:i<n
   .simp only[c,decide_true,Bool.true_and];rfl
   .simp only[c,decide_false,Bool.false_and];exact h.2.2 i (by omega) (by omega)
  .rw[if_neg a,List.getElem?_replicate];have:¬i<n:=by have:=h.1;omega
   simp only[this,decide_false,Bool.false_and];split<;>exact Nat.zero_testBit _
end Go.Ev.Pl
namespace Go.Ev.Pl
def zS:Int×Int×Int×Int×Int:=(0,0,0,0,0)
def sC:(Int×Int×Int×Int×Int)×Int->Int:=λ((t,p,m,n,s),k)=>
 bif decide (k<4)||decide (8<k) then 2
 else bif (decide (0<=t)&&decide (t<=255))&&((decide (0<=p)&&decide (p<=k-1))&&((decide (0<=m)&&decide (m<=3))&&((decide (0<=n)&&decide (n<=4))&&(decide (0<=s)&&decide (s<=2^k.toNat-1))))) then 0 else 40
def aly(c:Int×Int×Int×Int×Int):sC (c,8)=bif IK c then 0 else 40:=by
 have⟨t,p,m,n,s⟩:=c;have e:IK (t,p,m,n,s)=((decide (0<=t)&&decide (t<=255))&&((decide (0<=p)&&decide (p<=8-1))&&((decide (0<=m)&&decide (m<=3))&&((decide (0<=n)&&decide (n<=4))&&(decide (0<=s)&&decide (s<=2^(8:Int).toNat-1)))))):=by
  rw[IK,show(2:Int)^(8:Int).toNat-1=255 from rfl,show(8:Int)-1=7 from rfl];simp only[Bool.and_assoc]
 rw[e];rfl
def UZ:Int×Int->Int:=λ(k,d)=>
 if 0<=d/\d<=8 then(if k=1 then(if d=0 then 40 else 0) else if k=2 then 29+8*d else if k=3 then(if d=0 then 54 else 0) else if k=4 then 79+8*d else 0) else 0
end Go.Ev.Pl
namespace Go.Ev.Pl
end Go.Ev.Pl
