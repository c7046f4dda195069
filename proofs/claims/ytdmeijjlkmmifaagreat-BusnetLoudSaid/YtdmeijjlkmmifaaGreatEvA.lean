/- PROVED: an evaluator is right, operations that leave memory alone. Conditions: the type table fits. -/
import GoSem.Claims
import Derived.Calls
import Derived.Laws.Sem
import Derived.Laws.World
import Derived.Laws.Cells
import Derived.Laws.AppendOwn
import Derived.Laws.Entries
import Derived.Laws.StructEq
import Derived.Laws.Slices
import Derived.Laws.Small
import Derived.Laws.Closers25b
import Derived.Laws.Strings
import Derived.Laws.Append
import Derived.Laws.BytesString
set_option linter.unusedVariables false
set_option linter.defProp false
set_option linter.unusedSimpArgs false
set_option linter.unusedSectionVars false
section
variable{q0 q1 q2 q3 q4 q5 q6 q7 q8 q9 qa:Type}
abbrev Prod.c(x:q0×q1×q2×q3):=x.2.2.1
abbrev Prod.d(x:q0×q1×q2×q3×q4):=x.2.2.2.1
abbrev Prod.e(x:q0×q1×q2×q3×q4×q5):=x.2.2.2.2.1
abbrev Prod.f(x:q0×q1×q2×q3×q4×q5×q6):=x.2.2.2.2.2.1
abbrev Prod.g(x:q0×q1×q2×q3×q4×q5×q6×q7):=x.2.2.2.2.2.2.1
abbrev Prod.h(x:q0×q1×q2×q3×q4×q5×q6×q7×q8):=x.2.2.2.2.2.2.2.1
abbrev Prod.i(x:q0×q1×q2×q3×q4×q5×q6×q7×q8×q9):=x.2.2.2.2.2.2.2.2.1
abbrev Prod.j(x:q0×q1×q2×q3×q4×q5×q6×q7×q8×q9×qa):=x.2.2.2.2.2.2.2.2.2.1
abbrev Prod.C(x:q0×q1×q2×q3):=x.2.2.2
abbrev Prod.D(x:q0×q1×q2×q3×q4):=x.2.2.2.2
abbrev Prod.E(x:q0×q1×q2×q3×q4×q5):=x.2.2.2.2.2
abbrev Prod.F(x:q0×q1×q2×q3×q4×q5×q6):=x.2.2.2.2.2.2
abbrev Prod.G(x:q0×q1×q2×q3×q4×q5×q6×q7):=x.2.2.2.2.2.2.2
abbrev Prod.H(x:q0×q1×q2×q3×q4×q5×q6×q7×q8):=x.2.2.2.2.2.2.2.2
abbrev Prod.I(x:q0×q1×q2×q3×q4×q5×q6×q7×q8×q9):=x.2.2.2.2.2.2.2.2.2
abbrev Prod.J(x:q0×q1×q2×q3×q4×q5×q6×q7×q8×q9×qa):=x.2.2.2.2.2.2.2.2.2.2
variable{pq0 pq1 pq2 pq3 pq4 pq5 pq6 pq7 pq8 pq9 pqa:Prop}
theorem And.c(x:pq0/\pq1/\pq2/\pq3):pq2:=x.2.2.1
theorem And.d(x:pq0/\pq1/\pq2/\pq3/\pq4):pq3:=x.2.2.2.1
theorem And.e(x:pq0/\pq1/\pq2/\pq3/\pq4/\pq5):pq4:=x.2.2.2.2.1
theorem And.f(x:pq0/\pq1/\pq2/\pq3/\pq4/\pq5/\pq6):pq5:=x.2.2.2.2.2.1
theorem And.g(x:pq0/\pq1/\pq2/\pq3/\pq4/\pq5/\pq6/\pq7):pq6:=x.2.2.2.2.2.2.1
theorem And.h(x:pq0/\pq1/\pq2/\pq3/\pq4/\pq5/\pq6/\pq7/\pq8):pq7:=x.2.2.2.2.2.2.2.1
theorem And.i(x:pq0/\pq1/\pq2/\pq3/\pq4/\pq5/\pq6/\pq7/\pq8/\pq9):pq8:=x.2.2.2.2.2.2.2.2.1
theorem And.j(x:pq0/\pq1/\pq2/\pq3/\pq4/\pq5/\pq6/\pq7/\pq8/\pq9/\pqa):pq9:=x.2.2.2.2.2.2.2.2.2.1
theorem And.C(x:pq0/\pq1/\pq2/\pq3):pq3:=x.2.2.2
theorem And.D(x:pq0/\pq1/\pq2/\pq3/\pq4):pq4:=x.2.2.2.2
theorem And.E(x:pq0/\pq1/\pq2/\pq3/\pq4/\pq5):pq5:=x.2.2.2.2.2
theorem And.F(x:pq0/\pq1/\pq2/\pq3/\pq4/\pq5/\pq6):pq6:=x.2.2.2.2.2.2
theorem And.G(x:pq0/\pq1/\pq2/\pq3/\pq4/\pq5/\pq6/\pq7):pq7:=x.2.2.2.2.2.2.2
theorem And.H(x:pq0/\pq1/\pq2/\pq3/\pq4/\pq5/\pq6/\pq7/\pq8):pq8:=x.2.2.2.2.2.2.2.2
theorem And.I(x:pq0/\pq1/\pq2/\pq3/\pq4/\pq5/\pq6/\pq7/\pq8/\pq9):pq9:=x.2.2.2.2.2.2.2.2.2
theorem And.J(x:pq0/\pq1/\pq2/\pq3/\pq4/\pq5/\pq6/\pq7/\pq8/\pq9/\pqa):pqa:=x.2.2.2.2.2.2.2.2.2.2
end
namespace Go.Ev
abbrev cn:=@List.take_succ_eq_append_getElem
abbrev gN:=@List.replicate_append_replicate
abbrev eQ:=@Int.mul_le_mul_of_nonneg_right
abbrev f_:=@Int.mul_le_mul_of_nonneg_left
abbrev aY:=@List.eq_nil_of_length_eq_zero
abbrev d_:=@Array.getD_eq_getD_getElem?
abbrev mj:=@Array.getElem?_append_left
abbrev dy:=@Array.getElem?_eq_some_iff
abbrev i_:=@Int.tdiv_eq_ediv_of_nonneg
abbrev ja:=@Int.tmod_eq_emod_of_nonneg
abbrev dA:=@List.getElem?_append_right
abbrev rI:=@Nat.le_of_mul_le_mul_right
abbrev eY:=@Array.getElem?_eq_getElem
abbrev mJ:=@Array.mapM_eq_mapM_toList
abbrev cB:=@List.getElem?_append_left
abbrev aU:=@List.getElem?_eq_some_iff
abbrev eG:=@Array.toList_eq_nil_iff
abbrev bf:=@Int.eq_ofNat_of_zero_le
abbrev ia:=@List.filter_cons_of_pos
abbrev df:=@List.length_eq_zero_iff
abbrev eU:=@List.drop_eq_nil_of_le
abbrev gx:=@List.drop_of_length_le
abbrev kH:=@List.length_eq_one_iff
abbrev dI:=@List.take_of_length_le
abbrev k_:=@List.getElem?_eq_none
abbrev bU:=@List.length_singleton
abbrev lb:=@List.mem_of_mem_head?
abbrev lf:=@List.singleton_append
abbrev fu:=@List.take_append_drop
abbrev lV:=@Array.toArray_toList
abbrev ji:=@BitVec.ofInt_natCast
abbrev gV:=@List.getElem?_of_mem
abbrev aD:=@List.mem_cons_of_mem
abbrev jk:=@List.mem_iff_getElem
abbrev jl:=@List.mem_of_getElem?
abbrev jm:=@List.mem_of_mem_tail
abbrev aI:=@Nat.mul_le_mul_right
abbrev gf:=@Nat.pow_le_pow_right
abbrev bF:=@Array.length_toList
abbrev gu:=@Array.toList_append
abbrev jL:=@List.drop_replicate
abbrev fj:=@List.map_congr_left
abbrev jM:=@List.replicate_zero
abbrev ib:=@List.take_succ_cons
abbrev fN:=@Nat.add_le_add_left
abbrev iJ:=@BitVec.toNat_ofNat
abbrev mW:=@Int.emod_lt_of_pos
abbrev mX:=@List.filter_append
abbrev da:=@List.getElem?_drop
abbrev cK:=@List.getElem?_take
abbrev aJ:=@List.mem_cons_self
abbrev aO:=@List.mem_singleton
abbrev dM:=@List.pairwise_cons
abbrev mY:=@List.set_cons_zero
abbrev bC:=@Nat.lt_of_lt_of_le
abbrev fM:=@Bool.not_eq_true'
abbrev dF:=@Decidable.not_not
abbrev nH:=@Int.emod_eq_of_lt
abbrev fe:=@List.append_assoc
abbrev dR:=@List.ext_getElem?
abbrev c_:=@List.getElem?_map
abbrev nI:=@List.getElem?_set
abbrev dY:=@List.nodup_append
abbrev dH:=@Result.andThen_ok
abbrev r9:=@Array.toList_map
abbrev cd:=@List.all_eq_true
abbrev oh:=@List.cons_append
abbrev cY:=@List.drop_length
abbrev r_:=@List.getElem_inj
abbrev cZ:=@List.getElem_mem
abbrev bp:=@List.length_cons
abbrev dQ:=@List.length_drop
abbrev dh:=@List.length_take
abbrev oi:=@List.map_toArray
abbrev ol:=@List.mem_reverse
abbrev aC:=@List.not_mem_nil
abbrev oo:=@List.take_length
abbrev lG:=@Nat.mod_eq_of_lt
abbrev lH:=@Nat.not_le_of_lt
abbrev gz:=@Nat.not_lt_of_le
abbrev oq:=@World.size_alloc
abbrev iQ:=@Bool.eq_iff_iff
abbrev o5:=@Bool.or_eq_true
abbrev jY:=@Int.emod_nonneg
abbrev aL:=@List.append_nil
abbrev o6:=@List.drop_left'
abbrev mB:=@List.filter_nil
abbrev jZ:=@List.foldl_cons
abbrev cy:=@List.length_map
abbrev tV:=@List.length_nil
abbrev bW:=@List.length_set
abbrev gk:=@List.map_append
abbrev gl:=@List.mem_filter
abbrev iR:=@List.nil_append
abbrev bR:=@List.nodup_cons
abbrev iT:=@List.take_left'
abbrev j6:=@Nat.min_eq_left
abbrev o7:=@Option.map_some
abbrev dU:=@Bool.and_false
abbrev jj:=@Bool.false_and
abbrev gE:=@Int.mul_nonneg
abbrev fh:=@List.drop_drop
abbrev kR:=@List.drop_take
abbrev qi:=@List.drop_zero
abbrev kS:=@List.mem_range
abbrev qj:=@List.nodup_nil
abbrev kT:=@List.take_take
abbrev dO:=@Bool.true_and
abbrev jR:=@List.all_cons
abbrev eB:=@List.map_cons
abbrev aF:=@List.mem_cons
abbrev eZ:=@Nat.lt_irrefl
abbrev kI:=@Addr.add_lit
abbrev oQ:=@Bool.or_true
abbrev bP:=@Int.le_trans
abbrev gn:=@List.map_map
abbrev mK:=@List.map_nil
abbrev dG:=@List.mem_map
abbrev mM:=@Nat.add_comm
abbrev kJ:=@Nat.add_zero
abbrev kK:=@Nat.le_of_eq
abbrev bd:=@Nat.le_trans
abbrev rS:=@Nat.mul_comm
abbrev e_:=@Nat.ne_of_lt
abbrev mO:=@Nat.sub_self
abbrev kL:=@Nat.succ_mul
abbrev iy:=@Nat.zero_add
abbrev eE:=@Sem.run_bind
abbrev jA:=@Sem.run_pure
abbrev aj:=@Int.le_refl
abbrev fI:=@Nat.add_mul
abbrev ai:=@Nat.le_refl
abbrev jb:=@Nat.le_succ
abbrev aM:=@Nat.zero_le
abbrev iX:=@Int.not_lt
abbrev fH:=@Iff.rfl
abbrev ig:=@Ne.symm
variable{p:Prop}
def cr[Decidable p](h:p):decide p=true:=decide_eq_true h
def gw[Decidable p](h:¬p):decide p=false:=decide_eq_false h
def fZ(a b:Bool):((a&&b)=true)=(a=true/\b=true):=Bool.and_eq_true a b
variable{α:Type}
def t_{a bs:List α}:(a++bs).length=a.length+bs.length:=List.length_append
def AT(n:Nat):(n:Int).toNat=n:=Int.toNat_natCast n
def uR[Decidable p]:(decide p=true)=p:=decide_eq_true_eq
variable{i:Nat}{a:α}{l:List α}
def Jt:l.getD i a=l[i]?.getD a:=List.getD_eq_getElem?_getD
variable{n:Nat}
theorem vH{m:Nat}(h:n.beq m=true):n=m:=Nat.eq_of_beq_eq_true h
theorem xx(h:i<l.length):List.drop i l=l[i]::List.drop (i+1) l:=List.drop_eq_getElem_cons h
def KN(h:i<l.length):l[i]?=some l[i]:=List.getElem?_eq_getElem h
def Ht:(List.replicate n a).length=n:=List.length_replicate
theorem KX{m:Nat}(h:n.ble m=true):n<=m:=Nat.le_of_ble_eq_true h
def pP{s t:List α}:a∈s++t↔a∈s\/a∈t:=List.mem_append
inductive Ty where|int(k:IntKind)|bool|str|slice(t:Ty)|arr(n:Nat)(t:Ty)|struct(ts:List Ty)|any(n:Nat)
mutual
def Ty.T:Ty->Type
 | .int _=>Int
 | .bool=>Bool
 | .str=>List UInt8
 | .slice t=>List t.T
 | .arr _ t=>List t.T
 | .struct ts=>Ty.Ts ts
 | .any _=>Unit
def Ty.Ts:List Ty->Type
 | []=>Unit
 | [t]=>t.T
 | t::a::ts=>t.T×Ty.Ts (a::ts)
end
mutual
def Ty.size:Ty->Nat
 | .arr n t=>n*t.size
 | .struct ts=>Ty.mP ts
 | .any n=>n
 | _=>1
def Ty.mP:List Ty->Nat
 | []=>0
 | t::ts=>t.size+Ty.mP ts
end
def Ty.isAgg:Ty->Bool
 | .arr _ _=>true
 | .struct _=>true
 | .any _=>true
 | _=>false
def qR:IntKind->IntKind->Bool
 | .i8,.i8=>true | .i16,.i16=>true | .i32,.i32=>true | .i64,.i64=>true
 | .u8,.u8=>true | .u16,.u16=>true | .u32,.u32=>true | .u64,.u64=>true
 | _,_=>false
theorem lU{a b:IntKind}(h:qR a b=true):a=b:=by cases a<;>cases b<;>first|rfl|cases h
mutual
def Ty.beq:Ty->Ty->Bool
 | .int a,.int b=>qR a b
 | .bool,.bool=>true
 | .str,.str=>true
 | .slice a,.slice b=>a.beq b
 | .arr n a,.arr m b=>Nat.beq n m&&a.beq b
 | .struct c,.struct bs=>Ty.Vu c bs
 | .any n,.any m=>Nat.beq n m
 | _,_=>false
def Ty.Vu:List Ty->List Ty->Bool
 | [],[]=>true
 | a::aa,b::bs=>a.beq b&&Ty.Vu aa bs
 | _,_=>false
end
mutual
theorem Ty.eq_of_beq:∀{a b:Ty},a.beq b=true->a=b
 | .int a,.int b,h=>by rw[Ty.beq] at h;rw[lU h]
 | .bool,.bool,_=>rfl
 | .str,.str,_=>rfl
 | .slice a,.slice b,h=>by rw[Ty.beq] at h;rw[Ty.eq_of_beq h]
 | .arr n a,.arr m b,h=>by
   rw[Ty.beq,fZ] at h;rw[vH h.1,Ty.eq_of_beq h.2]
 | .struct c,.struct bs,h=>by rw[Ty.beq] at h;rw[Ty.D7 h]
 | .any n,.any m,h=>by simp_all;rw[vH h]
 | .any _,.int _,h | .any _,.bool,h | .any _,.str,h | .any _,.slice _,h | .any _,.arr _ _,h | .any _,.struct _,h=>by simp[Ty.beq] at h
 | .int _,.any _,h | .bool,.any _,h | .str,.any _,h | .slice _,.any _,h | .arr _ _,.any _,h | .struct _,.any _,h=>by simp[Ty.beq] at h
 | .int _,.bool,h | .int _,.str,h | .int _,.slice _,h | .int _,.arr _ _,h | .int _,.struct _,h=>by simp[Ty.beq] at h
 | .bool,.int _,h | .bool,.str,h | .bool,.slice _,h | .bool,.arr _ _,h | .bool,.struct _,h=>by simp[Ty.beq] at h
 | .str,.int _,h | .str,.bool,h | .str,.slice _,h | .str,.arr _ _,h | .str,.struct _,h=>by simp[Ty.beq] at h
 | .slice _,.int _,h | .slice _,.bool,h | .slice _,.str,h | .slice _,.arr _ _,h | .slice _,.struct _,h=>by simp[Ty.beq] at h
 | .arr _ _,.int _,h | .arr _ _,.bool,h | .arr _ _,.str,h | .arr _ _,.slice _,h | .arr _ _,.struct _,h=>by simp[Ty.beq] at h
 | .struct _,.int _,h | .struct _,.bool,h | .struct _,.str,h | .struct _,.slice _,h | .struct _,.arr _ _,h=>by simp[Ty.beq] at h
theorem Ty.D7:∀{c bs:List Ty},Ty.Vu c bs=true->c=bs
 | [],[],_=>rfl
 | a::c,b::bs,h=>by
   rw[Ty.Vu,fZ] at h;rw[Ty.eq_of_beq h.1,Ty.D7 h.2]
 | [],_::_,h=>by simp[Ty.Vu] at h
 | _::_,[],h=>by simp[Ty.Vu] at h
end
mutual
def Ty.gy:(t:Ty)->t.T
 | .int _=>(0:Int)
 | .bool=>false
 | .str=>([]:List UInt8)
 | .slice t=>([]:List t.T)
 | .arr n t=>List.replicate n<|Ty.gy t
 | .struct ts=>Ty.aR ts
 | .any _=>()
def Ty.aR:(a:List Ty)->Ty.Ts a
 | []=>()
 | [t]=>Ty.gy t
 | t::b::a=>(Ty.gy t,Ty.aR<|b::a)
end
mutual
def Ty.sj:Ty->Bool
 | .slice t=>t.sj
 | .arr _ t=>t.sj
 | .struct ts=>Ty.IF ts
 | .any _=>false
 | _=>true
def Ty.IF:List Ty->Bool
 | []=>true
 | t::ts=>t.sj&&Ty.IF ts
end
mutual
def Ty.scalar:Ty->Bool
 | .int _=>true
 | .bool=>true
 | .str=>true
 | .arr _ t=>t.scalar
 | .struct ts=>Ty.np ts
 | _=>false
def Ty.np:List Ty->Bool
 | []=>true
 | t::ts=>t.scalar&&Ty.np ts
end
structure aS where
 b:BinOp->IntKind->Int->Int->Int
 c:BinOp->Int->Int->Bool
 u:UnOp->IntKind->Int->Int
 v:IntKind->Int->Int
 mn:Int->Int->Int
 mx:Int->Int->Int
 and:Bool->Bool->Bool
 not:Bool->Bool
 q:Bool->Bool->Bool
 l:{α:Type}->List α->Int
 n:(t:Ty)->List t.T->Int->t.T
 set:{α:Type}->List α->Int->α->List α
 s:{α:Type}->List α->Int->Int->List α
 p:{α:Type}->List α->List α->List α
 r:{α:Type}->Int->α->List α
 spl:{α:Type}->List α->Int->List α->List α
 z:BinOp->List UInt8->List UInt8->Bool
 byte:List UInt8->Int->Int
 bytes:List Int->List UInt8
 ints:List UInt8->List Int
 k:{α β:Type}->(α->β)->α->β
def EL(c:BinOp)(k:IntKind)(a b:Int):Int:=
 match c with
 | .add=>k.wrap<|a+b
 | .sub=>k.wrap<|a-b
 | .mul=>k.wrap<|a*b
 | .quo=>k.wrap<|a.tdiv b
 | .rem=>a.tmod b
 | .and=>k.wrap (BitVec.ofInt k.bits a &&& BitVec.ofInt k.bits b).toNat
 | .or=>k.wrap (BitVec.ofInt k.bits a ||| BitVec.ofInt k.bits b).toNat
 | .xor=>k.wrap (BitVec.ofInt k.bits a ^^^ BitVec.ofInt k.bits b).toNat
 | .andNot=>k.wrap (BitVec.ofInt k.bits a &&& ~~~ BitVec.ofInt k.bits b).toNat
 | .shl=>k.wrap<|a*2^min b.toNat k.bits
 | .shr=>a.fdiv<|2^min b.toNat k.bits
 | _=>0
def xa(a:BinOp)(x y:Int):Bool:=
 match a with
 | .eql=>x==y
 | .neq=>x != y
 | .lss=>decide<|x<y
 | .leq=>decide<|x<=y
 | .gtr=>decide<|x > y
 | .geq=>decide<|x >= y
 | _=>false
def azP(a:UnOp)(k:IntKind)(n:Int):Int:=
 match a with
 | .neg=>k.wrap<|0-n
 | .xor=>k.wrap (BitVec.ofInt k.bits (if k.signed then -1 else k.max) ^^^ BitVec.ofInt k.bits n).toNat
 | _=>0
def ach(a:BinOp)(x y:List UInt8):Bool:=
 match a with
 | .eql=>x==y
 | .neq=>!(x==y)
 | .lss=>Op.bytesLess x y
 | .leq=>Op.bytesLess x y||x==y
 | .gtr=>!(Op.bytesLess x y||x==y)
 | .geq=>!Op.bytesLess x y
 | _=>false
def af:aS where
 b:=EL
 c:=xa
 u:=azP
 v k n:=k.wrap n
 mn x y:=if y<x then y else x
 mx x y:=if y > x then y else x
 and a b:=a&&b
 not a:=!a
 q a b:=a==b
 l x:=x.length
 n t x i:=x.getD i.toNat t.gy
 set x i v:=x.set i.toNat v
 s x lo hi:=(x.take hi.toNat).drop lo.toNat
 p x y:=x++y
 r n v:=List.replicate n.toNat v
 spl x i y:=x.take i.toNat++y++x.drop (i.toNat+y.length)
 z:=ach
 byte s i:=((s.getD i.toNat 0).toNat:Int)
 bytes x:=x.map λn=>UInt8.ofNat n.toNat
 ints s:=s.map λb=>(b.toNat:Int)
 k f x:=f x
inductive AV where|undef|int(k:IntKind)(c:Bool)(n:Int)|bool(c b:Bool)|str(c:Bool)(s:List UInt8)|sl(t:Ty)(x:List t.T)|fG(isNil:Bool)|own(id:Nat)|t6(id sz:Nat)(c:Bool)(lo len:Int)|ptr(id off:Nat)|lu(id:Nat)(i:Int)(off:Nat)|zo(id off n:Nat)(t:Ty)(i:Int)|pO(t:Ty)(x:t.T)(off:Nat)|jX|fn(f:FuncId)(first caps:List AV)|yield(l:Nat)|tN|agg(cells:List AV)|yV(vs:List AV)
def AV.aaD:AV->Bool
 | .agg _=>false
 | .yV _=>false
 | _=>true
def AV.cells:AV->List AV
 | .agg cs=>cs
 | v=>[v]
mutual
def lK(A:aS):(t:Ty)->t.T->List AV
 | .int k,x=>[.int k false x]
 | .bool,x=>[.bool false x]
 | .str,x=>[.str false x]
 | .slice t,x=>[.sl t x]
 | .arr n t,x=>(List.range n).flatMap λ(i:Nat)=>lK A t<|A.n t x i
 | .struct ts,x=>Ba A ts x
 | .any n,_=>List.replicate n .undef
def Ba(A:aS):(a:List Ty)->Ty.Ts a->List AV
 | [],_=>[]
 | [t],x=>lK A t x
 | t::b::a,x=>lK A t (Prod.fst (α:=t.T) (β:=Ty.Ts<|b::a) x)++Ba A (b::a) (Prod.snd (α:=t.T) (β:=Ty.Ts<|b::a) x)
end
def VI(A:aS)(t:Ty)(x:t.T):AV:=
 match t.isAgg with
 | true=>.agg<|lK A t x
 | false=>(lK A t x).headD .undef
def Cg{α:Type}(f:List AV->Option (α×List AV)):Nat->List AV->Option (List α×List AV)
 | 0,cs=>some ([],cs)
 | n+1,cs=>match f cs with
   | none=>none
   | some (a,r)=>match Cg f n r with
     | none=>none
     | some (b,r')=>some (a::b,r')
mutual
def yk:(t:Ty)->List AV->Option (t.T×List AV)
 | .int k,cs=>match cs with
   | []=>none
   | v::r=>match v with
     | .int k' _ n=>match qR k' k with|true=>some (n,r)|false=>none
     | _=>none
 | .bool,cs=>match cs with
   | []=>none
   | v::r=>match v with
     | .bool _ b=>some (b,r)
     | _=>none
 | .str,cs=>match cs with
   | []=>none
   | v::r=>match v with
     | .str _ s=>some (s,r)
     | _=>none
 | .slice t,cs=>match cs with
   | []=>none
   | v::r=>match v with
     | .sl t' x=>if h:t'.beq t=true then some (Ty.eq_of_beq h▸x,r) else none
     | .fG _=>some ([],r)
     | _=>none
 | .arr n t,cs=>Cg (yk t) n cs
 | .struct ts,cs=>q9 ts cs
 | .any n,cs=>match Nat.ble n cs.length with
   | true=>some ((),cs.drop n)
   | false=>none
def q9:(c:List Ty)->List AV->Option (Ty.Ts c×List AV)
 | [],cs=>some ((),cs)
 | [t],cs=>yk t cs
 | t::e::c,cs=>match yk t cs with
   | none=>none
   | some (a,r)=>match q9 (e::c) r with
     | none=>none
     | some (b,r')=>some ((a,b),r')
end
inductive PT (α:Type) where|leaf|node(l:PT α)(v:Option α)(r:PT α)
def PT.get{α:Type}:PT α->Nat->Option α
 | .leaf,_=>none
 | .node l v r,n=>match Nat.beq n 0 with
   | true=>v
   | false=>match Nat.beq (n%2) 1 with
     | true=>l.get<|n/2
     | false=>r.get<|n/2-1
def PT.put{α:Type}:Nat->PT α->Nat->α->PT α
 | 0,t,_,_=>t
 | f+1,.leaf,n,a=>match Nat.beq n 0 with
   | true=>.node .leaf (some a) .leaf
   | false=>match Nat.beq (n%2) 1 with
     | true=>.node (PT.put f .leaf (n/2) a) none .leaf
     | false=>.node .leaf none<|PT.put f .leaf (n/2-1) a
 | f+1,.node l v r,n,a=>match Nat.beq n 0 with
   | true=>.node l (some a) r
   | false=>match Nat.beq (n%2) 1 with
     | true=>.node (PT.put f l (n/2) a) v r
     | false=>.node l v<|PT.put f r (n/2-1) a
abbrev Env:=PT AV
def Env.at(e:Env)(n:Nat):AV:=match PT.get e n with|some v=>v|none=>.undef
def Env.put(e:Env)(n:Nat)(v:AV):Env:=PT.put 20 e n v
def Env.oI(e:Env)(d:Option Nat)(v:AV):Env:=match d with|some n=>e.put n v|none=>e
def Env.of:Nat->List AV->Env->Env
 | _,[],e=>e
 | n,v::vs,e=>Env.of (n+1) vs<|e.put n v
def amr:IntKind->Int
 | .i8=> -128 | .i16=> -32768 | .i32=> -2147483648 | .i64=> -9223372036854775808|_=>0
def amq:IntKind->Int
 | .i8=>127 | .i16=>32767 | .i32=>2147483647 | .i64=>9223372036854775807
 | .u8=>255 | .u16=>65535 | .u32=>4294967295 | .u64=>18446744073709551615
def My:Value->AV
 | .int k n=>match decide (amr k<=n)&&decide (n<=amq k) with|true=>.int k true n|false=>.undef
 | .bool b=>.bool true b
 | .string s=>match Nat.ble s.data.toList.length 140737488355328 with|true=>.str true s.data.toList|false=>.undef
 | .slice none 0 0=>.fG true
 | .pointer none=>.jX
 | .nilFunc=>.tN
 | _=>.undef
def mV(e:Env):Operand->AV
 | .tmp t=>e.at t
 | .const v=>My v
 | .global _=>.undef
 | .func f=>.fn f [] []
structure Oa where
 fn:FuncId
 n:Nat
 env:Env
 params:List Nat
 assign:Code
 body:Code
 state:Nat
 pending:Option Code
inductive iN where|bY|a_|cu(fz:Bool)(cells:List AV)|arr(fz:Bool)(t:Ty)(x:List t.T)|loop(r:Oa)|Jq|VH
abbrev Mem:=List iN
def Mem.at(m:Mem)(i:Nat):iN:=m.getD i .bY
inductive dX where|code(c:Code)|inBlock(id:Nat)|inLoop(body:Code)|inScope(body:Code)|ops(all:Array Oper)(rest:List Oper)|jO(all:Array Oper)(ms rest bs:List Nat)|sD(all:Array Oper)(ms:List Nat)(i:Nat)(rest bs:List Nat)|oY(l:Nat)|pq(l:Nat)|beginRound
structure dK where
 fn:FuncId
 n:Nat
 env:Env
 todo:List dX
 marks:List Nat
 gB:Option Nat
structure gY where
 bG:List dK
 mem:Mem
def iN.lT:iN->Bool
 | .a_=>true
 | _=>false
def AV.known(m:Mem):AV->Bool
 | .undef=>false
 | .own id=>!(m.at id).lT
 | .t6 id _ _ _ _=>!(m.at id).lT
 | .ptr id _=>!(m.at id).lT
 | .lu id _ _=>!(m.at id).lT
 | .zo id _ _ _ _=>!(m.at id).lT
 | .yield l=>!(m.at l).lT
 | _=>true
inductive TK where
 | bool|int (k:IntKind)|str|slice (e:Nat)|arr (n e:Nat)|struct (fs:List (Nat×Nat×Bool))|ptr (e:Nat)|func|other
structure TI where
 kind:TK
 size:Nat
 bytes:Nat
 agg:Bool
 zero:List AV
 ty:Option Ty
 eq:Bool
structure aK where
 args:List Ty
 res:List Ty
 pre:Ty.Ts args->Bool
 fn:Ty.Ts args->Ty.Ts res
 N_:Bool
structure qG where
 view:Ty
 args:List Ty
 res:List Ty
 pre:view.T×Ty.Ts args->Bool
 fn:view.T×Ty.Ts args->Ty.Ts res
inductive VF where|d(t:Ty)|own(t:Ty)|fix(k:Nat)(t:Ty)|ptr(fs:List VF)|od(fs:List VF)
mutual
def VF.ty:VF->Ty
 | .d t=>t
 | .own t=>.slice t
 | .fix _ t=>.slice t
 | .ptr fs=>.struct<|VF.iq fs
 | .od fs=>.struct<|VF.iq fs
def VF.iq:List VF->List Ty
 | []=>[]
 | f::fs=>f.ty::VF.iq fs
end
def VF.fz:VF->Bool
 | .od _=>true
 | _=>false
def VF.sub:VF->List VF
 | .od fs=>fs
 | .ptr fs=>fs
 | _=>[]
def VF.size:VF->Nat
 | .d t=>t.size
 | _=>1
def VF.mP:List VF->Nat
 | []=>0
 | f::fs=>f.size+VF.mP fs
structure cH where
 aN:List VF
 args:List Ty
 res:List Ty
 pre:Ty.Ts (VF.iq aN)×Ty.Ts args->Bool
 fn:Ty.Ts (VF.iq aN)×Ty.Ts args->Ty.Ts (VF.iq aN)×Ty.Ts res
 rp:Bool
 N_:Bool
structure gg where
 elem:Ty
 args:List Ty
 l_:List FuncId
 res:List Ty
 pre:List elem.T×Ty.Ts args->Bool
 fn:List elem.T×Ty.Ts args->List elem.T×Ty.Ts res
 xh:Bool
structure pn where
 args:List Ty
 out:VF
 opt:Bool
 res:List Ty
 pre:Ty.Ts args->Bool
 fn:Ty.Ts args->Bool×out.ty.T×Ty.Ts res
structure Stop where
 fn:FuncId
 rid:Nat
 keep:List (List Nat)
structure kD(R:Type) where
 ti:PT TI
 l_:List (FuncId×Func)
 kh:List (FuncId×aK)
 stops:List Stop
 qD:List Stop
 fin:AV->Mem->Option R
 u6:List (FuncId×qG):=[]
 u5:List (FuncId×cH):=[]
 keep:Nat:=0
 uY:List (FuncId×gg):=[]
 ops:List (FuncId×pn):=[]
def G3:List Stop->FuncId->Option Nat->Bool
 | [],_,_=>false
 | _::_,_,none=>false
 | s::r,f,some d=>match Nat.beq s.fn f&&Nat.beq s.rid (d+1000000) with
   | true=>true
   | false=>G3 r f<|some d
def look{α:Type}:List (Nat×α)->Nat->Option α
 | [],_=>none
 | (i,a)::r,n=>match Nat.beq i n with|true=>some a|false=>look r n
inductive TV (α:Type) where|leaf(a:α)|br(b:Bool)(t e:TV α)|ao(b:Bool)(t:TV α)|bY(n:Nat)
inductive Tr (R:Type) where|ret(y:R)|ak(c:gY)|br(b:Bool)(t e:Tr R)|ao(b:Bool)(t:Tr R)|eqs(p:Prop)(t:Tr R)|same(l r:AV)(t:Tr R)|and(a b:Tr R)|bY(n:Nat)(pos:String)
def TV.bind{α R:Type}(c:String):TV α->(α->Tr R)->Tr R
 | .leaf a,K=>K a
 | .br b t e,K=>.br b (TV.bind c t K)<|TV.bind c e K
 | .ao b t,K=>.ao b<|TV.bind c t K
 | .bY n,_=>.bY n c
def TV.map{α β:Type}(f:α->β):TV α->TV β
 | .leaf a=>.leaf<|f a
 | .br b t e=>.br b (t.map f)<|e.map f
 | .ao b t=>.ao b<|t.map f
 | .bY n=>.bY n
def HY{α:Type}(n:Nat):Option α->TV α
 | some a=>.leaf a
 | none=>.bY n
def Pn{α:Type}(c:Bool)(b:Bool)(t:TV α):TV α:=
 match c with
 | true=>match b with|true=>t|false=>.bY 2
 | false=>.ao b t
section
variable (A:aS)
def xX(k:IntKind)(c:Bool)(f:aS->Int):AV:=
 match c with
 | true=>.int k true<|f af
 | false=>.int k false<|f A
def xW(c:Bool)(f:aS->Bool):AV:=
 match c with
 | true=>.bool true<|f af
 | false=>.bool false<|f A
def KT:BinOp->Bool
 | .eql=>true | .neq=>true | .lss=>true | .leq=>true | .gtr=>true | .geq=>true|_=>false
def fR:List AV->List AV->Option (Bool×(aS->Bool))
 | [],[]=>some (true,λ_=>true)
 | .int k c a::xs,.int k' c' b::ys=>match qR k k' with
   | false=>none
   | true=>match fR xs ys with
     | none=>none
     | some (c2,g)=>some (c&&c'&&c2,λA=>A.and (A.c .eql a b)<|g A)
 | .bool c a::xs,.bool c' b::ys=>match fR xs ys with
   | none=>none
   | some (c2,g)=>some (c&&c'&&c2,λA=>A.and (A.q a b)<|g A)
 | .str c a::xs,.str c' b::ys=>match fR xs ys with
   | none=>none
   | some (c2,g)=>some (c&&c'&&c2,λA=>A.and (A.z .eql a b)<|g A)
 | _,_=>none
def UX:AV->AV->Bool
 | .int k _ _,.int k' _ _=>qR k k'
 | .bool _ _,.bool _ _=>true
 | .str _ _,.str _ _=>true
 | _,_=>false
def nL:List AV->List AV->Bool
 | [],[]=>true
 | a::as,b::bs=>UX a b&&nL as bs
 | _,_=>false
def v_(b:BinOp)(a:Bool):TV AV:=
 match b with
 | .eql=>.leaf<|.bool true a
 | .neq=>.leaf<|.bool true<|!a
 | _=>.bY 9
def QT(f:BinOp)(k:IntKind)(c:Bool)(a:Int)(g:IntKind)(e:Bool)(b:Int):TV AV:=
 match qR k g with
 | false=>.bY 3
 | true=>match KT f with
   | true=>.leaf<|xW A (c&&e) λA=>A.c f a b
   | false=>match f with
     | .quo=>Pn e (match e with|true=>af.c .neq b 0|false=>A.c .neq b 0)<|.leaf<|xX A k (c&&e) λA=>A.b .quo k a b
     | .rem=>Pn e (match e with|true=>af.c .neq b 0|false=>A.c .neq b 0)<|.leaf<|xX A k (c&&e) λA=>A.b .rem k a b
     | f=>.leaf<|xX A k (c&&e) λA=>A.b f k a b
def L8(f:BinOp)(k:IntKind)(c:Bool)(a:Int)(e:Bool)(b:Int):TV AV:=
 Pn e (match e with|true=>af.c .leq 0 b|false=>A.c .leq 0 b) (.leaf<|xX A k (c&&e) λA=>A.b f k a b)
def Zm(m:Mem)(e:Option TI)(f:BinOp)(x y:AV):TV AV:=
 match x with
 | .int k c a=>match y with
   | .int k' c' b=>match f with
     | .shl=>L8 A .shl k c a c' b
     | .shr=>L8 A .shr k c a c' b
     | f=>QT A f k c a k' c' b
   | _=>.bY 10
 | .bool c a=>match y with
   | .bool c' b=>match e with
     | some e=>match e.kind with
       | .bool=>match f with
         | .eql=>.leaf<|xW A (c&&c') λA=>A.q a b
         | .neq=>.leaf<|xW A (c&&c') λA=>A.not<|A.q a b
         | _=>.bY 4
       | _=>.bY 4
     | none=>.bY 4
   | _=>.bY 10
 | .str c a=>match y with
   | .str c' b=>match KT f with
     | true=>.leaf<|xW A (c&&c') λA=>A.z f a b
     | false=>match f with
       | .add=>.ao (A.c .leq (A.l<|A.p a b) 140737488355328)<|.leaf<|.str false<|A.p a b
       | _=>.bY 5
   | _=>.bY 10
 | .agg xs=>match y with
   | .agg ys=>match e with
     | some e=>match e.eq&&(e.agg&&nL xs e.zero) with
       | false=>.bY 6
       | true=>match fR xs ys with
         | none=>.bY 7
         | some (c,g)=>match f with
           | .eql=>.leaf<|xW A c g
           | .neq=>.leaf<|xW A c λA=>A.not<|g A
           | _=>.bY 8
     | none=>.bY 6
   | _=>.bY 10
 | .fn _ _ _=>match y with
   | .tN=>match e with
     | some e=>match e.kind with | .func=>v_ f false|_=>.bY 9
     | none=>.bY 9
   | _=>.bY 10
 | .tN=>match y with
   | .tN=>match e with
     | some e=>match e.kind with | .func=>v_ f true|_=>.bY 9
     | none=>.bY 9
   | _=>.bY 10
 | .jX=>match y with
   | .jX=>match e with
     | some e=>match e.kind with | .ptr _=>v_ f true|_=>.bY 9
     | none=>.bY 9
   | _=>.bY 10
 | .ptr id _=>match y,m.at id with
   | .jX,.cu _ _=>match e with
     | some e=>match e.kind with | .ptr _=>v_ f false|_=>.bY 9
     | none=>.bY 9
   | _,_=>.bY 10
 | .fG true=>match y with
   | .fG true=>match e with
     | some e=>match e.kind with | .slice _=>v_ f true|_=>.bY 9
     | none=>.bY 9
   | _=>.bY 10
 | .own id=>match y,m.at id with
   | .fG true,.arr _ _ l=>match e with
     | some e=>match e.kind with | .slice _=>.ao (A.c .neq (A.l l) 0) (v_ f false)|_=>.bY 9
     | none=>.bY 9
   | _,_=>.bY 10
 | .sl _ l=>match y with
   | .fG true=>match e with
     | some e=>match e.kind with | .slice _=>.ao (A.c .neq (A.l l) 0) (v_ f false)|_=>.bY 9
     | none=>.bY 9
   | _=>.bY 10
 | _=>.bY 10
def alS(a:UnOp)(x:AV):TV AV:=
 match a,x with
 | .neg,.int k c n=>.leaf<|xX A k c λA=>A.u .neg k n
 | .xor,.int k c n=>.leaf<|xX A k c λA=>A.u .xor k n
 | .not,.bool c b=>.leaf<|xW A c λA=>A.not b
 | _,_=>.bY 11
def eD(off n:Nat)(a:List AV):Option<|List AV:=
 match Nat.ble (off+n) a.length with
 | true=>some<|(a.drop off).take n
 | false=>none
def Ro(m:Mem)(p:AV)(n:Nat):Option<|List AV:=
 match p with
 | .ptr id off=>match m.at id with
   | .cu _ cs=>eD off n cs
   | _=>none
 | .lu id i off=>match m.at id with
   | .arr _ t x=>eD off n<|lK A t<|A.n t x i
   | _=>none
 | .zo id off k t i=>match m.at id with
   | .cu _ cs=>match Nat.beq t.size n,eD off (k*n) cs with
     | true,some l=>match Cg (yk t) k l with
       | some (x,_)=>some<|lK A t<|A.n t x i
       | none=>none
     | _,_=>none
   | _=>none
 | .pO t x off=>eD off n<|lK A t x
 | _=>none
def Tq(agg:Bool)(a:List AV):Option AV:=
 match agg with
 | true=>some<|.agg a
 | false=>match a with
   | [v]=>some v
   | _=>none
def Gv(a:Option TI)(m:Mem)(p:AV):TV AV:=
 match a with
 | none=>.bY 20
 | some a=>match Ro A m p a.size with
   | none=>.bY 21
   | some cs=>HY 22<|Tq a.agg cs
def YB(m:Mem)(p:AV)(n:Nat):Option AV:=
 match p with
 | .ptr id off=>match m.at id with
   | .cu _ _=>some<|.ptr id<|off+n
   | _=>none
 | .lu id i off=>match m.at id with
   | .arr _ _ _=>some<|.lu id i<|off+n
   | _=>none
 | .pO t x off=>some<|.pO t x<|off+n
 | _=>none
def xD(m:Mem)(a:Option TI)(p:AV)(i:Nat):TV AV:=
 match a with
 | some {kind:=.struct fs,.. }=>match fs[i]? with
   | some (off,size,_)=>match Nat.beq size 0 with
     | true=>.bY 23
     | false=>HY 24<|YB m p off
   | none=>.bY 25
 | _=>.bY 26
def nj(c:Bool)(i:Int)(a:Bool)(n:Int)(t:TV AV):TV AV:=
 match c&&a with
 | true=>match af.and (af.c .leq 0 i) (af.c .lss i n) with|true=>t|false=>.bY 31
 | false=>.ao (A.and (A.c .leq 0 i)<|A.c .lss i n) t
def xE(f:Option TI)(a:Nat->Option TI)(m:Mem)(x b:AV):TV AV:=
 match b with
 | .int _ c i=>
   match f with
   | some {kind:=.arr n e,.. }=>match a e,x with
     | some a,.ptr id off=>match m.at id with
       | .cu _ _=>match c with
         | true=>nj A true i true n<|.leaf<|.ptr id<|off+i.toNat*a.size
         | false=>match a.ty with
           | some t=>nj A false i true n<|.leaf<|.zo id off n t i
           | none=>.bY 32
       | _=>.bY 32
     | _,_=>.bY 33
   | some {kind:=.slice e,.. }=>match a e with
     | some a=>match x with
       | .sl t l=>match Nat.beq a.size t.size with
         | true=>nj A false i false (A.l l)<|.leaf<|.pO t (A.n t l i) 0
         | false=>.bY 37
       | .own id=>match m.at id with
         | .arr _ t l=>match Nat.beq a.size t.size with
           | true=>nj A false i false (A.l l)<|.leaf<|.lu id i 0
           | false=>.bY 37
         | _=>.bY 34
       | .t6 id sz c' lo len=>match m.at id with
         | .arr _ t _=>match Nat.beq a.size t.size with
           | true=>nj A c i c' len<|.leaf<|.lu id (A.b .add .i64 lo i) 0
           | false=>.bY 37
         | .cu _ cs=>match c&&(c'&&Nat.beq sz a.size) with
           | true=>nj A true i true len<|.leaf<|.ptr id<|(lo+i).toNat*a.size
           | false=>match a.ty,c'&&Nat.beq sz a.size with
             | some t,true=>nj A c i c' len<|.leaf<|.zo id (lo.toNat*a.size) len.toNat t i
             | some t,false=>match Nat.beq sz a.size&&Nat.blt 0 a.size with
               | true=>nj A c i c' len<|.leaf<|.zo id 0 (cs.length/a.size) t<|A.b .add .i64 lo i
               | false=>.bY 35
             | _,_=>.bY 35
         | _=>.bY 36
       | _=>.bY 37
     | none=>.bY 38
   | _=>.bY 39
 | _=>.bY 40
def L5(f:Option TI)(a:Nat->Option TI)(x b:AV):TV AV:=
 match b with
 | .int _ c i=>
   match f,x with
   | some {kind:=.arr n e,.. },.agg cs=>match a e with
     | some a=>match c with
       | true=>match eD (i.toNat*a.size) a.size cs with
         | some l=>match Tq a.agg l with
           | some v=>nj A true i true n<|.leaf v
           | none=>.bY 41
         | none=>.bY 42
       | false=>match a.ty with
         | some t=>match Cg (yk t) n cs with
           | some (l,_)=>nj A false i true n<|.leaf<|VI A t<|A.n t l i
           | none=>.bY 43
         | none=>.bY 44
     | none=>.bY 45
   | some {kind:=.str,.. },.str c' s=>match c&&c' with
     | true=>nj A true i true s.length<|.leaf<|.int .u8 true<|af.byte s i
     | false=>nj A false i false (A.l s)<|.leaf<|.int .u8 false<|A.byte s i
   | _,_=>.bY 46
 | _=>.bY 47
def bound(c:Bool)(n:Int):Option AV->Option (Bool×Int)
 | none=>some (c,n)
 | some (.int _ c i)=>some (c,i)
 | _=>none
def Hy(c:Bool)(l h n:Int)(t:TV AV):TV AV:=
 match c with
 | true=>match af.and (af.c .leq 0 l) (af.and (af.c .leq l h) (af.c .leq h n)) with|true=>t|false=>.bY 48
 | false=>.ao (A.and (A.c .leq 0 l)<|A.and (A.c .leq l h)<|A.c .leq h n) t
def Ab(n:Nat)(a:TI)(m:Mem)(x:AV)(c b:Option AV):TV AV:=
 match x with
 | .ptr id off=>match m.at id with
   | .cu _ cs=>match Nat.beq a.size 0,Nat.beq (off%a.size) 0&&(Nat.ble (off+n*a.size) cs.length&&Nat.ble (off/a.size+n) 140737488355328) with
     | false,true=>match bound true 0 c,bound true n b with
       | some (c1,l),some (c2,h)=>match c1&&c2 with
         | true=>Hy A true l h n<|.leaf<|.t6 id a.size true ((off/a.size:Nat)+l)<|h-l
         | false=>Hy A false l h n<|.leaf<|.t6 id a.size false (A.b .add .i64 (off/a.size:Nat) l)<|A.b .sub .i64 h l
       | _,_=>.bY 51
     | _,_=>.bY 50
   | _=>.bY 49
 | _=>.bY 52
def sJ:List AV->Bool
 | []=>true
 | v::vs=>match v with
   | .own _=>false
   | .t6 _ _ _ _ _=>false
   | _=>sJ vs
def Gx(a:Nat)(m:Mem)(x:AV)(c b e:Option AV):TV AV:=
 match x with
 | .sl t s=>match Nat.beq t.size a with
   | false=>.bY 53
   | true=>match e with
     | none=>match bound true 0 c,bound false (A.l s) b with
       | some (_,l),some (_,h)=>Hy A false l h (A.l s)<|.leaf<|.sl t<|A.s s l h
       | _,_=>.bY 53
     | some _=>.bY 53
 | .own id=>match m.at id with
   | .arr _ t s=>match Nat.beq t.size a with
     | false=>.bY 54
     | true=>match e with
       | none=>match bound true 0 c,bound false (A.l s) b with
         | some (_,l),some (_,h)=>Hy A false l h (A.l s)<|.leaf<|.t6 id t.size false l<|A.b .sub .i64 h l
         | _,_=>.bY 54
       | some _=>.bY 54
   | _=>.bY 55
 | _=>.bY 59
def L9(b:Option TI)(a:Nat->Option TI)(m:Mem)(x:AV)(f c g:Option AV):TV AV:=
 match b with
 | none=>.bY 62
 | some b=>match b.kind with
   | .arr n e=>match a e,g with
     | some a,none=>Ab A n a m x f c
     | _,_=>.bY 52
   | .slice e=>match a e with
     | some a=>Gx A a.size m x f c g
     | none=>.bY 62
   | _=>.bY 62
def iI(off:Nat)(a b:List AV):Option<|List AV:=
 match Nat.ble (off+a.length) b.length with
 | true=>some<|b.take off++a++b.drop (off+a.length)
 | false=>none
def Oy(m:Mem)(b:List<|Nat×Nat×Bool):List (Nat×AV)->List AV->Option (List AV)
 | [],cs=>some cs
 | (i,v)::ps,cs=>match b[i]? with
   | none=>none
   | some (off,size,_)=>match v.known m&&Nat.beq v.cells.length size with
     | false=>none
     | true=>match iI off v.cells cs with
       | none=>none
       | some a=>Oy m b ps a
def GD(m:Mem)(size:Nat):List (Nat×AV)->List AV->Option (List AV)
 | [],cs=>some cs
 | (i,v)::ps,cs=>match v.known m&&Nat.beq v.cells.length size with
   | false=>none
   | true=>match iI (i*size) v.cells cs with
     | none=>none
     | some a=>GD m size ps a
def LQ(m:Mem)(c:Option TI)(a:Nat->Option TI)(b:List<|Nat×AV):TV AV:=
 match c with
 | some {kind:=.struct fs,zero:=z,.. }=>HY 63<|(Oy m fs b z).map .agg
 | some {kind:=.arr _ e,zero:=z,.. }=>match a e with
   | some a=>HY 64<|(GD m a.size b z).map .agg
   | none=>.bY 65
 | _=>.bY 66
def L1(src a:Option TI)(x:AV):TV AV:=
 match src,a,x with
 | some _,some {kind:=.int k,.. },.int _ c n=>.leaf<|xX A k c λA=>A.v k n
 | some _,some {kind:=.str,.. },.str c s=>.leaf<|.str c s
 | _,_,_=>.bY 67
def Zn(a:Option TI)(m:Mem)(x:AV):TV AV:=
 match a,x with
 | some {kind:=.str,.. },.str c s=>match c with
   | true=>.leaf<|.int .i64 true s.length
   | false=>.leaf<|.int .i64 false<|A.l s
 | some {kind:=.arr n _,.. },_=>match Nat.ble n 140737488355328 with|true=>.leaf (.int .i64 true n)|false=>.bY 68
 | some {kind:=.slice _,.. },.sl _ l=>.leaf<|.int .i64 false<|A.l l
 | some {kind:=.slice _,.. },.fG _=>.leaf<|.int .i64 true 0
 | some {kind:=.slice _,.. },.t6 id _ c _ n=>match (m.at id).lT with|true=>.bY 68|false=>.leaf<|.int .i64 c n
 | some {kind:=.slice _,.. },.own id=>match m.at id with
   | .arr _ _ l=>.leaf<|.int .i64 false<|A.l l
   | _=>.bY 68
 | _,_=>.bY 69
def Zp:List AV->TV AV
 | [.int k c a,.int k' c' b]=>match qR k k' with|true=>.leaf (xX A k (c&&c') λA=>A.mn a b)|false=>.bY 70
 | _=>.bY 70
def Zo:List AV->TV AV
 | [.int k c a,.int k' c' b]=>match qR k k' with|true=>.leaf (xX A k (c&&c') λA=>A.mx a b)|false=>.bY 71
 | [.int k c a,.int k' c' b,.int k'' e d]=>match qR k k',qR k k'' with|true,true=>.leaf (xX A k (c&&(c'&&e)) λA=>A.mx (A.mx a b) d)|_,_=>.bY 71
 | _=>.bY 71
def QN(s d:Option TI)(a:Nat->Option TI)(t:Ty)(l:List t.T):Option<|TV AV:=
 match s,d with
 | some {kind:=.slice e,.. },some {kind:=.str,.. }=>match a e with
   | some {kind:=.int .u8,.. }=>if h:t.beq (.int .u8)=true then some (.leaf<|.str false<|A.bytes (Ty.eq_of_beq h▸l:List<|Ty.T<|.int .u8)) else none
   | _=>none
 | _,_=>none
def uo{R:Type}(E:kD R)(ρ:Operand->AV)(m:Mem)(o:Oper):Option<|TV AV:=
 match o.op with
 | .move x=>some<|.leaf<|ρ x
 | .assign x=>some<|.leaf<|ρ x
 | .pick c a b=>some (match ρ c with
   | .bool true v=>match v with|true=>.leaf (ρ a)|false=>.leaf<|ρ b
   | .bool false v=>.br v (.leaf<|ρ a)<|.leaf<|ρ b
   | _=>.bY 72)
 | .load t p=>some<|Gv A (E.ti.get t) m<|ρ p
 | .nilCheck x=>some (match ρ x with
   | .ptr id off=>match m.at id with | .cu _ _=>.leaf (.ptr id off)|_=>.bY 73
   | .lu id i off=>match m.at id with | .arr _ _ _=>.leaf (.lu id i off)|_=>.bY 73
   | .pO t x off=>.leaf<|.pO t x off
   | .fn f a b=>.leaf<|.fn f a b
   | _=>.bY 73)
 | .binOp op t x y _=>some<|Zm A m (E.ti.get t) op (ρ x)<|ρ y
 | .unOp op _ x=>some<|alS A op<|ρ x
 | .convert s d x=>match ρ x with
   | .int k c n=>some<|L1 A (E.ti.get s) (E.ti.get d)<|.int k c n
   | .str c n=>match E.ti.get d with
     | some {kind:=.str,.. }=>some<|L1 A (E.ti.get s) (E.ti.get d)<|.str c n
     | _=>none
   | .sl t l=>QN A (E.ti.get s) (E.ti.get d) E.ti.get t l
   | _=>none
 | .makeFunc (.func f) first e=>some<|.leaf<|.fn f (first.toList.map ρ)<|e.toList.map ρ
 | .slice t x lo hi mx=>some<|L9 A (E.ti.get t) E.ti.get m (ρ x) (lo.map ρ) (hi.map ρ)<|mx.map ρ
 | .fieldAddr t x i=>some<|xD m (E.ti.get t) (ρ x) i
 | .field _ _ _=>some<|.bY 40
 | .indexAddr t x i=>some<|xE A (E.ti.get t) E.ti.get m (ρ x)<|ρ i
 | .index t x i=>some<|L5 A (E.ti.get t) E.ti.get (ρ x)<|ρ i
 | .extract t i=>some (match ρ t with
   | .yV vs=>HY 74 vs[i]?
   | _=>.bY 75)
 | .build t ps=>some<|LQ m (E.ti.get t) E.ti.get<|ps.toList.map λp=>(p.1,ρ p.2)
 | .call {callee:=.builtin .len,args,argTypes}=>some (match args.toList,argTypes.toList with
   | [x],t::_=>Zn A (E.ti.get t) m<|ρ x
   | _,_=>.bY 76)
 | .call {callee:=.builtin .min,args,.. }=>some<|Zp A<|args.toList.map ρ
 | .call {callee:=.builtin .max,args,.. }=>some<|Zo A<|args.toList.map ρ
 | _=>none
def gi:Mem->List AV->Option (Mem×List AV)
 | m,[]=>some (m,[])
 | m,v::vs=>
   match (match v with
    | .own id=>match m.at id with
      | .arr _ t x=>some (m.set id<|.arr true t x,AV.sl t x)
      | _=>none
    | .t6 id _ _ lo len=>match m.at id with
      | .arr _ t x=>some (m.set id<|.arr true t x,AV.sl t<|A.s x lo<|A.b .add .i64 lo len)
      | _=>none
    | v=>some (m,v)) with
   | none=>none
   | some (m,v)=>match gi m vs with
     | none=>none
     | some (m,vs)=>some (m,v::vs)
def mT(t:Ty)(m:Mem)(v:AV):Option<|List t.T:=
 match v with
 | .sl t' x=>if h:t'.beq t=true then some (Ty.eq_of_beq h▸x) else none
 | .fG _=>some []
 | .own id=>match m.at id with
   | .arr _ t' x=>if h:t'.beq t=true then some (Ty.eq_of_beq h▸x) else none
   | _=>none
 | .t6 id sz c lo len=>match m.at id with
   | .arr _ t' x=>if h:t'.beq t=true then some (A.s (Ty.eq_of_beq h▸x) lo<|A.b .add .i64 lo len) else none
   | .cu _ cs=>match c&&Nat.beq sz t.size with
     | true=>match eD (lo.toNat*t.size) (len.toNat*t.size) cs with
       | some l=>match gi A m l with
         | some (_,l)=>match Cg (yk t) len.toNat l with
           | some (x,_)=>some x
           | none=>none
         | none=>none
       | none=>none
     | false=>none
   | _=>none
 | _=>none
def mm(t:Ty)(m:Mem)(v:AV):Option Mem:=
 match v with
 | .t6 id _ _ lo len=>match m.at id with
   | .cu _ cs=>match eD (lo.toNat*t.size) (len.toNat*t.size) cs with
      | some l=>match gi A m l with
        | some (m',_)=>some m'
        | none=>none
      | none=>none
   | _=>some m
 | _=>some m
def Nx(m:Mem)(p:AV)(a:List AV):Option Mem:=
 match p with
 | .ptr id off=>match m.at id with
   | .cu false cs=>match iI off a cs with
     | some b=>some<|m.set id<|.cu false b
     | none=>none
   | _=>none
 | .lu id i off=>match gi A m a with
   | none=>none
   | some (m,a)=>match m.at id with
     | .arr false t x=>match iI off a (lK A t (A.n t x i)) with
       | some b=>match yk t b with
         | some (y,[])=>some<|m.set id<|.arr false t<|A.set x i y
         | _=>none
       | none=>none
     | _=>none
 | .zo id off k t i=>match gi A m a with
   | none=>none
   | some (m,a)=>match m.at id with
     | .cu false cs=>match eD off (k*t.size) cs with
       | some l=>match Cg (yk t) k l,yk t a with
         | some (x,_),some (y,[])=>match iI off (lK A (.arr k t) (A.set x i y)) cs with
           | some b=>some<|m.set id<|.cu false b
           | none=>none
         | _,_=>none
       | none=>none
     | _=>none
 | _=>none
def A6(m:Mem):List AV->Bool
 | []=>true
 | v::vs=>v.known m&&(v.aaD&&A6 m vs)
def L_(a:Option TI)(m:Mem)(p v:AV):TV Mem:=
 match a with
 | none=>.bY 80
 | some a=>match v.known m&&(Nat.beq v.cells.length a.size&&A6 m v.cells) with
   | false=>.bY 81
   | true=>HY 82<|Nx A m p v.cells
def room(a:Nat)(n:Int):Bool:=A.c .leq (A.b .mul .i64 n a) 140737488355328
def BS(t:Ty)(m:Mem)(v:AV):Option<|AV×Mem:=
 match v with
 | .t6 id sz true lo n=>match m.at id with
   | .cu false cs=>match decide (lo=0)&&(Nat.beq cs.length (n.toNat*t.size)&&(Nat.beq sz t.size && !Nat.beq t.size 0)) with
     | true=>match Nat.beq n.toNat 0 with
       | true=>some (.fG false,m)
       | false=>match gi A m cs with
         | some (m',a)=>match Cg (yk t) n.toNat a with
           | some (x,[])=>some (.own m'.length,m'.set id .a_ ++ [.arr false t x])
           | _=>none
         | none=>none
     | false=>none
   | _=>none
 | v=>some (v,m)
def CW(t:Ty)(m:Mem)(v:AV):Option<|AV×Mem:=
 match v with
 | .t6 id sz c lo n=>match m.at id with
   | .cu _ cs=>match Nat.beq sz t.size&&(!Nat.beq t.size 0&&Nat.beq cs.length (cs.length/t.size*t.size)) with
     | true=>match gi A m cs with
       | some (m',a)=>match Cg (yk t) (cs.length/t.size) a with
         | some (x,[])=>some (.sl t<|match c&&(decide (lo=0)&&decide (n=(cs.length/t.size:Nat))) with|true=>x|false=>A.s x lo<|A.b .add .i64 lo n,m'.set id<|.cu true a)
         | _=>none
       | none=>none
     | false=>none
   | _=>none
 | _=>none
def CV(t:Ty)(m:Mem)(v:AV):Option<|AV×Mem:=
 match CW A t m v with
 | some r=>some r
 | none=>none
def Hq:AV->Option Bool
 | .t6 _ _ true _ n=>some<|decide<|n=0
 | .fG _=>some true
 | _=>none
def C3(t:Ty)(a:Nat)(m:Mem)(c:AV)(y:List t.T)(e:Option Bool):TV<|AV×Mem:=
  match BS A t m c with
  | none=>.bY 85
  | some (c,m)=>match c with
    | .fG b=>match e with
      | some true=>.leaf (.fG b,m)
      | some false=>.ao (A.c .leq (A.l y)<|140737488355328/(a.max 1:Nat))<|.leaf (.own m.length,m ++ [.arr false t y])
      | none=>.br (A.c .eql (A.l y) 0) (.leaf (.fG b,m))<|.ao (A.c .leq (A.l y)<|140737488355328/(a.max 1:Nat))<|.leaf (.own m.length,m ++ [.arr false t y])
    | .own id=>match m.at id with
      | .arr false t' x=>if h:t'.beq t=true then
         .ao (A.c .leq (A.l<|A.p (Ty.eq_of_beq h▸x) y)<|140737488355328/(a.max 1:Nat))
          (.leaf (.own m.length,m.set id .a_ ++ [.arr false t<|A.p (Ty.eq_of_beq h▸x) y]))
        else .bY 83
      | _=>.bY 84
    | _=>.bY 85
def Gs(t:Ty)(a:Nat)(m:Mem)(b src:AV):TV<|AV×Mem:=
 match mT A t m src,mm A t m src with
 | some y,some m=>C3 A t a m b y<|Hq src
 | _,_=>.bY 86
def QS(t:Ty)(m:Mem)(a src:AV):TV<|AV×Mem:=
 match mT A t m src,mm A t m src with
 | some y,some m=>
   match a with
   | .own id=>match m.at id with
     | .arr false t' x=>if h:t'.beq t=true then
        let z:List t.T:=Ty.eq_of_beq h▸x
        let n:=A.mn (A.l y) (A.l z)
        .leaf (.int .i64 false n,m.set id<|.arr false t<|A.spl z 0<|A.s y 0 n)
       else .bY 87
     | _=>.bY 88
   | .t6 id _ false lo len=>match m.at id with
     | .arr false t' x=>if h:t'.beq t=true then
        let z:List t.T:=Ty.eq_of_beq h▸x
        let n:=A.mn (A.l y) len
        .leaf (.int .i64 false n,m.set id<|.arr false t<|A.spl z lo<|A.s y 0 n)
       else .bY 89
     | _=>.bY 90
   | _=>.bY 91
 | _,_=>.bY 92
def LZ(t:Ty)(m:Mem)(a:AV):TV<|AV×Mem:=
 match a with
 | .t6 id _ false lo len=>match m.at id with
   | .arr false t' x=>if h:t'.beq t=true then
      .leaf (.yV [],m.set id<|.arr false t<|A.spl (Ty.eq_of_beq h▸x) lo<|A.r len t.gy)
     else .bY 119
   | _=>.bY 120
 | _=>.bY 121
mutual
def Ty.leaves:Ty->List (Option Ty)
 | .slice t=>[some t]
 | .arr n t=>(List.replicate n t.leaves).flatten
 | .struct ts=>Ty.Mr ts
 | _=>[none]
def Ty.Mr:List Ty->List (Option Ty)
 | []=>[]
 | t::ts=>t.leaves++Ty.Mr ts
end
def amo:iN->Bool
 | .cu _ _=>true
 | _=>false
def BR(k:Option Ty)(m:Mem)(v:AV):Option<|AV×Mem:=
 match k,v with
 | some t,.t6 id sz c lo n=>match amo (m.at id) with
   | true=>CV A t m<|.t6 id sz c lo n
   | false=>some (.t6 id sz c lo n,m)
 | _,v=>some (v,m)
def H6:List (Option Ty)->Mem->List AV->Option (Mem×List AV)
 | [],m,cs=>some (m,cs)
 | _::_,m,[]=>some (m,[])
 | k::ks,m,v::vs=>match BR A k m v with
   | none=>none
   | some (v,m)=>match H6 ks m vs with
     | none=>none
     | some (m,vs)=>some (m,v::vs)
def Ry(t:Option Ty)(n:Nat)(m:Mem)(a:List AV):Option<|Mem×List AV:=
 match t with
 | none=>some (m,a)
 | some t=>H6 A (List.replicate n t.leaves).flatten m a
def ah6(q:Bool)(a:TV<|AV×Mem):TV<|AV×Mem:=
 match q with
 | false=>a
 | true=>match a with
   | .br b _ e=>.ao (A.not b) e
   | .leaf (.fG _,_)=>.bY 118
   | a=>a
def Ma(q:Bool)(m:Mem)(v:AV):AV×Mem:=
 match q with
 | false=>(v,m)
 | true=>match v with
   | .t6 id _ _ lo n=>match m.at id with
     | .arr false t x=>match decide (lo=0) with
       | true=>(.own m.length,m.set id .a_ ++ [.arr false t<|A.s x 0 n])
       | false=>(v,m)
     | _=>(v,m)
   | v=>(v,m)
def xC{R:Type}(E:kD R)(fn:FuncId)(ρ:Operand->AV)(m:Mem)(o:Oper):TV<|AV×Mem:=
 match o.op with
 | .alloc t=>match E.ti.get t with
   | some ti=>.leaf (.ptr m.length 0,m ++ [.cu false ti.zero])
   | none=>.bY 100
 | .box _ x=>match (ρ x).known m with
   | true=>.leaf (.ptr m.length 0,m ++ [.cu (G3 E.stops fn<|o.dst.map λd=>d+2000000) (ρ x).cells])
   | false=>.bY 99
 | .buildSlice t n ps=>match E.ti.get t with
   | some {kind:=.slice e,.. }=>match E.ti.get e with
     | some te=>match GD m te.size (ps.toList.map λp=>(p.1,ρ p.2)) ((List.replicate n te.zero).flatten) with
       | some cs=>match Nat.ble (n*te.size) 16777216&&Nat.ble n 140737488355328 with
         | true=>match Ry A te.ty n m cs with
           | some (m,cs)=>.leaf (.t6 m.length te.size true 0 n,m ++ [.cu false cs])
           | none=>.bY 101
         | false=>.bY 101
       | none=>.bY 101
     | none=>.bY 102
   | _=>.bY 103
 | .makeSlice t l c=>match E.ti.get t with
   | some {kind:=.slice e,.. }=>match E.ti.get e with
     | some {ty:=some t,bytes,.. }=>match ρ l,ρ c with
       | .int _ _ n,.int _ _ n'=>.ao (match G3 E.stops fn (some 1000000) with
          | true=>A.and (A.c .leq n n')<|A.and (A.c .leq 0 n)<|A.c .leq n'<|140737488355328/(bytes.max 1:Nat)
          | false=>A.and (A.c .eql n n')<|A.and (A.c .leq 0 n)<|A.c .leq n<|140737488355328/(bytes.max 1:Nat))
          (.leaf (.own m.length,m ++ [.arr false t<|A.r n t.gy]))
       | _,_=>.bY 104
     | _=>.bY 105
   | _=>.bY 106
 | .store t p x=>match Ma A (G3 E.stops fn (some 1000000)) m (ρ x) with
   | (v,m)=>(L_ A (E.ti.get t) m (ρ p) v).map λm=>(.undef,m)
 | .call {callee:=.builtin .append,args,argTypes}=>match args.toList,argTypes.toList with
   | [d,s],t::t'::_=>match E.ti.get t,E.ti.get t' with
     | some {kind:=.slice e,.. },some {kind:=.slice _,.. }=>match E.ti.get e with
       | some {ty:=some t,bytes,.. }=>ah6 A (G3 E.stops fn o.dst)<|Gs A t bytes m (ρ d)<|ρ s
       | _=>.bY 107
     | _,_=>.bY 109
   | _,_=>.bY 110
 | .call {callee:=.builtin .copy,args,argTypes}=>match args.toList,argTypes.toList with
   | [d,s],t::t'::_=>match E.ti.get t,E.ti.get t' with
     | some {kind:=.slice e,.. },some {kind:=.slice _,.. }=>match E.ti.get e with
       | some {ty:=some t,.. }=>QS A t m (ρ d)<|ρ s
       | _=>.bY 111
     | _,_=>.bY 112
   | _,_=>.bY 113
 | .call {callee:=.builtin .clear,args,argTypes}=>match args.toList,argTypes.toList with
   | [d],t::_=>match E.ti.get t with
     | some {kind:=.slice e,.. }=>match E.ti.get e with
       | some {ty:=some t,.. }=>LZ A t m<|ρ d
       | _=>.bY 122
     | _=>.bY 123
   | _,_=>.bY 124
 | .convert s d x=>match E.ti.get s,E.ti.get d with
   | some {kind:=.slice e,.. },some {kind:=.str,.. }=>match E.ti.get e with
     | some {kind:=.int .u8,.. }=>match mT A (.int .u8) m (ρ x),mm A (.int .u8) m (ρ x) with
       | some l,some m=>.leaf (.str false<|A.bytes l,m)
       | _,_=>.bY 114
     | _=>.bY 114
   | _,_=>.bY 116
 | _=>.bY 117
end
mutual
def aax:AV->List Nat
 | .own id=>[id]
 | .t6 id _ _ _ _=>[id]
 | .ptr id _=>[id]
 | .lu id _ _=>[id]
 | .zo id _ _ _ _=>[id]
 | .yield l=>[l]
 | .fn _ a b=>Dc a++Dc b
 | .agg cs=>Dc cs
 | .yV cs=>Dc cs
 | _=>[]
def Dc:List AV->List Nat
 | []=>[]
 | v::vs=>aax v++Dc vs
end
def idxOf:List Nat->Nat->Nat->Nat
 | [],_,k=>k
 | i::r,n,k=>match Nat.beq i n with|true=>k|false=>idxOf r n<|k+1
mutual
def nJ(l:List Nat):AV->AV
 | .own id=>.own<|idxOf l id 0
 | .t6 id sz _ lo len=>.t6 (idxOf l id 0) sz false lo len
 | .ptr id off=>.ptr (idxOf l id 0) off
 | .lu id i off=>.lu (idxOf l id 0) i off
 | .zo id off n t i=>.zo (idxOf l id 0) off n t i
 | .yield id=>.yield<|idxOf l id 0
 | .fn f a b=>.fn f (u7 l a)<|u7 l b
 | .agg cs=>.agg<|u7 l cs
 | .yV cs=>.yV<|u7 l cs
 | .int k _ n=>.int k false n
 | .bool _ b=>.bool false b
 | .str _ s=>.str false s
 | .undef=>.undef
 | .sl t x=>.sl t x
 | .fG b=>.fG b
 | .pO t x off=>.pO t x off
 | .jX=>.jX
 | .tN=>.tN
def u7(l:List Nat):List AV->List AV
 | []=>[]
 | v::vs=>nJ l v::u7 l vs
end
def Mm:PT AV->List Nat
 | .leaf=>[]
 | .node l v r=>(match v with|some a=>aax a|none=>[])++(Mm l++Mm r)
def Bw:iN->List Nat
 | .cu _ cs=>Dc cs
 | .loop r=>Mm r.env
 | _=>[]
def tL:List Nat->Nat->Bool
 | [],_=>false
 | i::r,n=>match Nat.beq i n with|true=>true|false=>tL r n
def oU:List Nat->List Nat->List Nat
 | acc,[]=>acc
 | acc,i::r=>match tL acc i with
   | true=>oU acc r
   | false=>oU (acc ++ [i]) r
def oy:Nat->Mem->List Nat->Nat->List Nat
 | 0,_,acc,_=>acc
 | f+1,m,acc,p=>match acc[p]? with
   | none=>acc
   | some id=>oy f m (oU acc<|Bw<|m.at id)<|p+1
def qQ:dX->List Nat
 | .oY l=>[l]
 | .pq l=>[l]
 | _=>[]
def uG(l:List Nat):dX->dX
 | .oY id=>.oY<|idxOf l id 0
 | .pq id=>.pq<|idxOf l id 0
 | x=>x
def Iv(l:List Nat):PT AV->PT AV
 | .leaf=>.leaf
 | .node a v b=>.node (Iv l a) (match v with|some x=>some (nJ l x)|none=>none)<|Iv l b
def PO(l:List Nat)(fz:Bool)(a:List AV):List AV:=match fz,a with
 | true,[.int k c n]=>[.int k c n]
 | _,a=>u7 l a
def qm(l:List Nat):iN->iN
 | .bY=>.a_
 | .a_=>.a_
 | .cu fz cs=>.cu fz<|PO l fz cs
 | .arr fz t x=>.arr fz t x
 | .loop r=>.loop {r with env:=Iv l r.env}
 | .Jq=>.Jq
 | .VH=>.VH
def Us(e:Env):List Nat->List Nat
 | []=>[]
 | i::r=>aax (e.at i)++Us e r
def aic(i:Nat):Nat:=i%65536
def Ur(e:Env)(i:Nat)(r:Env):Env:=
 match Nat.ble i 65535,e.at i with
 | true,.int k c n=>r.put i<|.int k c n
 | _,_=>r
def uC(l:List Nat)(e:Env):List Nat->Env
 | []=>.leaf
 | i::r=>match Nat.ble i 65535 with
   | true=>(uC l e r).put i<|nJ l<|e.at i
   | false=>Ur e (aic i)<|uC l e r
def qo:List (List Nat)->List dK->List Nat
 | _,[]=>[]
 | ks,f::fs=>Us f.env (ks.headD [])++(f.marks++((match f.gB with|some l=>[l]|none=>[])++(f.todo.flatMap qQ++qo ks.tail fs)))
def sW(l:List Nat):List (List Nat)->List dK->List dK
 | _,[]=>[]
 | ks,f::fs=>{f with env:=uC l f.env (ks.headD []),todo:=f.todo.map (uG l),marks:=f.marks.map (idxOf l · 0),gB:=f.gB.map (idxOf l · 0)}::sW l ks.tail fs
def canon(k:Nat)(a:List<|List Nat)(c:gY):gY:=
 let l:=oy (c.mem.length+1) c.mem (oU (List.range k)<|qo a c.bG) 0
 {bG:=sW l a c.bG,mem:=(l.map λid=>qm l<|c.mem.at id) ++ [.a_]}
def kN:Code->Option Nat
 | .region id _ _=>some id
 | .seq a b=>match kN a with|some i=>some i|none=>kN b
 | .block _ b=>kN b
 | .loop b=>kN b
 | .scope b=>kN b
 | .cond _ a b=>match kN a with|some i=>some i|none=>kN b
 | _=>none
def DC:List Stop->FuncId->Option Nat->Option (List<|List Nat)
 | _,_,none=>none
 | [],_,_=>none
 | s::r,f,some i=>match Nat.beq s.fn f,Nat.beq s.rid i with
   | true,true=>some s.keep
   | _,_=>DC r f<|some i
def O5:Option Code->Bool
 | none=>true
 | some _=>false
def Hf:Option Code->Nat
 | none=>0
 | some _=>2
def mQ(id:Nat):List dX->Option (List dX)
 | .inBlock a::k=>match Nat.beq a id with|true=>some k|false=>mQ id k
 | _::k=>mQ id k
 | []=>none
def mR(l:Nat):List dX->Option (List dX)
 | .inScope body::k=>match findLabel body l with
   | some rest=>some<|.code rest :: .inScope body::k
   | none=>mR l k
 | _::k=>mR l k
 | []=>none
def kE:List Ty->List AV->Bool
 | [],[]=>true
 | t::ts,v::vs=>(match t.isAgg,v with
   | true,.agg cs=>Nat.beq cs.length t.size
   | true,_=>false
   | false,.agg _=>false
   | false,_=>true)&&kE ts vs
 | _,_=>false
def ir(A:aS):(a:List Ty)->Ty.Ts a->List AV
 | [],_=>[]
 | [t],x=>[VI A t x]
 | t::b::a,x=>VI A t (Prod.fst (α:=t.T) (β:=Ty.Ts (b::a)) x)::ir A (b::a) (Prod.snd (α:=t.T) (β:=Ty.Ts (b::a)) x)
def gU:List AV->AV
 | [v]=>v
 | vs=>.yV vs
def fL(A:aS)(b:List Ty)(m:Mem)(a:List AV):Option<|Mem×List AV:=
 match H6 A (Ty.Mr b) m a with
 | none=>none
 | some (m,a)=>gi A m a
def aa9{α:Type}(a b:Bool)(t:TV α):TV α:=
 match a with
 | true=>t
 | false=>.ao b t
def vS(A:aS)(s:aK)(m:Mem)(a:List AV):TV<|AV×Mem:=
 match kE s.args a with
 | false=>.bY 120
 | true=>match fL A s.args m (a.flatMap AV.cells) with
   | none=>.bY 121
   | some (m,cs)=>match q9 s.args cs with
     | some (x,[])=>aa9 s.N_ (A.k s.pre x)<|.leaf (gU<|ir A s.res<|A.k s.fn x,m)
     | _=>.bY 122
def LX(A:aS)(s:qG)(m:Mem)(a:List AV):TV<|AV×Mem:=
 match a with
 | .ptr id 0::rest=>match m.at id with
   | .cu _ cs=>match yk s.view cs with
     | some (x,[])=>match kE s.args rest with
       | false=>.bY 123
       | true=>match fL A s.args m (rest.flatMap AV.cells) with
         | none=>.bY 124
         | some (m,cs)=>match q9 s.args cs,Ty.np s.res with
           | some (y,[]),true=>.ao (A.k s.pre (x,y))<|.leaf (gU<|ir A s.res<|A.k s.fn (x,y),m)
           | _,_=>.bY 125
     | _=>.bY 126
   | _=>.bY 127
 | _=>.bY 128
def og:List Nat->Bool
 | []=>true
 | i::is=>!tL is i&&og is
mutual
def VF.read(m:Mem):(f:VF)->List AV->Option (f.ty.T×List Nat×List AV)
 | .d t,cs=>match yk t cs with
   | some (x,r)=>some (x,[],r)
   | none=>none
 | .own t,cs=>match cs with
   | []=>none
   | v::r=>match v with
     | .own id=>match m.at id with
       | .arr false t' x=>if h:t'.beq t=true then some ((Ty.eq_of_beq h▸x:List t.T),[id],r) else none
       | _=>none
     | .fG _=>some (([]:List t.T),[],r)
     | _=>none
 | .fix _ t,cs=>match cs with
   | []=>none
   | v::r=>match v with
     | .own id=>match m.at id with
       | .arr false t' x=>if h:t'.beq t=true then some ((Ty.eq_of_beq h▸x:List t.T),[id],r) else none
       | _=>none
     | _=>none
 | .ptr fs,cs=>match cs with
   | []=>none
   | v::r=>match v with
     | .ptr id off=>match off,m.at id with
       | 0,.cu false l=>match VF.reads m fs l with
         | some (x,ids,[])=>some (x,id::ids,r)
         | _=>none
       | _,_=>none
     | _=>none
 | .od fs,cs=>match cs with
   | []=>none
   | v::r=>match v with
     | .ptr id off=>match off,m.at id with
       | 0,.cu true l=>match VF.reads m fs l with
         | some (x,ids,[])=>some (x,ids,r)
         | _=>none
       | _,_=>none
     | _=>none
def VF.reads(m:Mem):(c:List VF)->List AV->Option (Ty.Ts (VF.iq c)×List Nat×List AV)
 | [],cs=>some ((),[],cs)
 | [f],cs=>VF.read m f cs
 | f::g::c,cs=>match VF.read m f cs with
   | none=>none
   | some (x,a,r)=>match VF.reads m (g::c) r with
     | none=>none
     | some (y,b,r)=>some ((x,y),a++b,r)
end
mutual
def VF.fx(m:Mem):VF->List AV->List (Nat×Nat)
 | .fix k _,cs=>match cs with
   | .own id::_=>[(k,id)]
   | _=>[]
 | .ptr fs,cs=>match cs with
   | .ptr id _::_=>match m.at id with
     | .cu _ l=>VF.yz m fs l
     | _=>[]
   | _=>[]
 | .od fs,cs=>match cs with
   | .ptr id _::_=>match m.at id with
     | .cu _ l=>VF.yz m fs l
     | _=>[]
   | _=>[]
 | _,_=>[]
def VF.yz(m:Mem):List VF->List AV->List (Nat×Nat)
 | [],_=>[]
 | f::fs,cs=>VF.fx m f cs++match VF.read m f cs with
   | some (_,_,r)=>VF.yz m fs r
   | none=>[]
end
mutual
def VF.Hl:VF->List Nat
 | .fix k _=>[k]
 | .ptr fs=>VF.i7 fs
 | .od fs=>VF.i7 fs
 | _=>[]
def VF.i7:List VF->List Nat
 | []=>[]
 | f::fs=>f.Hl++VF.i7 fs
end
mutual
def VF.rows:(f:VF)->f.ty.T->List (Nat×iN)
 | .fix k t,x=>[(k,.arr false t x)]
 | .ptr fs,x=>VF.gF fs x
 | .od fs,x=>VF.gF fs x
 | _,_=>[]
def VF.gF:(a:List VF)->Ty.Ts (VF.iq a)->List (Nat×iN)
 | [],_=>[]
 | [f],x=>VF.rows f x
 | f::g::a,x=>VF.rows f (Prod.fst (α:=f.ty.T) (β:=Ty.Ts<|VF.iq<|g::a) x)++VF.gF (g::a) (Prod.snd (α:=f.ty.T) (β:=Ty.Ts<|VF.iq<|g::a) x)
end
mutual
def VF.neT(A:aS){α:Type}:(f:VF)->f.ty.T->TV α->TV α
 | .fix _ t,x,k=>.ao (A.c .neq (A.l<|show List t.T from x) 0) k
 | .ptr fs,x,k=>VF.aa8 A fs x k
 | .od fs,x,k=>VF.aa8 A fs x k
 | _,_,k=>k
def VF.aa8(A:aS){α:Type}:(a:List VF)->Ty.Ts (VF.iq a)->TV α->TV α
 | [],_,k=>k
 | [f],x,k=>VF.neT A f x k
 | f::g::a,x,k=>VF.neT A f (Prod.fst (α:=f.ty.T) (β:=Ty.Ts<|VF.iq<|g::a) x)<|VF.aa8 A (g::a) (Prod.snd (α:=f.ty.T) (β:=Ty.Ts<|VF.iq<|g::a) x) k
end
def al7(fx:List<|Nat×Nat)(k:Nat):AV:=
 match look fx k with
 | some id=>.own id
 | none=>.undef
def G4(fx:List<|Nat×Nat)(rows:List<|Nat×iN)(i:Nat):Option iN:=
 match fx with
 | []=>none
 | (k,id)::fx=>match Nat.beq id i with
   | true=>look rows k
   | false=>G4 fx rows i
mutual
def VF.write(A:aS)(g:Nat->AV):(f:VF)->f.ty.T->Mem->Mem×List AV
 | .d t,x,m=>(m,lK A t x)
 | .own t,x,m=>(m ++ [.arr false t x],[.own m.length])
 | .fix k _,_,m=>(m,[g k])
 | .ptr fs,x,m=>match VF.writes A g fs x m with
   | (m',cs)=>(m' ++ [.cu false cs],[.ptr m'.length 0])
 | .od _,_,m=>(m,[.undef])
def VF.writes(A:aS)(g:Nat->AV):(c:List VF)->Ty.Ts (VF.iq c)->Mem->Mem×List AV
 | [],_,m=>(m,[])
 | [f],x,m=>VF.write A g f x m
 | f::h::c,x,m=>match VF.write A g f (Prod.fst (α:=f.ty.T) (β:=Ty.Ts<|VF.iq<|h::c) x) m with
   | (m1,a)=>match VF.writes A g (h::c) (Prod.snd (α:=f.ty.T) (β:=Ty.Ts<|VF.iq<|h::c) x) m1 with
     | (m2,b)=>(m2,a++b)
end
def VF.back(A:aS)(g:Nat->AV):(f:VF)->AV->f.ty.T->Mem->Option Mem
 | .ptr fs,v,x,m=>match v with
   | .ptr id _=>match VF.writes A g fs x m with
     | (m',cs)=>some<|m'.set id<|.cu false cs
   | _=>none
 | .od fs,v,x,m=>match v with
   | .ptr id _=>match VF.writes A g fs x m with
     | (m',cs)=>some<|m'.set id<|.cu true cs
   | _=>none
 | _,_,_,_=>none
def VF.Kq(A:aS)(g:Nat->AV):(a:List VF)->List AV->Ty.Ts (VF.iq a)->Mem->Option Mem
 | [],_,_,m=>some m
 | [f],vs,x,m=>match vs with
   | v::_=>VF.back A g f v x m
   | []=>none
 | f::h::a,vs,x,m=>match vs with
   | v::vs=>match VF.back A g f v (Prod.fst (α:=f.ty.T) (β:=Ty.Ts<|VF.iq<|h::a) x) m with
     | some m=>VF.Kq A g (h::a) vs (Prod.snd (α:=f.ty.T) (β:=Ty.Ts<|VF.iq<|h::a) x) m
     | none=>none
   | []=>none
def iF:List VF->Bool
 | []=>true
 | f::fs=>match f with
   | .ptr _=>iF fs
   | .od _=>iF fs
   | _=>false
def gb:List AV->List Nat
 | []=>[]
 | v::vs=>match v with
   | .ptr id _=>id::gb vs
   | _=>gb vs
def yr(rows:Nat->Option iN)(roots:List Nat)(i:Nat)(b:iN):iN:=
 match rows i with
 | some bx=>bx
 | none=>match tL roots i,b with
   | true,.cu _ cs=>.cu false<|List.replicate cs.length .undef
   | _,_=>.a_
def Cq(rows:Nat->Option iN)(roots:List Nat):List Nat->Mem->Mem
 | [],m=>m
 | i::r,m=>Cq rows roots r<|m.set i<|yr rows roots i<|m.at i
def Rh:VF->AV->Mem->Mem
 | .od _,v,m=>match v with
   | .ptr id _=>match m.at id with
     | .cu _ cs=>m.set id<|.cu true cs
     | _=>m
   | _=>m
 | _,_,m=>m
def yA:List VF->List AV->Mem->Mem
 | [],_,m=>m
 | f::fs,vs,m=>match vs with
   | v::vs=>yA fs vs<|Rh f v m
   | []=>m
def ayE(c:Bool)(b:List AV)(v:AV):AV:=
 match c with
 | false=>v
 | true=>match b with
   | a::_=>a
   | []=>.undef
def YM(A:aS)(s:cH)(fx:List<|Nat×Nat)(a:List AV)(x:Ty.Ts<|VF.iq s.aN)(ids:List Nat)(m:Mem):Option Mem:=
 VF.Kq A (al7 fx) s.aN a x (Cq (G4 fx<|VF.gF s.aN x) (gb a) ids m)
def LV(A:aS)(s:cH)(m:Mem)(a:List AV):TV<|AV×Mem:=
 match kE s.args (a.drop s.aN.length) with
 | false=>.bY 190
 | true=>match fL A s.args m ((a.drop s.aN.length).flatMap AV.cells) with
   | none=>.bY 191
   | some (m,cs)=>match q9 s.args cs with
     | some (y,[])=>match VF.reads (yA s.aN (a.take s.aN.length) m) s.aN (a.take s.aN.length) with
       | some (x,ids,[])=>match og ids&&(og (gb (a.take s.aN.length))&&(iF s.aN&&og (VF.i7 s.aN))) with
         | false=>.bY 192
         | true=>match YM A s (VF.yz (yA s.aN (a.take s.aN.length) m) s.aN (a.take s.aN.length)) (a.take s.aN.length) (A.k s.fn (x,y)).1 ids (yA s.aN (a.take s.aN.length) m) with
           | some m=>aa9 s.N_ (A.k s.pre (x,y))<|VF.aa8 A s.aN x<|.leaf (ayE s.rp a<|gU<|ir A s.res (A.k s.fn (x,y)).2,m)
           | none=>.bY 193
       | _=>.bY 194
     | _=>.bY 195
def GX:List FuncId->List AV->Bool
 | [],vs=>match vs with | []=>true|_=>false
 | f::fs,vs=>match vs with
   | []=>false
   | v::vs=>match v with
     | .fn g [] []=>Nat.beq g f&&GX fs vs
     | _=>false
def Qg{α:Type}(b:Bool)(l:List α):List α:=match b with|false=>l|true=>l.drop (l.length-1)++l.take (l.length-1)
def zv{α:Type}(b:Bool)(a:α)(l:List α):List α:=match b with|false=>a::l|true=>l ++ [a]
def LU(A:aS)(s:gg)(m:Mem)(a:List AV):TV<|AV×Mem:=
 match Qg s.xh a with
 | []=>.bY 200
 | v::rest=>match kE s.args (rest.take s.args.length)&&GX s.l_ (rest.drop s.args.length) with
   | false=>.bY 201
   | true=>match fL A s.args m ((rest.take s.args.length).flatMap AV.cells) with
     | none=>.bY 202
     | some (m,cs)=>match q9 s.args cs with
       | some (y,[])=>match v with
         | .own id=>match m.at id with
           | .arr false t x=>if h:t.beq s.elem=true then
              .ao (A.k s.pre ((Ty.eq_of_beq h▸x:List s.elem.T),y)) (.leaf (gU<|ir A s.res (A.k s.fn ((Ty.eq_of_beq h▸x:List s.elem.T),y)).2,m.set id<|.arr false s.elem (A.k s.fn ((Ty.eq_of_beq h▸x:List s.elem.T),y)).1))
             else .bY 203
           | _=>.bY 204
         | .fG _=>.ao (A.k s.pre (([]:List s.elem.T),y))<|.leaf (gU<|ir A s.res (A.k s.fn (([]:List s.elem.T),y)).2,m)
         | _=>.bY 205
       | _=>.bY 206
def LW(A:aS)(s:pn)(m:Mem)(a:List AV):TV<|AV×Mem:=
 match kE s.args a with
 | false=>.bY 210
 | true=>match fL A s.args m (a.flatMap AV.cells) with
   | none=>.bY 211
   | some (m,cs)=>match q9 s.args cs with
     | some (x,[])=>match VF.write A (λ_=>.undef) s.out (A.k s.fn x).2.1 m with
       | (m',[v])=>.ao (A.k s.pre x) (match s.opt with
         | false=>.leaf (gU<|v::ir A s.res (A.k s.fn x).2.2,m')
         | true=>.br (A.k s.fn x).1 (.leaf (gU<|v::ir A s.res (A.k s.fn x).2.2,m'))<|.leaf (gU<|.jX::ir A s.res (A.k s.fn x).2.2,m))
       | _=>.bY 213
     | _=>.bY 212
def tx(A:aS){R:Type}(E:kD R)(g:FuncId)(m:Mem)(a:List AV):Option<|TV<|AV×Mem:=
 match look E.u6 g with
 | some s=>some<|LX A s m a
 | none=>match look E.u5 g with
   | some s=>some<|LV A s m a
   | none=>match look E.uY g with
     | some s=>some<|LU A s m a
     | none=>match look E.ops g with
       | some s=>some<|LW A s m a
       | none=>none
def adE{α:Type}:TV α->Option α
 | .leaf a=>some a
 | _=>none
def Bh(A:aS){R:Type}(E:kD R)(b:Env)(m:Mem):ResultVar->Option AV
 | .tmp t=>some<|b.at t
 | .cell a t=>adE<|Gv A (E.ti.get t) m<|b.at a
def qO(A:aS){R:Type}(E:kD R)(a:Env)(m:Mem):List ResultVar->Option (List AV)
 | []=>some []
 | r::rs=>match Bh A E a m r with
   | none=>none
   | some v=>match qO A E a m rs with
     | none=>none
     | some vs=>some<|v::vs
def sT:List Nat->Mem->Option Mem
 | [],m=>some m
 | d::ds,m=>match m.at d with
   | .Jq=>sT ds<|m.set d .VH
   | _=>none
def tu(n:Nat):Option Nat->Bool
 | none=>true
 | some d=>Nat.blt d n
def finish(g:dK)(v:AV):Option dK:=
 match g.todo with
 | .ops all (o::rest)::k=>match tu g.n o.dst with
   | true=>some {g with env:=g.env.oI o.dst v,todo:=.ops all rest::k}
   | false=>none
 | .sD all ms i rest bs::k=>match all[i]? with
   | some o=>match tu g.n o.dst with
     | true=>some {g with env:=g.env.oI o.dst v,todo:=.jO all ms rest bs::k}
     | false=>none
   | none=>none
 | .oY l::k=>some {g with todo:=.pq l::k}
 | _=>none
def ju(f:FuncId)(F:Func)(a:List AV):Option dK:=
 match F.body with
 | none=>none
 | some b=>match Nat.ble a.length F.ntmps,Nat.ble F.ntmps 65535 with
   | true,true=>some {fn:=f,n:=F.ntmps,env:=Env.of 0 a .leaf,todo:=[.code b],marks:=[],gB:=none}
   | _,_=>none
def Aw:List Nat->List AV->Env->Env
 | [],_,e=>e
 | _,[],e=>e
 | i::is,v::vs,e=>Aw is vs<|e.put i v
def uQ(e:Edge):Bool:=
 match e.ground with
 | .textOnly _=>false
 | .gcOnly _=>false
 | _=>true
def qb(a:List Nat):List Edge->Nat
 | []=>0
 | e::es=>match uQ e with
   | true=>(2^e.on ||| a.getD e.on 0) ||| qb a es
   | false=>qb a es
def oN:List Oper->List Nat->List Nat
 | [],ms=>ms
 | o::os,ms=>oN os<|ms ++ [qb ms o.after.toList]
def pV:Nat->List Oper->Bool
 | _,[]=>true
 | i,o::os=>o.after.toList.all (λe=>!uQ e||Nat.blt e.on i)&&pV (i+1) os
def tmpsOf:List Operand->List Nat
 | []=>[]
 | x::r=>match x with
   | .tmp t=>t::tmpsOf r
   | _=>tmpsOf r
def iH(all:Array Oper)(o:Oper):List Nat:=
 match o.guard with
 | none=>[]
 | some (j,_)=>match all[j]? with
   | none=>[]
   | some p=>match p.dst with
     | some d=>[d]
     | none=>[]
def kU(all:Array Oper)(o:Oper):List Nat:=tmpsOf o.op.operands.toList++iH all o
def isDst(d:Nat):Option Nat->Bool
 | some x=>Nat.beq x d
 | none=>false
def BL(all:Array Oper)(bs:List Nat)(d:Nat):Bool:=
 bs.all λb=>match all[b]? with
  | some o=>!tL (kU all o) d
  | none=>false
def Rq(all:Array Oper)(bs:List Nat)(d:Nat):Bool:=
 bs.all λb=>match all[b]? with
  | some o=>!isDst d o.dst
  | none=>false
def uW(all:Array Oper)(bs:List Nat):Option Nat->Bool
 | none=>true
 | some d=>BL all bs d&&Rq all bs d
def abq(all:Array Oper)(m:Nat)(bs:List Nat)(o:Oper):Bool:=
 bs.all λb=>match all[b]? with
  | some p=>match p.dst with
    | some d=>!tL (kU all o) d||m.testBit b
    | none=>true
  | none=>false
def H7(all:Array Oper)(o:Oper):Bool:=
 match o.dst with
 | none=>true
 | some d=>!tL (kU all o) d
def yC(m:Nat)(o:Oper):Bool:=
 match o.guard with
 | none=>true
 | some (j,_)=>m.testBit j
def o9:AV->AV->Prop
 | .bool _ a,.bool _ b=>a=b
 | .int k _ a,.int k' _ b=>k=k'/\a=b
 | x,y=>x=y
def wD(a:Env):Option Nat->AV->Prop
 | none,_=>True
 | some d,v=>o9 v<|a.at d
def aqx(a:List<|FuncId×aK):Op->Bool
 | .move _=>true | .assign _=>true | .pick _ _ _=>true | .load _ _=>true | .nilCheck _=>true | .binOp _ _ _ _ _=>true | .unOp _ _ _=>true
 | .convert _ _ _=>true | .makeFunc _ _ _=>true | .slice _ _ _ _ _=>true | .fieldAddr _ _ _=>true | .field _ _ _=>true | .indexAddr _ _ _=>true | .index _ _ _=>true
 | .extract _ _=>true | .build _ _=>true
 | .call c=>match c.callee with
   | .builtin b=>match b with | .len=>true | .min=>true | .max=>true|_=>false
   | .value x=>match x with | .func f=>(match look a f with|some _=>true|none=>false)|_=>false
   | _=>false
 | _=>false
def aby(a:List<|FuncId×aK)(all:Array Oper)(b:List Nat)(left:Nat):List Nat->Option Nat
 | []=>none
 | i::is=>match Nat.beq (b.getD i 0 &&& left) 0,all[i]? with
   | true,some o=>match aqx a o.op with|true=>some i|false=>aby a all b left is
   | _,_=>aby a all b left is
def vv:List Nat->Nat->List Nat
 | [],_=>[]
 | i::is,n=>match Nat.beq i n with|true=>is|false=>i::vv is n
def eager(a:List (FuncId×aK))(all:Array Oper)(b:List Nat):Nat->Nat->List Nat->List Nat
 | 0,_,_=>[]
 | f+1,left,is=>match aby a all b left is with
   | some i=>i::eager a all b f (left-2^i) (vv is i)
   | none=>match is with
     | []=>[]
     | i::is=>i::eager a all b f (left-2^i) is
def qN(e:List<|FuncId×aK)(a:Array Oper):Option<|List Nat×List Nat:=
 let c:=oN a.toList []
 let b:=eager e a c a.size (2^a.size-1)<|List.range a.size
 match pV 0 a.toList&&(og b&&(b.all (λi=>Nat.blt i a.size)&&(List.range a.size).all (λi=>tL b i))) with
 | true=>some (c,b)
 | false=>none
def uP(j:Nat)(a:List Nat):Nat->List Nat->List Nat
 | _,[]=>[]
 | k,m::ms=>(match tL a k && !Nat.beq k j with|true=>m ||| 2^j|false=>m)::uP j a (k+1) ms
def Tx:List Nat->Nat
 | []=>0
 | i::r=>2^i ||| Tx r
def R8(c a:List Nat)(j:Nat):Bool:=a.all λb=>!(c.getD j 0).testBit b
def UB(e:List<|FuncId×aK)(all:Array Oper)(f a:List Nat)(j:Nat):Option<|List Nat×List Nat:=
 let r:=vv a j
 let b:=uP j a 0 f
 let c:=eager e all b r.length (Tx r) r
 match og (j::c)&&(c.all (λi=>tL r i)&&r.all (λi=>tL c i)) with
 | true=>some (b,j::c)
 | false=>none
def Og{R:Type}(K:Nat->Tr R):List Nat->Tr R
 | []=>.bY 181 ""
 | j::js=>match js with
   | []=>K j
   | _::_=>.and (K j)<|Og K js
def tj(m:Nat)(bs:List Nat):List Nat:=bs.filter λb=>!m.testBit b
def qP(all:Array Oper)(a:Env)(o:Oper):Option Bool:=
 match o.guard with
 | none=>some true
 | some (j,want)=>match all[j]? with
   | none=>none
   | some p=>match p.dst with
     | none=>none
     | some d=>match a.at d with
       | .bool c v=>match c with
         | true=>match v,want with
           | true,true=>some true
           | false,false=>some true
           | _,_=>some false
         | false=>none
       | .yV []=>some false
       | _=>none
section
variable (A:aS) {R:Type} (E:kD R)
def E_(all:Array Oper)(a:Env)(o:Oper)(b e:Env->Tr R):Tr R:=
 match o.guard with
 | none=>b a
 | some (j,want)=>match all[j]? with
   | none=>.bY 130 o.pos
   | some p=>match p.dst with
     | none=>.bY 131 o.pos
     | some d=>match a.at d with
       | .bool c v=>match c with
         | true=>match v,want with
           | true,true=>b a
           | false,false=>b a
           | _,_=>e a
         | false=>match want with
           | true=>.br v (b<|a.put d<|.bool true true)<|e<|a.put d<|.bool true false
           | false=>.br v (e<|a.put d<|.bool true true)<|b<|a.put d<|.bool true false
       | .yV []=>e a
       | _=>.bY 132 o.pos
def Bc(m:Mem)(ρ:Operand->AV)(o:Oper):Option<|TV AV:=
 match o.op with
 | .call c=>match c.callee with
   | .value x=>match ρ x with
     | .fn g first a=>match look E.kh g with
       | some s=>match sJ ((first++(c.args.toList.map ρ++a)).flatMap AV.cells) with
         | true=>some<|(vS A s m<|first++(c.args.toList.map ρ++a)).map Prod.fst
         | false=>none
       | none=>none
     | _=>none
   | _=>none
 | _=>none
def evV(m:Mem)(ρ:Operand->AV)(o:Oper):Option<|TV AV:=
 match uo A E ρ m o with
 | some a=>some a
 | none=>Bc A E m ρ o
def ace(a:Env):Option Nat->AV->Tr R->Tr R
 | none,_,t=>t
 | some d,v,t=>.same v (a.at d) t
def yj(a:Env)(m:Mem)(all:Array Oper):List Nat->Tr R->Tr R
 | [],t=>t
 | b::bs,t=>match all[b]? with
   | none=>.bY 170 ""
   | some o=>match qP all a o with
     | none=>.bY 171 o.pos
     | some false=>ace a o.dst (.yV [])<|yj a m all bs t
     | some true=>match evV A E m (mV a) o with
       | none=>.bY 172 o.pos
       | some c=>c.bind o.pos λv=>ace a o.dst v<|yj a m all bs t
def wH(f:dK)(m:Mem)(t:Tr R):Tr R:=
 match f.todo with
 | .jO all _ _ bs::_=>yj A E f.env m all bs t
 | _=>t
def Rj(all:Array Oper)(bs:List Nat)(a:Env)(o:Oper)(b c:Env->Tr R):Tr R:=
 match qP all a o with
 | some true=>b a
 | some false=>c a
 | none=>match iH all o with
   | [d]=>match BL all bs d with
     | true=>E_ all a o b c
     | false=>.bY 173 o.pos
   | _=>.bY 174 o.pos
def run:Nat->gY->Tr R
 | 0,c=>.ak c
 | n+1,c=>
   match c.bG with
   | []=>.bY 140 ""
   | f::fs=>
     let back (g:dK) (D:List dK) (m:Mem):Tr R:=wH A E g m<|run n {bG:=g::D,mem:=m}
     let u (z:Option Code):Tr R:=
      match f.gB with
      | none=>match sT f.marks c.mem with
        | none=>.bY 139 ""
        | some m=>match look E.l_ f.fn with
          | none=>.bY 141 ""
          | some F=>match qO A E f.env m F.results.toList with
            | none=>.bY 142 ""
            | some vs=>match fs with
              | []=>match E.fin (gU vs) m with
                | some y=>.ret y
                | none=>.bY 143 ""
              | g::D=>match finish g (gU vs) with
                | some g=>back g D m
                | none=>.bY 144 ""
      | some l=>match c.mem.at l with
        | .loop r=>match fs with
          | g::D=>match finish g (.bool true (O5 z)) with
            | some g=>back g D<|c.mem.set l<|.loop {r with state:=Hf z,pending:=z}
            | none=>.bY 145 ""
          | []=>.bY 146 ""
        | _=>.bY 147 ""
     let enter (g:FuncId) (B:String) (H:List AV) (t:dK):Tr R:=
      match look E.l_ g with
      | none=>.bY 163 B
      | some G=>match ju g G H with
        | none=>.bY 164 B
        | some h=>run n {bG:=h::t::fs,mem:=c.mem}
     let yield (l:Nat) (B:String) (H:List AV) (t:dK):Tr R:=
      match c.mem.at l with
      | .loop r=>match Nat.beq r.params.length H.length&&r.params.all (λp=>Nat.blt p r.n) with
        | true=>run n {bG:={fn:=r.fn,n:=r.n,env:=Aw r.params H r.env,todo:=[.code r.assign,.beginRound,.code r.body],marks:=[],gB:=some l}::t::fs,mem:=c.mem}
        | false=>.bY 165 B
      | _=>.bY 166 B
     match f.todo with
     | []=>u none
     | i::k=>match i with
       | .inBlock _=>run n {c with bG:={f with todo:=k}::fs}
       | .inScope _=>run n {c with bG:={f with todo:=k}::fs}
       | .inLoop body=>match DC E.stops f.fn (kN body) with
         | some ks=>.ak<|canon E.keep ks c
         | none=>run n {c with bG:={f with todo:=.code body :: .inLoop body::k}::fs}
       | .oY _=>.bY 148 ""
       | .sD _ _ _ _ _=>.bY 148 ""
       | .pq l=>match c.mem.at l with
         | .loop r=>match Nat.beq r.state 1 with
           | true=>.bY 149 ""
           | false=>run n {bG:={f with todo:=(match r.pending with|some j=>.code j::k|none=>k)}::fs,mem:=c.mem.set l<|.loop {r with state:=3}}
         | _=>.bY 150 ""
       | .beginRound=>match f.gB with
         | some l=>match c.mem.at l with
           | .loop r=>match Nat.beq r.state 0 with
             | true=>run n {bG:={f with todo:=k}::fs,mem:=c.mem.set l<|.loop {r with state:=1}}
             | false=>.bY 151 ""
           | _=>.bY 152 ""
         | none=>.bY 153 ""
       | .code x=>match x with
         | .skip=>run n {c with bG:={f with todo:=k}::fs}
         | .label _=>run n {c with bG:={f with todo:=k}::fs}
         | .ret=>u<|some .ret
         | .seq a b=>run n {c with bG:={f with todo:=.code a :: .code b::k}::fs}
         | .cond x a b=>match mV f.env x with
           | .bool c1 v=>match c1 with
             | true=>match v with
               | true=>run n {c with bG:={f with todo:=.code a::k}::fs}
               | false=>run n {c with bG:={f with todo:=.code b::k}::fs}
             | false=>.br v (run n {c with bG:={f with todo:=.code a::k}::fs})<|run n {c with bG:={f with todo:=.code b::k}::fs}
           | _=>.bY 154 ""
         | .block id b=>run n {c with bG:={f with todo:=.code b :: .inBlock id::k}::fs}
         | .loop b=>run n {c with bG:={f with todo:=.inLoop b::k}::fs}
         | .scope b=>run n {c with bG:={f with todo:=.code b :: .inScope b::k}::fs}
         | .exit id=>match mQ id k with
           | some k=>run n {c with bG:={f with todo:=k}::fs}
           | none=>match f.gB with
             | some _=>u<|some<|.exit id
             | none=>.bY 155 ""
         | .goto l=>match mR l k with
           | some k=>run n {c with bG:={f with todo:=k}::fs}
           | none=>match f.gB with
             | some _=>u<|some<|.goto l
             | none=>.bY 156 ""
         | .refuse _=>.bY 157 ""
         | .rangeFunc x ps a b=>match mV f.env x with
           | .fn g [] q=>
             let J:Option<|List Nat×Mem:=match f.gB with
              | none=>some (c.mem.length::f.marks,c.mem ++ [.Jq])
              | some l0=>match c.mem.at l0 with
                | .loop _=>some (f.marks,c.mem)
                | _=>none
             match J with
             | none=>.bY 158 ""
             | some (marks,m)=>match look E.l_ g with
               | none=>.bY 159 ""
               | some G=>match ju g G (.yield m.length::q) with
                 | none=>.bY 160 ""
                 | some h=>run n {bG:=h :: {f with todo:=.oY m.length::k,marks:=marks}::fs,mem:=m ++ [.loop {fn:=f.fn,n:=f.n,env:=f.env,params:=ps.toList,assign:=a,body:=b,state:=0,pending:=none}]}
           | _=>.bY 161 ""
         | .region id os draw=>match DC E.qD f.fn (some id) with
           | some ks=>.ak<|canon E.keep ks c
           | none=>match draw with
             | false=>run n {c with bG:={f with todo:=.ops os os.toList::k}::fs}
             | true=>match qN E.kh os with
               | some (ms,is)=>run n {c with bG:={f with todo:=.jO os ms is []::k}::fs}
               | none=>.bY 175 ""
       | .ops all rest=>match rest with
         | []=>run n {c with bG:={f with todo:=k}::fs}
         | o::rest=>match tu f.n o.dst with
           | false=>.bY 162 o.pos
           | true=>E_ all f.env o
             (λe=>
               let next (v:AV) (m:Mem):Tr R:=run n {bG:={f with env:=e.oI o.dst v,todo:=.ops all rest::k}::fs,mem:=m}
               match uo A E (mV e) c.mem o with
               | some C=>C.bind o.pos λv=>next v c.mem
               | none=>match o.op with
                 | .call {callee:=.value x,args,.. }=>match mV e x with
                   | .fn g first q=>match look E.kh g with
                     | some s=>(vS A s c.mem<|first++(args.toList.map (mV e)++q)).bind o.pos λp=>next p.1 p.2
                     | none=>match tx A E g c.mem (first++(args.toList.map (mV e)++q)) with
                       | some C=>C.bind o.pos λp=>next p.1 p.2
                       | none=>enter g o.pos (first++(args.toList.map (mV e)++q)) {f with env:=e}
                   | .yield l=>yield l o.pos (args.toList.map<|mV e) {f with env:=e}
                   | _=>.bY 167 o.pos
                 | _=>(xC A E f.fn (mV e) c.mem o).bind o.pos λp=>next p.1 p.2)
             (λe=>run n {c with bG:={f with env:=e.oI o.dst<|.yV [],todo:=.ops all rest::k}::fs})
       | .jO all ms rest bs=>match rest with
         | []=>run n {c with bG:={f with todo:=k}::fs}
         | i::rest=>match all[i]? with
           | none=>.bY 176 ""
           | some o=>match tu f.n o.dst&&(abq all (ms.getD i 0) bs o&&yC (ms.getD i 0) o) with
             | false=>.bY 177 o.pos
             | true=>Rj all bs f.env o
               (λe=>match evV A E c.mem (mV e) o,uW all bs o.dst&&H7 all o with
                 | some C,true=>C.bind o.pos λv=>run n {c with bG:={f with env:=e.oI o.dst v,todo:=.jO all ms rest (i::bs)::k}::fs}
                 | _,_=>match rest.all (λj=>(ms.getD j 0).testBit i) with
                  | false=>Og (λj=>match UB E.kh all ms (i::rest) j with
                     | some (I,is)=>run n {bG:={f with env:=e,todo:=.jO all I is bs::k}::fs,mem:=c.mem}
                     | none=>.bY 180 o.pos)<|(i::rest).filter<|R8 ms<|i::rest
                  | true=>match uW all (tj (ms.getD i 0) bs) o.dst with
                   | false=>.bY 178 o.pos
                   | true=>
                     let next (v:AV) (m:Mem):Tr R:=yj A E (e.oI o.dst v) m all (tj (ms.getD i 0) bs)<|run n {bG:={f with env:=e.oI o.dst v,todo:=.jO all ms rest (tj (ms.getD i 0) bs)::k}::fs,mem:=m}
                     let t:dK:={f with env:=e,todo:=.sD all ms i rest (tj (ms.getD i 0) bs)::k}
                     match uo A E (mV e) c.mem o with
                     | some C=>C.bind o.pos λv=>next v c.mem
                     | none=>match o.op with
                       | .call {callee:=.value x,args,.. }=>match mV e x with
                         | .fn g first q=>match look E.kh g with
                           | some s=>(vS A s c.mem<|first++(args.toList.map (mV e)++q)).bind o.pos λp=>next p.1 p.2
                           | none=>match tx A E g c.mem (first++(args.toList.map (mV e)++q)) with
                             | some C=>C.bind o.pos λp=>next p.1 p.2
                             | none=>enter g o.pos (first++(args.toList.map (mV e)++q)) t
                         | .yield l=>yield l o.pos (args.toList.map<|mV e) t
                         | _=>.bY 167 o.pos
                       | _=>(xC A E f.fn (mV e) c.mem o).bind o.pos λp=>next p.1 p.2)
               (λe=>match uW all bs o.dst&&H7 all o with
                 | true=>run n {c with bG:={f with env:=e.oI o.dst<|.yV [],todo:=.jO all ms rest (i::bs)::k}::fs}
                 | false=>.bY 179 o.pos)
def Tr.Ok(Q:R->Prop)(G:gY->Prop):Tr R->Prop
 | .ret y=>Q y
 | .ak c=>G c
 | .br b t e=>(b=true->Tr.Ok Q G t)/\(b=false->Tr.Ok Q G e)
 | .ao b t=>b=true/\Tr.Ok Q G t
 | .eqs p t=>p/\Tr.Ok Q G t
 | .same l r t=>o9 l r/\Tr.Ok Q G t
 | .and a b=>Tr.Ok Q G a/\Tr.Ok Q G b
 | .bY _ _=>False
end
def C7(A:aS)(a:List Ty)(v:AV)(m:Mem):Option<|Ty.Ts a:=
 match (match a with | [_]=>some [v]|_=>match v with | .yV b=>some b|_=>none:Option<|List AV) with
 | none=>none
 | some b=>match kE a b with
   | false=>none
   | true=>match fL A a m (b.flatMap AV.cells) with
     | none=>none
     | some (_,cs)=>match q9 a cs with
       | some (y,[])=>some y
       | _=>none
def Zs(A:aS)(t:Ty)(a:List Ty)(v:AV)(m:Mem):Option<|List t.T×Ty.Ts a:=
 match (match a with | [_]=>some [v]|_=>match v with | .yV b=>some b|_=>none:Option<|List AV) with
 | none=>none
 | some b=>match kE a b with
   | false=>none
   | true=>match fL A a m (b.flatMap AV.cells) with
     | none=>none
     | some (m,cs)=>match q9 a cs with
       | some (y,[])=>match m.at 0 with
         | .arr false t' x=>if h:t'.beq t=true then some ((Ty.eq_of_beq h▸x:List t.T),y) else none
         | _=>none
       | _=>none
def Zt(A:aS)(f:VF)(c:Bool)(a:List Ty)(v:AV)(m:Mem):Option<|Bool×f.ty.T×Ty.Ts a:=
 match (match a with | []=>some [v]|_=>match v with | .yV b=>some b|_=>none:Option<|List AV) with
 | none=>none
 | some []=>none
 | some (v::b)=>match kE a b with
   | false=>none
   | true=>match fL A a m (b.flatMap AV.cells) with
     | none=>none
     | some (m,cs)=>match q9 a cs with
       | some (y,[])=>match c,v with
         | true,.jX=>some (false,Ty.gy f.ty,y)
         | _,v=>match VF.read m f [v] with
           | some (x,ids,[])=>match og ids&&f.Hl.isEmpty with
             | true=>some (true,x,y)
             | false=>none
           | _=>none
       | _=>none
def jB(k:Nat):List AV:=(List.range k).map λi=>.ptr i 0
def ar1(m:Mem)(k:Nat)(v:AV):Option<|List AV:=
 match v with
 | .ptr i d=>match Nat.beq i 0&&(Nat.beq d 0&&Nat.ble 1 k) with
   | true=>match m.at 0 with
     | .cu _ _=>some []
     | _=>none
   | false=>none
 | _=>none
def G5:List (Nat×Nat)->Bool
 | []=>true
 | (k,id)::r=>Nat.beq id k&&G5 r
def QX(A:aS)(e:Bool)(b:List VF)(a:List Ty)(v:AV)(m:Mem):Option<|Ty.Ts (VF.iq b)×Ty.Ts a:=
 match (match e with|true=>ar1 m b.length v|false=>match a with | [_]=>some [v]|_=>match v with | .yV c=>some c|_=>none:Option<|List AV) with
 | none=>none
 | some c=>match kE a c with
   | false=>none
   | true=>match fL A a m (c.flatMap AV.cells) with
     | none=>none
     | some (m,cs)=>match q9 a cs with
       | some (y,[])=>match VF.reads m b (jB b.length) with
         | some (x,ids,[])=>match og ids&&(iF b&&G5 (VF.yz m b (jB b.length))) with
           | true=>some (x,y)
           | false=>none
         | _=>none
       | _=>none
def G9:VF->iN
 | .ptr fs=>.cu false<|List.replicate (VF.mP fs) .undef
 | .od fs=>.cu true<|List.replicate (VF.mP fs) .undef
 | _=>.cu false []
def holds:List VF->Mem
 | []=>[]
 | f::fs=>G9 f::holds fs
def IN(A:aS)(a:List VF)(x:Ty.Ts<|VF.iq a):Mem:=(VF.Kq A .own a (jB a.length) x<|holds a++(VF.gF a x).map Prod.snd).getD []
def tW(g:FuncId)(F:Func)(a:List AV)(m:Mem:=[]):gY:=
 match ju g F a with
 | some h=>{bG:=[h],mem:=m}
 | none=>{bG:=[],mem:=[]}
def Code.way:Code->List Nat->Code
 | c,[]=>c
 | .seq a b,i::r=>match i with|0=>Code.way a r|_=>Code.way b r
 | .cond _ a b,i::r=>match i with|0=>Code.way a r|_=>Code.way b r
 | .block _ b,_::r=>Code.way b r
 | .loop b,_::r=>Code.way b r
 | .scope b,_::r=>Code.way b r
 | .rangeFunc _ _ a b,i::r=>match i with|0=>Code.way a r|_=>Code.way b r
 | _,_::_=>.skip
def stk:Code->List Nat->List dX->List dX
 | .seq a b,i::r,k=>match i with|0=>stk a r (.code b::k)|_=>stk b r k
 | .cond _ a b,i::r,k=>match i with|0=>stk a r k|_=>stk b r k
 | .block n b,_::r,k=>stk b r<|.inBlock n::k
 | .loop b,_::r,k=>stk b r<|.inLoop b::k
 | .scope b,_::r,k=>stk b r<|.inScope b::k
 | _,_,k=>k
def QK(F:Func):Code:=match F.body with|some b=>b|none=>.skip
def opsOf:Code->Array Oper
 | .region _ os _=>os
 | _=>#[]
def advance(a:List<|FuncId×aK)(c:gY):gY:=
 match c.bG with
 | []=>c
 | f::fs=>match f.todo with
   | .inLoop b::k=>{c with bG:={f with todo:=.code b :: .inLoop b::k}::fs}
   | .code (.region _ os false)::k=>{c with bG:={f with todo:=.ops os os.toList::k}::fs}
   | .code (.region _ os true)::k=>match qN a os with
     | some (ms,is)=>{c with bG:={f with todo:=.jO os ms is []::k}::fs}
     | none=>c
   | _=>c
end Go.Ev
namespace Go.Ev
def fX:Nat:=140737488355328
theorem im:fX=140737488355328:=rfl
structure St where
 σ:Nat->Nat
 δ:Nat->Nat
 vd:Nat->Bool
 I:Nat->Prop
def mf(w:World)(b off:Nat)(a:List Value):Prop:=
 ∀(j:Nat) (u:Value),a[j]? = some u->w.cell? ⟨b,off+j,none⟩=some u
mutual
def bT(w:World)(I:Nat->Prop):(t:Ty)->List Value->t.T->Prop
 | .int k,cs,x=>cs=[.int k x]/\k.has x
 | .bool,cs,x=>cs=[.bool x]
 | .str,cs,x=>cs=[.string ⟨(show List UInt8 from x).toArray⟩]/\(show List UInt8 from x).length<=fX
 | .slice t,cs,x=>∃(a:Option Addr) (c:Nat),cs=[.slice a (show List t.T from x).length c]/\(show List t.T from x).length<=c/\(show List t.T from x).length<=fX/\
    (a=none->c=0)/\
    ∀(i:Nat) (y:t.T),(show List t.T from x)[i]? = some y->∃b off e,a=some ⟨b,off,none⟩/\I b/\e.length=t.size/\mf w b (off+i*t.size) e/\bT w I t e y
 | .arr n t,cs,x=>(show List t.T from x).length=n/\cs.length=n*t.size/\
    ∀(i:Nat) (y:t.T),(show List t.T from x)[i]? = some y->bT w I t ((cs.drop<|i*t.size).take t.size) y
 | .struct ts,cs,x=>gp w I ts cs x
 | .any n,cs,_=>cs.length=n
def gp(w:World)(I:Nat->Prop):(a:List Ty)->List Value->Ty.Ts a->Prop
 | [],cs,_=>cs=[]
 | [t],cs,x=>bT w I t cs x
 | t::b::a,cs,x=>∃c e,cs=c++e/\bT w I t c (Prod.fst (α:=t.T) (β:=Ty.Ts<|b::a) x)/\gp w I (b::a) e (Prod.snd (α:=t.T) (β:=Ty.Ts<|b::a) x)
end
mutual
theorem bT.length{w:World}{I:Nat->Prop}:∀(t:Ty) {b:List Value} {x:t.T},bT w I t b x->b.length=t.size
 | .int k,b,x,h=>by rw[bT] at h;rw[h.1];rfl
 | .bool,b,x,h=>by rw[bT] at h;rw[h];rfl
 | .str,b,x,h=>by rw[bT] at h;rw[h.1];rfl
 | .slice t,b,x,h=>by rw[bT] at h;have⟨a,c,h,_⟩:=h;rw[h];rfl
 | .arr n t,b,x,h=>by grind [bT,Ty.size]
 | .struct ts,b,x,h=>by rw[bT] at h;rw[Ty.size];exact gp.length ts h
 | .any n,b,x,h=>by rw[bT] at h;rw[h];rfl
theorem gp.length{w:World}{I:Nat->Prop}:∀(b:List Ty) {a:List Value} {x:Ty.Ts b},gp w I b a x->a.length=Ty.mP b
 | [],a,x,h=>by rw[gp] at h;rw[h];rfl
 | [t],a,x,h=>by rw[gp] at h;simp only[Ty.mP];exact bT.length t h
 | t::f::b,a,x,h=>by
   obtain⟨g,i,rfl,c,e⟩:=h;rw[t_,bT.length t c,gp.length (f::b) e];rfl
end
variable{c:List Value}
theorem mf.mono{w w':World}{b off:Nat}(h:mf w b off c)(e:w'.heap[b]? = w.heap[b]?):mf w' b off c:=
 λj u f=>(World.cell?_of_block (w:=w) (a:=⟨b,off+j,none⟩) e).trans<|h j u f
mutual
theorem bT.mono{w w':World}{I j:Nat->Prop}(e:∀b,I b->j b/\w'.heap[b]? = w.heap[b]?):∀(t:Ty) {c:List Value} {x:t.T},bT w I t c x->bT w' j t c x
 | .int k,c,x,h=>by grind [bT]
 | .bool,c,x,h=>by grind [bT]
 | .str,c,x,h=>by grind [bT]
 | .slice t,c,x,h=>by
   have⟨a,f,o,p,q,r,s⟩:=h;refine⟨a,f,o,p,q,r,λi y g=>?_⟩;have⟨b,off,D,u,l,B,C,z⟩:=s i y g;exact⟨b,off,D,u,(e b l).1,B,C.mono (e b l).2,bT.mono e t z⟩
 | .arr n t,c,x,h=>by
   exact⟨h.1,h.2.1,λi y g=>bT.mono e t<|h.2.2 i y g⟩
 | .struct ts,c,x,h=>by rw[bT] at h ⊢;exact gp.mono e ts h
 | .any n,c,x,h=>by grind [bT]
theorem gp.mono{w w':World}{I f:Nat->Prop}(e:∀b,I b->f b/\w'.heap[b]? = w.heap[b]?):∀(c:List Ty) {a:List Value} {x:Ty.Ts c},gp w I c a x->gp w' f c a x
 | [],a,x,h=>by grind [gp]
 | [t],a,x,h=>by rw[gp] at h ⊢;exact bT.mono e t h
 | t::l::c,a,x,h=>by
   have⟨n,o,g,i,j⟩:=h;exact⟨n,o,g,bT.mono e t i,gp.mono e (l::c) j⟩
end
def mU(w:World)(I:Nat->Prop)(t:Ty)(v:Value)(x:t.T):Prop:=
 if t.isAgg=true then ∃a:Array Value,v=.agg a/\bT w I t a.toList x else bT w I t [v] x
def lg(w:World)(I:Nat->Prop):(a:List Ty)->List Value->Ty.Ts a->Prop
 | [],vs,_=>vs=[]
 | [t],vs,x=>∃v,vs=[v]/\mU w I t v x
 | t::b::a,vs,x=>∃v r,vs=v::r/\mU w I t v (Prod.fst (α:=t.T) (β:=Ty.Ts<|b::a) x)/\lg w I (b::a) r (Prod.snd (α:=t.T) (β:=Ty.Ts<|b::a) x)
mutual
def CR(w:World)(S:St)(m:Mem):AV->Value->Prop
 | .undef,_=>True
 | .int k _ n,v=>v=.int k n/\k.has n
 | .bool _ b,v=>v=.bool b
 | .str _ s,v=>v=.string ⟨s.toArray⟩/\s.length<=fX
 | .sl t x,v=>bT w S.I (.slice t) [v] x
 | .fG b,v=>∃a,v=.slice a 0 0/\(b=true->a=none)
 | .own id,v=>match m.at id with
   | .arr _ t x=>(S.vd id=true/\x=[]/\∃a,v=.slice a 0 0)\/S.vd id=false/\∃e,v=.slice (some ⟨S.σ id,S.δ id,none⟩) x.length e/\x.length<=e/\(∃g T h,w.heap[S.σ id]? = some (.cells g T h)/\S.δ id+e*t.size<=g.size)
   | .a_=>True
   | _=>False
 | .t6 id sz _ lo len,v=>match m.at id with
   | .arr _ t x=>∃(l n e:Nat) (a:Option Addr),lo=l/\len=n/\sz=t.size/\l+n<=x.length/\n<=e/\(a=none->e=0)/\v=.slice a n e/\(n≠0->a=some ⟨S.σ id,S.δ id+l*sz,none⟩)/\
      (l=0->(S.vd id=true->e=0)/\(S.vd id=false->a=some ⟨S.σ id,S.δ id,none⟩/\∃g T h,w.heap[S.σ id]? = some (.cells g T h)/\S.δ id+e*t.size<=g.size))
   | .cu _ cs=>∃(l n e:Nat) (a:Option Addr),lo=l/\len=n/\l+n<=fX/\(l+e)*sz<=cs.length/\n<=e/\(a=none->e=0)/\v=.slice a n e/\(n≠0->a=some ⟨S.σ id,l*sz,none⟩)
   | .a_=>True
   | _=>False
 | .ptr id off,v=>match m.at id with
   | .cu _ _=>v=.pointer (some ⟨S.σ id,off,none⟩)
   | .a_=>True
   | _=>False
 | .lu id i off,v=>match m.at id with
   | .arr _ t x=>∃k:Nat,i=k/\k<x.length/\v=.pointer (some ⟨S.σ id,S.δ id+k*t.size+off,none⟩)
   | .a_=>True
   | _=>False
 | .zo id off n t i,v=>match m.at id with
   | .cu _ _=>∃k:Nat,i=k/\k<n/\v=.pointer (some ⟨S.σ id,off+k*t.size,none⟩)
   | .a_=>True
   | _=>False
 | .pO t x off,v=>∃b o g,v=.pointer (some ⟨b,o+off,none⟩)/\S.I b/\g.length=t.size/\mf w b o g/\bT w S.I t g x
 | .jX,v=>v=.pointer none
 | .fn f a c,v=>∃g j:Array Value,v=.func (.func f) g j/\eH w S m a g.toList/\eH w S m c j.toList
 | .yield l,v=>match m.at l with
   | .loop _=>v=.func (.yield<|S.σ l) #[] #[]
   | .a_=>True
   | _=>False
 | .tN,v=>v=.nilFunc
 | .agg cs,v=>∃g:Array Value,v=.agg g/\eH w S m cs g.toList
 | .yV cs,v=>∃g:Array Value,v=.tuple g/\eH w S m cs g.toList
def eH(w:World)(S:St)(m:Mem):List AV->List Value->Prop
 | [],vs=>vs=[]
 | a::as',vs=>∃v r,vs=v::r/\CR w S m a v/\eH w S m as' r
end
variable{I:Nat->Prop}{a:List Value}{b:Bool}{t:Ty}{x:List t.T}
section
variable {w:World} {S:St} {m:Mem} {v:Value}
theorem gQ:CR w S m .undef v:=by rw[CR];trivial
def fq{k:IntKind}{c:Bool}{n:Int}:CR w S m (.int k c n) v↔v=.int k n/\k.has n:=by rw[CR]
def iD{c:Bool}:CR w S m (.bool c b) v↔v=.bool b:=by rw[CR]
def mo{c:Bool}{s:List UInt8}:CR w S m (.str c s) v↔v=.string ⟨s.toArray⟩/\s.length<=fX:=by rw[CR]
def rm:CR w S m (.sl t x) v↔bT w S.I (.slice t) [v] x:=by rw[CR]
def nA:CR w S m (.fG b) v↔∃a,v=.slice a 0 0/\(b=true->a=none):=by rw[CR]
def ug{x:t.T}{off:Nat}:CR w S m (.pO t x off) v↔∃b o a,v=.pointer (some ⟨b,o+off,none⟩)/\S.I b/\a.length=t.size/\mf w b o a/\bT w S.I t a x:=by rw[CR]
def qL:CR w S m .jX v↔v=.pointer none:=by rw[CR]
def vo{f:FuncId}{a c:List AV}:CR w S m (.fn f a c) v↔∃b e:Array Value,v=.func (.func f) b e/\eH w S m a b.toList/\eH w S m c e.toList:=by rw[CR]
def ta:CR w S m .tN v↔v=.nilFunc:=by rw[CR]
def uN{a:List AV}:CR w S m (.agg a) v↔∃b:Array Value,v=.agg b/\eH w S m a b.toList:=by rw[CR]
def kC{a:List AV}:CR w S m (.yV a) v↔∃b:Array Value,v=.tuple b/\eH w S m a b.toList:=by rw[CR]
def bw:eH w S m [] a↔a=[]:=by rfl
def bL{a:AV}{b:List AV}:eH w S m (a::b) c↔∃v r,c=v::r/\CR w S m a v/\eH w S m b r:=by rfl
def tf{k:IntKind}{x:Int}:bT w I (.int k) a x↔a=[.int k x]/\k.has x:=fH
def CM{x:Bool}:bT w I .bool a x↔a=[.bool x]:=fH
def AX{x:List UInt8}:bT w I .str a x↔a=[.string ⟨x.toArray⟩]/\x.length<=fX:=fH
def eF{f:List Value}:bT w I (.slice t) f x↔∃(a:Option Addr) (c:Nat),f=[.slice a x.length c]/\x.length<=c/\x.length<=fX/\
   (a=none->c=0)/\
   ∀(i:Nat) (y:t.T),x[i]? = some y->∃b off e,a=some ⟨b,off,none⟩/\I b/\e.length=t.size/\mf w b (off+i*t.size) e/\bT w I t e y:=fH
def AU{n:Nat}:bT w I (.arr n t) a x↔x.length=n/\a.length=n*t.size/\
   ∀(i:Nat) (y:t.T),x[i]? = some y->bT w I t ((a.drop<|i*t.size).take t.size) y:=fH
def xm{a:List Ty}{b:List Value}{x:Ty.Ts a}:bT w I (.struct a) b x↔gp w I a b x:=fH
def yv{x:Ty.Ts []}:gp w I [] a x↔a=[]:=fH
def CO{x:t.T}:gp w I [t] a x↔bT w I t a x:=fH
def zY{a:Ty}{b:List Ty}{x:t.T}{y:Ty.Ts<|a::b}:gp w I (t::a::b) c (x,y)↔∃e f,c=e++f/\bT w I t e x/\gp w I (a::b) f y:=fH
end
theorem eH.length{w:World}{S:St}{m:Mem}:∀{c:List AV} {b:List Value},eH w S m c b->b.length=c.length
 | [],b,h=>by grind [eH]
 | a::c,b,h=>by
   obtain⟨v,r,rfl,_,e⟩:=h;simp[eH.length e]
def i6:iN->iN->Prop
 | .bY,_=>False
 | _,.a_=>True
 | .cu _ cs,.cu _ a=>a.length=cs.length
 | .arr _ t x,.arr _ t' x'=>∃h:t=t',x'.length=x.length/\h=h
 | .loop _,.loop _=>True
 | .Jq,.Jq=>True
 | .Jq,.VH=>True
 | .VH,.VH=>True
 | _,_=>False
def iN.kq:iN->Bool
 | .loop _=>true
 | .Jq=>true
 | .VH=>true
 | _=>false
def St.fl(S:St)(id:Nat):iN->Bool
 | .cu _ _=>true
 | .arr _ _ _=>!S.vd id
 | _=>false
structure dT(w:World)(S:St)(m:Mem)(w':World)(S':St)(m':Mem):Prop where
 nQ:∀b,S.I b->S'.I b/\w'.heap[b]? = w.heap[b]?
 box:∀id,m.at id≠.bY->i6 (m.at id) (m'.at id)/\(m'.at id≠.a_->S'.σ id=S.σ id/\S'.δ id=S.δ id/\S'.vd id=S.vd id/\
  (S.fl id (m.at id)=true->∀us T fr,w.heap[S.σ id]? = some (.cells us T fr)->∃iM T' iV,w'.heap[S.σ id]? = some (.cells iM T' iV)/\iM.size=us.size))
 ctl:∀id,(m.at id).kq=true->(m'.at id).kq=true
variable{S:St}{m:Mem}
def dT.inv{w:World}{i:World}{b:St}{a:Mem}(h:dT w S m i b a){id:Nat}(o:m.at id≠.bY):a.at id=.a_\/
  (i6 (m.at id) (a.at id)/\a.at id≠.bY/\b.σ id=S.σ id/\b.δ id=S.δ id/\b.vd id=S.vd id/\
  (S.fl id (m.at id)=true->∀g T l,w.heap[S.σ id]? = some (.cells g T l)->∃f j q,i.heap[S.σ id]? = some (.cells f j q)/\f.size=g.size)):=by
 have⟨c,n⟩:=h.box id o;by_cases p:a.at id=.a_
 .grind
 .refine .inr ⟨c,λe=>?_,n p⟩;rw[e] at c;cases hm:m.at id<;>rw[hm] at c<;>exact c.elim
mutual
theorem CR.mono{w:World}{S:St}{m:Mem}{w':World}{S':St}{m':Mem}(h:dT w S m w' S' m'):∀{a:AV} {v:Value},CR w S m a v->CR w' S' m' a v
 | .undef,v,_=>by rw[CR];trivial
 | .int k c n,v,g=>by rw[CR] at g ⊢;omega
 | .bool c b,v,g=>by rw[CR] at g ⊢;omega
 | .str c s,v,g=>by rw[CR] at g ⊢;omega
 | .sl t x,v,g=>by rw[CR] at g ⊢;exact bT.mono h.nQ _ g
 | .fG b,v,g=>by rw[CR] at g ⊢;omega
 | .own id,v,g=>by
   rw[CR] at g ⊢;rcases h.inv (id:=id) (λe=>by grind) with D|⟨j,_,z,F,y,u⟩
   .grind
   .cases hm:m.at id<;>rw[hm] at g j<;>simp only at g<;>cases hm':m'.at id<;>rw[hm'] at j<;>try (first|trivial|exact j.elim)
    obtain⟨rfl,J,_⟩:=j;rcases g with ⟨hz,rfl,g⟩|⟨K,C,rfl,r,q,T,H,p,B⟩
    .simp_all
    .have⟨W,O,X,I,G⟩:=u (by rw[hm];simp[St.fl,K]) q T H p
     simp_all
 | .t6 id sz c lo len,v,g=>by
   rw[CR] at g ⊢;rcases h.inv (id:=id) (λe=>by grind) with D|⟨j,_,z,F,y,u⟩
   .simp_all
   .cases hm:m.at id<;>rw[hm] at g j<;>simp only at g<;>cases hm':m'.at id<;>rw[hm'] at j<;>try (first|trivial|exact j.elim)
    .have J:_=_:=j
     grind
    .obtain⟨rfl,J,_⟩:=j;have⟨l,n,C,a,r,p,B,I,G,Q,V,h8,N⟩:=g;refine⟨l,n,C,a,r,p,B,by omega,G,Q,V,by simp_all,λe=>⟨λk=>(N e).1<|y▸k,λk=>?_⟩⟩;rw[y] at k;have⟨k1,q,T,H,Y,k3⟩:=(N e).2 k;have⟨W,O,X,k4,k5⟩:=u (by rw[hm];simp[St.fl,k]) q T H Y
     simp_all
 | .ptr id off,v,g=>by
   rw[CR] at g ⊢;rcases h.inv (id:=id) (λe=>by simp_all) with D|⟨j,_,z,F,y,u⟩
   .simp_all
   .cases hm:m.at id<;>rw[hm] at g j<;>simp only at g<;>cases hm':m'.at id<;>rw[hm'] at j<;>try (first|trivial|exact j.elim)
    simp_all
 | .lu id i off,v,g=>by
   rw[CR] at g ⊢;rcases h.inv (id:=id) (λe=>by simp_all) with D|⟨j,_,z,F,y,u⟩
   .simp_all
   .cases hm:m.at id<;>rw[hm] at g j<;>simp only at g<;>cases hm':m'.at id<;>rw[hm'] at j<;>try (first|trivial|exact j.elim)
    obtain⟨rfl,J,_⟩:=j
    simp_all
 | .zo id off n t i,v,g=>by
   rw[CR] at g ⊢;rcases h.inv (id:=id) (λe=>by simp_all) with D|⟨j,_,z,F,y,u⟩
   .simp_all
   .cases hm:m.at id<;>rw[hm] at g j<;>simp only at g<;>cases hm':m'.at id<;>rw[hm'] at j<;>try (first|trivial|exact j.elim)
    rw[z];exact g
 | .pO t x off,v,g=>by
   have⟨b,o,q,r,p,B,I,G⟩:=g;exact⟨b,o,q,r,(h.nQ b p).1,B,I.mono (h.nQ b p).2,bT.mono h.nQ _ G⟩
 | .jX,v,g=>by rw[CR] at g ⊢;omega
 | .fn f a c,v,g=>by
   have⟨q,Z,r,p,B⟩:=g;exact⟨q,Z,r,eH.mono h p,eH.mono h B⟩
 | .yield l,v,g=>by
   rw[CR] at g ⊢;rcases h.inv (id:=l) (λe=>by simp_all) with D|⟨j,_,z,F,y,u⟩
   .simp_all
   .cases hm:m.at l<;>rw[hm] at g j<;>simp only at g<;>cases hm':m'.at l<;>rw[hm'] at j<;>try (first|trivial|exact j.elim)
    rw[z];exact g
 | .tN,v,g=>by rw[CR] at g ⊢;omega
 | .agg cs,v,g=>by
   have⟨q,r,p⟩:=g;exact⟨q,r,eH.mono h p⟩
 | .yV cs,v,g=>by
   rw[CR] at g ⊢;have⟨q,r,p⟩:=g;exact⟨q,r,eH.mono h p⟩
theorem eH.mono{w:World}{S:St}{m:Mem}{w':World}{S':St}{m':Mem}(h:dT w S m w' S' m'):∀{c:List AV} {b:List Value},eH w S m c b->eH w' S' m' c b
 | [],b,hc=>by rw[eH] at hc ⊢;omega
 | a::c,b,hc=>by
   rw[eH] at hc ⊢;have⟨v,r,e,f,g⟩:=hc;exact⟨v,r,e,CR.mono h f,eH.mono h g⟩
end
def gS(a:Nat×Nat)(b:Nat):Prop:=a=(0,0)
def sN:Nat->LoopState
 | 0=>.ready
 | 1=>.busy
 | 2=>.done
 | _=>.exhausted
def Oe(w:World)(S:St)(m:Mem)(r:Oa)(l:Loop):Prop:=
 l.state=sN r.state/\l.pending=r.pending/\l.fn=r.fn/\l.params=r.params.toArray/\l.assign=r.assign/\l.body=r.body/\(l.tmps.size=r.n/\r.n<=65535)/\
 ∀i,CR w S m (r.env.at i)<|l.tmps.getD i undef
def St.lv(S:St)(id:Nat):iN->Bool
 | .bY=>false
 | .a_=>false
 | .VH=>false
 | .arr _ _ _=>!S.vd id
 | _=>true
def sr(w:World)(S:St)(m:Mem)(id:Nat):iN->Prop
 | .bY=>True
 | .a_=>True
 | .VH=>True
 | .cu _ cs=>∃(a:Array Value) (T:TypeId) (b:Nat×Nat),w.heap[S.σ id]? = some (.cells a T b)/\gS b a.size/\eH w S m cs a.toList
 | .arr _ t x=>x.length<=fX/\(S.vd id=true->x=[])/\(S.vd id=false->∃(a:Array Value) (T:TypeId) (b:Nat×Nat),w.heap[S.σ id]? = some (.cells a T b)/\gS b a.size/\S.δ id+x.length*t.size<=a.size/\
    ∀(i:Nat) (y:t.T),x[i]? = some y->bT w S.I t ((a.toList.drop<|S.δ id+i*t.size).take t.size) y)
 | .loop r=>∃l,w.heap[S.σ id]? = some (.loop l)/\Oe w S m r l
 | .Jq=>w.heap[S.σ id]? = some (.deferred<|some [])
def St.fz(S:St)(id:Nat):iN->Bool
 | .cu fz _=>fz
 | .arr fz _ _=>fz && !S.vd id
 | _=>false
def iN.Uj:iN->Bool
 | .cu fz _=>fz
 | .arr fz _ _=>fz
 | _=>false
def ah7{id:Nat}{b:iN}(h:b.Uj=false):S.fz id b=false:=by
 cases b<;>first|rfl|exact h|(simp only[iN.Uj] at h;simp[St.fz,h])
def aaV{a:St}{j:Nat}{b:iN}(h:a.vd j=S.vd j):a.lv j b=S.lv j b:=by simp_all [St.lv]
variable{α:Type}
def ne_of_lt{x:List α}{k:Nat}(h:k<x.length):x≠ []:=λe=>by grind
def ai9{w:World}{id:Nat}{fz:Bool}(h:sr w S m id<|.arr fz t x)(a:x≠ []):S.vd id=false:=by
 cases e:S.vd id with
 | false=>rfl
 | true=>exact absurd (h.2.1 e) a
def sr.blk{w:World}{id:Nat}{fz:Bool}(h:sr w S m id<|.arr fz t x)(c:x≠ []):∃(a:Array Value) (T:TypeId) (b:Nat×Nat),w.heap[S.σ id]? = some (.cells a T b)/\gS b a.size/\S.δ id+x.length*t.size<=a.size/\
  ∀(i:Nat) (y:t.T),x[i]? = some y->bT w S.I t ((a.toList.drop<|S.δ id+i*t.size).take t.size) y:=h.2.2<|ai9 h c
def own_ne{p q:Prop}(h:(b=true/\p)\/b=false/\q)(a:b=false):q:=h.elim (λh=>by grind) (·.2)
theorem rP{id:Nat}{fz:Bool}:S.lv id (.arr fz t x)=!S.vd id:=rfl
theorem vV{id:Nat}:S.fz id (.arr false t x)=false:=rfl
def Dh{x:List α}{v:Value}{b:Addr}{z:Bool}{q:Nat->Prop}(h:(z=true/\x=[]/\∃a,v=.slice a 0 0)\/z=false/\∃c,v=.slice (some b) x.length c/\x.length<=c/\q c):
  ∃a c,v=.slice a x.length c/\x.length<=c/\(a=none->c=0)/\(x.length≠0->a=some b):=by grind
structure nN extends World where
 X:Nat->Prop
 R:List (Nat×Option Nat):=[]
 D:Prop:=False
def nN.free(o:nN)(b:Nat):Prop:=o.heap.size<=b\/o.X b
def nN.old{o:nN}{b:Nat}(h:¬o.free b):b<o.heap.size:=Nat.lt_of_not_le λk=>h<|.inl k
def World.whole(w:World):nN:={w with X:=λ_=>False}
def World.N4(w:World):nN:={w with X:=λ_=>False,D:=True}
def Tk(w0:nN)(w:World):Prop:=w.tape=w0.tape/\(w0.D->w0.drawn<=w.drawn)
variable{w0:nN}
def Tk.on{w a:World}(h:Tk w0 w)(e:a.tape=w.tape)(d:w0.D->w.drawn<=a.drawn):Tk w0 a:=⟨e.trans h.1,λk=>bd (h.2 k)<|d k⟩
structure WR(w0:nN)(w:World)(S:St)(m:Mem):Prop where
 os:w.os=w0.os
 tape:Tk w0 w
 output:w.output=w0.output
 size:w0.heap.size<=w.heap.size
 base:∀b,¬w0.free b->w.heap[b]? = w0.heap[b]?
 nQ:∀b,S.I b->b<w.heap.size
 box:∀id,sr w S m id (m.at id)
 inj:∀id id',S.lv id (m.at id)=true->S.lv id' (m.at id')=true->S.σ id=S.σ id'->id=id'
 lo:∀id,S.lv id (m.at id)=true->(S.I (S.σ id)\/w0.free (S.σ id))/\S.σ id<w.heap.size
 qT:∀id,S.lv id (m.at id)=true->S.fz id (m.at id)=false->¬S.I (S.σ id)
 Js:∀id,S.fz id (m.at id)=true->S.I (S.σ id)
 root:∀i b,w0.R[i]? = some b->i<m.length/\S.σ i=b.1/\∀d,b.2=some d->S.δ i=d/\S.vd i=false
 cells:∀(b:Nat) (us:Array Value) (T:TypeId) (fr:Nat×Nat),w0.heap[b]? = some (.cells us T fr)->∃(iM:Array Value) (T':TypeId) (iV:Nat×Nat),w.heap[b]? = some (.cells iM T' iV)/\iM.size=us.size
def WR.vd{w:World}(h:WR w0 w S m){id:Nat}{fz:Bool}(a:m.at id=.arr fz t x)(b:x≠ []):S.vd id=false:=ai9 (by have:=h.box id;rwa [a] at this) b
def WR.lof{w:World}(h:WR w0 w S m){id:Nat}(a:S.lv id (m.at id)=true)(b:S.fz id (m.at id)=false):w0.free<|S.σ id:=(h.lo id a).1.resolve_left<|h.qT id a b
def oP(all:Array Oper)(i:Nat):List Nat:=
 match all[i]? with
 | some o=>(o.after.toList.filter uQ).map (·.on)
 | none=>[]
structure Xn(all:Array Oper)(l:List Nat):Prop where
 nodup:l.Nodup
 lt:∀i∈l,i<all.size
 pw:l.Pairwise λi j=>j ∉ oP all i
 self:∀i∈l,i ∉ oP all i
 closed:∀k,k<all.size->k ∉ l->∀j∈oP all k,j ∉ l
def FD(a l:List Nat):Prop:=∀l1 i l2,l=l1++i::l2->∀b,(a.getD i 0).testBit b=true->b ∉ i::l2
structure iY(n:Nat)(all:Array Oper)(ms rest bs l:List Nat):Prop where
 msk:FD ms l
 lnd:l.Nodup
 nodup:(rest++bs).Nodup
 sub:∀i∈rest,i∈l
 cov:∀i∈l,i∈rest\/i∈bs
 lt:∀i∈bs,i<all.size
 read:∀i∈bs,∀b∈bs,i≠b->∀o p d,all[i]? = some o->all[b]? = some p->p.dst=some d->d∈kU all o->(ms.getD i 0).testBit b=true
 dst:∀i∈bs,∀b∈bs,i≠b->∀o p d,all[i]? = some o->all[b]? = some p->p.dst=some d->o.dst≠some d
 own:∀i∈bs,∀o d,all[i]? = some o->o.dst=some d->d ∉ kU all o
 Xc:∀i∈bs,∀o,all[i]? = some o->yC (ms.getD i 0) o=true
 dok:∀i∈bs,∀o,all[i]? = some o->tu n o.dst=true
def FC(n:Nat)(S:St):dX->Item->Prop
 | .code c,it=>it=.code c
 | .inBlock id,it=>it=.inBlock id
 | .inLoop b,it=>it=.inLoop b\/it=.code (.loop b)
 | .inScope b,it=>it=.inScope b
 | .ops all rest,it=>∃l:List Nat,it=.inRegion all l/\l.map (λi=>all[i]?)=rest.map some
 | .jO all ms rest bs,it=>∃l:List Nat,it=.inRegion all l/\iY n all ms rest bs l
 | .sD all ms i rest bs,it=>∃l:List Nat,it=.inRegion all (i::l)/\iY n all ms (i::rest) bs (i::l)
 | .oY l,it=>it=.inRangeFunc (S.σ l)
 | .pq l,it=>it=.endRangeFunc (S.σ l)
 | .beginRound,it=>it=.beginRound
def fY(n:Nat)(S:St):List dX->List Item->Prop
 | [],l=>l=[]
 | a::r,l=>∃b k,l=b::k/\FC n S a b/\fY n S r k
def dX.drawn:dX->Option (Array Oper×List Nat)
 | .jO all _ _ bs=>some (all,bs)
 | .sD all _ _ _ bs=>some (all,bs)
 | _=>none
def dX.He(a:dX):Bool:=a.drawn.isSome
def Hid(f:dK)(a:Frame)(x:Nat):Prop:=
 ∃all bs l c b p,f.todo.head?.bind dX.drawn=some (all,bs)/\a.todo=.inRegion all l::c/\b∈bs/\b∈l/\all[b]? = some p/\p.dst=some x
def eP(m:Mem)(l:List dX):Prop:=∀a∈l,match a with | .oY id=>(m.at id).kq=true | .pq id=>(m.at id).kq=true|_=>True
structure FR(w:World)(S:St)(m:Mem)(f:dK)(fr:Frame):Prop where
 fn:fr.fn=f.fn
 n:fr.tmps.size=f.n
 small:f.n<=65535
 env:∀i,¬Hid f fr i->CR w S m (f.env.at i) (fr.tmps.getD i undef)
 todo:fY f.n S f.todo fr.todo
 live:eP m f.todo
 cu:∀a∈f.todo.tail,a.He=false
 defers:fr.defers=f.marks.map λd=>{target:=.collected (S.σ d),args:=#[]}
 marks:∀d∈f.marks,(m.at d).kq=true
 mode:fr.mode=.run
 kind:fr.kind=.normal
 gB:fr.roundOf=f.gB.map S.σ
 uH:∀l,f.gB=some l->(m.at l).kq=true
def FB(w:World)(S:St)(m:Mem):List dK->List Frame->Prop
 | [],l=>l=[]
 | f::fs,l=>∃a r,l=a::r/\FR w S m f a/\FB w S m fs r
end Go.Ev
namespace Go.Ev
theorem eH.append{w:World}{S:St}{m:Mem}:∀{a b:List AV} {e c:List Value},eH w S m a e->eH w S m b c->eH w S m (a++b) (e++c)
 | [],b,e,c,h1,h2=>by simp_all;rw[h1];grind
 | x::a,b,e,c,h1,h2=>by
   obtain⟨v,r,rfl,f,g⟩:=h1;exact⟨v,r++c,rfl,f,eH.append g h2⟩
theorem eH.split{w:World}{S:St}{m:Mem}:∀{a b:List AV} {c:List Value},eH w S m (a++b) c->∃e f,c=e++f/\eH w S m a e/\eH w S m b f
 | [],b,c,h=>⟨[],c,rfl,by rfl,h⟩
 | x::a,b,c,h=>by
   obtain⟨v,r,rfl,j,g⟩:=h;obtain⟨e,f,rfl,l,i⟩:=eH.split g;exact⟨v::e,f,rfl,by rw[eH];grind,i⟩
theorem eH.drop{w:World}{S:St}{m:Mem}:∀{a:List AV} {b:List Value} (n:Nat),eH w S m a b->eH w S m (a.drop n) (b.drop n)
 | [],b,n,h=>by simp_all [eH]
 | x::a,b,0,h=>h
 | x::a,b,n+1,h=>by
   obtain⟨v,r,rfl,e,c⟩:=h;exact eH.drop n c
theorem eH.take{w:World}{S:St}{m:Mem}:∀{a:List AV} {b:List Value} (n:Nat),eH w S m a b->eH w S m (a.take n) (b.take n)
 | [],b,n,h=>by simp_all [eH]
 | x::a,b,0,h=>by rfl
 | x::a,b,n+1,h=>by
   obtain⟨v,r,rfl,c,e⟩:=h;exact⟨v,_,rfl,c,eH.take n e⟩
theorem eH.get{w:World}{S:St}{m:Mem}:∀{a:List AV} {b:List Value} {i:Nat} {x:AV},eH w S m a b->a[i]? = some x->∃v,b[i]? = some v/\CR w S m x v
 | [],b,i,x,_,h=>by grind
 | y::a,b,0,x,h,hx=>by grind [eH]
 | y::a,b,i+1,x,h,hx=>by
   obtain⟨v,r,rfl,e,c⟩:=h;simp at hx ⊢;exact eH.get c hx
theorem eH.map{w:World}{S:St}{m:Mem}{α:Type}{f:α->AV}{g:α->Value}(h:∀x,CR w S m (f x)<|g x):∀l:List α,eH w S m (l.map f)<|l.map g
 | []=>by rfl
 | x::l=>by simp;rw[eH];exact⟨_,_,rfl,h x,eH.map h l⟩
theorem eH.zA{w:World}{S:St}{m:Mem}(f:Nat->List AV)(sz:Nat):∀(n:Nat) (a:List Value),a.length=n*sz->
  (∀i,i<n->eH w S m (f i) ((a.drop<|i*sz).take sz))->eH w S m ((List.range n).flatMap f) a
 | 0,a,h,_=>by
   have:a=[]:=by grind
   rw[this];rfl
 | n+1,a,h,hf=>by
   rw[List.range_succ,List.flatMap_append];have e:a=a.take (n*sz)++a.drop (n*sz):=(fu _ _).symm;rw[e];refine eH.append ?_ ?_
   .refine eH.zA f sz n _ (by grind) λi c=>?_;have:=hf i (by omega);have b:(i+1)*sz<=n*sz:=aI _ c;rw[kL] at b;rw[kR,kT,j6<|by omega];omega
   .have:=hf n (by omega);simp;rw[dI (by rw[dQ,h,kL];omega)] at this;omega
variable{t:Ty}
def q8{x:List t.T}{i:Nat}(h:i<x.length):x[i]? = some (af.n t x i):=by
 show x[i]? = some (x.getD (i:Int).toNat t.gy)
 grind
mutual
theorem lN{w:World}{S:St}{m:Mem}:∀(t:Ty) {b:List Value} {x:t.T},bT w S.I t b x->eH w S m (lK af t x) b
 | .int k,b,x,h=>by
   rw[bT] at h;rw[lK,h.1];simp only[eH];exact⟨_,_,rfl,fq.2 ⟨rfl,h.2⟩,rfl⟩
 | .bool,b,x,h=>by
   rw[bT] at h;rw[lK,h];simp only[eH];exact⟨_,_,rfl,iD.2 rfl,rfl⟩
 | .str,b,x,h=>by
   rw[bT] at h;rw[lK,h.1];simp only[eH];exact⟨_,_,rfl,mo.2 ⟨rfl,h.2⟩,rfl⟩
 | .slice t,b,x,h=>by
   have f:=h;have⟨a,c,e,_⟩:=f;exact⟨_,[],e,rm.2<|by simp_all,rfl⟩
 | .arr n t,b,x,h=>by
   rw[bT] at h;refine eH.zA _ t.size n b h.2.1 λi g=>?_;exact lN t<|h.2.2 i _<|q8 (by omega)
 | .struct ts,b,x,h=>by rw[bT] at h;rw[lK];exact Gp ts h
 | .any n,b,x,h=>by
   rw[bT] at h;subst h;rw[lK];clear x
   induction b with
   | nil=>rfl
   | cons u b ih=>exact bL.2 ⟨u,b,rfl,gQ,ih⟩
theorem Gp{w:World}{S:St}{m:Mem}:∀(a:List Ty) {b:List Value} {x:Ty.Ts a},gp w S.I a b x->eH w S m (Ba af a x) b
 | [],b,x,h=>by grind [gp,Ba,eH]
 | [t],b,x,h=>by rw[gp] at h;rw[Ba];exact lN t h
 | t::f::a,b,x,h=>by
   obtain⟨g,i,rfl,c,e⟩:=h;exact eH.append (lN t c)<|Gp (f::a) e
end
variable{S:St}{m:Mem}
def Bb{w:World}{v:Value}{x:t.T}(h:mU w S.I t v x):CR w S m (VI af t x) v:=by
 unfold mU at h;unfold VI;cases ht:t.isAgg with
 | true=>
   rw[ht,if_pos rfl] at h;obtain⟨b,rfl,h⟩:=h;exact⟨b,rfl,lN t h⟩
 | false=>
   rw[ht,if_neg<|by simp] at h;have:=lN (m:=m) t h;cases hd:lK af t x with
   | nil=>simp_all;cases this
   | cons a r=>
     grind [eH]
theorem qw{α:Type}{w:World}{S:St}{m:Mem}(f:List AV->Option (α×List AV))(sz:Nat)(l:List Value->α->Prop)
  (o:∀c x r g,f c=some (x,r)->eH w S m c g->∃e j,g=e++j/\e.length=sz/\l e x/\eH w S m r j) :
  ∀(n:Nat) (c:List AV) (x:List α) (r:List AV) (g:List Value),Cg f n c=some (x,r)->eH w S m c g->
   ∃e j,g=e++j/\e.length=n*sz/\x.length=n/\(∀(i:Nat) (y:α),x[i]? = some y->l ((e.drop<|i*sz).take sz) y)/\eH w S m r j
 | 0,c,x,r,g,h,hc=>by
   cases h;exact⟨[],g,rfl,by simp,rfl,λi y q=>by grind,hc⟩
 | n+1,c,x,r,g,h,hc=>by
   simp only[Cg] at h;cases h1:f c with
   | none=>grind
   | some p=>
     have⟨a,s⟩:=p;rw[h1] at h;simp only at h;split at h;cases h;rename_i b u t;simp at h;obtain⟨rfl,rfl⟩:=h;obtain⟨e,j,rfl,l1,p1,c1⟩:=o c a s g h1 hc;obtain⟨z,B,rfl,l2,l3,p2,c2⟩:=qw f sz l o n s b u j t c1;refine⟨e++z,B,by simp,by grind,by grind,λi y q=>?_,c2⟩;cases i with
     | zero=>
       grind
     | succ i=>
       have:=p2 i y q;rw[show(i+1)*sz=sz+i*sz from by rw[kL,mM],<-fh,o6 l1];omega
def eH.cons_inv{w:World}{a:AV}{b:List AV}{c:List Value}(h:eH w S m (a::b) c):∃v r,c=v::r/\CR w S m a v/\eH w S m b r:=by grind [eH]
mutual
theorem nq{w:World}{S:St}{m:Mem}:∀(t:Ty) {f:List AV} {x:t.T} {r:List AV} {l:List Value},yk t f=some (x,r)->eH w S m f l->
  ∃z B,l=z++B/\bT w S.I t z x/\eH w S m r B
 | .int k,f,x,r,l,h,j=>by
   simp only[yk] at h;cases f with
   | nil=>grind
   | cons a f=>
     obtain⟨v,q,rfl,g,o⟩:=j.cons_inv;cases a<;>simp_all
     case int k' c n=>
      split at h
      rotate_left
      cases h;rename_i D;cases h;have g:=fq.1 g;have:=lU D;subst this;exact⟨[v],q,rfl,tf.2 ⟨by grind,g.2⟩,o⟩
 | .bool,f,x,r,l,h,j=>by
   simp only[yk] at h;cases f with
   | nil=>grind
   | cons a f=>
     obtain⟨v,q,rfl,g,o⟩:=j.cons_inv;cases a<;>simp_all
     case bool c b=>
      cases h;exact⟨[v],q,rfl,CM.2<|by rw[iD.1 g],o⟩
 | .str,f,x,r,l,h,j=>by
   simp only[yk] at h;cases f with
   | nil=>grind
   | cons a f=>
     obtain⟨v,q,rfl,g,o⟩:=j.cons_inv;cases a<;>simp_all
     case str c s=>
      cases h;have g:=mo.1 g;exact⟨[v],q,rfl,AX.2 ⟨by grind,g.2⟩,o⟩
 | .slice t,f,x,r,l,h,j=>by
   simp only[yk] at h;cases f with
   | nil=>grind
   | cons a f=>
     obtain⟨v,q,rfl,g,o⟩:=j.cons_inv;cases a<;>simp only[reduceCtorEq] at h
     case sl t' x'=>
      by_cases C:t'.beq t=true
      .rw[dif_pos C] at h;have:=Ty.eq_of_beq C;subst this;cases h;exact⟨[v],q,rfl,rm.1 g,o⟩
      simp_all
     case fG b=>
      cases h;obtain⟨a,rfl,_⟩:=g;exact⟨[_],q,rfl,eF.2 ⟨a,0,rfl,ai _,aM _,λ_=>rfl,λi y G=>by simp_all⟩,o⟩
 | .arr n t,f,x,r,l,h,j=>by
   obtain⟨z,B,rfl,l1,l2,p,c⟩:=qw (yk t) t.size (λu y=>bT w S.I t u y) (λf x r l h j=>by
    have⟨z,B,e,g,o⟩:=nq t h j;exact⟨z,B,e,g.length,g,o⟩) n f x r l h j
   exact⟨z,B,rfl,AU.2 ⟨l2,l1,p⟩,c⟩
 | .struct ts,f,x,r,l,h,j=>by
   have⟨z,B,e,g,o⟩:=nM ts h j
   grind [bT]
 | .any n,f,x,r,l,h,j=>by
   simp only[yk] at h;split at h
   rotate_left
   cases h;obtain⟨_,rfl⟩:=h;have F:=j.length;exact⟨l.take n,l.drop n,(fu n l).symm,show(l.take n).length=n by simp_all,j.drop n⟩
theorem nM{w:World}{S:St}{m:Mem}:∀(g:List Ty) {a:List AV} {x:Ty.Ts g} {r:List AV} {f:List Value},q9 g a=some (x,r)->eH w S m a f->
  ∃c i,f=c++i/\gp w S.I g c x/\eH w S m r i
 | [],a,x,r,f,h,hc=>by
   cases h;exact⟨[],f,rfl,yv.2 rfl,hc⟩
 | [t],a,x,r,f,h,hc=>by
   have⟨c,i,e,j,l⟩:=nq t h hc
   grind [gp]
 | t::o::g,a,x,r,f,h,hc=>by
   simp only[q9] at h;cases j:yk t a with
   | none=>simp_all
   | some p=>
     rw[j] at h;simp only at h;split at h;cases h;rename_i b s l;cases h;obtain⟨c,i,rfl,p1,c1⟩:=nq t j hc;obtain⟨n,q,rfl,p2,c2⟩:=nM (o::g) l c1;exact⟨c++n,q,by simp,zY.2 ⟨c,n,rfl,p1,p2⟩,c2⟩
end
end Go.Ev
namespace Go.Ev
def mI(k:IntKind)(n:Int):k.has<|k.wrap n:=wrap_within k n
theorem afL(k:IntKind):amr k=k.min:=by cases k<;>decide
theorem afK(k:IntKind):amq k=k.max:=by cases k<;>decide
def kindOk(P:Program)(T:TypeId):TK->Prop
 | .bool=>P.underlying T=some .bool
 | .int k=>P.underlying T=some (.int k)
 | .str=>P.underlying T=some .string
 | .slice e=>P.underlying T=some (.slice e)
 | .arr n e=>P.underlying T=some (.array n e)
 | .ptr e=>P.underlying T=some (.pointer e)
 | .func=>∃b c v,P.underlying T=some (.func b c v)
 | .struct fs=>∃F,P.underlying T=some (.struct F)/\F.size=fs.length/\∀(i off sz:Nat) (a:Bool),fs[i]? = some (off,sz,a)->
    ∃f j,F[i]? = some f/\f.offset=off/\P.info? f.type=some j/\j.size=sz/\∀w,(isAgg f.type).run P w=.ok a w
 | .other=>True
def apm(P:Program)(T:TypeId)(zero:List AV):Prop:=
 ∀(w:World) (S:St) (m:Mem) (e f:List AV) (a b:Array Value) (c:Bool) (g:aS->Bool),nL e zero=true->fR e f=some (c,g)->eH w S m e a.toList->eH w S m f b.toList->
  (Op.equal T (.agg a)<|.agg b).run P w=.ok (g af) w/\∀h x y,(eqGuard h T x y (.agg a)<|.agg b).run P w=.ok () w
structure CP(P:Program)(T:TypeId)(ti:TI):Prop where
 info:∃i z,P.info? T=some i/\i.size=ti.size/\i.bytes=ti.bytes/\i.zero=some z/\(∀w S m,eH w S m ti.zero z.cells.toList)/\
  (∀t,ti.ty=some t->∀w I,bT w I t z.cells.toList t.gy)
 kind:kindOk P T ti.kind
 agg:∀w,(isAgg T).run P w=.ok ti.agg w
 azU:ti.zero.length=ti.size
 ty:∀t,ti.ty=some t->t.size=ti.size/\t.isAgg=ti.agg
 eq:ti.eq=true->ti.agg=true->apm P T ti.zero
 sj:∀t,ti.ty=some t->t.sj=true
def nW(P:Program)(a:PT TI):Prop:=∀T b,a.get T=some b->CP P T b
def CP.rJ{P:Program}{T:TypeId}{a:TI}(h:CP P T a)(w:World):(sizeOf T).run P w=.ok a.size w:=by
 have⟨i,z,b,c,_⟩:=h.info
 simp_all [sizeOf,typeInfo]
def TV.Is{α:Type}:TV α->α->Prop
 | .leaf a,x=>x=a
 | .br b t e,x=>(b=true/\t.Is x)\/(b=false/\e.Is x)
 | .ao b t,x=>b=true/\t.Is x
 | .bY _,_=>False
theorem TV.bind_ok{α:Type}{R:Type}{Q:R->Prop}{G:gY->Prop}{g:String}{K:α->Tr R}:∀{i:TV α},Tr.Ok Q G (i.bind g K)->∃x,i.Is x/\Tr.Ok Q G (K x)
 | .leaf a,h=>⟨a,rfl,h⟩
 | .br b t e,h=>by
   cases b with
   | true=>have⟨x,c,f⟩:=TV.bind_ok<|h.1 rfl;exact⟨x,.inl ⟨rfl,c⟩,f⟩
   | false=>have⟨x,c,f⟩:=TV.bind_ok<|h.2 rfl;exact⟨x,.inr ⟨rfl,c⟩,f⟩
 | .ao b t,h=>by
   have⟨x,c,f⟩:=TV.bind_ok h.2;exact⟨x,⟨h.1,c⟩,f⟩
 | .bY n,h=>by grind [TV.bind,Tr.Ok]
theorem TV.De{α β:Type}{f:α->β}{y:β}:∀{i:TV α},(i.map f).Is y->∃x,i.Is x/\y=f x
 | .leaf a,h=>⟨a,rfl,h⟩
 | .br b t e,h=>by
   rcases h with h|h
   .have⟨x,c,g⟩:=TV.De h.2;exact⟨x,.inl ⟨h.1,c⟩,g⟩
   .have⟨x,c,g⟩:=TV.De h.2;exact⟨x,.inr ⟨h.1,c⟩,g⟩
 | .ao b t,h=>by
   have⟨x,c,g⟩:=TV.De h.2;exact⟨x,⟨h.1,c⟩,g⟩
 | .bY n,h=>h.elim
variable{α:Type}{x:α}
def x8{n:Nat}{o:Option α}(h:(HY n o).Is x):o=some x:=by
 cases o with
 | none=>exact h.elim
 | some a=>exact congrArg some<|Eq.symm h
variable{c:Bool}
def Hz{b:Bool}{t:TV α}(h:(Pn c b t).Is x):b=true/\t.Is x:=by
 unfold Pn at h;cases c with
 | true=>cases b with
   | true=>grind
   | false=>exact h.elim
 | false=>exact h
variable{S:St}{m:Mem}
def gT(k:IntKind)(c:Bool)(f:aS->Int){w:World}(h:k.has<|f af):CR w S m (xX af k c f)<|.int k<|f af:=by
 cases c<;>exact fq.2 ⟨rfl,h⟩
def jw(c:Bool)(f:aS->Bool){w:World}:CR w S m (xW af c f)<|.bool<|f af:=by
 cases c<;>rfl
variable{a:BinOp}{d:Nat}{e:TypeId}{v:AV}
section
variable {P:Program} {w:World} {S:St} {m:Mem}
def afA{k:IntKind}{a:Int}(h:k.has a)(n:Nat):k.has<|a.fdiv<|2^n:=by
 have b:(0:Int)<2^n:=Int.pow_pos (by decide);rw[Int.fdiv_eq_ediv_of_nonneg _<|Int.le_of_lt b];have⟨g,i⟩:=h;have f:k.min<=0:=by cases k<;>decide
 have l:(0:Int)<=k.max:=by cases k<;>decide
 have e:(1:Int)<=2^n:=b;constructor
 .by_cases c:0<=a
  .exact bP f<|Int.ediv_nonneg c<|Int.le_of_lt b
  .have:a<=a/2^n:=by
    have j:a*2^n<=a:=by
     have:=Int.mul_le_mul_of_nonpos_left (a:=a) (by omega) e;omega
    simp_all [Int.le_ediv_iff_mul_le]
   omega
 .by_cases c:0<=a
  .have:a/2^n<=a:=Int.ediv_le_self _ c;omega
  .have:a/2^n<=0:=by
    have:=Int.ediv_lt_of_lt_mul b (show a<1*2^n by omega);omega
   omega
def aaq{k:IntKind}{a b:Int}(h:k.has a):k.has<|a.tmod b:=by
 have⟨f,g⟩:=h;have o:k.min<=0:=by cases k<;>decide
 have n:(0:Int)<=k.max:=by cases k<;>decide
 by_cases c:0<=a
 .have i:=Int.tmod_nonneg b c;have j:a.tmod b<=a:=by
   have e:(a.tmod b).natAbs<=a.natAbs:=by simp_all [Nat.mod_le]
   omega
  exact⟨by omega,by omega⟩
 .have e:(a.tmod b).natAbs<=a.natAbs:=by simp_all [Nat.mod_le]
  have l:a.tmod b<=0:=by
   have:=Int.tmod_nonneg b (show 0<= -a by omega)
   simp_all
  exact⟨by omega,by omega⟩
def L6{e:BinOp}{T:TypeId}{k j:IntKind}{f:Bool}{a b:Int}(l:k.has a)(q:j.has b)(o:e≠.shl)(p:e≠.shr)
  (h:(QT af e k c a j f b).Is v):∃u,(binOp e T (.int k a)<|.int j b).run P w=.ok u w/\CR w S m v u:=by
 unfold QT at h;split at h;exact h.elim;rename_i n;have:=lU n;subst this;cases e<;>simp only[KT] at h<;>try contradiction
 case quo=>
  have⟨g,i⟩:=Hz h;have g:b≠0:=by cases f<;>simp_all [af,xa]
  cases i;refine⟨_,?_,gT k _ _<|mI _ _⟩
  simp_all [binOp_quo,Op.intDiv,af,EL]
 case rem=>
  have⟨g,i⟩:=Hz h;have g:b≠0:=by cases f<;>simp_all [af,xa]
  cases i;refine⟨_,?_,gT k _ _<|aaq l⟩
  simp_all [binOp_rem,Op.intDiv,af,EL]
 case add=>cases h;exact⟨_,by simp[binOp_add,Op.intArith,af,EL],gT k _ _<|mI _ _⟩
 case sub=>cases h;exact⟨_,by simp[binOp_sub,Op.intArith,af,EL],gT k _ _<|mI _ _⟩
 case mul=>cases h;exact⟨_,by simp[binOp_mul,Op.intArith,af,EL],gT k _ _<|mI _ _⟩
 case and=>cases h;exact⟨_,by simp[binOp_and,Op.intBits,af,EL],gT k _ _<|mI _ _⟩
 case or=>cases h;exact⟨_,by simp[binOp_or,Op.intBits,af,EL],gT k _ _<|mI _ _⟩
 case xor=>cases h;exact⟨_,by simp[binOp_xor,Op.intBits,af,EL],gT k _ _<|mI _ _⟩
 case andNot=>cases h;exact⟨_,by simp[binOp_andNot,Op.intBits,af,EL],gT k _ _<|mI _ _⟩
 case eql=>cases h;exact⟨_,by simp[binOp_eql,af,xa],jw _ _⟩
 case neq=>cases h;exact⟨_,by simp[binOp_neq,af,xa],jw _ _⟩
 case lss=>cases h;exact⟨_,by simp[binOp_lss,af,xa],jw _ _⟩
 case leq=>cases h;exact⟨_,by simp[binOp_leq,af,xa],jw _ _⟩
 case gtr=>cases h;exact⟨_,by simp[binOp_gtr,af,xa],jw _ _⟩
 case geq=>cases h;exact⟨_,by simp[binOp_geq,af,xa],jw _ _⟩
def zz{e:BinOp}{T:TypeId}{k n:IntKind}{g:Bool}{a b:Int}(l:k.has a)(i:e=.shl\/e=.shr)
  (h:(L8 af e k c a g b).Is v):∃u,(binOp e T (.int k a)<|.int n b).run P w=.ok u w/\CR w S m v u:=by
 have⟨f,j⟩:=Hz h;have f:0<=b:=by cases g<;>simp_all [af,xa]
 cases j;rcases i with rfl|rfl
 .exact⟨_,by simp[binOp_shl,Op.shift,iX.2 f,af,EL],gT k _ _<|mI _ _⟩
 .exact⟨_,by simp[binOp_shr,Op.shift,iX.2 f,af,EL],gT k _ _<|afA l _⟩
def Ny(b:KT a=true)(x y:List UInt8):Op.stringOp a ⟨x.toArray⟩ ⟨y.toArray⟩=pure (.bool<|af.z a x y):=by
 cases a<;>simp[KT] at b<;>simp[Op.stringOp,af,ach]
def mA{b:Bool}{T:TypeId}{x y:Value}(f:(Op.equal T x y).run P w=.ok b w)
  (c:binOp .eql T x y=(do pure (.bool<|<-Op.equal T x y))) (e:binOp .neq T x y=(do pure (.bool<|!(<-Op.equal T x y))))
  (h:(v_ a b).Is v):∃u,(binOp a T x y).run P w=.ok u w/\CR w S m v u:=by
 cases a<;>simp only[v_] at h<;>try exact h.elim
 .cases h;exact⟨_,by simp_all,iD.2 rfl⟩
 .cases h;exact⟨_,by simp_all,iD.2 rfl⟩
def CY{T:TypeId}{b e:Array TypeId}{g:Bool}{f:Fn}{a c:Array Value}(h:P.underlying T=some (.func b e g)):
  (Op.equalIn (d+1) T (.func f a c) .nilFunc).run P w=.ok false w:=by simp[Op.equalIn,run_underlying h]
def EQ{T:TypeId}{a b:Array TypeId}(h:P.underlying T=some (.func a b c)):
  (Op.equalIn (d+1) T .nilFunc .nilFunc).run P w=.ok true w:=by simp[Op.equalIn,run_underlying h]
def ER{T:TypeId}{a:Addr}(h:P.underlying T=some (.pointer e)):
  (Op.equalIn (d+1) T (.pointer<|some a)<|.pointer none).run P w=.ok false w:=by simp[Op.equalIn,run_underlying h]
def Gr{T:TypeId}(h:P.underlying T=some (.pointer e)):
  (Op.equalIn (d+1) T (.pointer none)<|.pointer none).run P w=.ok true w:=by simp[Op.equalIn,run_underlying h]
def um{T:TypeId}{a:Addr}{n c:Nat}(h:P.underlying T=some (.slice e)):
  (Op.equalIn (d+1) T (.slice (some a) n c)<|.slice none 0 0).run P w=.ok false w:=by simp[Op.equalIn,run_underlying h]
def CZ{T:TypeId}(h:P.underlying T=some (.slice e)):
  (Op.equalIn (d+1) T (.slice none 0 0)<|.slice none 0 0).run P w=.ok true w:=by simp[Op.equalIn,run_underlying h]
def CP.gj{T:TypeId}{a:TI}{k:TK}(h:CP P T a)(b:a.kind=k):kindOk P T k:=b▸h.kind
def Oq{E:PT TI}(D:nW P E){B:BinOp}{T:TypeId}{x y:AV}{u v:Value}{r:AV}(xo yo:Operand)(j:CR w S m x u)(i:CR w S m y v)
  (h:(Zm af m (E.get T) B x y).Is r):∃z,(do eqGuard B T xo yo u v;binOp B T u v:Sem Value).run P w=.ok z w/\CR w S m r z:=by
 unfold Zm at h;cases x<;>simp only at h<;>try exact h.elim
 case int k c a=>
  obtain⟨rfl,K⟩:=fq.1 j;cases y<;>simp only at h<;>try exact h.elim
  case int k' c' b=>
   obtain⟨rfl,N⟩:=fq.1 i;rw[eqGuard_at_int,pure_bind]
   cases B<;>simp only at h<;>first
    | exact zz K (.inl rfl) h
    | exact zz K (.inr rfl) h
    | exact L6 K N (by simp) (by simp) h
 case bool c a=>
  have j:=iD.1 j;subst j;cases y<;>simp only at h<;>try exact h.elim
  case bool c' b=>
   have i:=iD.1 i;subst i;cases ht:E.get T with
   | none=>rw[ht] at h;exact h.elim
   | some ti=>
     rw[ht] at h;simp only at h;cases hk:ti.kind<;>rw[hk] at h<;>simp only at h<;>try exact h.elim
     have o:P.underlying T=some .bool:=(D T ti ht).gj hk;cases B<;>simp only at h<;>try exact h.elim
     .cases h;exact⟨_,run_eql_bool w T a b o,jw _ _⟩
     .cases h;exact⟨_,run_neq_bool w T a b o,jw _ _⟩
 case str c a=>
  obtain⟨rfl,K⟩:=mo.1 j;cases y<;>simp only at h<;>try exact h.elim
  case str c' b=>
   obtain⟨rfl,N⟩:=mo.1 i;rw[eqGuard_at_string,pure_bind];have J:binOp B T (.string ⟨a.toArray⟩) (.string ⟨b.toArray⟩)=Op.stringOp B ⟨a.toArray⟩ ⟨b.toArray⟩:=by cases B<;>rfl
   rw[J];cases hc:KT B with
   | true=>
     rw[hc] at h;cases h
     simp_all [Ny,jw]
   | false=>
     rw[hc] at h;cases B<;>simp only at h<;>try exact h.elim
     have⟨H,F⟩:=h;cases F;have H:(a++b).length<=fX:=by
      have:((a++b).length:Int)<=140737488355328:=by simpa [af,xa] using H
      grind [im]
     refine⟨.string ⟨(a++b).toArray⟩,?_,mo.2 ⟨rfl,H⟩⟩;have Q:(ByteArray.mk a.toArray).size=a.length:=rfl;have V:(ByteArray.mk b.toArray).size=b.length:=rfl;have Z:¬(((a.length+b.length:Nat):Int) > IntKind.i64.max):=by grind [im,IntKind.max_i64]
     simp only[Op.stringOp,Q,V,Z];rfl
 case agg xs=>
  obtain⟨us,rfl,X⟩:=uN.1 j;cases y<;>simp only at h<;>try exact h.elim
  case agg ys=>
   obtain⟨vs,rfl,Y⟩:=uN.1 i;cases ht:E.get T with
   | none=>rw[ht] at h;exact h.elim
   | some ti=>
     rw[ht] at h;simp only at h;cases hea:ti.eq&&(ti.agg&&nL xs ti.zero) with
     | false=>rw[hea] at h;exact h.elim
     | true=>
       rw[hea] at h;have⟨he,q⟩:=Bool.and_eq_true_iff.1 hea;have⟨q,G⟩:=Bool.and_eq_true_iff.1 q;cases hc:fR xs ys with
       | none=>rw[hc] at h;exact h.elim
       | some p=>
         have⟨c,g⟩:=p;rw[hc] at h;have⟨H,F⟩:=(D T ti ht).eq he q w S m xs ys us vs c g G hc X Y;cases B<;>simp only at h<;>try exact h.elim
         .cases h
          simp_all [jw,binOp]
         .cases h;refine⟨_,?_,jw _ _⟩
          simp_all [binOp,af]
 case fn f a c=>
  obtain⟨us,vs,rfl,_,_⟩:=vo.1 j;cases y<;>simp only at h<;>try exact h.elim
  have i:=ta.1 i;subst i;rw[eqGuard_at_func,pure_bind];cases ht:E.get T with
  | none=>rw[ht] at h;exact h.elim
  | some ti=>
    rw[ht] at h;simp only at h;cases hk:ti.kind<;>rw[hk] at h<;>simp only at h<;>try exact h.elim
    have⟨ps,rs,v,o⟩:=(D T ti ht).gj hk;exact mA (b:=false) (CY (d:=9999) o) rfl rfl h
 case tN=>
  have j:=ta.1 j;subst j;cases y<;>simp only at h<;>try exact h.elim
  have i:=ta.1 i;subst i;rw[eqGuard_at_nilFunc,pure_bind];cases ht:E.get T with
  | none=>rw[ht] at h;exact h.elim
  | some ti=>
    rw[ht] at h;simp only at h;cases hk:ti.kind<;>rw[hk] at h<;>simp only at h<;>try exact h.elim
    have⟨ps,rs,v,o⟩:=(D T ti ht).gj hk;exact mA (b:=true) (EQ (d:=9999) o) rfl rfl h
 case jX=>
  have j:=qL.1 j;subst j;cases y<;>simp only at h<;>try exact h.elim
  have i:=qL.1 i;subst i;rw[eqGuard_at_pointer,pure_bind];cases ht:E.get T with
  | none=>rw[ht] at h;exact h.elim
  | some ti=>
    rw[ht] at h;simp only at h;cases hk:ti.kind<;>rw[hk] at h<;>simp only at h<;>try exact h.elim
    have o:P.underlying T=some (.pointer _):=(D T ti ht).gj hk;exact mA (b:=true) (Gr (d:=9999) o) rfl rfl h
 case ptr id off=>
  rw[CR] at j;cases hm:m.at id<;>rw[hm] at h j<;>cases y<;>simp only at h<;>try exact h.elim
  subst j;have i:=qL.1 i;subst i;rw[eqGuard_at_pointer,pure_bind];cases ht:E.get T with
  | none=>rw[ht] at h;exact h.elim
  | some ti=>
    rw[ht] at h;simp only at h;cases hk:ti.kind<;>rw[hk] at h<;>simp only at h<;>try exact h.elim
    have o:P.underlying T=some (.pointer _):=(D T ti ht).gj hk;exact mA (b:=false) (ER (d:=9999) o) rfl rfl h
 case fG b=>
  obtain⟨a,rfl,N⟩:=nA.1 j;cases b<;>(try simp only at h)<;>try exact h.elim
  cases y<;>(try simp only at h)<;>try exact h.elim
  rename_i I;obtain⟨a2,rfl,s⟩:=nA.1 i;cases I<;>(try simp only at h)<;>try exact h.elim
  have H:=N rfl;have F:=s rfl;subst H;subst F;rw[eqGuard_at_slice,pure_bind];cases ht:E.get T with
  | none=>rw[ht] at h;exact h.elim
  | some ti=>
    rw[ht] at h;simp only at h;cases hk:ti.kind<;>rw[hk] at h<;>simp only at h<;>try exact h.elim
    have o:P.underlying T=some (.slice _):=(D T ti ht).gj hk;exact mA (b:=true) (CZ (d:=9999) o) rfl rfl h
 case own id=>
  rw[CR] at j;cases hm:m.at id<;>rw[hm] at h j<;>cases y<;>(try simp only at h)<;>try exact h.elim
  rename_i I;obtain⟨a2,rfl,s⟩:=nA.1 i;cases I<;>(try simp only at h)<;>try exact h.elim
  have F:=s rfl;subst F;rename_i fz t l;have W:∃a n C,u=.slice a n C/\(l≠ []->∃b,a=some b):=by grind
  obtain⟨a,n,C,rfl,O⟩:=W;rw[eqGuard_at_slice,pure_bind];cases ht:E.get T with
  | none=>rw[ht] at h;exact h.elim
  | some ti=>
    rw[ht] at h;simp only at h;cases hk:ti.kind<;>rw[hk] at h<;>simp only at h<;>try exact h.elim
    have o:P.underlying T=some (.slice _):=(D T ti ht).gj hk;have hl:l≠ []:=λe=>by
     subst e;exact absurd (show af.c .neq (af.l ([]:List t.T)) 0=true from h.1) (by simp[af,xa])
    obtain⟨b,rfl⟩:=O hl;exact mA (b:=false) (um (d:=9999) o) rfl rfl h.2
 case sl t l=>
  cases y<;>(try simp only at h)<;>try exact h.elim
  rename_i I;obtain⟨a2,rfl,s⟩:=nA.1 i;cases I<;>(try simp only at h)<;>try exact h.elim
  have F:=s rfl;subst F;have⟨a,C,e,Z,h4,h5,_⟩:=eF.1<|rm.1 j;have e:u=.slice a l.length C:=by simp_all
  subst e;rw[eqGuard_at_slice,pure_bind];cases ht:E.get T with
  | none=>rw[ht] at h;exact h.elim
  | some ti=>
    rw[ht] at h;simp only at h;cases hk:ti.kind<;>rw[hk] at h<;>simp only at h<;>try exact h.elim
    have o:P.underlying T=some (.slice _):=(D T ti ht).gj hk;cases a with
    | none=>
      have h6:l=[]:=aY (by simp_all);subst h6;exact absurd (show af.c .neq (af.l ([]:List t.T)) 0=true from h.1) (by simp[af,xa])
    | some a=>exact mA (b:=false) (um (d:=9999) o) rfl rfl h.2
end
end Go.Ev
namespace Go.Ev
variable{E:PT TI}{a c:List Value}{n off:Nat}{p r:AV}{u v:Value}
section
variable {P:Program} {w0:nN} {w:World} {S:St} {m:Mem}
def IY{a l:List AV}(h:eD off n a=some l):off+n<=a.length/\l=(a.drop off).take n:=by
 unfold eD at h;split at h
 all_goals simp_all
def eH.eD{b l:List AV}(h:eD off n b=some l)(c:eH w S m b a):
  ((a.drop off).take n).length=n/\eH w S m l ((a.drop off).take n):=by
 obtain⟨e,rfl⟩:=IY h;have:=c.length;exact⟨by grind,(c.drop off).take n⟩
def mf.sub{b o:Nat}(h:mf w b o c)(off n:Nat):mf w b (o+off)<|(c.drop off).take n:=by
 intro j u a;rw[cK] at a;split at a
 .rw[da] at a;have:=h (off+j) u a
  grind
 grind
theorem iU{g:Nat}{a:Array Value}{T:TypeId}{b:Nat×Nat}(c:w.heap[g]? = some (.cells a T b))(off n:Nat):mf w g off ((a.toList.drop off).take n):=by
 intro j u e
 grind [cell_of_row]
def Mu(G:WR w0 w S m){D:List AV}(a:CR w S m p v)(h:Ro af m p n=some D):
  ∃b off f,v=.pointer (some ⟨b,off,none⟩)/\f.length=n/\eH w S m D f/\mf w b off f:=by
 unfold Ro at h;cases p<;>simp only at h<;>try cases h
 case ptr id off=>
  rw[CR] at a;have c:=G.box id;cases hm:m.at id<;>rw[hm] at h a c<;>simp only at h<;>try cases h
  have⟨f,T,I,g,_,z⟩:=c;have⟨s,q⟩:=eH.eD h z
  grind [iU]
 case lu id i off=>
  rw[CR] at a;have c:=G.box id;cases hm:m.at id<;>rw[hm] at h a c<;>simp only at h<;>try cases h
  rename_i fz t x;obtain⟨k,rfl,K,rfl⟩:=a;have⟨f,T,I,g,_,z,s⟩:=sr.blk c<|ne_of_lt K;have q:=s k _<|q8 K;have B:=lN (m:=m) t q;have⟨J,V⟩:=eH.eD h B;refine⟨_,_,_,rfl,J,V,?_⟩;exact(iU g _ _).sub off n
 case zo id off k t i=>
  rw[CR] at a;have c:=G.box id;cases hm:m.at id<;>rw[hm] at h a c<;>simp only at h<;>try cases h
  rename_i fz F;obtain⟨j,rfl,hj,rfl⟩:=a;have⟨f,T,I,g,_,z⟩:=c;cases C:Nat.beq t.size n<;>rw[C] at h<;>(try simp only at h)<;>try (cases h;done)
  have C:=vH C;subst C;cases ht:eD off (k*t.size) F with
  | none=>simp_all
  | some l=>
    rw[ht] at h;simp only at h;have⟨s,q⟩:=eH.eD ht z;split at h
    rotate_left
    cases h;rename_i x r W;cases h;have⟨N,O,e,l1,l2,Y,_⟩:=qw (yk t) t.size (λu y=>bT w S.I t u y) (λD x r f h H=>by
     have⟨N,O,e,g,Q⟩:=nq t h H;exact⟨N,O,e,g.length,g,Q⟩) k l x r _ W q
    have B:=Y j _<|q8 (by omega);refine⟨_,_,_,rfl,B.length,lN t B,?_⟩;have J:=(iU g off<|k*t.size).sub (j*t.size) t.size
    simp_all
 case pO t x off=>
  obtain⟨b,o,f,rfl,Z,hl,X,H⟩:=ug.1 a;have⟨s,q⟩:=eH.eD h<|lN (m:=m) t H;exact⟨_,_,_,rfl,s,q,X.sub off n⟩
def BZ{b:Nat}(h:mf w b off a):(loadCells ⟨b,off,none⟩ a.length).run P w=.ok a.toArray w:=
 run_loadCells_list w ⟨b,off,none⟩ a λj v c=>by
  have:=h j v c
  grind [Addr.add]
def M8{b:Nat}(h:mf w b off [u]):(load ⟨b,off,none⟩).run P w=.ok u w:=by
 have:=h 0 u rfl
 simp_all
def D4{agg:Bool}{b:List AV}{v:AV}(h:Tq agg b=some v)(e:eH w S m b c):
  (agg=true/\CR w S m v (.agg c.toArray))\/(agg=false/\∃u,c=[u]/\CR w S m v u):=by
 cases agg with
 | true=>cases h;exact .inl ⟨rfl,uN.2 ⟨_,rfl,by omega⟩⟩
 | false=>
   cases b with
   | nil=>cases h
   | cons a r=>
     cases r with
     | cons _ _=>cases h
     | nil=>
       cases h
       simp_all [eH]
theorem Bg(j:nW P E)(l:WR w0 w S m){T:TypeId}(o:CR w S m p v)(h:(Gv af (E.get T) m p).Is r):
  ∃b off u,v=.pointer (some ⟨b,off,none⟩)/\(loadVar T ⟨b,off,none⟩).run P w=.ok u w/\CR w S m r u:=by
 unfold Gv at h;cases ht:E.get T with
 | none=>rw[ht] at h;exact h.elim
 | some ti=>
   rw[ht] at h;simp only at h;have a:=j T ti ht;split at h;exact h.elim;rename_i q n;replace h:=x8 h;obtain⟨b,off,s,rfl,g,i,f⟩:=Mu l o n;refine⟨b,off,?_⟩;rcases D4 h i with ⟨c,e⟩|⟨c,u,rfl,e⟩
   .refine⟨_,rfl,?_,e⟩;simp[loadVar,eE,a.agg,dH,c,if_true,a.rJ];rw[<-g,BZ f];rfl
   .refine⟨u,rfl,?_,e⟩;simp only[loadVar,eE,a.agg,c];exact M8 f
def QU{e:UnOp}{x:AV}(a:CR w S m x u)(h:(alS af e x).Is r):∃z,(Op.unary e u).run P w=.ok z w/\CR w S m r z:=by
 unfold alS at h;cases e<;>cases x<;>simp only at h<;>try exact h.elim
 case neg.int k c n=>
  obtain⟨rfl,f⟩:=fq.1 a;cases h;exact⟨_,by rfl,gT k _ _<|mI _ _⟩
 case xor.int k c n=>
  obtain⟨rfl,f⟩:=fq.1 a;cases h;exact⟨_,by rfl,gT k _ _<|mI _ _⟩
 case not.bool c b=>
  have a:=iD.1 a;subst a;cases h;exact⟨_,by rfl,jw _ _⟩
def s_{b:Nat}:(⟨b,off,none⟩:Addr).add n=⟨b,off+n,none⟩:=kI b off n
def Be(n:nW P E){T:TypeId}{i:Nat}(a:CR w S m p v)(h:(xD m (E.get T) p i).Is r):
  ∃z,(Instr.fieldAt T v i).run P w=.ok z w/\CR w S m r z:=by
 unfold xD at h;cases ht:E.get T with
 | none=>rw[ht] at h;exact h.elim
 | some ti=>
   rw[ht] at h;have⟨k,size,c,agg,zero,ty,K⟩:=ti;cases k<;>simp only at h<;>try exact h.elim
   rename_i l;have⟨F,Q,s,B⟩:=(n T _ ht).gj (k:=.struct l) rfl;cases hi:l[i]? with
   | none=>rw[hi] at h;exact h.elim
   | some q=>
     have⟨off,sz,J⟩:=q;rw[hi] at h;simp only at h;split at h;exact h.elim;obtain⟨f,j,N,rfl,O,rfl,_⟩:=B i _ _ _ hi;replace hz:j.size≠0:=λe=>by simp_all
     have g:∀b o:Nat,v=.pointer (some ⟨b,o,none⟩)->(Instr.fieldAt T v i).run P w=.ok (.pointer<|some ⟨b,o+f.offset,none⟩) w:=by simp_all [run_underlying,s_,Instr.fieldAt,Instr.sureAddr,fieldPlace,sizeOf,typeInfo]
     unfold YB at h;cases p<;>simp only at h<;>try (cases h;done)
     case ptr id o=>
      rw[CR] at a;cases hm:m.at id<;>rw[hm] at a h<;>simp only at a h<;>try (cases h;done)
      cases h
      grind [CR]
     case lu id i o=>
      rw[CR] at a;cases hm:m.at id<;>rw[hm] at a h<;>simp only at a h<;>try (cases h;done)
      cases h
      grind [CR]
     case pO t x o=>
      cases h;have⟨b,H,I,G,u,C,D,y⟩:=ug.1 a;exact⟨_,g _ _ G,ug.2 ⟨b,H,I,by grind,u,C,D,y⟩⟩
def Rz{T:TypeId}{e:Bool}{c:Array Value}{sz:Nat}{f l:List AV}{v:AV}(a:(isAgg T).run P w=.ok e w)(b:(sizeOf T).run P w=.ok sz w)
  (j:eH w S m f c.toList) (n:eD off sz f=some l) (q:Tq e l=some v):∃z,(part T c off).run P w=.ok z w/\CR w S m v z:=by
 have⟨r,i⟩:=eH.eD n j;rcases D4 q i with ⟨g,h⟩|⟨g,u,o,h⟩
 .refine⟨_,?_,h⟩;simp[part,eE,a,g,dH,if_true,b,jA]
  grind
 .refine⟨u,?_,h⟩;have p:c.toList[off]? = some u:=by
   have:=congrArg (λl:List Value=>l[0]?) o
   grind
  simp_all [part]
def jv{c a:Bool}{i n:Int}{t:TV AV}(h:(nj af c i a n t).Is r):0<=i/\i<n/\t.Is r:=by
 unfold nj at h;cases hc:c&&a with
 | true=>
   rw[hc] at h;cases b:af.and (af.c .leq 0 i) (af.c .lss i n) with
   | false=>rw[b] at h;exact h.elim
   | true=>
     simp_all [af,xa]
 | false=>
   rw[hc] at h;have⟨b,h⟩:=h
   simp_all [af,xa]
theorem wrap_small{n:Int}(a:0<=n)(b:n<=4611686018427387904):IntKind.i64.wrap n=n:=by grind [IntKind.wrap,IntKind.bits]
def Bf(D:nW P E)(hW:WR w0 w S m){T:TypeId}{x Y:AV}{vi:Value}(C:CR w S m x v)(hi:CR w S m Y vi)
  (h:(xE af (E.get T) E.get m x Y).Is r):∃z,(Instr.indexAt T v vi).run P w=.ok z w/\CR w S m r z:=by
 unfold xE at h;cases Y<;>simp only at h<;>try exact h.elim
 rename_i k c i;obtain⟨rfl,hk⟩:=fq.1 hi;cases ht:E.get T with
 | none=>rw[ht] at h;exact h.elim
 | some ti=>
   rw[ht] at h;have⟨kd,size,N,agg,zero,ty,eq⟩:=ti;cases kd<;>simp only at h<;>try exact h.elim
   case arr n e=>
    have W:P.underlying T=some (.array n e):=(D T _ ht).gj (k:=.arr n e) rfl;cases p:E.get e with
    | none=>rw[p] at h;cases x<;>exact h.elim
    | some y=>
      rw[p] at h;cases x<;>simp only at h<;>try exact h.elim
      rename_i id off;rw[CR] at C;cases hm:m.at id<;>rw[hm] at C h<;>simp_all<;>try exact h.elim
      have H:=(D e y p).rJ w;have j:∀(_:0<=i) (_:i<n),(Instr.indexAt T (.pointer<|some ⟨S.σ id,off,none⟩)<|.int k i).run P w=.ok (.pointer<|some ⟨S.σ id,off+i.toNat*y.size,none⟩) w:=by
       intro g f;simp[Instr.indexAt,asIntOf,run_underlying W,Instr.sureAddr,g,f,H,s_]
      cases c with
      | true=>
        have⟨g,f,q⟩:=jv h;cases q;exact⟨_,j g f,by rw[CR,hm]⟩
      | false=>
        simp only at h;split at h
        rotate_left
        exact h.elim;rename_i t u;have⟨g,f,q⟩:=jv h;cases q;exact⟨_,j g f,by rw[CR,hm];exact⟨i.toNat,by omega,by omega,by rw[((D e y p).ty t u).1]⟩⟩
   case slice e=>
    have W:P.underlying T=some (.slice e):=(D T _ ht).gj (k:=.slice e) rfl;split at h
    rotate_left
    exact h.elim;rename_i y p;have H:=(D e y p).rJ w;have j:∀(b o len s:Nat) (_:0<=i) (_:i<len),(Instr.indexAt T (.slice (some ⟨b,o,none⟩) len s)<|.int k i).run P w=.ok (.pointer<|some ⟨b,o+i.toNat*y.size,none⟩) w:=by
     intro b o len s g f;simp[Instr.indexAt,asIntOf,run_underlying W,g,f,H,s_]
    cases x<;>simp only at h<;>try exact h.elim
    case sl t l=>
     split at h
     rotate_left
     exact h.elim;have⟨g,f,q⟩:=jv h;cases q;have⟨a,s,e1,h3,Z,O,Q⟩:=eF.1<|rm.1 C;replace f:i<(l.length:Int):=f;have h7:=q8 (t:=t) (x:=l) (i:=i.toNat) (by omega);obtain⟨b,off,us,rfl,hI,X,hr,hc⟩:=Q _ _ h7;cases e1;exact⟨_,j _ _ _ _ g f,ug.2 ⟨b,off+i.toNat*t.size,us,by simp_all,hI,X,hr,hc⟩⟩
    case own id=>
     rw[CR] at C;cases hm:m.at id<;>rw[hm] at C h<;>simp_all<;>try exact h.elim
     rename_i fz t l;split at h
     rotate_left
     exact h.elim;rename_i B;replace B:=vH B;have⟨g,f,q⟩:=jv h;cases q;replace f:i<(l.length:Int):=f;obtain⟨s,rfl,h3,_⟩:=own_ne C<|hW.vd hm<|ne_of_lt (k:=i.toNat) (by omega);exact⟨_,j _ _ _ _ g f,by rw[CR,hm];grind⟩
    case t6 id sz c' lo len=>
     have hb:=hW.box id;rw[CR] at C;cases hm:m.at id<;>rw[hm] at C h hb<;>simp only at C h<;>try exact h.elim
     case arr fz t l=>
      split at h
      rotate_left
      exact h.elim;rename_i B;replace B:=vH B;have⟨g,f,q⟩:=jv h;cases q;obtain⟨I,n0,s,a,rfl,rfl,rfl,O,Q,V,rfl,J,_⟩:=C;have F:=J (by omega);subst F;have⟨X,_⟩:=hb;rw[im] at X;refine⟨_,j _ _ _ _ g f,?_⟩;rw[CR,hm];refine⟨I+i.toNat,?_,by omega,?_⟩
      .show IntKind.i64.wrap _=_;rw[wrap_small (by omega)<|by omega];omega
      grind
     case cu fz cs=>
      obtain⟨I,n0,s,a,rfl,rfl,Z,O,Q,V,rfl,J⟩:=C;cases hcc:c&&(c'&&Nat.beq sz y.size) with
      | true=>
        rw[hcc] at h;simp only[fZ] at hcc;have B:=vH hcc.2.2;have⟨g,f,q⟩:=jv h;cases q;have F:=J (by omega);subst F;refine⟨_,j _ _ _ _ g f,?_⟩;rw[CR,hm];rw[show((I:Int)+i).toNat=I+i.toNat from by omega,fI,B]
      | false=>
        rw[hcc] at h;simp only at h;cases u:y.ty with
        | none=>rw[u] at h;exact h.elim
        | some t=>
          rw[u] at h;cases hc2:c'&&Nat.beq sz y.size with
          | false=>
            rw[hc2] at h;simp only at h;split at h
            rotate_left
            exact h.elim;rename_i G;rw[fZ] at G;have B:=vH G.1;have K:0<y.size:=KX G.2;have⟨g,f,q⟩:=jv h;cases q;have F:=J (by omega);subst F;refine⟨_,j _ _ _ _ g f,?_⟩;rw[im] at Z;rw[CR,hm];refine⟨I+i.toNat,?_,?_,?_⟩
            .show IntKind.i64.wrap _=_;rw[wrap_small (by omega)<|by omega];omega
            .have h9:(I+i.toNat+1)*y.size<=cs.length:=bd (Nat.mul_le_mul (by omega)<|kK B.symm) O;exact(Nat.le_div_iff_mul_le K).2 h9
            .rw[((D e y p).ty t u).1,B,fI];simp
          | true=>
            rw[hc2] at h;simp only[fZ] at hc2;have B:=vH hc2.2;have⟨g,f,q⟩:=jv h;cases q;have F:=J (by omega);subst F;refine⟨_,j _ _ _ _ g f,?_⟩;rw[CR,hm];exact⟨i.toNat,by omega,by omega,by rw[((D e y p).ty t u).1];grind⟩
end
end Go.Ev
namespace Go.Ev
variable{r:AV}{t:Ty}
section
variable {P:Program} {w0:nN} {w:World} {S:St} {m:Mem}
def QQ{T:TypeId}{a:Array Value}{off:Nat}{x:t.T}(b:(isAgg T).run P w=.ok t.isAgg w)(g:(sizeOf T).run P w=.ok t.size w)
  (h:bT w S.I t ((a.toList.drop off).take t.size) x) (e:off+t.size<=a.size):∃z,(part T a off).run P w=.ok z w/\CR w S m (VI af t x) z:=by
 cases ht:t.isAgg with
 | true=>
   refine⟨.agg<|a.extract off<|off+t.size,?_,Bb ?_⟩
   all_goals simp_all [part,mU]
 | false=>
   have f:t.size=1:=by cases t<;>first|rfl|grind [Ty.isAgg]
   have c:off<a.size:=by omega
   refine⟨a[off],?_,Bb ?_⟩
   all_goals simp_all [xx,part,mU]
def JN{E:PT TI}(G:nW P E){T:TypeId}{x J:AV}{v vi:Value}(W:CR w S m x v)(hi:CR w S m J vi)
  (h:(L5 af (E.get T) E.get x J).Is r):∃z,(Instr.index T v vi).run P w=.ok z w/\CR w S m r z:=by
 unfold L5 at h;cases J<;>simp only at h<;>try exact h.elim
 rename_i k c i;obtain⟨rfl,hk⟩:=fq.1 hi;cases ht:E.get T with
 | none=>rw[ht] at h;exact h.elim
 | some ti=>
   rw[ht] at h;obtain⟨kd,size,D,agg,zero,ty,eq⟩:=ti;cases kd<;>(try simp only at h)<;>try exact h.elim
   case arr n e=>
    have hT:P.underlying T=some (.array n e):=(G T _ ht).gj (k:=.arr n e) rfl;cases x<;>(try simp only at h)<;>try exact h.elim
    rename_i F;obtain⟨N,rfl,j⟩:=uN.1 W;cases hte:E.get e with
    | none=>rw[hte] at h;exact h.elim
    | some te=>
      rw[hte] at h;have B:=G e te hte;have f:=B.rJ w;cases c with
      | true=>
        simp only at h;cases hl:eD (i.toNat*te.size) te.size F with
        | none=>rw[hl] at h;exact h.elim
        | some l=>
          rw[hl] at h;simp only at h;split at h
          rotate_left
          exact h.elim;rename_i v hv;obtain⟨g,a,b⟩:=jv h;cases b;obtain⟨z,p,q⟩:=Rz (T:=e) (B.agg w) f j hl hv
          simp_all [run_underlying,Instr.index,asIntOf]
      | false=>
        simp only at h;cases hty:te.ty with
        | none=>rw[hty] at h;exact h.elim
        | some t=>
          rw[hty] at h;simp only at h;split at h
          rotate_left
          exact h.elim;rename_i l rr hd;obtain⟨g,a,b⟩:=jv h;cases b;obtain⟨a8,I⟩:=B.ty t hty;obtain⟨C,K,O,l1,l2,pr,_⟩:=qw (yk t) t.size (λu y=>bT w S.I t u y) (λF x r N h hc=>by
           obtain⟨C,K,e,a,b⟩:=nq t h hc;exact⟨C,K,e,a.length,a,b⟩) n F l rr _ hd j
          have Q:=pr i.toNat _<|q8 (by omega);have a7:i.toNat*t.size+t.size<=n*t.size:=by
           have:=aI t.size (show i.toNat+1<=n by omega)
           grind
          have V:N.size=C.length+K.length:=by
           have:=congrArg List.length O
           grind
          have Y:(C.drop<|i.toNat*t.size).take t.size=(N.toList.drop<|i.toNat*t.size).take t.size:=by grind
          rw[Y] at Q;obtain⟨z,h8,Z⟩:=QQ (m:=m) (T:=e) (by rw[I];exact B.agg w) (by simp_all) Q (by omega);refine⟨z,?_,Z⟩
          simp_all [run_underlying,Instr.index,asIntOf]
   case str=>
    have hT:P.underlying T=some .string:=(G T _ ht).gj (k:=.str) rfl;cases x<;>(try simp only at h)<;>try exact h.elim
    rename_i X s;obtain⟨rfl,hs⟩:=mo.1 W;have o:∀(_:0<=i) (_:i<(s.length:Int)),(Instr.index T (.string ⟨s.toArray⟩)<|.int k i).run P w=.ok (.int .u8<|af.byte s i) w/\IntKind.u8.has (af.byte s i):=by
     intro g a;have H:i.toNat<s.length:=by omega
     have hg:(ByteArray.mk s.toArray)[i.toNat]? = some s[i.toNat]:=by
      have f:i.toNat<(ByteArray.mk s.toArray).size:=H;rw[getElem?_pos (ByteArray.mk s.toArray) i.toNat f];rfl
     have hb:af.byte s i=(s[i.toNat].toNat:Int):=by
      show((s.getD i.toNat 0).toNat:Int)=_
      simp_all
     refine⟨?_,?_⟩
     .simp_all [run_underlying,Instr.index,asIntOf]
     .rw[hb];have:=s[i.toNat].toNat_lt;have O:IntKind.u8.min=0:=by decide
      have e2:IntKind.u8.max=255:=by decide
      constructor<;>omega
    cases hcc:c&&X with
    | true=>
      rw[hcc] at h;obtain⟨g,a,b⟩:=jv h;cases b;obtain⟨p,q⟩:=o g a;exact⟨_,p,fq.2 ⟨rfl,q⟩⟩
    | false=>
      rw[hcc] at h;obtain⟨g,a,b⟩:=jv h;cases b;obtain⟨p,q⟩:=o g a;exact⟨_,p,fq.2 ⟨rfl,q⟩⟩
def Fy(d:Int)(o:Option Value)(l:Int):Prop:=(o=none/\l=d)\/∃k,o=some (.int k l)
def mh{a:Operand->AV}{e:Operand->Value}(f:∀x,CR w S m (a x)<|e x){c c1:Bool}{d l:Int}{o:Option Operand}(h:bound c d (o.map a)=some (c1,l)):Fy d (o.map e) l:=by
 cases o with
 | none=>cases h;exact .inl ⟨rfl,rfl⟩
 | some x=>
   refine .inr ?_;have b:=f x;simp only[o7] at h ⊢;cases ha:a x<;>rw[ha] at h b<;>simp_all<;>try (cases h;done)
   cases h;exact⟨_,by rw[(fq.1 b).1]⟩
def xZ{c:Bool}{l h n:Int}{t:TV AV}(a:(Hy af c l h n t).Is r):0<=l/\l<=h/\h<=n/\t.Is r:=by
 unfold Hy at a;cases c with
 | true=>
   cases b:af.and (af.c .leq 0 l) (af.and (af.c .leq l h)<|af.c .leq h n) with
   | false=>rw[b] at a;exact a.elim
   | true=>
     simp_all [af,xa]
 | false=>
   have⟨b,a⟩:=a
   simp_all [af,xa]
def rT{e:Bool}{len a:Nat}{g f:Option Value}{l h:Int}(o:Fy 0 g l)(j:Fy len f h)(i:0<=l)(p:l<=h)(q:h<=a):
  (Instr.sliceBounds e len a g f none).run P w=.ok (l.toNat,h.toNat,a) w:=by
 have a1:∀k (y:Nat) c,l<=y->(Instr.sliceBound (.int k l) y c).run P w=.ok l.toNat w:=λk y c b=>run_sliceBound w k l y c i b;have a2:∀k (y:Nat) c,h<=y->(Instr.sliceBound (.int k h) y c).run P w=.ok h.toNat w:=λk y c b=>run_sliceBound w k h y c (by omega) b;have n:l<=(h.toNat:Int):=by omega
 rcases o with ⟨rfl,rfl⟩|⟨k,rfl⟩<;>rcases j with ⟨rfl,rfl⟩|⟨r,rfl⟩
 all_goals simp_all [Instr.sliceBounds]
def bT.sub{I:Nat->Prop}{a:Option Addr}{c:Nat}{x:List t.T}(h:bT w I (.slice t) [.slice a x.length c] x){l hh:Nat}(B:l<=hh)(C:hh<=x.length):
  bT w I (.slice t) [.slice (if c=l then a else a.map (·.add (l*t.size))) (hh-l)<|c-l] ((x.take hh).drop l):=by
 have⟨z,j,e,D,F,G,n⟩:=eF.1 h;cases e;have f:((x.take hh).drop l).length=hh-l:=by grind
 refine eF.2 ⟨_,c-l,by rw[f],by omega,by omega,?_,λi y g=>?_⟩
 .intro s;split at s
  all_goals simp_all
 .rw[da,cK] at g;split at g
  .rename_i r;obtain⟨b,off,u,rfl,o,q,H,p⟩:=n _ _ g;refine⟨b,off+l*t.size,u,?_,o,q,?_,p⟩
   .rw[if_neg<|by omega];simp[s_]
   grind
  grind
end
end Go.Ev
namespace Go.Ev
variable{c:Operand->AV}{g:Operand->Value}
section
variable {P:Program} {w0:nN} {w:World} {S:St} {m:Mem}
def IA{T e:TypeId}(o:P.underlying T=some (.slice e)){sz:Nat}(c:(sizeOf e).run P w=.ok sz w){a:Option Addr}{len b:Nat}{g f:Option Value}{l h:Int}
  (q:Fy 0 g l) (p:Fy len f h) (i:0<=l) (j:l<=h) (n:h<=b) :
  (Instr.sliceAt T (.slice a len b) g f none).run P w=.ok (.slice (if b=l.toNat then a else a.map (·.add (l.toNat*sz))) (h.toNat-l.toNat)<|b-l.toNat) w:=by
 simp[Instr.sliceAt,eE,run_underlying o,dH,Instr.slice,rT q p i j n,c,jA]
def Gy(Y:WR w0 w S m)(u:∀x,CR w S m (c x)<|g x){T e:TypeId}(J:P.underlying T=some (.slice e)){sz:Nat}(q:(sizeOf e).run P w=.ok sz w)
  {n:Operand} {C B j:Option Operand} {r:AV} (h:(Gx af sz m (c n) (C.map c) (B.map c)<|j.map c).Is r) :
  ∃z,(Instr.sliceAt T (g n) (C.map g) (B.map g)<|j.map g).run P w=.ok z w/\CR w S m r z:=by
 have i:=u n;unfold Gx at h;cases ha:c n<;>rw[ha] at h i<;>(try simp only at h)<;>try exact h.elim
 case sl t s=>
  split at h;exact h.elim;rename_i f;replace f:=vH f;have⟨a,b,e1,Q,h4,h5,h6⟩:=eF.1<|rm.1 i;have y:g n=.slice a s.length b:=by grind
  rw[y];cases j with
  | none=>
    cases hb1:bound true 0 (C.map c) with
    | none=>rw[hb1] at h;exact h.elim
    | some p1=>
      have⟨c1,l⟩:=p1;rw[hb1] at h;cases hb2:bound false (af.l s) (B.map c) with
      | none=>rw[hb2] at h;exact h.elim
      | some p2=>
        have⟨c2,p⟩:=p2;rw[hb2] at h;have⟨D,F,o,G⟩:=xZ h;cases G;have o:p<=(s.length:Int):=o;refine⟨_,IA J q (mh u hb1) (mh (d:=(s.length:Int)) u hb2) D F<|by omega,rm.2 ?_⟩;have:=bT.sub (by rw[y] at i;exact rm.1 i) (l:=l.toNat) (hh:=p.toNat) (by omega) (by omega);rw[f] at this;exact this
  | some j=>exact h.elim
 case own id=>
  rw[CR] at i;cases hm:m.at id<;>simp_all<;>(try simp only at i h)<;>try exact h.elim
  rename_i fz t s;split at h;exact h.elim;rename_i f;replace f:=vH f;have I:∃a b,g n=.slice a s.length b/\s.length<=b/\(a=none->b=0)/\(s≠ []->a=some ⟨S.σ id,S.δ id,none⟩)/\(S.vd id=true->b=0)/\(S.vd id=false->a=some ⟨S.σ id,S.δ id,none⟩/\∃N T O,w.heap[S.σ id]? = some (.cells N T O)/\S.δ id+b*t.size<=N.size):=by grind
  have⟨a,b,y,Q,V,W,X⟩:=I;have K:=Y.box id;rw[hm] at K;have⟨H,_⟩:=K;rw[im] at H;rw[y];cases j with
  | none=>
    cases hb1:bound true 0 (C.map c) with
    | none=>rw[hb1] at h;exact h.elim
    | some p1=>
      have⟨c1,l⟩:=p1;rw[hb1] at h;cases hb2:bound false (af.l s) (B.map c) with
      | none=>rw[hb2] at h;exact h.elim
      | some p2=>
        have⟨c2,p⟩:=p2;rw[hb2] at h;have⟨D,F,o,G⟩:=xZ h;cases G;have o:p<=(s.length:Int):=o;refine⟨_,IA J q (mh u hb1) (mh (d:=(s.length:Int)) u hb2) D F<|by omega,?_⟩;rw[CR,hm];refine⟨l.toNat,p.toNat-l.toNat,b-l.toNat,_,by omega,?_,rfl,by omega,by omega,?_,rfl,λZ=>?_,λe=>⟨λk=>?_,λk=>?_⟩⟩
        .show IntKind.i64.wrap _=_;rw[wrap_small (by omega)<|by omega];omega
        .grind
        .rw[if_neg<|by omega,W<|ne_of_lt (k:=l.toNat)<|by omega];simp[s_,f]
        .simp_all
        .obtain⟨rfl,k2⟩:=X.2 k;rw[e];exact⟨by simp[s_],k2⟩
  | some j=>exact h.elim
def C4(G:∀x,CR w S m (c x)<|g x){T e:TypeId}{n:Nat}(K:P.underlying T=some (.array n e)){a:TI}(F:(sizeOf e).run P w=.ok a.size w)
  {C:Operand} {B y:Option Operand} {r:AV} (h:(Ab af n a m (c C) (B.map c)<|y.map c).Is r) :
  ∃z,(Instr.sliceAt T (g C) (B.map g) (y.map g) none).run P w=.ok z w/\CR w S m r z:=by
 have q:=G C;unfold Ab at h;cases ha:c C<;>rw[ha] at h q<;>(try simp only at h)<;>try exact h.elim
 rename_i id off;rw[CR] at q;cases hm:m.at id<;>rw[hm] at q h<;>(try simp only at q h)<;>try exact h.elim
 rename_i fz J;rw[q];cases hz:Nat.beq a.size 0 with
 | true=>rw[hz] at h;exact h.elim
 | false=>
   split at h
   rotate_left
   exact h.elim;rename_i I;simp only[fZ] at I;have⟨i,j,o⟩:=I;replace i:=vH i;replace j:=KX j;replace o:=KX o;have p:off=off/a.size*a.size:=by grind [Nat.div_add_mod]
   cases hb1:bound true 0 (B.map c) with
   | none=>rw[hb1] at h;exact h.elim
   | some p1=>
     have⟨c1,l⟩:=p1;rw[hb1] at h;cases hb2:bound true n (y.map c) with
     | none=>rw[hb2] at h;exact h.elim
     | some p2=>
       have⟨c2,f⟩:=p2;rw[hb2] at h;simp only at h
       have H:∀(_:0<=l) (_:l<=f) (_:f<=n),∃z,(Instr.sliceAt T (.pointer<|some ⟨S.σ id,off,none⟩) (B.map g) (y.map g) none).run P w=.ok z w/\
         ∃(l1 n1 b:Nat) (a1:Option Addr),((off/a.size:Nat):Int)+l=l1/\f-l=n1/\l1+n1<=fX/\(l1+b)*a.size<=J.length/\n1<=b/\(a1=none->b=0)/\z=.slice a1 n1 b/\(n1≠0->a1=some ⟨S.σ id,l1*a.size,none⟩):=by
        intro s t u
        refine⟨_,by simp[Instr.sliceAt,eE,run_underlying K,dH,Instr.sureAddr,jA,rT (mh G hb1) (mh G hb2) s t u,F];rfl,
         off/a.size+l.toNat,f.toNat-l.toNat,n-l.toNat,_,by omega,by omega,by grind [im],?_,by omega,?_,rfl,λN=>?_⟩
        .have Q:(off/a.size+l.toNat+(n-l.toNat))*a.size<=(off/a.size+n)*a.size:=aI _ (by omega)
         grind
        .grind
        .rw[if_neg<|by omega,s_,fI,<-p]
       cases hcc:c1&&c2 with
       | true=>
         rw[hcc] at h;have⟨s,t,u,D⟩:=xZ h;cases D
         grind [CR]
       | false=>
         rw[hcc] at h;have⟨s,t,u,D⟩:=xZ h;cases D;have⟨z,O,V⟩:=H s t u;refine⟨z,O,?_⟩;rw[CR,hm];have W:af.b .add .i64 ((off/a.size:Nat):Int) l=(off/a.size:Nat)+l:=by show IntKind.i64.wrap _=_;grind [wrap_small]
         have X:af.b .sub .i64 f l=f-l:=by show IntKind.i64.wrap _=_;grind [wrap_small]
         grind
def JO{E:PT TI}(f:nW P E)(s:WR w0 w S m){b:Operand->AV}{c:Operand->Value}(o:∀x,CR w S m (b x)<|c x){T:TypeId}
  {q:Operand} {p l i:Option Operand} {r:AV} (h:(L9 af (E.get T) E.get m (b q) (p.map b) (l.map b)<|i.map b).Is r) :
  ∃z,(Instr.sliceAt T (c q) (p.map c) (l.map c)<|i.map c).run P w=.ok z w/\CR w S m r z:=by
 unfold L9 at h;cases ht:E.get T with
 | none=>rw[ht] at h;exact h.elim
 | some ti=>
   rw[ht] at h;simp only at h;cases hk:ti.kind<;>rw[hk] at h<;>(try simp only at h)<;>try exact h.elim
   case arr n e=>
    have g:P.underlying T=some (.array n e):=(f T _ ht).gj hk;cases a:E.get e with
    | none=>rw[a] at h;exact h.elim
    | some j=>
      rw[a] at h;cases i with
      | some _=>exact h.elim
      | none=>
        exact C4 o g ((f e j a).rJ w) h
   case slice e=>
    have g:P.underlying T=some (.slice e):=(f T _ ht).gj hk;split at h
    rotate_left
    exact h.elim;rename_i j a;exact Gy s o g ((f e j a).rJ w) h
end
end Go.Ev
namespace Go.Ev
variable{u:Value}{v:AV}
section
variable {P:Program} {w0:nN} {w:World} {S:St} {m:Mem}
def CU(p:v.known m=true)(h:CR w S m v u):eH w S m v.cells u.cells.toList:=by
 have one:∀{v:AV} {u:Value},CR w S m v u->v.cells=[v]->u.cells=#[u]->eH w S m v.cells u.cells.toList:=by
  intro v u h j n;rw[j,n];exact bL.2 ⟨u,[],rfl,h,bw.2 rfl⟩
 cases v
 case undef=>cases p
 case agg cs=>obtain⟨i,rfl,c⟩:=uN.1 h;exact c
 case int=>have f:=(fq.1 h).1;exact one h rfl (by rw[f];rfl)
 case bool=>have f:=(iD.1 h);exact one h rfl (by rw[f];rfl)
 case str=>have f:=(mo.1 h).1;exact one h rfl (by rw[f];rfl)
 case sl=>have⟨a,g,e,_⟩:=eF.1<|rm.1 h;obtain rfl:=List.head_eq_of_cons_eq e;exact one h rfl rfl
 case fG=>have⟨a,f,_⟩:=nA.1 h;exact one h rfl (by rw[f];rfl)
 case pO=>have⟨b,o,i,f,_⟩:=ug.1 h;exact one h rfl (by rw[f];rfl)
 case jX=>have f:=qL.1 h;exact one h rfl (by rw[f];rfl)
 case fn=>have⟨i,q,f,_⟩:=vo.1 h;exact one h rfl (by rw[f];rfl)
 case tN=>have f:=ta.1 h;exact one h rfl (by rw[f];rfl)
 case yV=>have⟨i,f,_⟩:=kC.1 h;exact one h rfl (by rw[f];rfl)
 case own id=>
  have c:=h;rw[CR] at c;cases hm:m.at id<;>rw[hm] at c<;>simp only at c
  case a_=>grind [AV.known,iN.lT]
  case arr=>rcases c with ⟨_,_,a,f⟩|⟨_,g,f,_⟩<;>exact one h rfl (by rw[f];rfl)
 case t6 id _ _ _ _=>
  have c:=h;rw[CR] at c;cases hm:m.at id<;>rw[hm] at c<;>simp only at c
  case a_=>grind [AV.known,iN.lT]
  case arr=>have⟨_,_,g,a,_,_,_,_,_,_,f,_⟩:=c;exact one h rfl (by rw[f];rfl)
  case cu=>have⟨_,_,g,a,_,_,_,_,_,_,f,_⟩:=c;exact one h rfl (by rw[f];rfl)
 case ptr id _=>
  have c:=h;rw[CR] at c;cases hm:m.at id<;>rw[hm] at c<;>simp only at c
  case a_=>grind [AV.known,iN.lT]
  case cu=>exact one h rfl (by rw[c];rfl)
 case lu id _ _=>
  have c:=h;rw[CR] at c;cases hm:m.at id<;>rw[hm] at c<;>simp only at c
  case a_=>grind [AV.known,iN.lT]
  case arr=>have⟨_,_,_,f⟩:=c;exact one h rfl (by rw[f];rfl)
 case zo id _ _ _ _=>
  have c:=h;rw[CR] at c;cases hm:m.at id<;>rw[hm] at c<;>simp only at c
  case a_=>grind [AV.known,iN.lT]
  case cu=>have⟨_,_,_,f⟩:=c;exact one h rfl (by rw[f];rfl)
 case yield l=>
  have c:=h;rw[CR] at c;cases hm:m.at l<;>rw[hm] at c<;>simp only at c
  case a_=>grind [AV.known,iN.lT]
  case loop=>exact one h rfl (by rw[c];rfl)
def foldl_set(a:List Value):∀(off:Nat) (b:Array Value),off+a.length<=b.size->
  ((a.zipIdx 0).foldl (λ(c:Array Value) (p:Value×Nat)=>c.setIfInBounds (off+p.2) p.1) b).toList=b.toList.take off++a++b.toList.drop (off+a.length):=by
 suffices h:∀(a:List Value) (k off:Nat) (b:Array Value),off+k+a.length<=b.size->
   ((a.zipIdx k).foldl (λ(c:Array Value) (p:Value×Nat)=>c.setIfInBounds (off+p.2) p.1) b).toList=b.toList.take (off+k)++a++b.toList.drop (off+k+a.length) by simp_all
 intro a
 induction a with
 | nil=>simp_all
 | cons v a ih=>
   intro k off b h;simp only[List.zipIdx_cons,jZ];rw[ih (k+1) off _ (by grind)];simp only[Array.toList_setIfInBounds,List.length_cons];apply dR;intro i;rw[fe,fe];have f:((b.toList.set (off+k) v).take (off+(k+1))).length=off+k+1:=by grind
   have g:(b.toList.take<|off+k).length=off+k:=by grind
   rcases Nat.lt_trichotomy i (off+k) with e|e|e
   .rw[cB<|by omega,cB<|by omega,cK,cK,if_pos<|by omega,if_pos e,List.getElem?_set_ne<|by omega]
   .simp_all [cB]
   .rw[dA (l₁:=(b.toList.set (off+k) v).take<|off+(k+1))<|by omega,dA (l₁:=b.toList.take<|off+k)<|by omega,f,g,show i-(off+k)=(i-(off+k+1))+1 from by omega,oh,List.getElem?_cons_succ]
    all_goals grind
def qg{off:Nat}{c g b:List AV}{a e:List Value}(h:iI off c g=some b)(i:eH w S m c a)(f:eH w S m g e):
  off+a.length<=e.length/\eH w S m b (e.take off++a++e.drop (off+a.length)):=by
 unfold iI at h;split at h
 rotate_left
 cases h;rename_i l;cases h;have n:=KX l;have j:=i.length;have o:=f.length;refine⟨by omega,?_⟩;rw[j];exact((f.take off).append i).append (f.drop _)
def zP{place:Nat->Option (Nat×Nat)}{i off size:Nat}{b e:List AV}{a:Array Value}{rest:List<|Nat×Value}
  (x:place i=some (off,size)) (g:(v.known m&&Nat.beq v.cells.length size)=true) (p:CR w S m v u) (f:iI off v.cells b=some e) (o:eH w S m b a.toList) :
  ∃h,Instr.fill place a ((i,u)::rest)=Instr.fill place h rest/\eH w S m e h.toList/\h.size=a.size:=by
 simp only[fZ] at g;have l:=CU g.1 p;have q:=vH g.2;have r:=l.length;have⟨s,t⟩:=qg f l o;have n:(u.cells.zipIdx.foldl (λb (c,j)=>b.setIfInBounds (off+j) c) a).toList=a.toList.take off++u.cells.toList++a.toList.drop (off+u.cells.size):=by
  have:=foldl_set u.cells.toList off a (by omega);rw[<-Array.foldl_toList]
  simp_all
 refine⟨u.cells.zipIdx.foldl (λb (c,j)=>b.setIfInBounds (off+j) c) a,?_,?_,?_⟩
 .grind [Instr.fill]
 .simp_all
 .have:=congrArg List.length n
  grind
end
end Go.Ev
namespace Go.Ev
variable{E:PT TI}{I:Nat->Prop}{a:Option Addr}{e:Operand->AV}{r:AV}{rt:TypeId}{t:Ty}{ts:Array TypeId}{v x:Value}{y:List Int}
section
variable {P:Program} {w0:nN} {w:World} {S:St} {m:Mem}
theorem xG{size:Nat}{f:Operand->AV}{n:Operand->Value}(o:∀x,CR w S m (f x)<|n x):∀(c:List<|Nat×Operand) (e a:List AV) (b:Array Value),
  GD m size (c.map λp=>(p.1,f p.2)) e=some a->eH w S m e b.toList->
  ∃j,Instr.fill (λi=>some (i*size,size)) b (c.map λp=>(p.1,n p.2))=some j/\eH w S m a j.toList/\j.size=b.size
 | [],e,a,b,h,hc=>by cases h;exact⟨b,rfl,hc,rfl⟩
 | (i,x)::c,e,a,b,h,hc=>by
   simp[eB,GD] at h;cases hk:((f x).known m&&Nat.beq (f x).cells.length size) with
   | false=>grind
   | true=>
     rw[hk] at h;simp only at h;split at h;cases h;rename_i g r;have⟨l,t,q,u⟩:=zP (rest:=c.map λp=>(p.1,n p.2)) (place:=λi=>some (i*size,size)) rfl hk (o x) r hc;have⟨s,y,z,B⟩:=xG o c g a l h q
     grind
theorem D_{n:List<|Nat×Nat×Bool}{place:Nat->Option (Nat×Nat)}(c:∀i off sz j,n[i]? = some (off,sz,j)->place i=some (off,sz))
  {g:Operand->AV} {s:Operand->Value} (t:∀x,CR w S m (g x)<|s x):∀(e:List<|Nat×Operand) (f a:List AV) (b:Array Value),
  Oy m n (e.map λp=>(p.1,g p.2)) f=some a->eH w S m f b.toList->
  ∃o,Instr.fill place b (e.map λp=>(p.1,s p.2))=some o/\eH w S m a o.toList/\o.size=b.size
 | [],f,a,b,h,hc=>by cases h;exact⟨b,rfl,hc,rfl⟩
 | (i,x)::e,f,a,b,h,hc=>by
   simp[eB,Oy] at h;cases hi:n[i]? with
   | none=>grind
   | some q=>
     have⟨off,sz,j⟩:=q;rw[hi] at h;simp only at h;cases hk:((g x).known m&&Nat.beq (g x).cells.length sz) with
     | false=>grind
     | true=>
       rw[hk] at h;simp only at h;split at h;cases h;rename_i l y;have⟨r,B,u,C⟩:=zP (rest:=e.map λp=>(p.1,s p.2)) (place:=place) (c i off sz j hi) hk (t x) y hc;have⟨z,D,F,G⟩:=D_ c t e l a r h u
       grind
def ET{F:Array Field}{b:List<|Nat×Nat×Bool}(x:F.size=b.length)
  (u:∀(i off sz:Nat) (a:Bool),b[i]? = some (off,sz,a)->∃f j,F[i]? = some f/\f.offset=off/\P.info? f.type=some j/\j.size=sz/\∀w,(isAgg f.type).run P w=.ok a w) :
  (F.mapM λf=>(do pure (f.offset,<-sizeOf f.type):Sem<|Nat×Nat)).run P w=.ok ((b.map λp=>(p.1,p.2.1)).toArray) w:=by
 rw[mJ]
 have n:∀(l:List Field) (fl:List<|Nat×Nat×Bool),l.length=fl.length->
   (∀(i off sz:Nat) (a:Bool),fl[i]? = some (off,sz,a)->∃f j,l[i]? = some f/\f.offset=off/\P.info? f.type=some j/\j.size=sz)->
   (l.mapM λf=>(do pure (f.offset,<-sizeOf f.type):Sem<|Nat×Nat)).run P w=.ok (fl.map λp=>(p.1,p.2.1)) w:=by
  intro l
  induction l with
  | nil=>intro fl c _;cases fl with
    | nil=>simp
    | cons _ _=>simp_all
  | cons f l ih=>
    intro fl c e;cases fl with
    | nil=>simp at c
    | cons q fl=>
      have⟨off,sz,a⟩:=q;have⟨o,j,g,r,s,t⟩:=e 0 off sz a rfl;simp at g;have:=ih fl (by simpa using c) (λi off sz a h=>by simpa using e (i+1) off sz a (by simpa using h))
      simp_all [sizeOf,typeInfo]
 grind [Sem.run_map,Result.andThen_ok]
def JG(B:nW P E){f:Operand->AV}{H:Operand->Value}(D:∀x,CR w S m (f x)<|H x){T:TypeId}{a:List<|Nat×Operand}
  (h:(LQ m (E.get T) E.get<|a.map λp=>(p.1,f p.2)).Is r) :
  ∃z,(Instr.build T (a.map λp=>(p.1,H p.2)).toArray).run P w=.ok z w/\CR w S m r z:=by
 unfold LQ at h;cases ht:E.get T with
 | none=>rw[ht] at h;exact h.elim
 | some ti=>
   rw[ht] at h;have o:=B T ti ht;have⟨i,z,q,N,O,s,u,Q⟩:=o.info;have C:=u w S m;have⟨V,size,g,agg,zero,ty,X⟩:=ti;cases V<;>(try simp only at h)<;>try exact h.elim
   case arr n e=>
    have K:P.underlying T=some (.array n e):=o.gj (k:=.arr n e) rfl;split at h
    rotate_left
    exact h.elim;rename_i G t;replace h:=x8 h;cases c:GD m G.size (a.map λp=>(p.1,f p.2)) zero with
    | none=>grind
    | some cs=>
      rw[c] at h;cases h;have⟨b,y,j,I⟩:=xG D a zero cs z.cells c C;exact⟨.agg b,by simp[Instr.build,zeroValue,typeInfo,q,s,run_underlying K,(B e G t).rJ w,y],uN.2 ⟨b,rfl,j⟩⟩
   case struct fs=>
    have⟨F,J,l,c⟩:=o.gj (k:=.struct fs) rfl;replace h:=x8 h;cases hfl:Oy m fs (a.map λp=>(p.1,f p.2)) zero with
    | none=>grind
    | some cs=>
      rw[hfl] at h;cases h;have⟨b,y,j,I⟩:=D_ (place:=λi=>((fs.map λp=>(p.1,p.2.1)).toArray)[i]?) (λi off sz W Y=>by grind) D a zero cs z.cells hfl C;refine⟨.agg b,?_,uN.2 ⟨b,rfl,j⟩⟩;simp only[Instr.build,eE,zeroValue,typeInfo,dH,run_underlying J,ET l c]
      simp_all
def L3(g:nW P E){s d:TypeId}{x:AV}(i:CR w S m x v)(h:(L1 af (E.get s) (E.get d) x).Is r):
  ∃z,(convert s d v).run P w=.ok z w/\CR w S m r z:=by
 cases hs:E.get s with
 | none=>rw[hs] at h;exact h.elim
 | some p=>
   cases hd:E.get d with
   | none=>rw[hs,hd] at h;exact h.elim
   | some e=>
     rw[hs,hd] at h;have a:=g d e hd;have c:∃td,P.underlying s=some td:=by
      have f:=(g s p hs).agg w;unfold isAgg at f;simp[underlying] at f;cases n:P.underlying s with
      | none=>simp_all
      | some td=>simp_all
     have⟨td,n⟩:=c;have⟨o,size,b,agg,zero,ty,q⟩:=e;cases o<;>cases x<;>(try simp only at h)<;>try exact h.elim
     .obtain⟨rfl,l⟩:=fq.1 i;cases h;have j:P.underlying d=some (.int _):=a.gj rfl;refine⟨_,?_,gT _ _ _<|mI _ _⟩
      simp_all [run_underlying,convert,Conv.intToInt,af]
     .obtain⟨rfl,l⟩:=mo.1 i;cases h;have j:P.underlying d=some .string:=a.gj (k:=.str) rfl
      simp_all [run_underlying,convert]
def p9{n:Nat}(h:n<=fX):IntKind.i64.has (n:Int):=by
 rw[im] at h;have a:IntKind.i64.min = -9223372036854775808:=by decide
 have b:IntKind.i64.max=9223372036854775807:=by decide
 constructor<;>omega
def Ov(H:nW P E)(B:WR w0 w S m){T:TypeId}(N:ts[0]? = some T){x:AV}(f:CR w S m x v)(h:(Zn af (E.get T) m x).Is r):
  ∃z,(Builtin.len_ ts rt #[v]).run P w=.ok z w/\CR w S m r z:=by
 unfold Zn at h;cases ht:E.get T with
 | none=>rw[ht] at h;exact h.elim
 | some ti=>
   rw[ht] at h;have q:=H T ti ht;have⟨O,size,o,agg,zero,ty,X⟩:=ti;cases O<;>(try simp only at h)<;>try exact h.elim
   case str=>
    have y:P.underlying T=some .string:=q.gj (k:=.str) rfl;cases x<;>(try simp only at h)<;>try exact h.elim
    rename_i c s;obtain⟨rfl,I⟩:=mo.1 f;have K:(ByteArray.mk s.toArray).size=s.length:=rfl;have:r=.int .i64 c (s.length:Int):=by cases c<;>exact h
    subst this;exact⟨.int .i64 s.length,by simp_all [run_underlying,Builtin.len_,goInt],fq.2 ⟨rfl,p9 I⟩⟩
   case arr n e=>
    have y:P.underlying T=some (.array n e):=q.gj (k:=.arr n e) rfl;split at h
    rotate_left
    exact h.elim;rename_i j;cases h;exact⟨.int .i64 n,by simp_all [run_underlying,Builtin.len_,goInt],fq.2 ⟨rfl,p9<|KX j⟩⟩
   case slice e=>
    have y:P.underlying T=some (.slice e):=q.gj (k:=.slice e) rfl;have g:∀(a:Option Addr) (n c:Nat),(Builtin.len_ ts rt #[.slice a n c]).run P w=.ok (.int .i64 n) w:=by simp_all [run_underlying,Builtin.len_,goInt]
    cases x<;>(try simp only at h)<;>try exact h.elim
    case sl t l=>
     have⟨a,i,W,Y,u,_⟩:=eF.1<|rm.1 f;have C:v=.slice a l.length i:=by simp_all
     cases h;subst C;exact⟨_,g _ _ _,fq.2 ⟨rfl,p9 u⟩⟩
    case fG b=>
     obtain⟨a,rfl,_⟩:=nA.1 f;cases h;exact⟨_,g _ _ _,fq.2 ⟨rfl,p9<|aM _⟩⟩
    case own id=>
     have j:=B.box id;rw[CR] at f;cases hm:m.at id<;>simp_all<;>(try simp only at f h)<;>try exact h.elim
     cases h;rcases f with ⟨_,rfl,a,rfl⟩|⟨_,i,rfl,_⟩<;>exact⟨_,g _ _ _,fq.2 ⟨rfl,p9 j.1⟩⟩
    case t6 id sz c lo n=>
     have j:=B.box id;rw[CR] at f;cases hm:m.at id<;>rw[hm] at f j h<;>(try simp only[iN.lT] at f h)
     case a_=>exact h.elim
     case arr=>
      obtain⟨Q,V,i,a,rfl,rfl,J,D,F,p,rfl,G⟩:=f;cases h;exact⟨_,g _ _ _,fq.2 ⟨rfl,p9 (by have:=j.1;omega)⟩⟩
     case cu=>
      obtain⟨Q,V,i,a,rfl,rfl,u,D,F,p,rfl,G⟩:=f;cases h;exact⟨_,g _ _ _,fq.2 ⟨rfl,p9<|by omega⟩⟩
def Ox{n:Operand->Value}(j:∀x,CR w S m (e x)<|n x){f:Array Operand}(h:(Zp af<|f.toList.map e).Is r):
  ∃z,(Builtin.min_ ts rt<|f.map n).run P w=.ok z w/\CR w S m r z:=by
 have⟨l⟩:=f;unfold Zp at h
 match l,h with
 | [x,y],h=>
   have g:=j x;have i:=j y;simp at h;cases ha:e x<;>cases hb:e y<;>rw[ha,hb] at h<;>(try simp only at h)<;>try exact h.elim
   rw[ha] at g;rw[hb] at i;rename_i k c a B s b;have⟨o,t⟩:=fq.1 g;have⟨p,u⟩:=fq.1 i;split at h
   rotate_left
   exact h.elim;rename_i q;have:=lU q;subst this;cases h;refine⟨.int k<|af.mn a b,?_,gT k _ (λA=>A.mn a b) ?_⟩
   .simp[oi,eB,o,p];rfl
   .show k.has (if _ then _ else _)
    grind
 | [],h=>exact h.elim
 | [x],h=>revert h;simp;cases e x<;>exact λh=>h.elim
 | x::y::z::l,h=>revert h;simp;cases e x<;>cases e y<;>exact λh=>h.elim
def Ow{t:Operand->Value}(i:∀x,CR w S m (e x)<|t x){q:Array Operand}(h:(Zo af<|q.toList.map e).Is r):
  ∃z,(Builtin.max_ ts rt<|q.map t).run P w=.ok z w/\CR w S m r z:=by
 have⟨l⟩:=q;unfold Zo at h
 match l,h with
 | [x,y],h=>
   have f:=i x;have g:=i y;simp at h;cases ha:e x<;>cases hb:e y<;>rw[ha,hb] at h<;>(try simp only at h)<;>try exact h.elim
   rw[ha] at f;rw[hb] at g;rename_i k c a H B b;have⟨j,F⟩:=fq.1 f;have⟨n,G⟩:=fq.1 g;split at h
   rotate_left
   exact h.elim;rename_i o;have:=lU o;subst this;cases h;refine⟨.int k<|af.mx a b,?_,gT k _ (λA=>A.mx a b) ?_⟩
   .simp[oi,eB,j,n];rfl
   .show k.has (if _ then _ else _)
    grind
 | [],h=>exact h.elim
 | [x],h=>revert h;simp;cases e x<;>exact λh=>h.elim
 | [x,y,z],h=>
   have f:=i x;have g:=i y;have s:=i z;simp at h;cases ha:e x<;>cases hb:e y<;>rw[ha,hb] at h<;>(try simp only at h)<;>try exact h.elim
   cases hd:e z<;>rw[hd] at h<;>(try simp only at h)<;>try exact h.elim
   rw[ha] at f;rw[hb] at g;rw[hd] at s;rename_i k c a H B b I C d;have⟨j,F⟩:=fq.1 f;have⟨n,G⟩:=fq.1 g;have⟨D,J⟩:=fq.1 s;split at h
   rotate_left
   exact h.elim;rename_i o p;have:=lU o;subst this;have:=lU p;subst this;cases h;refine⟨.int k<|af.mx (af.mx a b) d,?_,gT k _ (λA=>A.mx (A.mx a b) d) ?_⟩
   .simp[oi,eB,j,n,D];rfl
   .show k.has (if _ then _ else if _ then _ else _)
    grind
 | x::y::z::u::l,h=>revert h;simp;cases e x<;>cases e y<;>cases e z<;>exact λh=>h.elim
def Rt(v:Value):CR w S m (My v) v:=by
 unfold My;cases v<;>(try simp only)<;>try exact gQ
 case int k n=>
  cases h:(decide (amr k<=n)&&decide (n<=amq k)) with
  | false=>exact gQ
  | true=>
    exact fq.2 ⟨rfl,by grind [afL],by grind [afK]⟩
 case bool b=>rfl
 case string s=>
  cases h:Nat.ble s.data.toList.length 140737488355328 with
  | false=>exact gQ
  | true=>exact mo.2 ⟨by simp,KX h⟩
 case pointer a=>cases a with
  | none=>rfl
  | some a=>exact gQ
 case slice a n c=>
  cases a with
  | some a=>exact gQ
  | none=>
    cases n with
    | succ n=>exact gQ
    | zero=>cases c with
      | succ c=>exact gQ
      | zero=>exact nA.2 ⟨none,rfl,λ_=>rfl⟩
 rfl
theorem Lj{b:Operand->AV}{c:Operand->Value}(a:∀x,CR w S m (b x)<|c x):∀l:List Operand,eH w S m (l.map b)<|l.map c
 | []=>bw.2 rfl
 | x::l=>bL.2 ⟨_,_,rfl,a x,Lj a l⟩
def Vx{b off:Nat}:∀{x:List t.T},(∀(i:Nat) (y:t.T),x[i]? = some y->∃a,a.length=t.size/\mf w b (off+i*t.size) a/\bT w I t a y)->
  ∃a:List Value,a.length=x.length*t.size/\mf w b off a/\∀(i:Nat) (y:t.T),x[i]? = some y->bT w I t ((a.drop<|i*t.size).take t.size) y:=by
 intro x
 induction x generalizing off with
 | nil=>intro _;exact⟨[],by simp,λj u c=>by grind,λi y g=>by grind⟩
 | cons y x ih=>
   intro h;have⟨f,n,o,c0⟩:=h 0 y rfl;have⟨q,l1,p,c1⟩:=ih (off:=off+t.size) λi y g=>by
    have⟨a,a1,a2,r⟩:=h (i+1) y (by grind)
    grind
   refine⟨f++q,by grind,λj u c=>?_,λi z l=>?_⟩
   .by_cases e:j<f.length
    .rw[cB e] at c;have:=o j u c
     grind
    .rw[dA<|by omega] at c;have:=p _ u c
     grind
   .cases i with
    | zero=>
      grind
    | succ i=>
      have:=c1 i z l;rw[show(i+1)*t.size=t.size+i*t.size from by rw[kL,mM],<-fh,o6 n];omega
def E4(w:World)(I:Nat->Prop)(t:Ty)(v:Value)(y:List t.T):Prop:=
 ∃(a:Option Addr) (c:Nat) (e:List Value),v=.slice a y.length c/\y.length<=fX/\e.length=y.length*t.size/\(y.length≠0->∃b off,a=some ⟨b,off,none⟩/\mf w b off e)/\
  (a=none->c=0)/\y.length<=c/\∀(i:Nat) (z:t.T),y[i]? = some z->bT w I t ((e.drop<|i*t.size).take t.size) z
def E4.none{b:Nat}(h:a=none->b=0):E4 w I t (.slice a 0 b) []:=
 ⟨a,b,[],rfl,aM _,by simp,λh=>absurd rfl h,h,aM _,λi z c=>by grind⟩
def E4.Mz{y:List t.T}(h:bT w I (.slice t) [v] y):E4 w I t v y:=by
 have⟨a,g,e,n,o,p,q⟩:=eF.1 h;have e:v=.slice a y.length g:=by grind
 by_cases u:y.length=0
 .have:y=[]:=aY u;subst this;exact⟨a,g,[],e,o,by simp,λh=>absurd rfl h,p,n,λi z B=>by grind⟩
 .have⟨j,f,D,s,_⟩:=q 0 _<|KN (by omega);have⟨C,l,r,c⟩:=Vx (w:=w) (t:=t) (I:=I) (b:=j) (off:=f) (x:=y) λi z B=>by grind
  exact⟨a,g,C,e,o,l,λ_=>⟨j,f,s,r⟩,p,n,c⟩
def mf.heap{c:World}{b off:Nat}{a:List Value}(h:mf w b off a)(e:c.heap=w.heap):mf c b off a:=h.mono (by rw[e])
def pW{sz n:Nat}{len cap:Nat}{f:List Value}(o:f.length=n*sz)(h:n≠0->∃b off,a=some ⟨b,off,none⟩/\mf w b off f)(g:World)(i:g.heap=w.heap):
  (Builtin.firstCells sz n<|.slice a len cap).run P g=.ok f.toArray g:=by
 cases a with
 | none=>
   have c:n=0:=Decidable.byContradiction λc=>by grind
   subst c;have:f=[]:=aY (by omega);subst this;rfl
 | some a=>
   refine run_firstCells_some g sz n a len cap f o λj v l=>?_;have c:n≠0:=λc=>by grind
   have⟨b,off,e,p⟩:=h c;cases e;have:=p.heap i j v l
   rwa [kI]
def foldl_push(a:List Int):∀s:ByteArray,a.foldl (λr n=>r.push<|UInt8.ofNat n.toNat) s=⟨(s.data.toList++a.map λn=>UInt8.ofNat n.toNat).toArray⟩:=by
 induction a with
 | nil=>simp_all
 | cons n a ih=>
   simp_all
theorem Iz{I:Nat->Prop}:∀{y:List Int} {us:List Value},us.length=y.length->(∀(i:Nat) (z:Int),y[i]? = some z->bT w I (.int .u8) ((us.drop<|i*1).take 1) z)->us=y.map (Value.int .u8)
 | [],us,hl,_=>aY hl
 | z::y,[],hl,_=>by grind
 | z::y,u::us,hl,h=>by
   have a:=(tf.1<|h 0 z rfl).1;simp at a;rw[eB,a,Iz (y:=y) (us:=us) (by simpa using hl) λi z b=>by
    have:=h (i+1) z (by simpa using b);simpa using this]
def Ol{s d e:TypeId}(z:P.underlying s=some (.slice e))(u:P.underlying e=some (.int .u8))(t:P.underlying d=some .string)(h:E4 w I (.int .u8) x y):
  (convert s d x).run P w=.ok (.string ⟨(y.map λn=>UInt8.ofNat n.toNat).toArray⟩) w:=by
 have⟨a,c,C,l,D,j,o,p,q,r⟩:=h;have B:C=y.map (Value.int .u8):=Iz (by rw[j];exact Nat.mul_one _) r;subst l;refine(run_convert_bytes_string w s d e a (List.length (α:=Int) y) c z u t).trans ?_;cases a with
 | none=>
   have g:=p rfl;have i:y=[]:=aY<|Nat.le_zero.1<|g▸q;subst i;rfl
 | some a=>
   have f:(loadCells a<|List.length (α:=Int) y).run P w=.ok (y.map<|Value.int .u8).toArray w:=by
    have:=pW (P:=P) (sz:=1) (len:=y.length) (cap:=c) (by rw[j];rfl) o w rfl;rw[Builtin.firstCells,Nat.mul_one] at this;exact this.trans (by grind)
   exact(run_bytesToString (P:=P) w a (List.length (α:=Int) y) c y f).trans (congrArg (λb=>Result.ok (Value.string b) w)<|foldl_push y ByteArray.empty)
def Om(h:E4 w I (.int .u8) x y):CR w S m (.str false<|af.bytes y)<|.string ⟨(y.map λn=>UInt8.ofNat n.toNat).toArray⟩:=by
 have⟨_,_,_,_,a,_⟩:=h;exact mo.2 ⟨rfl,bd (kK<|cy (α:=Int) (as:=y) λn=>UInt8.ofNat n.toNat) a⟩
def LO{R:Type}{E:kD R}(a:nW P E.ti){s d:TypeId}{l:List t.T}{c:TV AV}(o:CR w S m (.sl t l) x)(h:QN af (E.ti.get s) (E.ti.get d) E.ti.get t l=some c){v:AV}(n:c.Is v):
  ∃z,(convert s d x).run P w=.ok z w/\CR w S m v z:=by
 unfold QN at h;split at h
 .rename_i e _ _ _ _ _ _ _ _ _ _ _ _ i f;split at h
  .rename_i _ _ _ _ _ _ g;split at h
   .rename_i j;have:=Ty.eq_of_beq j;subst this;cases h;cases n;have b:=E4.Mz<|rm.1 o;exact⟨_,Ol ((a s _ i).gj (k:=.slice e) rfl) ((a e _ g).gj (k:=.int .u8) rfl) ((a d _ f).gj (k:=.str) rfl) b,Om b⟩
   grind
  grind
 grind
def D9{R:Type}{E:kD R}(C:nW P E.ti)(O:WR w0 w S m){I:Operand->AV}{J:Operand->Value}(n:∀x,CR w S m (I x)<|J x){o:Oper}{K:TV AV}(h:uo af E I m o=some K){v:AV}(g:K.Is v):
  ∃z,(execOp J o).run P w=.ok (.value z) w/\CR w S m v z:=by
 obtain⟨Q,W,ty,X,G,H⟩:=o;unfold uo at h;cases W<;>simp only at h<;>try (cases h;done)
 case move x=>cases h;cases g;exact⟨_,rfl,n x⟩
 case assign x=>cases h;cases g;exact⟨_,rfl,n x⟩
 case pick c a b=>
  cases h;have q:=n c;cases ha:I c<;>rw[ha] at g q<;>(try simp only at g)<;>try exact g.elim
  rename_i kn vb;have e:=iD.1 q;cases kn with
  | true=>
    cases vb with
    | true=>cases g;simp_all [execOp,asBool]
    | false=>cases g;simp_all [execOp,asBool]
  | false=>
    rcases g with ⟨V,g⟩|⟨V,g⟩
    .subst V;cases g;simp_all [execOp,asBool]
    .subst V;cases g;simp_all [execOp,asBool]
 case load t p=>
  cases h;obtain⟨b,off,u,e,r,B⟩:=Bg C O (n p) g
  simp_all [execOp,Instr.loadAt,Instr.sureAddr]
 case nilCheck x=>
  cases h;have F:=n x;cases ha:I x<;>rw[ha] at g F<;>(try simp only at g)<;>try exact g.elim
  case ptr id off=>
   have q:=F;rw[CR] at q;cases hm:m.at id<;>rw[hm] at g q<;>(try simp only at g q)<;>try exact g.elim
   cases g
   simp_all [execOp]
  case lu id i off=>
   have q:=F;rw[CR] at q;cases hm:m.at id<;>simp_all<;>(try simp only at g q)<;>try exact g.elim
   cases g;obtain⟨k,_,_,q⟩:=q
   simp_all [execOp]
  case pO t x' off=>
   obtain⟨b,o,Y,q,_⟩:=ug.1 F;cases g
   simp_all [execOp]
  case fn f a b=>
   obtain⟨Y,vs,q,_⟩:=vo.1 F;cases g
   simp_all [execOp]
 case binOp W t x y t2=>
  cases h;obtain⟨z,r,B⟩:=Oq (w:=w) C x y (n x) (n y) g
  grind [Sem.run_bind,Result.andThen_ok,Sem.run_pure,execOp]
 case unOp W t x=>
  cases h;obtain⟨z,r,B⟩:=QU (P:=P) (n x) g
  simp_all [execOp]
 case convert s d x=>
  have a0:∀{K:TV AV} {v:AV},K=L1 af (E.ti.get s) (E.ti.get d) (I x)->K.Is v->∃z,(execOp J {dst:=Q,op:=.convert s d x,type:=ty,pos:=X,after:=G,guard:=H}).run P w=.ok (.value z) w/\CR w S m v z:=by
   intro K v Z g;subst Z;obtain⟨z,r,B⟩:=L3 C (n x) g
   simp_all [execOp]
  cases ha:I x<;>rw[ha] at h<;>(try simp only at h)<;>try (cases h;done)
  .simp_all
  .grind
  .obtain⟨z,r,B⟩:=LO C (by rw[<-ha];exact n x) h g
   simp_all [execOp]
 case makeFunc fn a c=>
  cases fn<;>simp only at h<;>try (cases h;done)
  cases h;cases g;refine⟨.func (.func _) (a.map J)<|c.map J,rfl,vo.2 ⟨_,_,rfl,?_,?_⟩⟩
  all_goals simp_all [Lj]
 case slice t x lo hi mx=>
  cases h;obtain⟨z,r,B⟩:=JO C O n g
  simp_all [execOp]
 case fieldAddr t x i=>
  cases h;obtain⟨z,r,B⟩:=Be C (n x) g
  simp_all [execOp]
 case field t x i=>cases h;exact g.elim
 case indexAddr t x i=>
  cases h;obtain⟨z,r,B⟩:=Bf C O (n x) (n i) g
  simp_all [execOp]
 case index t x i=>
  cases h;obtain⟨z,r,B⟩:=JN C (n x) (n i) g
  simp_all [execOp]
 case extract t i=>
  cases h;have F:=n t;cases ha:I t<;>rw[ha] at g F<;>(try simp only at g)<;>try exact g.elim
  obtain⟨Y,e,q⟩:=kC.1 F;replace g:=x8 g;obtain⟨z,r,B⟩:=q.get g
  simp_all [execOp,Instr.extract]
 case build t ps=>
  cases h;obtain⟨z,r,B⟩:=JG C n g;have e:(ps.map λ(i,x)=>(i,J x))=(ps.toList.map λp=>(p.1,J p.2)).toArray:=by grind
  grind [Sem.run_bind,Result.andThen_ok,Sem.run_pure,execOp]
 case call c=>
  obtain⟨D,N,j⟩:=c;cases D<;>(try simp only at h)<;>try (cases h;done)
  rename_i b;cases b<;>simp_all<;>try (cases h;done)
  case len=>
   cases h;obtain⟨l⟩:=N;obtain⟨tl⟩:=j
   match l,tl,g with
   | [x],t::ts,g=>
     obtain⟨z,r,B⟩:=Ov (rt:=ty) (ts:=(t::ts).toArray) C O (by simp) (n x) g
     simp_all [execOp,resolve,invoke,builtin]
   | [x],[],g=>exact g.elim
   | [],_,g=>exact g.elim
   | _::_::_,_,g=>exact g.elim
  case max=>
   cases h;obtain⟨z,r,B⟩:=Ow (P:=P) (rt:=ty) (ts:=j) n g
   simp_all [execOp,resolve,invoke,builtin]
  case min=>
   cases h;obtain⟨z,r,B⟩:=Ox (P:=P) (rt:=ty) (ts:=j) n g
   simp_all [execOp,resolve,invoke,builtin]
end
abbrev aS.bJ (A:aS) (x y:Int):Int:=A.b .add .i64 x y
abbrev aS.fD (A:aS) (x y:Int):Int:=A.b .sub .i64 x y
abbrev aS.bo (A:aS) (x y:Int):Bool:=A.c .lss x y
abbrev aS.bE (A:aS) (x y:Int):Bool:=A.c .leq x y
abbrev aS.bq (A:aS) (x y:Int):Bool:=A.c .eql x y
abbrev aS.cm (A:aS) (x y:Int):Bool:=A.c .neq x y
abbrev aS.jD (A:aS) (x y:Int):Bool:=A.c .gtr x y
abbrev aS.ov (A:aS) (x y:Int):Bool:=A.c .geq x y
end Go.Ev
