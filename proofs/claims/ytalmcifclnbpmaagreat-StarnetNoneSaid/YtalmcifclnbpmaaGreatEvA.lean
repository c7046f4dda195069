/- PROVED: an evaluator is right, operations that leave memory alone. Conditions: the type table fits. -/
import GoSem.Claims
import Derived.Calls
import Derived.Laws.Sem
import Derived.Laws.World
import Derived.Laws.Cells
import Derived.Laws.AppendOwn
import Derived.Laws.Entries
import Derived.Laws.StructEq
import Derived.Laws.Slices
import Derived.Laws.Small
import Derived.Laws.Closers25b
import Derived.Laws.Strings
import Derived.Laws.Append
import Derived.Laws.BytesString
set_option linter.unusedVariables false
set_option linter.defProp false
set_option linter.unusedSimpArgs false
set_option linter.unusedSectionVars false
section
variable{q0 q1 q2 q3 q4 q5 q6 q7 q8 q9 qa:Type}
abbrev Prod.c(x:q0×q1×q2×q3):=x.2.2.1
abbrev Prod.d(x:q0×q1×q2×q3×q4):=x.2.2.2.1
abbrev Prod.e(x:q0×q1×q2×q3×q4×q5):=x.2.2.2.2.1
abbrev Prod.f(x:q0×q1×q2×q3×q4×q5×q6):=x.2.2.2.2.2.1
abbrev Prod.g(x:q0×q1×q2×q3×q4×q5×q6×q7):=x.2.2.2.2.2.2.1
abbrev Prod.h(x:q0×q1×q2×q3×q4×q5×q6×q7×q8):=x.2.2.2.2.2.2.2.1
abbrev Prod.i(x:q0×q1×q2×q3×q4×q5×q6×q7×q8×q9):=x.2.2.2.2.2.2.2.2.1
abbrev Prod.j(x:q0×q1×q2×q3×q4×q5×q6×q7×q8×q9×qa):=x.2.2.2.2.2.2.2.2.2.1
abbrev Prod.C(x:q0×q1×q2×q3):=x.2.2.2
abbrev Prod.D(x:q0×q1×q2×q3×q4):=x.2.2.2.2
abbrev Prod.E(x:q0×q1×q2×q3×q4×q5):=x.2.2.2.2.2
abbrev Prod.F(x:q0×q1×q2×q3×q4×q5×q6):=x.2.2.2.2.2.2
abbrev Prod.G(x:q0×q1×q2×q3×q4×q5×q6×q7):=x.2.2.2.2.2.2.2
abbrev Prod.H(x:q0×q1×q2×q3×q4×q5×q6×q7×q8):=x.2.2.2.2.2.2.2.2
abbrev Prod.I(x:q0×q1×q2×q3×q4×q5×q6×q7×q8×q9):=x.2.2.2.2.2.2.2.2.2
abbrev Prod.J(x:q0×q1×q2×q3×q4×q5×q6×q7×q8×q9×qa):=x.2.2.2.2.2.2.2.2.2.2
variable{pq0 pq1 pq2 pq3 pq4 pq5 pq6 pq7 pq8 pq9 pqa:Prop}
theorem And.c(x:pq0/\pq1/\pq2/\pq3):pq2:=x.2.2.1
theorem And.d(x:pq0/\pq1/\pq2/\pq3/\pq4):pq3:=x.2.2.2.1
theorem And.e(x:pq0/\pq1/\pq2/\pq3/\pq4/\pq5):pq4:=x.2.2.2.2.1
theorem And.f(x:pq0/\pq1/\pq2/\pq3/\pq4/\pq5/\pq6):pq5:=x.2.2.2.2.2.1
theorem And.g(x:pq0/\pq1/\pq2/\pq3/\pq4/\pq5/\pq6/\pq7):pq6:=x.2.2.2.2.2.2.1
theorem And.h(x:pq0/\pq1/\pq2/\pq3/\pq4/\pq5/\pq6/\pq7/\pq8):pq7:=x.2.2.2.2.2.2.2.1
theorem And.i(x:pq0/\pq1/\pq2/\pq3/\pq4/\pq5/\pq6/\pq7/\pq8/\pq9):pq8:=x.2.2.2.2.2.2.2.2.1
theorem And.j(x:pq0/\pq1/\pq2/\pq3/\pq4/\pq5/\pq6/\pq7/\pq8/\pq9/\pqa):pq9:=x.2.2.2.2.2.2.2.2.2.1
theorem And.C(x:pq0/\pq1/\pq2/\pq3):pq3:=x.2.2.2
theorem And.D(x:pq0/\pq1/\pq2/\pq3/\pq4):pq4:=x.2.2.2.2
theorem And.E(x:pq0/\pq1/\pq2/\pq3/\pq4/\pq5):pq5:=x.2.2.2.2.2
theorem And.F(x:pq0/\pq1/\pq2/\pq3/\pq4/\pq5/\pq6):pq6:=x.2.2.2.2.2.2
theorem And.G(x:pq0/\pq1/\pq2/\pq3/\pq4/\pq5/\pq6/\pq7):pq7:=x.2.2.2.2.2.2.2
theorem And.H(x:pq0/\pq1/\pq2/\pq3/\pq4/\pq5/\pq6/\pq7/\pq8):pq8:=x.2.2.2.2.2.2.2.2
theorem And.I(x:pq0/\pq1/\pq2/\pq3/\pq4/\pq5/\pq6/\pq7/\pq8/\pq9):pq9:=x.2.2.2.2.2.2.2.2.2
theorem And.J(x:pq0/\pq1/\pq2/\pq3/\pq4/\pq5/\pq6/\pq7/\pq8/\pq9/\pqa):pqa:=x.2.2.2.2.2.2.2.2.2.2
end
namespace Go.Ev
abbrev bK:=@List.take_succ_eq_append_getElem
abbrev gP:=@List.replicate_append_replicate
abbrev cY:=@Int.mul_le_mul_of_nonneg_right
abbrev bM:=@Int.mul_le_mul_of_nonneg_left
abbrev bg:=@List.eq_nil_of_length_eq_zero
abbrev dW:=@Array.getD_eq_getD_getElem?
abbrev lX:=@Array.getElem?_append_left
abbrev dy:=@Array.getElem?_eq_some_iff
abbrev lY:=@Int.tdiv_eq_ediv_of_nonneg
abbrev i_:=@Int.tmod_eq_emod_of_nonneg
abbrev dz:=@List.getElem?_append_right
abbrev rI:=@Nat.le_of_mul_le_mul_right
abbrev eU:=@Array.getElem?_eq_getElem
abbrev mE:=@Array.mapM_eq_mapM_toList
abbrev cN:=@List.getElem?_append_left
abbrev aR:=@List.getElem?_eq_some_iff
abbrev dX:=@Array.toList_eq_nil_iff
abbrev a_:=@Int.eq_ofNat_of_zero_le
abbrev dY:=@List.filter_cons_of_pos
abbrev cu:=@List.length_eq_zero_iff
abbrev kg:=@List.drop_eq_nil_of_le
abbrev gq:=@List.drop_of_length_le
abbrev kh:=@List.length_eq_one_iff
abbrev kj:=@List.sum_replicate_nat
abbrev dH:=@List.take_of_length_le
abbrev kU:=@List.getElem?_eq_none
abbrev bP:=@List.length_singleton
abbrev kV:=@List.mem_of_mem_head?
abbrev kW:=@List.singleton_append
abbrev fo:=@List.take_append_drop
abbrev lS:=@Array.toArray_toList
abbrev jd:=@BitVec.ofInt_natCast
abbrev gX:=@List.getElem?_of_mem
abbrev aB:=@List.mem_cons_of_mem
abbrev je:=@List.mem_iff_getElem
abbrev jf:=@List.mem_of_getElem?
abbrev jg:=@List.mem_of_mem_tail
abbrev aH:=@Nat.mul_le_mul_right
abbrev fZ:=@Nat.pow_le_pow_right
abbrev bC:=@Array.length_toList
abbrev gp:=@Array.toList_append
abbrev jD:=@List.drop_replicate
abbrev mm:=@List.length_flatten
abbrev fh:=@List.map_congr_left
abbrev jE:=@List.replicate_zero
abbrev im:=@List.take_succ_cons
abbrev fO:=@Nat.add_le_add_left
abbrev iK:=@BitVec.toNat_ofNat
abbrev mR:=@Int.emod_lt_of_pos
abbrev jX:=@List.filter_append
abbrev dh:=@List.getElem?_drop
abbrev cX:=@List.getElem?_take
abbrev mT:=@List.map_replicate
abbrev aM:=@List.mem_cons_self
abbrev aG:=@List.mem_singleton
abbrev mU:=@List.pairwise_cons
abbrev mV:=@List.set_cons_zero
abbrev bD:=@Nat.lt_of_lt_of_le
abbrev fK:=@Bool.not_eq_true'
abbrev bY:=@Decidable.not_not
abbrev np:=@Int.emod_eq_of_lt
abbrev e_:=@List.append_assoc
abbrev dL:=@List.ext_getElem?
abbrev da:=@List.getElem?_map
abbrev nq:=@List.getElem?_set
abbrev dV:=@List.nodup_append
abbrev dF:=@Result.andThen_ok
abbrev rY:=@Array.toList_map
abbrev cv:=@List.all_eq_true
abbrev lu:=@List.cons_append
abbrev cZ:=@List.drop_length
abbrev rZ:=@List.getElem_inj
abbrev dQ:=@List.getElem_mem
abbrev bd:=@List.length_cons
abbrev dR:=@List.length_drop
abbrev c_:=@List.length_take
abbrev nX:=@List.map_toArray
abbrev nY:=@List.mem_reverse
abbrev aF:=@List.not_mem_nil
abbrev jv:=@List.take_length
abbrev lC:=@Nat.mod_eq_of_lt
abbrev lD:=@Nat.not_le_of_lt
abbrev gx:=@Nat.not_lt_of_le
abbrev nZ:=@World.size_alloc
abbrev iP:=@Bool.eq_iff_iff
abbrev o6:=@Bool.or_eq_true
abbrev jR:=@Int.emod_nonneg
abbrev aJ:=@List.append_nil
abbrev o7:=@List.drop_left'
abbrev o8:=@List.filter_nil
abbrev jS:=@List.foldl_cons
abbrev cy:=@List.length_map
abbrev o9:=@List.length_nil
abbrev cd:=@List.length_set
abbrev fN:=@List.map_append
abbrev gh:=@List.mem_filter
abbrev iQ:=@List.nil_append
abbrev bS:=@List.nodup_cons
abbrev gQ:=@List.take_left'
abbrev jT:=@Nat.min_eq_left
abbrev o_:=@Option.map_some
abbrev cq:=@Bool.and_false
abbrev fG:=@Bool.false_and
abbrev cO:=@Int.mul_nonneg
abbrev fe:=@List.drop_drop
abbrev kH:=@List.drop_take
abbrev ik:=@List.drop_zero
abbrev kJ:=@List.mem_range
abbrev qo:=@List.nodup_nil
abbrev kK:=@List.take_take
abbrev nK:=@Bool.and_true
abbrev dC:=@Bool.true_and
abbrev fT:=@List.all_cons
abbrev eX:=@List.map_cons
abbrev aC:=@List.mem_cons
abbrev bJ:=@Nat.lt_irrefl
abbrev kl:=@Addr.add_lit
abbrev mF:=@Bool.or_true
abbrev oO:=@Int.le_of_eq
abbrev bu:=@Int.le_trans
abbrev gj:=@List.map_map
abbrev mG:=@List.map_nil
abbrev dE:=@List.mem_map
abbrev ko:=@Nat.add_comm
abbrev kv:=@Nat.add_zero
abbrev iC:=@Nat.le_of_eq
abbrev aV:=@Nat.le_trans
abbrev rS:=@Nat.mul_comm
abbrev eY:=@Nat.ne_of_lt
abbrev mH:=@Nat.sub_self
abbrev kC:=@Nat.succ_mul
abbrev gJ:=@Nat.zero_add
abbrev dN:=@Sem.run_bind
abbrev iD:=@Sem.run_pure
abbrev ai:=@Int.le_refl
abbrev fC:=@Int.mul_add
abbrev fD:=@Nat.add_mul
abbrev ah:=@Nat.le_refl
abbrev iq:=@Nat.le_succ
abbrev aQ:=@Nat.zero_le
abbrev jG:=@Int.not_lt
abbrev fM:=@Iff.rfl
abbrev ir:=@Ne.symm
variable{p:Prop}
def bX[Decidable p](h:p):decide p=true:=decide_eq_true h
def fQ[Decidable p](h:¬p):decide p=false:=decide_eq_false h
def eH(a b:Bool):((a&&b)=true)=(a=true/\b=true):=Bool.and_eq_true a b
variable{α:Type}
def uy{c bs:List α}:(c++bs).length=c.length+bs.length:=List.length_append
def y7(n:Nat):(n:Int).toNat=n:=Int.toNat_natCast n
def tP[Decidable p]:(decide p=true)=p:=decide_eq_true_eq
variable{i:Nat}{l:List α}
def GB{a:α}:l.getD i a=l[i]?.getD a:=List.getD_eq_getElem?_getD
theorem vL{n m:Nat}(h:n.beq m=true):n=m:=Nat.eq_of_beq_eq_true h
theorem AX(h:i<l.length):List.drop i l=l[i]::List.drop (i+1) l:=List.drop_eq_getElem_cons h
def Jv(h:i<l.length):l[i]?=some l[i]:=List.getElem?_eq_getElem h
def GU{n:Nat}{a:α}:(List.replicate n a).length=n:=List.length_replicate
theorem KE{n m:Nat}(h:n.ble m=true):n<=m:=Nat.le_of_ble_eq_true h
def oJ{a:α}{s t:List α}:a∈s++t↔a∈s\/a∈t:=List.mem_append
inductive Ty where|int(k:IntKind)|bool|str|slice(t:Ty)|arr(n:Nat)(t:Ty)|struct(ts:List Ty)|any(n:Nat)
mutual
def Ty.T:Ty->Type
 | .int _=>Int
 | .bool=>Bool
 | .str=>List UInt8
 | .slice t=>List t.T
 | .arr _ t=>List t.T
 | .struct ts=>Ty.Ts ts
 | .any _=>Unit
def Ty.Ts:List Ty->Type
 | []=>Unit
 | [t]=>t.T
 | t::c::ts=>t.T×Ty.Ts (c::ts)
end
mutual
def Ty.size:Ty->Nat
 | .arr n t=>n*t.size
 | .struct ts=>Ty.mI ts
 | .any n=>n
 | _=>1
def Ty.mI:List Ty->Nat
 | []=>0
 | t::ts=>t.size+Ty.mI ts
end
def Ty.isAgg:Ty->Bool
 | .arr _ _=>true
 | .struct _=>true
 | .any _=>true
 | _=>false
def qT:IntKind->IntKind->Bool
 | .i8,.i8=>true | .i16,.i16=>true | .i32,.i32=>true | .i64,.i64=>true
 | .u8,.u8=>true | .u16,.u16=>true | .u32,.u32=>true | .u64,.u64=>true
 | _,_=>false
theorem lQ{a b:IntKind}(h:qT a b=true):a=b:=by cases a<;>cases b<;>first|rfl|cases h
mutual
def Ty.beq:Ty->Ty->Bool
 | .int a,.int b=>qT a b
 | .bool,.bool=>true
 | .str,.str=>true
 | .slice a,.slice b=>a.beq b
 | .arr n a,.arr m b=>Nat.beq n m&&a.beq b
 | .struct c,.struct bs=>Ty.Uw c bs
 | .any n,.any m=>Nat.beq n m
 | _,_=>false
def Ty.Uw:List Ty->List Ty->Bool
 | [],[]=>true
 | a::aa,b::bs=>a.beq b&&Ty.Uw aa bs
 | _,_=>false
end
mutual
theorem Ty.eq_of_beq:∀{a b:Ty},a.beq b=true->a=b
 | .int a,.int b,h=>by rw[Ty.beq] at h;rw[lQ h]
 | .bool,.bool,_=>rfl
 | .str,.str,_=>rfl
 | .slice a,.slice b,h=>by rw[Ty.beq] at h;rw[Ty.eq_of_beq h]
 | .arr n a,.arr m b,h=>by
   rw[Ty.beq,eH] at h;rw[vL h.1,Ty.eq_of_beq h.2]
 | .struct c,.struct bs,h=>by rw[Ty.beq] at h;rw[Ty.Dz h]
 | .any n,.any m,h=>by simp_all;rw[vL h]
 | .any _,.int _,h | .any _,.bool,h | .any _,.str,h | .any _,.slice _,h | .any _,.arr _ _,h | .any _,.struct _,h=>by simp[Ty.beq] at h
 | .int _,.any _,h | .bool,.any _,h | .str,.any _,h | .slice _,.any _,h | .arr _ _,.any _,h | .struct _,.any _,h=>by simp[Ty.beq] at h
 | .int _,.bool,h | .int _,.str,h | .int _,.slice _,h | .int _,.arr _ _,h | .int _,.struct _,h=>by simp[Ty.beq] at h
 | .bool,.int _,h | .bool,.str,h | .bool,.slice _,h | .bool,.arr _ _,h | .bool,.struct _,h=>by simp[Ty.beq] at h
 | .str,.int _,h | .str,.bool,h | .str,.slice _,h | .str,.arr _ _,h | .str,.struct _,h=>by simp[Ty.beq] at h
 | .slice _,.int _,h | .slice _,.bool,h | .slice _,.str,h | .slice _,.arr _ _,h | .slice _,.struct _,h=>by simp[Ty.beq] at h
 | .arr _ _,.int _,h | .arr _ _,.bool,h | .arr _ _,.str,h | .arr _ _,.slice _,h | .arr _ _,.struct _,h=>by simp[Ty.beq] at h
 | .struct _,.int _,h | .struct _,.bool,h | .struct _,.str,h | .struct _,.slice _,h | .struct _,.arr _ _,h=>by simp[Ty.beq] at h
theorem Ty.Dz:∀{c bs:List Ty},Ty.Uw c bs=true->c=bs
 | [],[],_=>rfl
 | a::c,b::bs,h=>by
   rw[Ty.Uw,eH] at h;rw[Ty.eq_of_beq h.1,Ty.Dz h.2]
 | [],_::_,h=>by simp[Ty.Uw] at h
 | _::_,[],h=>by simp[Ty.Uw] at h
end
mutual
def Ty.gH:(t:Ty)->t.T
 | .int _=>(0:Int)
 | .bool=>false
 | .str=>([]:List UInt8)
 | .slice t=>([]:List t.T)
 | .arr n t=>List.replicate n<|Ty.gH t
 | .struct ts=>Ty.aO ts
 | .any _=>()
def Ty.aO:(c:List Ty)->Ty.Ts c
 | []=>()
 | [t]=>Ty.gH t
 | t::f::c=>(Ty.gH t,Ty.aO<|f::c)
end
mutual
def Ty.r7:Ty->Bool
 | .slice t=>t.r7
 | .arr _ t=>t.r7
 | .struct ts=>Ty.H9 ts
 | .any _=>false
 | _=>true
def Ty.H9:List Ty->Bool
 | []=>true
 | t::ts=>t.r7&&Ty.H9 ts
end
mutual
def Ty.scalar:Ty->Bool
 | .int _=>true
 | .bool=>true
 | .str=>true
 | .arr _ t=>t.scalar
 | .struct ts=>Ty.mo ts
 | _=>false
def Ty.mo:List Ty->Bool
 | []=>true
 | t::ts=>t.scalar&&Ty.mo ts
end
structure aS where
 b:BinOp->IntKind->Int->Int->Int
 c:BinOp->Int->Int->Bool
 u:UnOp->IntKind->Int->Int
 v:IntKind->Int->Int
 mn:Int->Int->Int
 mx:Int->Int->Int
 and:Bool->Bool->Bool
 not:Bool->Bool
 q:Bool->Bool->Bool
 l:{α:Type}->List α->Int
 n:(t:Ty)->List t.T->Int->t.T
 set:{α:Type}->List α->Int->α->List α
 s:{α:Type}->List α->Int->Int->List α
 p:{α:Type}->List α->List α->List α
 r:{α:Type}->Int->α->List α
 spl:{α:Type}->List α->Int->List α->List α
 byte:List UInt8->Int->Int
 k:{α β:Type}->(α->β)->α->β
def El(c:BinOp)(k:IntKind)(a b:Int):Int:=
 match c with
 | .add=>k.wrap<|a+b
 | .sub=>k.wrap<|a-b
 | .mul=>k.wrap<|a*b
 | .quo=>k.wrap<|a.tdiv b
 | .rem=>a.tmod b
 | .and=>k.wrap (BitVec.ofInt k.bits a &&& BitVec.ofInt k.bits b).toNat
 | .or=>k.wrap (BitVec.ofInt k.bits a ||| BitVec.ofInt k.bits b).toNat
 | .xor=>k.wrap (BitVec.ofInt k.bits a ^^^ BitVec.ofInt k.bits b).toNat
 | .andNot=>k.wrap (BitVec.ofInt k.bits a &&& ~~~ BitVec.ofInt k.bits b).toNat
 | .shl=>k.wrap<|a*2^min b.toNat k.bits
 | .shr=>a.fdiv<|2^min b.toNat k.bits
 | _=>0
def xB(c:BinOp)(x y:Int):Bool:=
 match c with
 | .eql=>x==y
 | .neq=>x != y
 | .lss=>decide<|x<y
 | .leq=>decide<|x<=y
 | .gtr=>decide<|x > y
 | .geq=>decide<|x >= y
 | _=>false
def ayj(c:UnOp)(k:IntKind)(n:Int):Int:=
 match c with
 | .neg=>k.wrap<|0-n
 | .xor=>k.wrap (BitVec.ofInt k.bits (if k.signed then -1 else k.max) ^^^ BitVec.ofInt k.bits n).toNat
 | _=>0
def af:aS where
 b:=El
 c:=xB
 u:=ayj
 v k n:=k.wrap n
 mn x y:=if y<x then y else x
 mx x y:=if y > x then y else x
 and a b:=a&&b
 not a:=!a
 q a b:=a==b
 l x:=x.length
 n t x i:=x.getD i.toNat t.gH
 set x i v:=x.set i.toNat v
 s x lo hi:=(x.take hi.toNat).drop lo.toNat
 p x y:=x++y
 r n v:=List.replicate n.toNat v
 spl x i y:=x.take i.toNat++y++x.drop (i.toNat+y.length)
 byte s i:=((s.getD i.toNat 0).toNat:Int)
 k f x:=f x
inductive AV where|undef|int(k:IntKind)(c:Bool)(n:Int)|bool(c b:Bool)|str(c:Bool)(s:List UInt8)|sl(t:Ty)(x:List t.T)|eT(isNil:Bool)|own(id:Nat)|wq(id sz:Nat)(c:Bool)(lo len:Int)|ptr(id off:Nat)|kR(id:Nat)(i:Int)(off:Nat)|zp(id off n:Nat)(t:Ty)(i:Int)|nI(t:Ty)(x:t.T)(off:Nat)|gN|fn(f:FuncId)(first caps:List AV)|yield(l:Nat)|tC|agg(cells:List AV)|xb(vs:List AV)
def AV.Zt:AV->Bool
 | .agg _=>false
 | .xb _=>false
 | _=>true
def AV.cells:AV->List AV
 | .agg cs=>cs
 | v=>[v]
mutual
def lH(A:aS):(t:Ty)->t.T->List AV
 | .int k,x=>[.int k false x]
 | .bool,x=>[.bool false x]
 | .str,x=>[.str false x]
 | .slice t,x=>[.sl t x]
 | .arr n t,x=>(List.range n).flatMap λ(i:Nat)=>lH A t<|A.n t x i
 | .struct ts,x=>Be A ts x
 | .any n,_=>List.replicate n .undef
def Be(A:aS):(c:List Ty)->Ty.Ts c->List AV
 | [],_=>[]
 | [t],x=>lH A t x
 | t::f::c,x=>lH A t (Prod.fst (α:=t.T) (β:=Ty.Ts<|f::c) x)++Be A (f::c) (Prod.snd (α:=t.T) (β:=Ty.Ts<|f::c) x)
end
def UF(A:aS)(t:Ty)(x:t.T):AV:=
 match t.isAgg with
 | true=>.agg<|lH A t x
 | false=>(lH A t x).headD .undef
def Dc{α:Type}(f:List AV->Option (α×List AV)):Nat->List AV->Option (List α×List AV)
 | 0,cs=>some ([],cs)
 | n+1,cs=>match f cs with
   | none=>none
   | some (a,r)=>match Dc f n r with
     | none=>none
     | some (b,r')=>some (a::b,r')
mutual
def zo:(t:Ty)->List AV->Option (t.T×List AV)
 | .int k,cs=>match cs with
   | []=>none
   | v::r=>match v with
     | .int k' _ n=>match qT k' k with|true=>some (n,r)|false=>none
     | _=>none
 | .bool,cs=>match cs with
   | []=>none
   | v::r=>match v with
     | .bool _ b=>some (b,r)
     | _=>none
 | .str,cs=>match cs with
   | []=>none
   | v::r=>match v with
     | .str _ s=>some (s,r)
     | _=>none
 | .slice t,cs=>match cs with
   | []=>none
   | v::r=>match v with
     | .sl t' x=>if h:t'.beq t=true then some (Ty.eq_of_beq h▸x,r) else none
     | .eT _=>some ([],r)
     | _=>none
 | .arr n t,cs=>Dc (zo t) n cs
 | .struct ts,cs=>q9 ts cs
 | .any n,cs=>match Nat.ble n cs.length with
   | true=>some ((),cs.drop n)
   | false=>none
def q9:(c:List Ty)->List AV->Option (Ty.Ts c×List AV)
 | [],cs=>some ((),cs)
 | [t],cs=>zo t cs
 | t::f::c,cs=>match zo t cs with
   | none=>none
   | some (a,r)=>match q9 (f::c) r with
     | none=>none
     | some (b,r')=>some ((a,b),r')
end
inductive PT (α:Type) where|leaf|node(l:PT α)(v:Option α)(r:PT α)
def PT.get{α:Type}:PT α->Nat->Option α
 | .leaf,_=>none
 | .node l v r,n=>match Nat.beq n 0 with
   | true=>v
   | false=>match Nat.beq (n%2) 1 with
     | true=>l.get<|n/2
     | false=>r.get<|n/2-1
def PT.put{α:Type}:Nat->PT α->Nat->α->PT α
 | 0,t,_,_=>t
 | f+1,.leaf,n,a=>match Nat.beq n 0 with
   | true=>.node .leaf (some a) .leaf
   | false=>match Nat.beq (n%2) 1 with
     | true=>.node (PT.put f .leaf (n/2) a) none .leaf
     | false=>.node .leaf none<|PT.put f .leaf (n/2-1) a
 | f+1,.node l v r,n,a=>match Nat.beq n 0 with
   | true=>.node l (some a) r
   | false=>match Nat.beq (n%2) 1 with
     | true=>.node (PT.put f l (n/2) a) v r
     | false=>.node l v<|PT.put f r (n/2-1) a
abbrev Env:=PT AV
def Env.at(e:Env)(n:Nat):AV:=match PT.get e n with|some v=>v|none=>.undef
def Env.put(e:Env)(n:Nat)(v:AV):Env:=PT.put 20 e n v
def Env.oE(e:Env)(d:Option Nat)(v:AV):Env:=match d with|some n=>e.put n v|none=>e
def Env.of:Nat->List AV->Env->Env
 | _,[],e=>e
 | n,v::vs,e=>Env.of (n+1) vs<|e.put n v
def alm:IntKind->Int
 | .i8=> -128 | .i16=> -32768 | .i32=> -2147483648 | .i64=> -9223372036854775808|_=>0
def alk:IntKind->Int
 | .i8=>127 | .i16=>32767 | .i32=>2147483647 | .i64=>9223372036854775807
 | .u8=>255 | .u16=>65535 | .u32=>4294967295 | .u64=>18446744073709551615
def L1:Value->AV
 | .int k n=>match decide (alm k<=n)&&decide (n<=alk k) with|true=>.int k true n|false=>.undef
 | .bool b=>.bool true b
 | .string s=>match Nat.ble s.data.toList.length 140737488355328 with|true=>.str true s.data.toList|false=>.undef
 | .slice none 0 0=>.eT true
 | .pointer none=>.gN
 | .nilFunc=>.tC
 | _=>.undef
def mQ(e:Env):Operand->AV
 | .tmp t=>e.at t
 | .const v=>L1 v
 | .global _=>.undef
 | .func f=>.fn f [] []
structure ND where
 fn:FuncId
 n:Nat
 env:Env
 params:List Nat
 assign:Code
 body:Code
 state:Nat
 pending:Option Code
inductive iM where|bU|aU|cH(fz:Bool)(cells:List AV)|arr(fz:Bool)(t:Ty)(x:List t.T)|loop(r:ND)|FU|UE
abbrev Mem:=List iM
def Mem.at(m:Mem)(i:Nat):iM:=m.getD i .bU
inductive dT where|code(c:Code)|inBlock(id:Nat)|inLoop(body:Code)|inScope(body:Code)|ops(all:Array Oper)(rest:List Oper)|jH(all:Array Oper)(ms rest bs:List Nat)|sT(all:Array Oper)(ms:List Nat)(i:Nat)(rest bs:List Nat)|oA(l:Nat)|pJ(l:Nat)|beginRound
structure dI where
 fn:FuncId
 n:Nat
 env:Env
 todo:List dT
 marks:List Nat
 gy:Option Nat
structure iF where
 bI:List dI
 mem:Mem
def iM.lN:iM->Bool
 | .aU=>true
 | _=>false
def AV.known(m:Mem):AV->Bool
 | .undef=>false
 | .own id=>!(m.at id).lN
 | .wq id _ _ _ _=>!(m.at id).lN
 | .ptr id _=>!(m.at id).lN
 | .kR id _ _=>!(m.at id).lN
 | .zp id _ _ _ _=>!(m.at id).lN
 | .yield l=>!(m.at l).lN
 | _=>true
inductive TK where
 | bool|int (k:IntKind)|str|slice (e:Nat)|arr (n e:Nat)|struct (fs:List (Nat×Nat×Bool))|ptr (e:Nat)|func|other
structure TI where
 kind:TK
 size:Nat
 bytes:Nat
 agg:Bool
 zero:List AV
 ty:Option Ty
 eq:Bool
structure aL where
 args:List Ty
 res:List Ty
 pre:Ty.Ts args->Bool
 fn:Ty.Ts args->Ty.Ts res
 JS:Bool
structure lG where
 view:Ty
 args:List Ty
 res:List Ty
 pre:view.T×Ty.Ts args->Bool
 fn:view.T×Ty.Ts args->Ty.Ts res
inductive VF where|d(t:Ty)|own(t:Ty)|fix(k:Nat)(t:Ty)|ptr(fs:List VF)|nU(fs:List VF)
mutual
def VF.ty:VF->Ty
 | .d t=>t
 | .own t=>.slice t
 | .fix _ t=>.slice t
 | .ptr fs=>.struct<|VF.iA fs
 | .nU fs=>.struct<|VF.iA fs
def VF.iA:List VF->List Ty
 | []=>[]
 | f::fs=>f.ty::VF.iA fs
end
def VF.fz:VF->Bool
 | .nU _=>true
 | _=>false
def VF.sub:VF->List VF
 | .nU fs=>fs
 | .ptr fs=>fs
 | _=>[]
def VF.size:VF->Nat
 | .d t=>t.size
 | _=>1
def VF.mI:List VF->Nat
 | []=>0
 | f::fs=>f.size+VF.mI fs
structure cn where
 aK:List VF
 args:List Ty
 res:List Ty
 pre:Ty.Ts (VF.iA aK)×Ty.Ts args->Bool
 fn:Ty.Ts (VF.iA aK)×Ty.Ts args->Ty.Ts (VF.iA aK)×Ty.Ts res
 rp:Bool
 JS:Bool
structure fH where
 elem:Ty
 args:List Ty
 ll:List FuncId
 res:List Ty
 pre:List elem.T×Ty.Ts args->Bool
 fn:List elem.T×Ty.Ts args->List elem.T×Ty.Ts res
 xk:Bool
structure pG where
 args:List Ty
 out:VF
 opt:Bool
 res:List Ty
 pre:Ty.Ts args->Bool
 fn:Ty.Ts args->Bool×out.ty.T×Ty.Ts res
structure Stop where
 fn:FuncId
 rid:Nat
 keep:List (List Nat)
structure kD(R:Type) where
 ti:PT TI
 ll:List (FuncId×Func)
 jK:List (FuncId×aL)
 stops:List Stop
 oW:List Stop
 fin:AV->Mem->Option R
 tO:List (FuncId×lG):=[]
 tN:List (FuncId×cn):=[]
 keep:Nat:=0
 tM:List (FuncId×fH):=[]
 ops:List (FuncId×pG):=[]
def Gy:List Stop->FuncId->Option Nat->Bool
 | [],_,_=>false
 | _::_,_,none=>false
 | s::r,f,some d=>match Nat.beq s.fn f&&Nat.beq s.rid (d+1000000) with
   | true=>true
   | false=>Gy r f<|some d
def look{α:Type}:List (Nat×α)->Nat->Option α
 | [],_=>none
 | (i,a)::r,n=>match Nat.beq i n with|true=>some a|false=>look r n
inductive TV (α:Type) where|leaf(a:α)|br(b:Bool)(t e:TV α)|ao(b:Bool)(t:TV α)|bU(n:Nat)
inductive Tr (R:Type) where|ret(y:R)|ak(c:iF)|br(b:Bool)(t e:Tr R)|ao(b:Bool)(t:Tr R)|eqs(p:Prop)(t:Tr R)|same(l r:AV)(t:Tr R)|and(a b:Tr R)|bU(n:Nat)(pos:String)
def TV.bind{α R:Type}(c:String):TV α->(α->Tr R)->Tr R
 | .leaf a,K=>K a
 | .br b t e,K=>.br b (TV.bind c t K)<|TV.bind c e K
 | .ao b t,K=>.ao b<|TV.bind c t K
 | .bU n,_=>.bU n c
def TV.map{α β:Type}(f:α->β):TV α->TV β
 | .leaf a=>.leaf<|f a
 | .br b t e=>.br b (t.map f)<|e.map f
 | .ao b t=>.ao b<|t.map f
 | .bU n=>.bU n
def G4{α:Type}(n:Nat):Option α->TV α
 | some a=>.leaf a
 | none=>.bU n
def OA{α:Type}(c:Bool)(b:Bool)(t:TV α):TV α:=
 match c with
 | true=>match b with|true=>t|false=>.bU 2
 | false=>.ao b t
section
variable (A:aS)
def xX(k:IntKind)(c:Bool)(f:aS->Int):AV:=
 match c with
 | true=>.int k true<|f af
 | false=>.int k false<|f A
def Ao(c:Bool)(f:aS->Bool):AV:=
 match c with
 | true=>.bool true<|f af
 | false=>.bool false<|f A
def ahi:BinOp->Bool
 | .eql=>true | .neq=>true | .lss=>true | .leq=>true | .gtr=>true | .geq=>true|_=>false
def gl:List AV->List AV->Option (Bool×(aS->Bool))
 | [],[]=>some (true,λ_=>true)
 | .int k c a::xs,.int k' c' b::ys=>match qT k k' with
   | false=>none
   | true=>match gl xs ys with
     | none=>none
     | some (c2,g)=>some (c&&c'&&c2,λA=>A.and (A.c .eql a b)<|g A)
 | .bool c a::xs,.bool c' b::ys=>match gl xs ys with
   | none=>none
   | some (c2,g)=>some (c&&c'&&c2,λA=>A.and (A.q a b)<|g A)
 | _,_=>none
def TQ:AV->AV->Bool
 | .int k _ _,.int k' _ _=>qT k k'
 | .bool _ _,.bool _ _=>true
 | _,_=>false
def nA:List AV->List AV->Bool
 | [],[]=>true
 | a::as,b::bs=>TQ a b&&nA as bs
 | _,_=>false
def wj(f:BinOp)(c:Bool):TV AV:=
 match f with
 | .eql=>.leaf<|.bool true c
 | .neq=>.leaf<|.bool true<|!c
 | _=>.bU 9
def PY(g:BinOp)(k:IntKind)(c:Bool)(a:Int)(h:IntKind)(f:Bool)(b:Int):TV AV:=
 match qT k h with
 | false=>.bU 3
 | true=>match ahi g with
   | true=>.leaf<|Ao A (c&&f) λA=>A.c g a b
   | false=>match g with
     | .quo=>OA f (match f with|true=>af.c .neq b 0|false=>A.c .neq b 0)<|.leaf<|xX A k (c&&f) λA=>A.b .quo k a b
     | .rem=>OA f (match f with|true=>af.c .neq b 0|false=>A.c .neq b 0)<|.leaf<|xX A k (c&&f) λA=>A.b .rem k a b
     | g=>.leaf<|xX A k (c&&f) λA=>A.b g k a b
def Lw(g:BinOp)(k:IntKind)(c:Bool)(a:Int)(f:Bool)(b:Int):TV AV:=
 OA f (match f with|true=>af.c .leq 0 b|false=>A.c .leq 0 b) (.leaf<|xX A k (c&&f) λA=>A.b g k a b)
def Yi(m:Mem)(f:Option TI)(h:BinOp)(x y:AV):TV AV:=
 match x with
 | .int k c a=>match y with
   | .int k' c' b=>match h with
     | .shl=>Lw A .shl k c a c' b
     | .shr=>Lw A .shr k c a c' b
     | h=>PY A h k c a k' c' b
   | _=>.bU 10
 | .bool c a=>match y with
   | .bool c' b=>match f with
     | some f=>match f.kind with
       | .bool=>match h with
         | .eql=>.leaf<|Ao A (c&&c') λA=>A.q a b
         | .neq=>.leaf<|Ao A (c&&c') λA=>A.not<|A.q a b
         | _=>.bU 4
       | _=>.bU 4
     | none=>.bU 4
   | _=>.bU 10
 | .agg xs=>match y with
   | .agg ys=>match f with
     | some f=>match f.eq&&(f.agg&&nA xs f.zero) with
       | false=>.bU 6
       | true=>match gl xs ys with
         | none=>.bU 7
         | some (c,g)=>match h with
           | .eql=>.leaf<|Ao A c g
           | .neq=>.leaf<|Ao A c λA=>A.not<|g A
           | _=>.bU 8
     | none=>.bU 6
   | _=>.bU 10
 | .fn _ _ _=>match y with
   | .tC=>match f with
     | some f=>match f.kind with | .func=>wj h false|_=>.bU 9
     | none=>.bU 9
   | _=>.bU 10
 | .tC=>match y with
   | .tC=>match f with
     | some f=>match f.kind with | .func=>wj h true|_=>.bU 9
     | none=>.bU 9
   | _=>.bU 10
 | .gN=>match y with
   | .gN=>match f with
     | some f=>match f.kind with | .ptr _=>wj h true|_=>.bU 9
     | none=>.bU 9
   | _=>.bU 10
 | .ptr id _=>match y,m.at id with
   | .gN,.cH _ _=>match f with
     | some f=>match f.kind with | .ptr _=>wj h false|_=>.bU 9
     | none=>.bU 9
   | _,_=>.bU 10
 | .eT true=>match y with
   | .eT true=>match f with
     | some f=>match f.kind with | .slice _=>wj h true|_=>.bU 9
     | none=>.bU 9
   | _=>.bU 10
 | .own id=>match y,m.at id with
   | .eT true,.arr _ _ l=>match f with
     | some f=>match f.kind with | .slice _=>.ao (A.c .neq (A.l l) 0) (wj h false)|_=>.bU 9
     | none=>.bU 9
   | _,_=>.bU 10
 | .sl _ l=>match y with
   | .eT true=>match f with
     | some f=>match f.kind with | .slice _=>.ao (A.c .neq (A.l l) 0) (wj h false)|_=>.bU 9
     | none=>.bU 9
   | _=>.bU 10
 | _=>.bU 10
def akR(f:UnOp)(x:AV):TV AV:=
 match f,x with
 | .neg,.int k c n=>.leaf<|xX A k c λA=>A.u .neg k n
 | .xor,.int k c n=>.leaf<|xX A k c λA=>A.u .xor k n
 | .not,.bool c b=>.leaf<|Ao A c λA=>A.not b
 | _,_=>.bU 11
def eZ(off n:Nat)(c:List AV):Option<|List AV:=
 match Nat.ble (off+n) c.length with
 | true=>some<|(c.drop off).take n
 | false=>none
def Qs(m:Mem)(p:AV)(n:Nat):Option<|List AV:=
 match p with
 | .ptr id off=>match m.at id with
   | .cH _ cs=>eZ off n cs
   | _=>none
 | .kR id i off=>match m.at id with
   | .arr _ t x=>eZ off n<|lH A t<|A.n t x i
   | _=>none
 | .zp id off k t i=>match m.at id with
   | .cH _ cs=>match Nat.beq t.size n,eZ off (k*n) cs with
     | true,some l=>match Dc (zo t) k l with
       | some (x,_)=>some<|lH A t<|A.n t x i
       | none=>none
     | _,_=>none
   | _=>none
 | .nI t x off=>eZ off n<|lH A t x
 | _=>none
def Sc(agg:Bool)(c:List AV):Option AV:=
 match agg with
 | true=>some<|.agg c
 | false=>match c with
   | [v]=>some v
   | _=>none
def F2(c:Option TI)(m:Mem)(p:AV):TV AV:=
 match c with
 | none=>.bU 20
 | some c=>match Qs A m p c.size with
   | none=>.bU 21
   | some cs=>G4 22<|Sc c.agg cs
def XB(m:Mem)(p:AV)(n:Nat):Option AV:=
 match p with
 | .ptr id off=>match m.at id with
   | .cH _ _=>some<|.ptr id<|off+n
   | _=>none
 | .kR id i off=>match m.at id with
   | .arr _ _ _=>some<|.kR id i<|off+n
   | _=>none
 | .nI t x off=>some<|.nI t x<|off+n
 | _=>none
def xF(m:Mem)(c:Option TI)(p:AV)(i:Nat):TV AV:=
 match c with
 | some {kind:=.struct fs,.. }=>match fs[i]? with
   | some (off,size,_)=>match Nat.beq size 0 with
     | true=>.bU 23
     | false=>G4 24<|XB m p off
   | none=>.bU 25
 | _=>.bU 26
def mf(c:Bool)(i:Int)(f:Bool)(n:Int)(t:TV AV):TV AV:=
 match c&&f with
 | true=>match af.and (af.c .leq 0 i) (af.c .lss i n) with|true=>t|false=>.bU 31
 | false=>.ao (A.and (A.c .leq 0 i)<|A.c .lss i n) t
def xG(h:Option TI)(f:Nat->Option TI)(m:Mem)(x g:AV):TV AV:=
 match g with
 | .int _ c i=>
   match h with
   | some {kind:=.arr n e,.. }=>match f e,x with
     | some f,.ptr id off=>match m.at id with
       | .cH _ _=>match c with
         | true=>mf A true i true n<|.leaf<|.ptr id<|off+i.toNat*f.size
         | false=>match f.ty with
           | some t=>mf A false i true n<|.leaf<|.zp id off n t i
           | none=>.bU 32
       | _=>.bU 32
     | some f,.nI t y off=>match c with
       | true=>mf A true i true n<|.leaf<|.nI t y<|off+i.toNat*f.size
       | false=>.bU 33
     | _,_=>.bU 33
   | some {kind:=.slice e,.. }=>match f e with
     | some f=>match x with
       | .sl t l=>match Nat.beq f.size t.size with
         | true=>mf A false i false (A.l l)<|.leaf<|.nI t (A.n t l i) 0
         | false=>.bU 37
       | .own id=>match m.at id with
         | .arr _ t l=>match Nat.beq f.size t.size with
           | true=>mf A false i false (A.l l)<|.leaf<|.kR id i 0
           | false=>.bU 37
         | _=>.bU 34
       | .wq id sz c' lo len=>match m.at id with
         | .arr _ t _=>match Nat.beq f.size t.size with
           | true=>mf A c i c' len<|.leaf<|.kR id (A.b .add .i64 lo i) 0
           | false=>.bU 37
         | .cH _ cs=>match c&&(c'&&Nat.beq sz f.size) with
           | true=>mf A true i true len<|.leaf<|.ptr id<|(lo+i).toNat*f.size
           | false=>match f.ty,c'&&Nat.beq sz f.size with
             | some t,true=>mf A c i c' len<|.leaf<|.zp id (lo.toNat*f.size) len.toNat t i
             | some t,false=>match Nat.beq sz f.size&&Nat.blt 0 f.size with
               | true=>mf A c i c' len<|.leaf<|.zp id 0 (cs.length/f.size) t<|A.b .add .i64 lo i
               | false=>.bU 35
             | _,_=>.bU 35
         | _=>.bU 36
       | _=>.bU 37
     | none=>.bU 38
   | _=>.bU 39
 | _=>.bU 40
def Lu(h:Option TI)(f:Nat->Option TI)(x g:AV):TV AV:=
 match g with
 | .int _ c i=>
   match h,x with
   | some {kind:=.arr n e,.. },.agg cs=>match f e with
     | some f=>match c with
       | true=>match eZ (i.toNat*f.size) f.size cs with
         | some l=>match Sc f.agg l with
           | some v=>mf A true i true n<|.leaf v
           | none=>.bU 41
         | none=>.bU 42
       | false=>match f.ty with
         | some t=>match Dc (zo t) n cs with
           | some (l,_)=>mf A false i true n<|.leaf<|UF A t<|A.n t l i
           | none=>.bU 43
         | none=>.bU 44
     | none=>.bU 45
   | some {kind:=.str,.. },.str c' s=>match c&&c' with
     | true=>mf A true i true s.length<|.leaf<|.int .u8 true<|af.byte s i
     | false=>mf A false i false (A.l s)<|.leaf<|.int .u8 false<|A.byte s i
   | _,_=>.bU 46
 | _=>.bU 47
def bound(c:Bool)(n:Int):Option AV->Option (Bool×Int)
 | none=>some (c,n)
 | some (.int _ c i)=>some (c,i)
 | _=>none
def KF(c:Bool)(l h n:Int)(t:TV AV):TV AV:=
 match c with
 | true=>match af.and (af.c .leq 0 l) (af.and (af.c .leq l h) (af.c .leq h n)) with|true=>t|false=>.bU 48
 | false=>.ao (A.and (A.c .leq 0 l)<|A.and (A.c .leq l h)<|A.c .leq h n) t
def z_(n:Nat)(c:TI)(m:Mem)(x:AV)(g f:Option AV):TV AV:=
 match x with
 | .ptr id off=>match m.at id with
   | .cH _ cs=>match Nat.beq c.size 0,Nat.beq (off%c.size) 0&&(Nat.ble (off+n*c.size) cs.length&&Nat.ble (off/c.size+n) 140737488355328) with
     | false,true=>match bound true 0 g,bound true n f with
       | some (c1,l),some (c2,h)=>match c1&&c2 with
         | true=>KF A true l h n<|.leaf<|.wq id c.size true ((off/c.size:Nat)+l)<|h-l
         | false=>KF A false l h n<|.leaf<|.wq id c.size false (A.b .add .i64 (off/c.size:Nat) l)<|A.b .sub .i64 h l
       | _,_=>.bU 51
     | _,_=>.bU 50
   | _=>.bU 49
 | _=>.bU 52
def uF:List AV->Bool
 | []=>true
 | v::vs=>match v with
   | .own _=>false
   | .wq _ _ _ _ _=>false
   | _=>uF vs
def F4(c:Nat)(m:Mem)(x:AV)(g f i:Option AV):TV AV:=
 match x with
 | .sl t s=>match Nat.beq t.size c with
   | false=>.bU 53
   | true=>match i with
     | none=>match bound true 0 g,bound false (A.l s) f with
       | some (_,l),some (_,h)=>KF A false l h (A.l s)<|.leaf<|.sl t<|A.s s l h
       | _,_=>.bU 53
     | some _=>.bU 53
 | .own id=>match m.at id with
   | .arr _ t s=>match Nat.beq t.size c with
     | false=>.bU 54
     | true=>match i with
       | none=>match bound true 0 g,bound false (A.l s) f with
         | some (_,l),some (_,h)=>KF A false l h (A.l s)<|.leaf<|.wq id t.size false l<|A.b .sub .i64 h l
         | _,_=>.bU 54
       | some _=>.bU 54
   | _=>.bU 55
 | _=>.bU 59
def Lx(f:Option TI)(c:Nat->Option TI)(m:Mem)(x:AV)(h g i:Option AV):TV AV:=
 match f with
 | none=>.bU 62
 | some f=>match f.kind with
   | .arr n e=>match c e,i with
     | some c,none=>z_ A n c m x h g
     | _,_=>.bU 52
   | .slice e=>match c e with
     | some c=>F4 A c.size m x h g i
     | none=>.bU 62
   | _=>.bU 62
def iJ(off:Nat)(c f:List AV):Option<|List AV:=
 match Nat.ble (off+c.length) f.length with
 | true=>some<|f.take off++c++f.drop (off+c.length)
 | false=>none
def NS(m:Mem)(f:List<|Nat×Nat×Bool):List (Nat×AV)->List AV->Option (List AV)
 | [],cs=>some cs
 | (i,v)::ps,cs=>match f[i]? with
   | none=>none
   | some (off,size,_)=>match v.known m&&Nat.beq v.cells.length size with
     | false=>none
     | true=>match iJ off v.cells cs with
       | none=>none
       | some c=>NS m f ps c
def F9(m:Mem)(size:Nat):List (Nat×AV)->List AV->Option (List AV)
 | [],cs=>some cs
 | (i,v)::ps,cs=>match v.known m&&Nat.beq v.cells.length size with
   | false=>none
   | true=>match iJ (i*size) v.cells cs with
     | none=>none
     | some c=>F9 m size ps c
def Lk(m:Mem)(g:Option TI)(c:Nat->Option TI)(f:List<|Nat×AV):TV AV:=
 match g with
 | some {kind:=.struct fs,zero:=z,.. }=>G4 63<|(NS m fs f z).map .agg
 | some {kind:=.arr _ e,zero:=z,.. }=>match c e with
   | some c=>G4 64<|(F9 m c.size f z).map .agg
   | none=>.bU 65
 | _=>.bU 66
def PW(src f:Option TI)(x:AV):TV AV:=
 match src,f,x with
 | some _,some {kind:=.int k,.. },.int _ c n=>.leaf<|xX A k c λA=>A.v k n
 | _,_,_=>.bU 67
def Yj(f:Option TI)(m:Mem)(x:AV):TV AV:=
 match f,x with
 | some {kind:=.arr n _,.. },_=>match Nat.ble n 140737488355328 with|true=>.leaf (.int .i64 true n)|false=>.bU 68
 | some {kind:=.slice _,.. },.sl _ l=>.leaf<|.int .i64 false<|A.l l
 | some {kind:=.slice _,.. },.eT _=>.leaf<|.int .i64 true 0
 | some {kind:=.slice _,.. },.wq id _ c _ n=>match (m.at id).lN with|true=>.bU 68|false=>.leaf<|.int .i64 c n
 | some {kind:=.slice _,.. },.own id=>match m.at id with
   | .arr _ _ l=>.leaf<|.int .i64 false<|A.l l
   | _=>.bU 68
 | _,_=>.bU 69
def Yl:List AV->TV AV
 | [.int k c a,.int k' c' b]=>match qT k k' with|true=>.leaf (xX A k (c&&c') λA=>A.mn a b)|false=>.bU 70
 | _=>.bU 70
def Yk:List AV->TV AV
 | [.int k c a,.int k' c' b]=>match qT k k' with|true=>.leaf (xX A k (c&&c') λA=>A.mx a b)|false=>.bU 71
 | [.int k c a,.int k' c' b,.int k'' f d]=>match qT k k',qT k k'' with|true,true=>.leaf (xX A k (c&&(c'&&f)) λA=>A.mx (A.mx a b) d)|_,_=>.bU 71
 | _=>.bU 71
def ub{R:Type}(E:kD R)(ρ:Operand->AV)(m:Mem)(o:Oper):Option<|TV AV:=
 match o.op with
 | .move x=>some<|.leaf<|ρ x
 | .assign x=>some<|.leaf<|ρ x
 | .pick c a b=>some (match ρ c with
   | .bool true v=>match v with|true=>.leaf (ρ a)|false=>.leaf<|ρ b
   | .bool false v=>.br v (.leaf<|ρ a)<|.leaf<|ρ b
   | _=>.bU 72)
 | .load t p=>some<|F2 A (E.ti.get t) m<|ρ p
 | .nilCheck x=>some (match ρ x with
   | .ptr id off=>match m.at id with | .cH _ _=>.leaf (.ptr id off)|_=>.bU 73
   | .kR id i off=>match m.at id with | .arr _ _ _=>.leaf (.kR id i off)|_=>.bU 73
   | .nI t x off=>.leaf<|.nI t x off
   | .fn f a b=>.leaf<|.fn f a b
   | _=>.bU 73)
 | .binOp op t x y _=>some<|Yi A m (E.ti.get t) op (ρ x)<|ρ y
 | .unOp op _ x=>some<|akR A op<|ρ x
 | .convert s d x=>match ρ x with
   | .int k c n=>some<|PW A (E.ti.get s) (E.ti.get d)<|.int k c n
   | _=>none
 | .makeFunc (.func f) first g=>some<|.leaf<|.fn f (first.toList.map ρ)<|g.toList.map ρ
 | .slice t x lo hi mx=>some<|Lx A (E.ti.get t) E.ti.get m (ρ x) (lo.map ρ) (hi.map ρ)<|mx.map ρ
 | .fieldAddr t x i=>some<|xF m (E.ti.get t) (ρ x) i
 | .field _ _ _=>some<|.bU 40
 | .indexAddr t x i=>some<|xG A (E.ti.get t) E.ti.get m (ρ x)<|ρ i
 | .index t x i=>some<|Lu A (E.ti.get t) E.ti.get (ρ x)<|ρ i
 | .extract t i=>some (match ρ t with
   | .xb vs=>G4 74 vs[i]?
   | _=>.bU 75)
 | .build t ps=>some<|Lk m (E.ti.get t) E.ti.get<|ps.toList.map λp=>(p.1,ρ p.2)
 | .call {callee:=.builtin .len,args,argTypes}=>some (match args.toList,argTypes.toList with
   | [x],t::_=>Yj A (E.ti.get t) m<|ρ x
   | _,_=>.bU 76)
 | .call {callee:=.builtin .min,args,.. }=>some<|Yl A<|args.toList.map ρ
 | .call {callee:=.builtin .max,args,.. }=>some<|Yk A<|args.toList.map ρ
 | _=>none
def gf:Mem->List AV->Option (Mem×List AV)
 | m,[]=>some (m,[])
 | m,v::vs=>
   match (match v with
    | .own id=>match m.at id with
      | .arr _ t x=>some (m.set id<|.arr true t x,AV.sl t x)
      | _=>none
    | .wq id _ _ lo len=>match m.at id with
      | .arr _ t x=>some (m.set id<|.arr true t x,AV.sl t<|A.s x lo<|A.b .add .i64 lo len)
      | _=>none
    | v=>some (m,v)) with
   | none=>none
   | some (m,v)=>match gf m vs with
     | none=>none
     | some (m,vs)=>some (m,v::vs)
def pT(t:Ty)(m:Mem)(v:AV):Option<|List t.T:=
 match v with
 | .sl t' x=>if h:t'.beq t=true then some (Ty.eq_of_beq h▸x) else none
 | .eT _=>some []
 | .own id=>match m.at id with
   | .arr _ t' x=>if h:t'.beq t=true then some (Ty.eq_of_beq h▸x) else none
   | _=>none
 | .wq id sz c lo len=>match m.at id with
   | .arr _ t' x=>if h:t'.beq t=true then some (A.s (Ty.eq_of_beq h▸x) lo<|A.b .add .i64 lo len) else none
   | .cH _ cs=>match c&&Nat.beq sz t.size with
     | true=>match eZ (lo.toNat*t.size) (len.toNat*t.size) cs with
       | some l=>match gf A m l with
         | some (_,l)=>match Dc (zo t) len.toNat l with
           | some (x,_)=>some x
           | none=>none
         | none=>none
       | none=>none
     | false=>none
   | _=>none
 | _=>none
def pU(t:Ty)(m:Mem)(v:AV):Option Mem:=
 match v with
 | .wq id _ _ lo len=>match m.at id with
   | .cH _ cs=>match eZ (lo.toNat*t.size) (len.toNat*t.size) cs with
      | some l=>match gf A m l with
        | some (m',_)=>some m'
        | none=>none
      | none=>none
   | _=>some m
 | _=>some m
def MZ(m:Mem)(p:AV)(c:List AV):Option Mem:=
 match p with
 | .ptr id off=>match m.at id with
   | .cH false cs=>match iJ off c cs with
     | some f=>some<|m.set id<|.cH false f
     | none=>none
   | _=>none
 | .kR id i off=>match gf A m c with
   | none=>none
   | some (m,c)=>match m.at id with
     | .arr false t x=>match iJ off c (lH A t (A.n t x i)) with
       | some f=>match zo t f with
         | some (y,[])=>some<|m.set id<|.arr false t<|A.set x i y
         | _=>none
       | none=>none
     | _=>none
 | .zp id off k t i=>match gf A m c with
   | none=>none
   | some (m,c)=>match m.at id with
     | .cH false cs=>match eZ off (k*t.size) cs with
       | some l=>match Dc (zo t) k l,zo t c with
         | some (x,_),some (y,[])=>match iJ off (lH A (.arr k t) (A.set x i y)) cs with
           | some f=>some<|m.set id<|.cH false f
           | none=>none
         | _,_=>none
       | none=>none
     | _=>none
 | _=>none
def Ba(m:Mem):List AV->Bool
 | []=>true
 | v::vs=>v.known m&&(v.Zt&&Ba m vs)
def Ly(c:Option TI)(m:Mem)(p v:AV):TV Mem:=
 match c with
 | none=>.bU 80
 | some c=>match v.known m&&(Nat.beq v.cells.length c.size&&Ba m v.cells) with
   | false=>.bU 81
   | true=>G4 82<|MZ A m p v.cells
def room(c:Nat)(n:Int):Bool:=A.c .leq (A.b .mul .i64 n c) 140737488355328
def BM(t:Ty)(m:Mem)(v:AV):Option<|AV×Mem:=
 match v with
 | .wq id sz true lo n=>match m.at id with
   | .cH false cs=>match decide (lo=0)&&(Nat.beq cs.length (n.toNat*t.size)&&(Nat.beq sz t.size && !Nat.beq t.size 0)) with
     | true=>match Nat.beq n.toNat 0 with
       | true=>some (.eT false,m)
       | false=>match gf A m cs with
         | some (m',c)=>match Dc (zo t) n.toNat c with
           | some (x,[])=>some (.own m'.length,m'.set id .aU ++ [.arr false t x])
           | _=>none
         | none=>none
     | false=>none
   | _=>none
 | v=>some (v,m)
def Cs(t:Ty)(m:Mem)(v:AV):Option<|AV×Mem:=
 match v with
 | .wq id sz c lo n=>match m.at id with
   | .cH _ cs=>match Nat.beq sz t.size&&(!Nat.beq t.size 0&&Nat.beq cs.length (cs.length/t.size*t.size)) with
     | true=>match gf A m cs with
       | some (m',f)=>match Dc (zo t) (cs.length/t.size) f with
         | some (x,[])=>some (.sl t<|match c&&(decide (lo=0)&&decide (n=(cs.length/t.size:Nat))) with|true=>x|false=>A.s x lo<|A.b .add .i64 lo n,m'.set id<|.cH true f)
         | _=>none
       | none=>none
     | false=>none
   | _=>none
 | _=>none
def Cr(t:Ty)(m:Mem)(v:AV):Option<|AV×Mem:=
 match Cs A t m v with
 | some r=>some r
 | none=>none
def GQ:AV->Option Bool
 | .wq _ _ true _ n=>some<|decide<|n=0
 | .eT _=>some true
 | _=>none
def Cx(t:Ty)(c:Nat)(m:Mem)(f:AV)(y:List t.T)(g:Option Bool):TV<|AV×Mem:=
  match BM A t m f with
  | none=>.bU 85
  | some (f,m)=>match f with
    | .eT b=>match g with
      | some true=>.leaf (.eT b,m)
      | some false=>.ao (A.c .leq (A.l y)<|140737488355328/(c.max 1:Nat))<|.leaf (.own m.length,m ++ [.arr false t y])
      | none=>.br (A.c .eql (A.l y) 0) (.leaf (.eT b,m))<|.ao (A.c .leq (A.l y)<|140737488355328/(c.max 1:Nat))<|.leaf (.own m.length,m ++ [.arr false t y])
    | .own id=>match m.at id with
      | .arr false t' x=>if h:t'.beq t=true then
         .ao (A.c .leq (A.l<|A.p (Ty.eq_of_beq h▸x) y)<|140737488355328/(c.max 1:Nat))
          (.leaf (.own m.length,m.set id .aU ++ [.arr false t<|A.p (Ty.eq_of_beq h▸x) y]))
        else .bU 83
      | _=>.bU 84
    | _=>.bU 85
def FY(t:Ty)(c:Nat)(m:Mem)(f src:AV):TV<|AV×Mem:=
 match pT A t m src,pU A t m src with
 | some y,some m=>Cx A t c m f y<|GQ src
 | _,_=>.bU 86
def PX(t:Ty)(m:Mem)(c src:AV):TV<|AV×Mem:=
 match pT A t m src,pU A t m src with
 | some y,some m=>
   match c with
   | .own id=>match m.at id with
     | .arr false t' x=>if h:t'.beq t=true then
        let z:List t.T:=Ty.eq_of_beq h▸x
        let n:=A.mn (A.l y) (A.l z)
        .leaf (.int .i64 false n,m.set id<|.arr false t<|A.spl z 0<|A.s y 0 n)
       else .bU 87
     | _=>.bU 88
   | .wq id _ false lo len=>match m.at id with
     | .arr false t' x=>if h:t'.beq t=true then
        let z:List t.T:=Ty.eq_of_beq h▸x
        let n:=A.mn (A.l y) len
        .leaf (.int .i64 false n,m.set id<|.arr false t<|A.spl z lo<|A.s y 0 n)
       else .bU 89
     | _=>.bU 90
   | _=>.bU 91
 | _,_=>.bU 92
def Lr(t:Ty)(m:Mem)(c:AV):TV<|AV×Mem:=
 match c with
 | .wq id _ false lo len=>match m.at id with
   | .arr false t' x=>if h:t'.beq t=true then
      .leaf (.xb [],m.set id<|.arr false t<|A.spl (Ty.eq_of_beq h▸x) lo<|A.r len t.gH)
     else .bU 119
   | _=>.bU 120
 | _=>.bU 121
mutual
def Ty.leaves:Ty->List (Option Ty)
 | .slice t=>[some t]
 | .arr n t=>(List.replicate n t.leaves).flatten
 | .struct ts=>Ty.LP ts
 | _=>[none]
def Ty.LP:List Ty->List (Option Ty)
 | []=>[]
 | t::ts=>t.leaves++Ty.LP ts
end
def alj:iM->Bool
 | .cH _ _=>true
 | _=>false
def BL(k:Option Ty)(m:Mem)(v:AV):Option<|AV×Mem:=
 match k,v with
 | some t,.wq id sz c lo n=>match alj (m.at id) with
   | true=>Cr A t m<|.wq id sz c lo n
   | false=>some (.wq id sz c lo n,m)
 | _,v=>some (v,m)
def G7:List (Option Ty)->Mem->List AV->Option (Mem×List AV)
 | [],m,cs=>some (m,cs)
 | _::_,m,[]=>some (m,[])
 | k::ks,m,v::vs=>match BL A k m v with
   | none=>none
   | some (v,m)=>match G7 ks m vs with
     | none=>none
     | some (m,vs)=>some (m,v::vs)
def QB(t:Option Ty)(n:Nat)(m:Mem)(c:List AV):Option<|Mem×List AV:=
 match t with
 | none=>some (m,c)
 | some t=>G7 A (List.replicate n t.leaves).flatten m c
def ag_(q:Bool)(c:TV<|AV×Mem):TV<|AV×Mem:=
 match q with
 | false=>c
 | true=>match c with
   | .br b _ e=>.ao (A.not b) e
   | .leaf (.eT _,_)=>.bU 118
   | c=>c
def LA(q:Bool)(m:Mem)(v:AV):AV×Mem:=
 match q with
 | false=>(v,m)
 | true=>match v with
   | .wq id _ _ lo n=>match m.at id with
     | .arr false t x=>match decide (lo=0) with
       | true=>(.own m.length,m.set id .aU ++ [.arr false t<|A.s x 0 n])
       | false=>(v,m)
     | _=>(v,m)
   | v=>(v,m)
def xE{R:Type}(E:kD R)(fn:FuncId)(ρ:Operand->AV)(m:Mem)(o:Oper):TV<|AV×Mem:=
 match o.op with
 | .alloc t=>match E.ti.get t with
   | some ti=>.leaf (.ptr m.length 0,m ++ [.cH false ti.zero])
   | none=>.bU 100
 | .box _ x=>match (ρ x).known m with
   | true=>.leaf (.ptr m.length 0,m ++ [.cH (Gy E.stops fn<|o.dst.map λd=>d+2000000) (ρ x).cells])
   | false=>.bU 99
 | .buildSlice t n ps=>match E.ti.get t with
   | some {kind:=.slice e,.. }=>match E.ti.get e with
     | some te=>match F9 m te.size (ps.toList.map λp=>(p.1,ρ p.2)) ((List.replicate n te.zero).flatten) with
       | some cs=>match Nat.ble (n*te.size) 16777216&&Nat.ble n 140737488355328 with
         | true=>match QB A te.ty n m cs with
           | some (m,cs)=>.leaf (.wq m.length te.size true 0 n,m ++ [.cH false cs])
           | none=>.bU 101
         | false=>.bU 101
       | none=>.bU 101
     | none=>.bU 102
   | _=>.bU 103
 | .makeSlice t l c=>match E.ti.get t with
   | some {kind:=.slice e,.. }=>match E.ti.get e with
     | some {ty:=some t,bytes,.. }=>match ρ l,ρ c with
       | .int _ _ n,.int _ _ n'=>.ao (match Gy E.stops fn (some 1000000) with
          | true=>A.and (A.c .leq n n')<|A.and (A.c .leq 0 n)<|A.c .leq n'<|140737488355328/(bytes.max 1:Nat)
          | false=>A.and (A.c .eql n n')<|A.and (A.c .leq 0 n)<|A.c .leq n<|140737488355328/(bytes.max 1:Nat))
          (.leaf (.own m.length,m ++ [.arr false t<|A.r n t.gH]))
       | _,_=>.bU 104
     | _=>.bU 105
   | _=>.bU 106
 | .store t p x=>match LA A (Gy E.stops fn (some 1000000)) m (ρ x) with
   | (v,m)=>(Ly A (E.ti.get t) m (ρ p) v).map λm=>(.undef,m)
 | .call {callee:=.builtin .append,args,argTypes}=>match args.toList,argTypes.toList with
   | [d,s],t::t'::_=>match E.ti.get t,E.ti.get t' with
     | some {kind:=.slice e,.. },some {kind:=.slice _,.. }=>match E.ti.get e with
       | some {ty:=some t,bytes,.. }=>ag_ A (Gy E.stops fn o.dst)<|FY A t bytes m (ρ d)<|ρ s
       | _=>.bU 107
     | _,_=>.bU 109
   | _,_=>.bU 110
 | .call {callee:=.builtin .copy,args,argTypes}=>match args.toList,argTypes.toList with
   | [d,s],t::t'::_=>match E.ti.get t,E.ti.get t' with
     | some {kind:=.slice e,.. },some {kind:=.slice _,.. }=>match E.ti.get e with
       | some {ty:=some t,.. }=>PX A t m (ρ d)<|ρ s
       | _=>.bU 111
     | _,_=>.bU 112
   | _,_=>.bU 113
 | .call {callee:=.builtin .clear,args,argTypes}=>match args.toList,argTypes.toList with
   | [d],t::_=>match E.ti.get t with
     | some {kind:=.slice e,.. }=>match E.ti.get e with
       | some {ty:=some t,.. }=>Lr A t m<|ρ d
       | _=>.bU 122
     | _=>.bU 123
   | _,_=>.bU 124
 | _=>.bU 117
end
mutual
def Zn:AV->List Nat
 | .own id=>[id]
 | .wq id _ _ _ _=>[id]
 | .ptr id _=>[id]
 | .kR id _ _=>[id]
 | .zp id _ _ _ _=>[id]
 | .yield l=>[l]
 | .fn _ a b=>CJ a++CJ b
 | .agg cs=>CJ cs
 | .xb cs=>CJ cs
 | _=>[]
def CJ:List AV->List Nat
 | []=>[]
 | v::vs=>Zn v++CJ vs
end
def idxOf:List Nat->Nat->Nat->Nat
 | [],_,k=>k
 | i::r,n,k=>match Nat.beq i n with|true=>k|false=>idxOf r n<|k+1
mutual
def nt(l:List Nat):AV->AV
 | .own id=>.own<|idxOf l id 0
 | .wq id sz _ lo len=>.wq (idxOf l id 0) sz false lo len
 | .ptr id off=>.ptr (idxOf l id 0) off
 | .kR id i off=>.kR (idxOf l id 0) i off
 | .zp id off n t i=>.zp (idxOf l id 0) off n t i
 | .yield id=>.yield<|idxOf l id 0
 | .fn f a b=>.fn f (u6 l a)<|u6 l b
 | .agg cs=>.agg<|u6 l cs
 | .xb cs=>.xb<|u6 l cs
 | .int k _ n=>.int k false n
 | .bool _ b=>.bool false b
 | .str _ s=>.str false s
 | .undef=>.undef
 | .sl t x=>.sl t x
 | .eT b=>.eT b
 | .nI t x off=>.nI t x off
 | .gN=>.gN
 | .tC=>.tC
def u6(l:List Nat):List AV->List AV
 | []=>[]
 | v::vs=>nt l v::u6 l vs
end
def LN:PT AV->List Nat
 | .leaf=>[]
 | .node l v r=>(match v with|some a=>Zn a|none=>[])++(LN l++LN r)
def Bu:iM->List Nat
 | .cH _ cs=>CJ cs
 | .loop r=>LN r.env
 | _=>[]
def tx:List Nat->Nat->Bool
 | [],_=>false
 | i::r,n=>match Nat.beq i n with|true=>true|false=>tx r n
def oU:List Nat->List Nat->List Nat
 | acc,[]=>acc
 | acc,i::r=>match tx acc i with
   | true=>oU acc r
   | false=>oU (acc ++ [i]) r
def oi:Nat->Mem->List Nat->Nat->List Nat
 | 0,_,acc,_=>acc
 | f+1,m,acc,p=>match acc[p]? with
   | none=>acc
   | some id=>oi f m (oU acc<|Bu<|m.at id)<|p+1
def qS:dT->List Nat
 | .oA l=>[l]
 | .pJ l=>[l]
 | _=>[]
def uG(l:List Nat):dT->dT
 | .oA id=>.oA<|idxOf l id 0
 | .pJ id=>.pJ<|idxOf l id 0
 | x=>x
def Hy(l:List Nat):PT AV->PT AV
 | .leaf=>.leaf
 | .node a v b=>.node (Hy l a) (match v with|some x=>some (nt l x)|none=>none)<|Hy l b
def OT(l:List Nat)(fz:Bool)(f:List AV):List AV:=match fz,f with
 | true,[.int k c n]=>[.int k c n]
 | _,f=>u6 l f
def qq(l:List Nat):iM->iM
 | .bU=>.aU
 | .aU=>.aU
 | .cH fz cs=>.cH fz<|OT l fz cs
 | .arr fz t x=>.arr fz t x
 | .loop r=>.loop {r with env:=Hy l r.env}
 | .FU=>.FU
 | .UE=>.UE
def Ti(e:Env):List Nat->List Nat
 | []=>[]
 | i::r=>Zn (e.at i)++Ti e r
def ahk(i:Nat):Nat:=i%65536
def Tg(e:Env)(i:Nat)(r:Env):Env:=
 match Nat.ble i 65535,e.at i with
 | true,.int k c n=>r.put i<|.int k c n
 | _,_=>r
def uv(l:List Nat)(e:Env):List Nat->Env
 | []=>.leaf
 | i::r=>match Nat.ble i 65535 with
   | true=>(uv l e r).put i<|nt l<|e.at i
   | false=>Tg e (ahk i)<|uv l e r
def qs:List (List Nat)->List dI->List Nat
 | _,[]=>[]
 | ks,f::fs=>Ti f.env (ks.headD [])++(f.marks++((match f.gy with|some l=>[l]|none=>[])++(f.todo.flatMap qS++qs ks.tail fs)))
def sL(l:List Nat):List (List Nat)->List dI->List dI
 | _,[]=>[]
 | ks,f::fs=>{f with env:=uv l f.env (ks.headD []),todo:=f.todo.map (uG l),marks:=f.marks.map (idxOf l · 0),gy:=f.gy.map (idxOf l · 0)}::sL l ks.tail fs
def canon(k:Nat)(f:List<|List Nat)(c:iF):iF:=
 let l:=oi (c.mem.length+1) c.mem (oU (List.range k)<|qs f c.bI) 0
 {bI:=sL l f c.bI,mem:=(l.map λid=>qq l<|c.mem.at id) ++ [.aU]}
def kF:Code->Option Nat
 | .region id _ _=>some id
 | .seq a b=>match kF a with|some i=>some i|none=>kF b
 | .block _ b=>kF b
 | .loop b=>kF b
 | .scope b=>kF b
 | .cond _ a b=>match kF a with|some i=>some i|none=>kF b
 | _=>none
def Db:List Stop->FuncId->Option Nat->Option (List<|List Nat)
 | _,_,none=>none
 | [],_,_=>none
 | s::r,f,some i=>match Nat.beq s.fn f,Nat.beq s.rid i with
   | true,true=>some s.keep
   | _,_=>Db r f<|some i
def Oo:Option Code->Bool
 | none=>true
 | some _=>false
def GL:Option Code->Nat
 | none=>0
 | some _=>2
def mJ(id:Nat):List dT->Option (List dT)
 | .inBlock c::k=>match Nat.beq c id with|true=>some k|false=>mJ id k
 | _::k=>mJ id k
 | []=>none
def mK(l:Nat):List dT->Option (List dT)
 | .inScope body::k=>match findLabel body l with
   | some rest=>some<|.code rest :: .inScope body::k
   | none=>mK l k
 | _::k=>mK l k
 | []=>none
def j6:List Ty->List AV->Bool
 | [],[]=>true
 | t::ts,v::vs=>(match t.isAgg,v with
   | true,.agg cs=>Nat.beq cs.length t.size
   | true,_=>false
   | false,.agg _=>false
   | false,_=>true)&&j6 ts vs
 | _,_=>false
def gL(A:aS):(c:List Ty)->Ty.Ts c->List AV
 | [],_=>[]
 | [t],x=>[UF A t x]
 | t::f::c,x=>UF A t (Prod.fst (α:=t.T) (β:=Ty.Ts (f::c)) x)::gL A (f::c) (Prod.snd (α:=t.T) (β:=Ty.Ts (f::c)) x)
def gW:List AV->AV
 | [v]=>v
 | vs=>.xb vs
def fJ(A:aS)(f:List Ty)(m:Mem)(c:List AV):Option<|Mem×List AV:=
 match G7 A (Ty.LP f) m c with
 | none=>none
 | some (m,c)=>gf A m c
def Z1{α:Type}(c b:Bool)(t:TV α):TV α:=
 match c with
 | true=>t
 | false=>.ao b t
def vW(A:aS)(s:aL)(m:Mem)(c:List AV):TV<|AV×Mem:=
 match j6 s.args c with
 | false=>.bU 120
 | true=>match fJ A s.args m (c.flatMap AV.cells) with
   | none=>.bU 121
   | some (m,cs)=>match q9 s.args cs with
     | some (x,[])=>Z1 s.JS (A.k s.pre x)<|.leaf (gW<|gL A s.res<|A.k s.fn x,m)
     | _=>.bU 122
def Lp(A:aS)(s:lG)(m:Mem)(c:List AV):TV<|AV×Mem:=
 match c with
 | .ptr id 0::rest=>match m.at id with
   | .cH _ cs=>match zo s.view cs with
     | some (x,[])=>match j6 s.args rest with
       | false=>.bU 123
       | true=>match fJ A s.args m (rest.flatMap AV.cells) with
         | none=>.bU 124
         | some (m,cs)=>match q9 s.args cs,Ty.mo s.res with
           | some (y,[]),true=>.ao (A.k s.pre (x,y))<|.leaf (gW<|gL A s.res<|A.k s.fn (x,y),m)
           | _,_=>.bU 125
     | _=>.bU 126
   | _=>.bU 127
 | _=>.bU 128
def nV:List Nat->Bool
 | []=>true
 | i::is=>!tx is i&&nV is
mutual
def VF.read(m:Mem):(f:VF)->List AV->Option (f.ty.T×List Nat×List AV)
 | .d t,cs=>match zo t cs with
   | some (x,r)=>some (x,[],r)
   | none=>none
 | .own t,cs=>match cs with
   | []=>none
   | v::r=>match v with
     | .own id=>match m.at id with
       | .arr false t' x=>if h:t'.beq t=true then some ((Ty.eq_of_beq h▸x:List t.T),[id],r) else none
       | _=>none
     | .eT _=>some (([]:List t.T),[],r)
     | _=>none
 | .fix _ t,cs=>match cs with
   | []=>none
   | v::r=>match v with
     | .own id=>match m.at id with
       | .arr false t' x=>if h:t'.beq t=true then some ((Ty.eq_of_beq h▸x:List t.T),[id],r) else none
       | _=>none
     | _=>none
 | .ptr fs,cs=>match cs with
   | []=>none
   | v::r=>match v with
     | .ptr id off=>match off,m.at id with
       | 0,.cH false l=>match VF.reads m fs l with
         | some (x,ids,[])=>some (x,id::ids,r)
         | _=>none
       | _,_=>none
     | _=>none
 | .nU fs,cs=>match cs with
   | []=>none
   | v::r=>match v with
     | .ptr id off=>match off,m.at id with
       | 0,.cH true l=>match VF.reads m fs l with
         | some (x,ids,[])=>some (x,ids,r)
         | _=>none
       | _,_=>none
     | _=>none
def VF.reads(m:Mem):(c:List VF)->List AV->Option (Ty.Ts (VF.iA c)×List Nat×List AV)
 | [],cs=>some ((),[],cs)
 | [f],cs=>VF.read m f cs
 | f::g::c,cs=>match VF.read m f cs with
   | none=>none
   | some (x,a,r)=>match VF.reads m (g::c) r with
     | none=>none
     | some (y,b,r)=>some ((x,y),a++b,r)
end
mutual
def VF.fx(m:Mem):VF->List AV->List (Nat×Nat)
 | .fix k _,cs=>match cs with
   | .own id::_=>[(k,id)]
   | _=>[]
 | .ptr fs,cs=>match cs with
   | .ptr id _::_=>match m.at id with
     | .cH _ l=>VF.yJ m fs l
     | _=>[]
   | _=>[]
 | .nU fs,cs=>match cs with
   | .ptr id _::_=>match m.at id with
     | .cH _ l=>VF.yJ m fs l
     | _=>[]
   | _=>[]
 | _,_=>[]
def VF.yJ(m:Mem):List VF->List AV->List (Nat×Nat)
 | [],_=>[]
 | f::fs,cs=>VF.fx m f cs++match VF.read m f cs with
   | some (_,_,r)=>VF.yJ m fs r
   | none=>[]
end
mutual
def VF.GM:VF->List Nat
 | .fix k _=>[k]
 | .ptr fs=>VF.i7 fs
 | .nU fs=>VF.i7 fs
 | _=>[]
def VF.i7:List VF->List Nat
 | []=>[]
 | f::fs=>f.GM++VF.i7 fs
end
mutual
def VF.rows:(f:VF)->f.ty.T->List (Nat×iM)
 | .fix k t,x=>[(k,.arr false t x)]
 | .ptr fs,x=>VF.gz fs x
 | .nU fs,x=>VF.gz fs x
 | _,_=>[]
def VF.gz:(c:List VF)->Ty.Ts (VF.iA c)->List (Nat×iM)
 | [],_=>[]
 | [f],x=>VF.rows f x
 | f::g::c,x=>VF.rows f (Prod.fst (α:=f.ty.T) (β:=Ty.Ts<|VF.iA<|g::c) x)++VF.gz (g::c) (Prod.snd (α:=f.ty.T) (β:=Ty.Ts<|VF.iA<|g::c) x)
end
mutual
def VF.neT(A:aS){α:Type}:(f:VF)->f.ty.T->TV α->TV α
 | .fix _ t,x,k=>.ao (A.c .neq (A.l<|show List t.T from x) 0) k
 | .ptr fs,x,k=>VF.Z0 A fs x k
 | .nU fs,x,k=>VF.Z0 A fs x k
 | _,_,k=>k
def VF.Z0(A:aS){α:Type}:(c:List VF)->Ty.Ts (VF.iA c)->TV α->TV α
 | [],_,k=>k
 | [f],x,k=>VF.neT A f x k
 | f::g::c,x,k=>VF.neT A f (Prod.fst (α:=f.ty.T) (β:=Ty.Ts<|VF.iA<|g::c) x)<|VF.Z0 A (g::c) (Prod.snd (α:=f.ty.T) (β:=Ty.Ts<|VF.iA<|g::c) x) k
end
def ak2(fx:List<|Nat×Nat)(k:Nat):AV:=
 match look fx k with
 | some id=>.own id
 | none=>.undef
def Gz(fx:List<|Nat×Nat)(rows:List<|Nat×iM)(i:Nat):Option iM:=
 match fx with
 | []=>none
 | (k,id)::fx=>match Nat.beq id i with
   | true=>look rows k
   | false=>Gz fx rows i
mutual
def VF.write(A:aS)(g:Nat->AV):(f:VF)->f.ty.T->Mem->Mem×List AV
 | .d t,x,m=>(m,lH A t x)
 | .own t,x,m=>(m ++ [.arr false t x],[.own m.length])
 | .fix k _,_,m=>(m,[g k])
 | .ptr fs,x,m=>match VF.writes A g fs x m with
   | (m',cs)=>(m' ++ [.cH false cs],[.ptr m'.length 0])
 | .nU _,_,m=>(m,[.undef])
def VF.writes(A:aS)(g:Nat->AV):(c:List VF)->Ty.Ts (VF.iA c)->Mem->Mem×List AV
 | [],_,m=>(m,[])
 | [f],x,m=>VF.write A g f x m
 | f::h::c,x,m=>match VF.write A g f (Prod.fst (α:=f.ty.T) (β:=Ty.Ts<|VF.iA<|h::c) x) m with
   | (m1,a)=>match VF.writes A g (h::c) (Prod.snd (α:=f.ty.T) (β:=Ty.Ts<|VF.iA<|h::c) x) m1 with
     | (m2,b)=>(m2,a++b)
end
def VF.back(A:aS)(g:Nat->AV):(f:VF)->AV->f.ty.T->Mem->Option Mem
 | .ptr fs,v,x,m=>match v with
   | .ptr id _=>match VF.writes A g fs x m with
     | (m',cs)=>some<|m'.set id<|.cH false cs
   | _=>none
 | .nU fs,v,x,m=>match v with
   | .ptr id _=>match VF.writes A g fs x m with
     | (m',cs)=>some<|m'.set id<|.cH true cs
   | _=>none
 | _,_,_,_=>none
def VF.J2(A:aS)(g:Nat->AV):(c:List VF)->List AV->Ty.Ts (VF.iA c)->Mem->Option Mem
 | [],_,_,m=>some m
 | [f],vs,x,m=>match vs with
   | v::_=>VF.back A g f v x m
   | []=>none
 | f::h::c,vs,x,m=>match vs with
   | v::vs=>match VF.back A g f v (Prod.fst (α:=f.ty.T) (β:=Ty.Ts<|VF.iA<|h::c) x) m with
     | some m=>VF.J2 A g (h::c) vs (Prod.snd (α:=f.ty.T) (β:=Ty.Ts<|VF.iA<|h::c) x) m
     | none=>none
   | []=>none
def iG:List VF->Bool
 | []=>true
 | f::fs=>match f with
   | .ptr _=>iG fs
   | .nU _=>iG fs
   | _=>false
def fY:List AV->List Nat
 | []=>[]
 | v::vs=>match v with
   | .ptr id _=>id::fY vs
   | _=>fY vs
def yx(rows:Nat->Option iM)(roots:List Nat)(i:Nat)(b:iM):iM:=
 match rows i with
 | some bx=>bx
 | none=>match tx roots i,b with
   | true,.cH _ cs=>.cH false<|List.replicate cs.length .undef
   | _,_=>.aU
def Cb(rows:Nat->Option iM)(roots:List Nat):List Nat->Mem->Mem
 | [],m=>m
 | i::r,m=>Cb rows roots r<|m.set i<|yx rows roots i<|m.at i
def Qi:VF->AV->Mem->Mem
 | .nU _,v,m=>match v with
   | .ptr id _=>match m.at id with
     | .cH _ cs=>m.set id<|.cH true cs
     | _=>m
   | _=>m
 | _,_,m=>m
def yK:List VF->List AV->Mem->Mem
 | [],_,m=>m
 | f::fs,vs,m=>match vs with
   | v::vs=>yK fs vs<|Qi f v m
   | []=>m
def awR(f:Bool)(c:List AV)(v:AV):AV:=
 match f with
 | false=>v
 | true=>match c with
   | a::_=>a
   | []=>.undef
def XO(A:aS)(s:cn)(fx:List<|Nat×Nat)(c:List AV)(x:Ty.Ts<|VF.iA s.aK)(ids:List Nat)(m:Mem):Option Mem:=
 VF.J2 A (ak2 fx) s.aK c x (Cb (Gz fx<|VF.gz s.aK x) (fY c) ids m)
def Lm(A:aS)(s:cn)(m:Mem)(c:List AV):TV<|AV×Mem:=
 match j6 s.args (c.drop s.aK.length) with
 | false=>.bU 190
 | true=>match fJ A s.args m ((c.drop s.aK.length).flatMap AV.cells) with
   | none=>.bU 191
   | some (m,cs)=>match q9 s.args cs with
     | some (y,[])=>match VF.reads (yK s.aK (c.take s.aK.length) m) s.aK (c.take s.aK.length) with
       | some (x,ids,[])=>match nV ids&&(nV (fY (c.take s.aK.length))&&(iG s.aK&&nV (VF.i7 s.aK))) with
         | false=>.bU 192
         | true=>match XO A s (VF.yJ (yK s.aK (c.take s.aK.length) m) s.aK (c.take s.aK.length)) (c.take s.aK.length) (A.k s.fn (x,y)).1 ids (yK s.aK (c.take s.aK.length) m) with
           | some m=>Z1 s.JS (A.k s.pre (x,y))<|VF.Z0 A s.aK x<|.leaf (awR s.rp c<|gW<|gL A s.res (A.k s.fn (x,y)).2,m)
           | none=>.bU 193
       | _=>.bU 194
     | _=>.bU 195
def Gs:List FuncId->List AV->Bool
 | [],vs=>match vs with | []=>true|_=>false
 | f::fs,vs=>match vs with
   | []=>false
   | v::vs=>match v with
     | .fn g [] []=>Nat.beq g f&&Gs fs vs
     | _=>false
def O_{α:Type}(b:Bool)(l:List α):List α:=match b with|false=>l|true=>l.drop (l.length-1)++l.take (l.length-1)
def zu{α:Type}(b:Bool)(a:α)(l:List α):List α:=match b with|false=>a::l|true=>l ++ [a]
def Ll(A:aS)(s:fH)(m:Mem)(c:List AV):TV<|AV×Mem:=
 match O_ s.xk c with
 | []=>.bU 200
 | v::rest=>match j6 s.args (rest.take s.args.length)&&Gs s.ll (rest.drop s.args.length) with
   | false=>.bU 201
   | true=>match fJ A s.args m ((rest.take s.args.length).flatMap AV.cells) with
     | none=>.bU 202
     | some (m,cs)=>match q9 s.args cs with
       | some (y,[])=>match v with
         | .own id=>match m.at id with
           | .arr false t x=>if h:t.beq s.elem=true then
              .ao (A.k s.pre ((Ty.eq_of_beq h▸x:List s.elem.T),y)) (.leaf (gW<|gL A s.res (A.k s.fn ((Ty.eq_of_beq h▸x:List s.elem.T),y)).2,m.set id<|.arr false s.elem (A.k s.fn ((Ty.eq_of_beq h▸x:List s.elem.T),y)).1))
             else .bU 203
           | _=>.bU 204
         | .eT _=>.ao (A.k s.pre (([]:List s.elem.T),y))<|.leaf (gW<|gL A s.res (A.k s.fn (([]:List s.elem.T),y)).2,m)
         | _=>.bU 205
       | _=>.bU 206
def Ln(A:aS)(s:pG)(m:Mem)(c:List AV):TV<|AV×Mem:=
 match j6 s.args c with
 | false=>.bU 210
 | true=>match fJ A s.args m (c.flatMap AV.cells) with
   | none=>.bU 211
   | some (m,cs)=>match q9 s.args cs with
     | some (x,[])=>match VF.write A (λ_=>.undef) s.out (A.k s.fn x).2.1 m with
       | (m',[v])=>.ao (A.k s.pre x) (match s.opt with
         | false=>.leaf (gW<|v::gL A s.res (A.k s.fn x).2.2,m')
         | true=>.br (A.k s.fn x).1 (.leaf (gW<|v::gL A s.res (A.k s.fn x).2.2,m'))<|.leaf (gW<|.gN::gL A s.res (A.k s.fn x).2.2,m))
       | _=>.bU 213
     | _=>.bU 212
def sV(A:aS){R:Type}(E:kD R)(g:FuncId)(m:Mem)(c:List AV):Option<|TV<|AV×Mem:=
 match look E.tO g with
 | some s=>some<|Lp A s m c
 | none=>match look E.tN g with
   | some s=>some<|Lm A s m c
   | none=>match look E.tM g with
     | some s=>some<|Ll A s m c
     | none=>match look E.ops g with
       | some s=>some<|Ln A s m c
       | none=>none
def acO{α:Type}:TV α->Option α
 | .leaf a=>some a
 | _=>none
def Bm(A:aS){R:Type}(E:kD R)(c:Env)(m:Mem):ResultVar->Option AV
 | .tmp t=>some<|c.at t
 | .cell a t=>acO<|F2 A (E.ti.get t) m<|c.at a
def qP(A:aS){R:Type}(E:kD R)(c:Env)(m:Mem):List ResultVar->Option (List AV)
 | []=>some []
 | r::rs=>match Bm A E c m r with
   | none=>none
   | some v=>match qP A E c m rs with
     | none=>none
     | some vs=>some<|v::vs
def sG:List Nat->Mem->Option Mem
 | [],m=>some m
 | d::ds,m=>match m.at d with
   | .FU=>sG ds<|m.set d .UE
   | _=>none
def sU(n:Nat):Option Nat->Bool
 | none=>true
 | some d=>Nat.blt d n
def finish(g:dI)(v:AV):Option dI:=
 match g.todo with
 | .ops all (o::rest)::k=>match sU g.n o.dst with
   | true=>some {g with env:=g.env.oE o.dst v,todo:=.ops all rest::k}
   | false=>none
 | .sT all ms i rest bs::k=>match all[i]? with
   | some o=>match sU g.n o.dst with
     | true=>some {g with env:=g.env.oE o.dst v,todo:=.jH all ms rest bs::k}
     | false=>none
   | none=>none
 | .oA l::k=>some {g with todo:=.pJ l::k}
 | _=>none
def jj(f:FuncId)(F:Func)(c:List AV):Option dI:=
 match F.body with
 | none=>none
 | some b=>match Nat.ble c.length F.ntmps,Nat.ble F.ntmps 65535 with
   | true,true=>some {fn:=f,n:=F.ntmps,env:=Env.of 0 c .leaf,todo:=[.code b],marks:=[],gy:=none}
   | _,_=>none
def As:List Nat->List AV->Env->Env
 | [],_,e=>e
 | _,[],e=>e
 | i::is,v::vs,e=>As is vs<|e.put i v
def uQ(e:Edge):Bool:=
 match e.ground with
 | .textOnly _=>false
 | .gcOnly _=>false
 | _=>true
def qh(c:List Nat):List Edge->Nat
 | []=>0
 | e::es=>match uQ e with
   | true=>(2^e.on ||| c.getD e.on 0) ||| qh c es
   | false=>qh c es
def oK:List Oper->List Nat->List Nat
 | [],ms=>ms
 | o::os,ms=>oK os<|ms ++ [qh ms o.after.toList]
def p_:Nat->List Oper->Bool
 | _,[]=>true
 | i,o::os=>o.after.toList.all (λe=>!uQ e||Nat.blt e.on i)&&p_ (i+1) os
def tmpsOf:List Operand->List Nat
 | []=>[]
 | x::r=>match x with
   | .tmp t=>t::tmpsOf r
   | _=>tmpsOf r
def iI(all:Array Oper)(o:Oper):List Nat:=
 match o.guard with
 | none=>[]
 | some (j,_)=>match all[j]? with
   | none=>[]
   | some p=>match p.dst with
     | some d=>[d]
     | none=>[]
def kL(all:Array Oper)(o:Oper):List Nat:=tmpsOf o.op.operands.toList++iI all o
def isDst(d:Nat):Option Nat->Bool
 | some x=>Nat.beq x d
 | none=>false
def BE(all:Array Oper)(bs:List Nat)(d:Nat):Bool:=
 bs.all λb=>match all[b]? with
  | some o=>!tx (kL all o) d
  | none=>false
def Qv(all:Array Oper)(bs:List Nat)(d:Nat):Bool:=
 bs.all λb=>match all[b]? with
  | some o=>!isDst d o.dst
  | none=>false
def uX(all:Array Oper)(bs:List Nat):Option Nat->Bool
 | none=>true
 | some d=>BE all bs d&&Qv all bs d
def aah(all:Array Oper)(m:Nat)(bs:List Nat)(o:Oper):Bool:=
 bs.all λb=>match all[b]? with
  | some p=>match p.dst with
    | some d=>!tx (kL all o) d||m.testBit b
    | none=>true
  | none=>false
def G8(all:Array Oper)(o:Oper):Bool:=
 match o.dst with
 | none=>true
 | some d=>!tx (kL all o) d
def yL(m:Nat)(o:Oper):Bool:=
 match o.guard with
 | none=>true
 | some (j,_)=>m.testBit j
def pj:AV->AV->Prop
 | .bool _ a,.bool _ b=>a=b
 | .int k _ a,.int k' _ b=>k=k'/\a=b
 | x,y=>x=y
def wG(c:Env):Option Nat->AV->Prop
 | none,_=>True
 | some d,v=>pj v<|c.at d
def apq(g:List<|FuncId×aL):Op->Bool
 | .move _=>true | .assign _=>true | .pick _ _ _=>true | .load _ _=>true | .nilCheck _=>true | .binOp _ _ _ _ _=>true | .unOp _ _ _=>true
 | .convert _ _ _=>true | .makeFunc _ _ _=>true | .slice _ _ _ _ _=>true | .fieldAddr _ _ _=>true | .field _ _ _=>true | .indexAddr _ _ _=>true | .index _ _ _=>true
 | .extract _ _=>true | .build _ _=>true
 | .call c=>match c.callee with
   | .builtin b=>match b with | .len=>true | .min=>true | .max=>true|_=>false
   | .value x=>match x with | .func f=>(match look g f with|some _=>true|none=>false)|_=>false
   | _=>false
 | _=>false
def aam(c:List<|FuncId×aL)(all:Array Oper)(f:List Nat)(left:Nat):List Nat->Option Nat
 | []=>none
 | i::is=>match Nat.beq (f.getD i 0 &&& left) 0,all[i]? with
   | true,some o=>match apq c o.op with|true=>some i|false=>aam c all f left is
   | _,_=>aam c all f left is
def vq:List Nat->Nat->List Nat
 | [],_=>[]
 | i::is,n=>match Nat.beq i n with|true=>is|false=>i::vq is n
def eager(c:List (FuncId×aL))(all:Array Oper)(g:List Nat):Nat->Nat->List Nat->List Nat
 | 0,_,_=>[]
 | f+1,left,is=>match aam c all g left is with
   | some i=>i::eager c all g f (left-2^i) (vq is i)
   | none=>match is with
     | []=>[]
     | i::is=>i::eager c all g f (left-2^i) is
def qO(h:List<|FuncId×aL)(c:Array Oper):Option<|List Nat×List Nat:=
 let g:=oK c.toList []
 let f:=eager h c g c.size (2^c.size-1)<|List.range c.size
 match p_ 0 c.toList&&(nV f&&(f.all (λi=>Nat.blt i c.size)&&(List.range c.size).all (λi=>tx f i))) with
 | true=>some (g,f)
 | false=>none
def uP(j:Nat)(c:List Nat):Nat->List Nat->List Nat
 | _,[]=>[]
 | k,m::ms=>(match tx c k && !Nat.beq k j with|true=>m ||| 2^j|false=>m)::uP j c (k+1) ms
def Si:List Nat->Nat
 | []=>0
 | i::r=>2^i ||| Si r
def Re(f c:List Nat)(j:Nat):Bool:=c.all λb=>!(f.getD j 0).testBit b
def Tt(h:List<|FuncId×aL)(all:Array Oper)(l c:List Nat)(j:Nat):Option<|List Nat×List Nat:=
 let r:=vq c j
 let f:=uP j c 0 l
 let g:=eager h all f r.length (Si r) r
 match nV (j::g)&&(g.all (λi=>tx r i)&&r.all (λi=>tx g i)) with
 | true=>some (f,j::g)
 | false=>none
def NH{R:Type}(K:Nat->Tr R):List Nat->Tr R
 | []=>.bU 181 ""
 | j::js=>match js with
   | []=>K j
   | _::_=>.and (K j)<|NH K js
def sR(m:Nat)(bs:List Nat):List Nat:=bs.filter λb=>!m.testBit b
def qR(all:Array Oper)(f:Env)(o:Oper):Option Bool:=
 match o.guard with
 | none=>some true
 | some (j,want)=>match all[j]? with
   | none=>none
   | some p=>match p.dst with
     | none=>none
     | some d=>match f.at d with
       | .bool c v=>match c with
         | true=>match v,want with
           | true,true=>some true
           | false,false=>some true
           | _,_=>some false
         | false=>none
       | .xb []=>some false
       | _=>none
section
variable (A:aS) {R:Type} (E:kD R)
def E4(all:Array Oper)(f:Env)(o:Oper)(g h:Env->Tr R):Tr R:=
 match o.guard with
 | none=>g f
 | some (j,want)=>match all[j]? with
   | none=>.bU 130 o.pos
   | some p=>match p.dst with
     | none=>.bU 131 o.pos
     | some d=>match f.at d with
       | .bool c v=>match c with
         | true=>match v,want with
           | true,true=>g f
           | false,false=>g f
           | _,_=>h f
         | false=>match want with
           | true=>.br v (g<|f.put d<|.bool true true)<|h<|f.put d<|.bool true false
           | false=>.br v (h<|f.put d<|.bool true true)<|g<|f.put d<|.bool true false
       | .xb []=>h f
       | _=>.bU 132 o.pos
def Bg(m:Mem)(ρ:Operand->AV)(o:Oper):Option<|TV AV:=
 match o.op with
 | .call c=>match c.callee with
   | .value x=>match ρ x with
     | .fn g first f=>match look E.jK g with
       | some s=>match uF ((first++(c.args.toList.map ρ++f)).flatMap AV.cells) with
         | true=>some<|(vW A s m<|first++(c.args.toList.map ρ++f)).map Prod.fst
         | false=>none
       | none=>none
     | _=>none
   | _=>none
 | _=>none
def evV(m:Mem)(ρ:Operand->AV)(o:Oper):Option<|TV AV:=
 match ub A E ρ m o with
 | some c=>some c
 | none=>Bg A E m ρ o
def aaU(c:Env):Option Nat->AV->Tr R->Tr R
 | none,_,t=>t
 | some d,v,t=>.same v (c.at d) t
def yg(c:Env)(m:Mem)(all:Array Oper):List Nat->Tr R->Tr R
 | [],t=>t
 | b::bs,t=>match all[b]? with
   | none=>.bU 170 ""
   | some o=>match qR all c o with
     | none=>.bU 171 o.pos
     | some false=>aaU c o.dst (.xb [])<|yg c m all bs t
     | some true=>match evV A E m (mQ c) o with
       | none=>.bU 172 o.pos
       | some f=>f.bind o.pos λv=>aaU c o.dst v<|yg c m all bs t
def wK(f:dI)(m:Mem)(t:Tr R):Tr R:=
 match f.todo with
 | .jH all _ _ bs::_=>yg A E f.env m all bs t
 | _=>t
def Qk(all:Array Oper)(bs:List Nat)(c:Env)(o:Oper)(f g:Env->Tr R):Tr R:=
 match qR all c o with
 | some true=>f c
 | some false=>g c
 | none=>match iI all o with
   | [d]=>match BE all bs d with
     | true=>E4 all c o f g
     | false=>.bU 173 o.pos
   | _=>.bU 174 o.pos
def run:Nat->iF->Tr R
 | 0,c=>.ak c
 | n+1,c=>
   match c.bI with
   | []=>.bU 140 ""
   | f::fs=>
     let back (g:dI) (J:List dI) (m:Mem):Tr R:=wK A E g m<|run n {bI:=g::J,mem:=m}
     let C (D:Option Code):Tr R:=
      match f.gy with
      | none=>match sG f.marks c.mem with
        | none=>.bU 139 ""
        | some m=>match look E.ll f.fn with
          | none=>.bU 141 ""
          | some F=>match qP A E f.env m F.results.toList with
            | none=>.bU 142 ""
            | some vs=>match fs with
              | []=>match E.fin (gW vs) m with
                | some y=>.ret y
                | none=>.bU 143 ""
              | g::J=>match finish g (gW vs) with
                | some g=>back g J m
                | none=>.bU 144 ""
      | some l=>match c.mem.at l with
        | .loop r=>match fs with
          | g::J=>match finish g (.bool true (Oo D)) with
            | some g=>back g J<|c.mem.set l<|.loop {r with state:=GL D,pending:=D}
            | none=>.bU 145 ""
          | []=>.bU 146 ""
        | _=>.bU 147 ""
     let enter (g:FuncId) (H:String) (K:List AV) (B:dI):Tr R:=
      match look E.ll g with
      | none=>.bU 163 H
      | some G=>match jj g G K with
        | none=>.bU 164 H
        | some h=>run n {bI:=h::B::fs,mem:=c.mem}
     let yield (l:Nat) (H:String) (K:List AV) (B:dI):Tr R:=
      match c.mem.at l with
      | .loop r=>match Nat.beq r.params.length K.length&&r.params.all (λp=>Nat.blt p r.n) with
        | true=>run n {bI:={fn:=r.fn,n:=r.n,env:=As r.params K r.env,todo:=[.code r.assign,.beginRound,.code r.body],marks:=[],gy:=some l}::B::fs,mem:=c.mem}
        | false=>.bU 165 H
      | _=>.bU 166 H
     match f.todo with
     | []=>C none
     | i::k=>match i with
       | .inBlock _=>run n {c with bI:={f with todo:=k}::fs}
       | .inScope _=>run n {c with bI:={f with todo:=k}::fs}
       | .inLoop body=>match Db E.stops f.fn (kF body) with
         | some ks=>.ak<|canon E.keep ks c
         | none=>run n {c with bI:={f with todo:=.code body :: .inLoop body::k}::fs}
       | .oA _=>.bU 148 ""
       | .sT _ _ _ _ _=>.bU 148 ""
       | .pJ l=>match c.mem.at l with
         | .loop r=>match Nat.beq r.state 1 with
           | true=>.bU 149 ""
           | false=>run n {bI:={f with todo:=(match r.pending with|some j=>.code j::k|none=>k)}::fs,mem:=c.mem.set l<|.loop {r with state:=3}}
         | _=>.bU 150 ""
       | .beginRound=>match f.gy with
         | some l=>match c.mem.at l with
           | .loop r=>match Nat.beq r.state 0 with
             | true=>run n {bI:={f with todo:=k}::fs,mem:=c.mem.set l<|.loop {r with state:=1}}
             | false=>.bU 151 ""
           | _=>.bU 152 ""
         | none=>.bU 153 ""
       | .code x=>match x with
         | .skip=>run n {c with bI:={f with todo:=k}::fs}
         | .label _=>run n {c with bI:={f with todo:=k}::fs}
         | .ret=>C<|some .ret
         | .seq a b=>run n {c with bI:={f with todo:=.code a :: .code b::k}::fs}
         | .cond x a b=>match mQ f.env x with
           | .bool c1 v=>match c1 with
             | true=>match v with
               | true=>run n {c with bI:={f with todo:=.code a::k}::fs}
               | false=>run n {c with bI:={f with todo:=.code b::k}::fs}
             | false=>.br v (run n {c with bI:={f with todo:=.code a::k}::fs})<|run n {c with bI:={f with todo:=.code b::k}::fs}
           | _=>.bU 154 ""
         | .block id b=>run n {c with bI:={f with todo:=.code b :: .inBlock id::k}::fs}
         | .loop b=>run n {c with bI:={f with todo:=.inLoop b::k}::fs}
         | .scope b=>run n {c with bI:={f with todo:=.code b :: .inScope b::k}::fs}
         | .exit id=>match mJ id k with
           | some k=>run n {c with bI:={f with todo:=k}::fs}
           | none=>match f.gy with
             | some _=>C<|some<|.exit id
             | none=>.bU 155 ""
         | .goto l=>match mK l k with
           | some k=>run n {c with bI:={f with todo:=k}::fs}
           | none=>match f.gy with
             | some _=>C<|some<|.goto l
             | none=>.bU 156 ""
         | .refuse _=>.bU 157 ""
         | .rangeFunc x ps a b=>match mQ f.env x with
           | .fn g [] u=>
             let O:Option<|List Nat×Mem:=match f.gy with
              | none=>some (c.mem.length::f.marks,c.mem ++ [.FU])
              | some l0=>match c.mem.at l0 with
                | .loop _=>some (f.marks,c.mem)
                | _=>none
             match O with
             | none=>.bU 158 ""
             | some (marks,m)=>match look E.ll g with
               | none=>.bU 159 ""
               | some G=>match jj g G (.yield m.length::u) with
                 | none=>.bU 160 ""
                 | some h=>run n {bI:=h :: {f with todo:=.oA m.length::k,marks:=marks}::fs,mem:=m ++ [.loop {fn:=f.fn,n:=f.n,env:=f.env,params:=ps.toList,assign:=a,body:=b,state:=0,pending:=none}]}
           | _=>.bU 161 ""
         | .region id os draw=>match Db E.oW f.fn (some id) with
           | some ks=>.ak<|canon E.keep ks c
           | none=>match draw with
             | false=>run n {c with bI:={f with todo:=.ops os os.toList::k}::fs}
             | true=>match qO E.jK os with
               | some (ms,is)=>run n {c with bI:={f with todo:=.jH os ms is []::k}::fs}
               | none=>.bU 175 ""
       | .ops all rest=>match rest with
         | []=>run n {c with bI:={f with todo:=k}::fs}
         | o::rest=>match sU f.n o.dst with
           | false=>.bU 162 o.pos
           | true=>E4 all f.env o
             (λt=>
               let next (v:AV) (m:Mem):Tr R:=run n {bI:={f with env:=t.oE o.dst v,todo:=.ops all rest::k}::fs,mem:=m}
               match ub A E (mQ t) c.mem o with
               | some I=>I.bind o.pos λv=>next v c.mem
               | none=>match o.op with
                 | .call {callee:=.value x,args,.. }=>match mQ t x with
                   | .fn g first u=>match look E.jK g with
                     | some s=>(vW A s c.mem<|first++(args.toList.map (mQ t)++u)).bind o.pos λp=>next p.1 p.2
                     | none=>match sV A E g c.mem (first++(args.toList.map (mQ t)++u)) with
                       | some I=>I.bind o.pos λp=>next p.1 p.2
                       | none=>enter g o.pos (first++(args.toList.map (mQ t)++u)) {f with env:=t}
                   | .yield l=>yield l o.pos (args.toList.map<|mQ t) {f with env:=t}
                   | _=>.bU 167 o.pos
                 | _=>(xE A E f.fn (mQ t) c.mem o).bind o.pos λp=>next p.1 p.2)
             (λt=>run n {c with bI:={f with env:=t.oE o.dst<|.xb [],todo:=.ops all rest::k}::fs})
       | .jH all ms rest bs=>match rest with
         | []=>run n {c with bI:={f with todo:=k}::fs}
         | i::rest=>match all[i]? with
           | none=>.bU 176 ""
           | some o=>match sU f.n o.dst&&(aah all (ms.getD i 0) bs o&&yL (ms.getD i 0) o) with
             | false=>.bU 177 o.pos
             | true=>Qk all bs f.env o
               (λt=>match evV A E c.mem (mQ t) o,uX all bs o.dst&&G8 all o with
                 | some I,true=>I.bind o.pos λv=>run n {c with bI:={f with env:=t.oE o.dst v,todo:=.jH all ms rest (i::bs)::k}::fs}
                 | _,_=>match rest.all (λj=>(ms.getD j 0).testBit i) with
                  | false=>NH (λj=>match Tt E.jK all ms (i::rest) j with
                     | some (N,is)=>run n {bI:={f with env:=t,todo:=.jH all N is bs::k}::fs,mem:=c.mem}
                     | none=>.bU 180 o.pos)<|(i::rest).filter<|Re ms<|i::rest
                  | true=>match uX all (sR (ms.getD i 0) bs) o.dst with
                   | false=>.bU 178 o.pos
                   | true=>
                     let next (v:AV) (m:Mem):Tr R:=yg A E (t.oE o.dst v) m all (sR (ms.getD i 0) bs)<|run n {bI:={f with env:=t.oE o.dst v,todo:=.jH all ms rest (sR (ms.getD i 0) bs)::k}::fs,mem:=m}
                     let B:dI:={f with env:=t,todo:=.sT all ms i rest (sR (ms.getD i 0) bs)::k}
                     match ub A E (mQ t) c.mem o with
                     | some I=>I.bind o.pos λv=>next v c.mem
                     | none=>match o.op with
                       | .call {callee:=.value x,args,.. }=>match mQ t x with
                         | .fn g first u=>match look E.jK g with
                           | some s=>(vW A s c.mem<|first++(args.toList.map (mQ t)++u)).bind o.pos λp=>next p.1 p.2
                           | none=>match sV A E g c.mem (first++(args.toList.map (mQ t)++u)) with
                             | some I=>I.bind o.pos λp=>next p.1 p.2
                             | none=>enter g o.pos (first++(args.toList.map (mQ t)++u)) B
                         | .yield l=>yield l o.pos (args.toList.map<|mQ t) B
                         | _=>.bU 167 o.pos
                       | _=>(xE A E f.fn (mQ t) c.mem o).bind o.pos λp=>next p.1 p.2)
               (λt=>match uX all bs o.dst&&G8 all o with
                 | true=>run n {c with bI:={f with env:=t.oE o.dst<|.xb [],todo:=.jH all ms rest (i::bs)::k}::fs}
                 | false=>.bU 179 o.pos)
def Tr.Ok(Q:R->Prop)(G:iF->Prop):Tr R->Prop
 | .ret y=>Q y
 | .ak c=>G c
 | .br b t e=>(b=true->Tr.Ok Q G t)/\(b=false->Tr.Ok Q G e)
 | .ao b t=>b=true/\Tr.Ok Q G t
 | .eqs p t=>p/\Tr.Ok Q G t
 | .same l r t=>pj l r/\Tr.Ok Q G t
 | .and a b=>Tr.Ok Q G a/\Tr.Ok Q G b
 | .bU _ _=>False
end
def Aa(A:aS)(c:List Ty)(v:AV)(m:Mem):Option<|Ty.Ts c:=
 match (match c with | [_]=>some [v]|_=>match v with | .xb f=>some f|_=>none:Option<|List AV) with
 | none=>none
 | some f=>match j6 c f with
   | false=>none
   | true=>match fJ A c m (f.flatMap AV.cells) with
     | none=>none
     | some (_,cs)=>match q9 c cs with
       | some (y,[])=>some y
       | _=>none
def Yn(A:aS)(t:Ty)(c:List Ty)(v:AV)(m:Mem):Option<|List t.T×Ty.Ts c:=
 match (match c with | [_]=>some [v]|_=>match v with | .xb f=>some f|_=>none:Option<|List AV) with
 | none=>none
 | some f=>match j6 c f with
   | false=>none
   | true=>match fJ A c m (f.flatMap AV.cells) with
     | none=>none
     | some (m,cs)=>match q9 c cs with
       | some (y,[])=>match m.at 0 with
         | .arr false t' x=>if h:t'.beq t=true then some ((Ty.eq_of_beq h▸x:List t.T),y) else none
         | _=>none
       | _=>none
def Yo(A:aS)(f:VF)(h:Bool)(c:List Ty)(v:AV)(m:Mem):Option<|Bool×f.ty.T×Ty.Ts c:=
 match (match c with | []=>some [v]|_=>match v with | .xb g=>some g|_=>none:Option<|List AV) with
 | none=>none
 | some []=>none
 | some (v::g)=>match j6 c g with
   | false=>none
   | true=>match fJ A c m (g.flatMap AV.cells) with
     | none=>none
     | some (m,cs)=>match q9 c cs with
       | some (y,[])=>match h,v with
         | true,.gN=>some (false,Ty.gH f.ty,y)
         | _,v=>match VF.read m f [v] with
           | some (x,ids,[])=>match nV ids&&f.GM.isEmpty with
             | true=>some (true,x,y)
             | false=>none
           | _=>none
       | _=>none
def jl(k:Nat):List AV:=(List.range k).map λi=>.ptr i 0
def aqL(m:Mem)(k:Nat)(v:AV):Option<|List AV:=
 match v with
 | .ptr i d=>match Nat.beq i 0&&(Nat.beq d 0&&Nat.ble 1 k) with
   | true=>match m.at 0 with
     | .cH _ _=>some []
     | _=>none
   | false=>none
 | _=>none
def GA:List (Nat×Nat)->Bool
 | []=>true
 | (k,id)::r=>Nat.beq id k&&GA r
def P4(A:aS)(h:Bool)(f:List VF)(c:List Ty)(v:AV)(m:Mem):Option<|Ty.Ts (VF.iA f)×Ty.Ts c:=
 match (match h with|true=>aqL m f.length v|false=>match c with | [_]=>some [v]|_=>match v with | .xb g=>some g|_=>none:Option<|List AV) with
 | none=>none
 | some g=>match j6 c g with
   | false=>none
   | true=>match fJ A c m (g.flatMap AV.cells) with
     | none=>none
     | some (m,cs)=>match q9 c cs with
       | some (y,[])=>match VF.reads m f (jl f.length) with
         | some (x,ids,[])=>match nV ids&&(iG f&&GA (VF.yJ m f (jl f.length))) with
           | true=>some (x,y)
           | false=>none
         | _=>none
       | _=>none
def GH:VF->iM
 | .ptr fs=>.cH false<|List.replicate (VF.mI fs) .undef
 | .nU fs=>.cH true<|List.replicate (VF.mI fs) .undef
 | _=>.cH false []
def holds:List VF->Mem
 | []=>[]
 | f::fs=>GH f::holds fs
def Ip(A:aS)(c:List VF)(x:Ty.Ts<|VF.iA c):Mem:=(VF.J2 A .own c (jl c.length) x<|holds c++(VF.gz c x).map Prod.snd).getD []
def rT(g:FuncId)(F:Func)(c:List AV)(m:Mem:=[]):iF:=
 match jj g F c with
 | some h=>{bI:=[h],mem:=m}
 | none=>{bI:=[],mem:=[]}
def Code.way:Code->List Nat->Code
 | c,[]=>c
 | .seq a b,i::r=>match i with|0=>Code.way a r|_=>Code.way b r
 | .cond _ a b,i::r=>match i with|0=>Code.way a r|_=>Code.way b r
 | .block _ b,_::r=>Code.way b r
 | .loop b,_::r=>Code.way b r
 | .scope b,_::r=>Code.way b r
 | .rangeFunc _ _ a b,i::r=>match i with|0=>Code.way a r|_=>Code.way b r
 | _,_::_=>.skip
def stk:Code->List Nat->List dT->List dT
 | .seq a b,i::r,k=>match i with|0=>stk a r (.code b::k)|_=>stk b r k
 | .cond _ a b,i::r,k=>match i with|0=>stk a r k|_=>stk b r k
 | .block n b,_::r,k=>stk b r<|.inBlock n::k
 | .loop b,_::r,k=>stk b r<|.inLoop b::k
 | .scope b,_::r,k=>stk b r<|.inScope b::k
 | _,_,k=>k
def PN(F:Func):Code:=match F.body with|some b=>b|none=>.skip
def opsOf:Code->Array Oper
 | .region _ os _=>os
 | _=>#[]
def advance(g:List<|FuncId×aL)(c:iF):iF:=
 match c.bI with
 | []=>c
 | f::fs=>match f.todo with
   | .inLoop b::k=>{c with bI:={f with todo:=.code b :: .inLoop b::k}::fs}
   | .code (.region _ os false)::k=>{c with bI:={f with todo:=.ops os os.toList::k}::fs}
   | .code (.region _ os true)::k=>match qO g os with
     | some (ms,is)=>{c with bI:={f with todo:=.jH os ms is []::k}::fs}
     | none=>c
   | _=>c
end Go.Ev
namespace Go.Ev
def gg:Nat:=140737488355328
theorem jb:gg=140737488355328:=rfl
structure St where
 σ:Nat->Nat
 δ:Nat->Nat
 vd:Nat->Bool
 I:Nat->Prop
def lV(w:World)(b off:Nat)(c:List Value):Prop:=
 ∀(j:Nat) (u:Value),c[j]? = some u->w.cell? ⟨b,off+j,none⟩=some u
mutual
def bW(w:World)(I:Nat->Prop):(t:Ty)->List Value->t.T->Prop
 | .int k,cs,x=>cs=[.int k x]/\k.has x
 | .bool,cs,x=>cs=[.bool x]
 | .str,cs,x=>cs=[.string ⟨(show List UInt8 from x).toArray⟩]/\(show List UInt8 from x).length<=gg
 | .slice t,cs,x=>∃(a:Option Addr) (c:Nat),cs=[.slice a (show List t.T from x).length c]/\(show List t.T from x).length<=c/\(show List t.T from x).length<=gg/\
    (a=none->c=0)/\
    ∀(i:Nat) (y:t.T),(show List t.T from x)[i]? = some y->∃b off f,a=some ⟨b,off,none⟩/\I b/\f.length=t.size/\lV w b (off+i*t.size) f/\bW w I t f y
 | .arr n t,cs,x=>(show List t.T from x).length=n/\cs.length=n*t.size/\
    ∀(i:Nat) (y:t.T),(show List t.T from x)[i]? = some y->bW w I t ((cs.drop<|i*t.size).take t.size) y
 | .struct ts,cs,x=>gk w I ts cs x
 | .any n,cs,_=>cs.length=n
def gk(w:World)(I:Nat->Prop):(c:List Ty)->List Value->Ty.Ts c->Prop
 | [],cs,_=>cs=[]
 | [t],cs,x=>bW w I t cs x
 | t::f::c,cs,x=>∃g h,cs=g++h/\bW w I t g (Prod.fst (α:=t.T) (β:=Ty.Ts<|f::c) x)/\gk w I (f::c) h (Prod.snd (α:=t.T) (β:=Ty.Ts<|f::c) x)
end
mutual
theorem bW.length{w:World}{I:Nat->Prop}:∀(t:Ty) {c:List Value} {x:t.T},bW w I t c x->c.length=t.size
 | .int k,c,x,h=>by rw[bW] at h;rw[h.1];rfl
 | .bool,c,x,h=>by rw[bW] at h;rw[h];rfl
 | .str,c,x,h=>by rw[bW] at h;rw[h.1];rfl
 | .slice t,c,x,h=>by rw[bW] at h;have⟨a,f,h,_⟩:=h;rw[h];rfl
 | .arr n t,c,x,h=>by grind [bW,Ty.size]
 | .struct ts,c,x,h=>by rw[bW] at h;rw[Ty.size];exact gk.length ts h
 | .any n,c,x,h=>by rw[bW] at h;rw[h];rfl
theorem gk.length{w:World}{I:Nat->Prop}:∀(f:List Ty) {c:List Value} {x:Ty.Ts f},gk w I f c x->c.length=Ty.mI f
 | [],c,x,h=>by rw[gk] at h;rw[h];rfl
 | [t],c,x,h=>by rw[gk] at h;simp only[Ty.mI];exact bW.length t h
 | t::j::f,c,x,h=>by
   obtain⟨l,p,rfl,g,i⟩:=h;rw[uy,bW.length t g,gk.length (j::f) i];rfl
end
variable{c:List Value}
theorem lV.mono{w w':World}{b off:Nat}(h:lV w b off c)(f:w'.heap[b]? = w.heap[b]?):lV w' b off c:=
 λj u g=>(World.cell?_of_block (w:=w) (a:=⟨b,off+j,none⟩) f).trans<|h j u g
mutual
theorem bW.mono{w w':World}{I l:Nat->Prop}(f:∀b,I b->l b/\w'.heap[b]? = w.heap[b]?):∀(t:Ty) {c:List Value} {x:t.T},bW w I t c x->bW w' l t c x
 | .int k,c,x,h=>by grind [bW]
 | .bool,c,x,h=>by grind [bW]
 | .str,c,x,h=>by grind [bW]
 | .slice t,c,x,h=>by
   have⟨a,g,u,B,C,D,F⟩:=h;refine⟨a,g,u,B,C,D,λi y j=>?_⟩;have⟨b,off,N,G,p,J,K,H⟩:=F i y j;exact⟨b,off,N,G,(f b p).1,J,K.mono (f b p).2,bW.mono f t H⟩
 | .arr n t,c,x,h=>by
   exact⟨h.1,h.2.1,λi y j=>bW.mono f t<|h.2.2 i y j⟩
 | .struct ts,c,x,h=>by rw[bW] at h ⊢;exact gk.mono f ts h
 | .any n,c,x,h=>by grind [bW]
theorem gk.mono{w w':World}{I i:Nat->Prop}(g:∀b,I b->i b/\w'.heap[b]? = w.heap[b]?):∀(f:List Ty) {c:List Value} {x:Ty.Ts f},gk w I f c x->gk w' i f c x
 | [],c,x,h=>by grind [gk]
 | [t],c,x,h=>by rw[gk] at h ⊢;exact bW.mono g t h
 | t::u::f,c,x,h=>by
   have⟨y,B,j,l,p⟩:=h;exact⟨y,B,j,bW.mono g t l,gk.mono g (u::f) p⟩
end
def mO(w:World)(I:Nat->Prop)(t:Ty)(v:Value)(x:t.T):Prop:=
 if t.isAgg=true then ∃c:Array Value,v=.agg c/\bW w I t c.toList x else bW w I t [v] x
def kY(w:World)(I:Nat->Prop):(c:List Ty)->List Value->Ty.Ts c->Prop
 | [],vs,_=>vs=[]
 | [t],vs,x=>∃v,vs=[v]/\mO w I t v x
 | t::f::c,vs,x=>∃v r,vs=v::r/\mO w I t v (Prod.fst (α:=t.T) (β:=Ty.Ts<|f::c) x)/\kY w I (f::c) r (Prod.snd (α:=t.T) (β:=Ty.Ts<|f::c) x)
mutual
def CR(w:World)(S:St)(m:Mem):AV->Value->Prop
 | .undef,_=>True
 | .int k _ n,v=>v=.int k n/\k.has n
 | .bool _ b,v=>v=.bool b
 | .str _ s,v=>v=.string ⟨s.toArray⟩/\s.length<=gg
 | .sl t x,v=>bW w S.I (.slice t) [v] x
 | .eT b,v=>∃a,v=.slice a 0 0/\(b=true->a=none)
 | .own id,v=>match m.at id with
   | .arr _ t x=>(S.vd id=true/\x=[]/\∃a,v=.slice a 0 0)\/S.vd id=false/\∃g,v=.slice (some ⟨S.σ id,S.δ id,none⟩) x.length g/\x.length<=g/\(∃h T j,w.heap[S.σ id]? = some (.cells h T j)/\S.δ id+g*t.size<=h.size)
   | .aU=>True
   | _=>False
 | .wq id sz _ lo len,v=>match m.at id with
   | .arr _ t x=>∃(l n g:Nat) (a:Option Addr),lo=l/\len=n/\sz=t.size/\l+n<=x.length/\n<=g/\(a=none->g=0)/\v=.slice a n g/\(n≠0->a=some ⟨S.σ id,S.δ id+l*sz,none⟩)/\
      (l=0->(S.vd id=true->g=0)/\(S.vd id=false->a=some ⟨S.σ id,S.δ id,none⟩/\∃h T j,w.heap[S.σ id]? = some (.cells h T j)/\S.δ id+g*t.size<=h.size))
   | .cH _ cs=>∃(l n g:Nat) (a:Option Addr),lo=l/\len=n/\l+n<=gg/\(l+g)*sz<=cs.length/\n<=g/\(a=none->g=0)/\v=.slice a n g/\(n≠0->a=some ⟨S.σ id,l*sz,none⟩)
   | .aU=>True
   | _=>False
 | .ptr id off,v=>match m.at id with
   | .cH _ _=>v=.pointer (some ⟨S.σ id,off,none⟩)
   | .aU=>True
   | _=>False
 | .kR id i off,v=>match m.at id with
   | .arr _ t x=>∃k:Nat,i=k/\k<x.length/\v=.pointer (some ⟨S.σ id,S.δ id+k*t.size+off,none⟩)
   | .aU=>True
   | _=>False
 | .zp id off n t i,v=>match m.at id with
   | .cH _ _=>∃k:Nat,i=k/\k<n/\v=.pointer (some ⟨S.σ id,off+k*t.size,none⟩)
   | .aU=>True
   | _=>False
 | .nI t x off,v=>∃b o h,v=.pointer (some ⟨b,o+off,none⟩)/\S.I b/\h.length=t.size/\lV w b o h/\bW w S.I t h x
 | .gN,v=>v=.pointer none
 | .fn f a c,v=>∃h p:Array Value,v=.func (.func f) h p/\eD w S m a h.toList/\eD w S m c p.toList
 | .yield l,v=>match m.at l with
   | .loop _=>v=.func (.yield<|S.σ l) #[] #[]
   | .aU=>True
   | _=>False
 | .tC,v=>v=.nilFunc
 | .agg cs,v=>∃h:Array Value,v=.agg h/\eD w S m cs h.toList
 | .xb cs,v=>∃h:Array Value,v=.tuple h/\eD w S m cs h.toList
def eD(w:World)(S:St)(m:Mem):List AV->List Value->Prop
 | [],vs=>vs=[]
 | a::as',vs=>∃v r,vs=v::r/\CR w S m a v/\eD w S m as' r
end
variable{I:Nat->Prop}{f g:List Value}{t:Ty}{x:List t.T}
section
variable {w:World} {S:St} {m:Mem} {v:Value}
theorem gT:CR w S m .undef v:=by rw[CR];trivial
def fu{k:IntKind}{c:Bool}{n:Int}:CR w S m (.int k c n) v↔v=.int k n/\k.has n:=by rw[CR]
def iE{c b:Bool}:CR w S m (.bool c b) v↔v=.bool b:=by rw[CR]
def vO{c:Bool}{s:List UInt8}:CR w S m (.str c s) v↔v=.string ⟨s.toArray⟩/\s.length<=gg:=by rw[CR]
def sO:CR w S m (.sl t x) v↔bW w S.I (.slice t) [v] x:=by rw[CR]
def m_{b:Bool}:CR w S m (.eT b) v↔∃a,v=.slice a 0 0/\(b=true->a=none):=by rw[CR]
def rf{x:t.T}{off:Nat}:CR w S m (.nI t x off) v↔∃b o c,v=.pointer (some ⟨b,o+off,none⟩)/\S.I b/\c.length=t.size/\lV w b o c/\bW w S.I t c x:=by rw[CR]
def qN:CR w S m .gN v↔v=.pointer none:=by rw[CR]
def vk{f:FuncId}{a c:List AV}:CR w S m (.fn f a c) v↔∃g h:Array Value,v=.func (.func f) g h/\eD w S m a g.toList/\eD w S m c h.toList:=by rw[CR]
def sN:CR w S m .tC v↔v=.nilFunc:=by rw[CR]
def uN{c:List AV}:CR w S m (.agg c) v↔∃f:Array Value,v=.agg f/\eD w S m c f.toList:=by rw[CR]
def jZ{c:List AV}:CR w S m (.xb c) v↔∃f:Array Value,v=.tuple f/\eD w S m c f.toList:=by rw[CR]
def bA:eD w S m [] c↔c=[]:=by rfl
def bL{a:AV}{c:List AV}:eD w S m (a::c) f↔∃v r,f=v::r/\CR w S m a v/\eD w S m c r:=by rfl
def vm{k:IntKind}{x:Int}:bW w I (.int k) c x↔c=[.int k x]/\k.has x:=fM
def Ck{x:Bool}:bW w I .bool c x↔c=[.bool x]:=fM
def AZ{x:List UInt8}:bW w I .str c x↔c=[.string ⟨x.toArray⟩]/\x.length<=gg:=fM
def eP:bW w I (.slice t) g x↔∃(a:Option Addr) (c:Nat),g=[.slice a x.length c]/\x.length<=c/\x.length<=gg/\
   (a=none->c=0)/\
   ∀(i:Nat) (y:t.T),x[i]? = some y->∃b off f,a=some ⟨b,off,none⟩/\I b/\f.length=t.size/\lV w b (off+i*t.size) f/\bW w I t f y:=fM
def AY{n:Nat}:bW w I (.arr n t) c x↔x.length=n/\c.length=n*t.size/\
   ∀(i:Nat) (y:t.T),x[i]? = some y->bW w I t ((c.drop<|i*t.size).take t.size) y:=fM
def xr{c:List Ty}{x:Ty.Ts c}:bW w I (.struct c) f x↔gk w I c f x:=fM
def yD{x:Ty.Ts []}:gk w I [] c x↔c=[]:=fM
def Cm{x:t.T}:gk w I [t] c x↔bW w I t c x:=fM
def zW{c:Ty}{f:List Ty}{x:t.T}{y:Ty.Ts<|c::f}:gk w I (t::c::f) g (x,y)↔∃h i,g=h++i/\bW w I t h x/\gk w I (c::f) i y:=fM
end
theorem eD.length{w:World}{S:St}{m:Mem}:∀{f:List AV} {c:List Value},eD w S m f c->c.length=f.length
 | [],c,h=>by grind [eD]
 | a::f,c,h=>by
   obtain⟨v,r,rfl,_,g⟩:=h;simp[eD.length g]
def iX:iM->iM->Prop
 | .bU,_=>False
 | _,.aU=>True
 | .cH _ cs,.cH _ c=>c.length=cs.length
 | .arr _ t x,.arr _ t' x'=>∃h:t=t',x'.length=x.length/\h=h
 | .loop _,.loop _=>True
 | .FU,.FU=>True
 | .FU,.UE=>True
 | .UE,.UE=>True
 | _,_=>False
def iM.jY:iM->Bool
 | .loop _=>true
 | .FU=>true
 | .UE=>true
 | _=>false
def St.fl(S:St)(id:Nat):iM->Bool
 | .cH _ _=>true
 | .arr _ _ _=>!S.vd id
 | _=>false
structure dM(w:World)(S:St)(m:Mem)(w':World)(S':St)(m':Mem):Prop where
 nH:∀b,S.I b->S'.I b/\w'.heap[b]? = w.heap[b]?
 box:∀id,m.at id≠.bU->iX (m.at id) (m'.at id)/\(m'.at id≠.aU->S'.σ id=S.σ id/\S'.δ id=S.δ id/\S'.vd id=S.vd id/\
  (S.fl id (m.at id)=true->∀us T fr,w.heap[S.σ id]? = some (.cells us T fr)->∃iH T' iU,w'.heap[S.σ id]? = some (.cells iH T' iU)/\iH.size=us.size))
 ctl:∀id,(m.at id).jY=true->(m'.at id).jY=true
variable{S:St}
def dM.inv{w:World}{m:Mem}{l:World}{f:St}{c:Mem}(h:dM w S m l f c){id:Nat}(x:m.at id≠.bU):c.at id=.aU\/
  (iX (m.at id) (c.at id)/\c.at id≠.bU/\f.σ id=S.σ id/\f.δ id=S.δ id/\f.vd id=S.vd id/\
  (S.fl id (m.at id)=true->∀j T t,w.heap[S.σ id]? = some (.cells j T t)->∃i p B,l.heap[S.σ id]? = some (.cells i p B)/\i.size=j.size)):=by
 have⟨g,u⟩:=h.box id x;by_cases y:c.at id=.aU
 .grind
 .refine .inr ⟨g,λe=>?_,u y⟩;rw[e] at g;cases hm:m.at id<;>rw[hm] at g<;>exact g.elim
mutual
theorem CR.mono{w:World}{S:St}{m:Mem}{w':World}{S':St}{m':Mem}(h:dM w S m w' S' m'):∀{a:AV} {v:Value},CR w S m a v->CR w' S' m' a v
 | .undef,v,_=>by rw[CR];trivial
 | .int k c n,v,g=>by rw[CR] at g ⊢;omega
 | .bool c b,v,g=>by rw[CR] at g ⊢;omega
 | .str c s,v,g=>by rw[CR] at g ⊢;omega
 | .sl t x,v,g=>by rw[CR] at g ⊢;exact bW.mono h.nH _ g
 | .eT b,v,g=>by rw[CR] at g ⊢;omega
 | .own id,v,g=>by
   rw[CR] at g ⊢;rcases h.inv (id:=id) (λe=>by grind) with H|⟨j,_,D,I,C,B⟩
   .grind
   .cases hm:m.at id<;>rw[hm] at g j<;>simp only at g<;>cases hm':m'.at id<;>rw[hm'] at j<;>try (first|trivial|exact j.elim)
    obtain⟨rfl,O,_⟩:=j;rcases g with ⟨hz,rfl,g⟩|⟨Q,G,rfl,y,u,T,K,p,F⟩
    .simp_all
    .have⟨Z,W,iU,N,J⟩:=B (by rw[hm];simp[St.fl,Q]) u T K p
     simp_all
 | .wq id sz c lo len,v,g=>by
   rw[CR] at g ⊢;rcases h.inv (id:=id) (λe=>by grind) with H|⟨j,_,D,I,C,B⟩
   .simp_all
   .cases hm:m.at id<;>rw[hm] at g j<;>simp only at g<;>cases hm':m'.at id<;>rw[hm'] at j<;>try (first|trivial|exact j.elim)
    .have O:_=_:=j
     grind
    .obtain⟨rfl,O,_⟩:=j;have⟨l,n,G,a,y,p,F,N,J,X,Y,h8,V⟩:=g;refine⟨l,n,G,a,y,p,F,by omega,J,X,Y,by simp_all,λe=>⟨λk=>(V e).1<|C▸k,λk=>?_⟩⟩;rw[C] at k;have⟨k1,u,T,K,k2,k3⟩:=(V e).2 k;have⟨Z,W,iU,k4,k5⟩:=B (by rw[hm];simp[St.fl,k]) u T K k2
     simp_all
 | .ptr id off,v,g=>by
   rw[CR] at g ⊢;rcases h.inv (id:=id) (λe=>by simp_all) with H|⟨j,_,D,I,C,B⟩
   .simp_all
   .cases hm:m.at id<;>rw[hm] at g j<;>simp only at g<;>cases hm':m'.at id<;>rw[hm'] at j<;>try (first|trivial|exact j.elim)
    simp_all
 | .kR id i off,v,g=>by
   rw[CR] at g ⊢;rcases h.inv (id:=id) (λe=>by simp_all) with H|⟨j,_,D,I,C,B⟩
   .simp_all
   .cases hm:m.at id<;>rw[hm] at g j<;>simp only at g<;>cases hm':m'.at id<;>rw[hm'] at j<;>try (first|trivial|exact j.elim)
    obtain⟨rfl,O,_⟩:=j
    simp_all
 | .zp id off n t i,v,g=>by
   rw[CR] at g ⊢;rcases h.inv (id:=id) (λe=>by simp_all) with H|⟨j,_,D,I,C,B⟩
   .simp_all
   .cases hm:m.at id<;>rw[hm] at g j<;>simp only at g<;>cases hm':m'.at id<;>rw[hm'] at j<;>try (first|trivial|exact j.elim)
    rw[D];exact g
 | .nI t x off,v,g=>by
   have⟨b,o,u,y,p,F,N,J⟩:=g;exact⟨b,o,u,y,(h.nH b p).1,F,N.mono (h.nH b p).2,bW.mono h.nH _ J⟩
 | .gN,v,g=>by rw[CR] at g ⊢;omega
 | .fn f a c,v,g=>by
   have⟨u,vs,y,p,F⟩:=g;exact⟨u,vs,y,eD.mono h p,eD.mono h F⟩
 | .yield l,v,g=>by
   rw[CR] at g ⊢;rcases h.inv (id:=l) (λe=>by simp_all) with H|⟨j,_,D,I,C,B⟩
   .simp_all
   .cases hm:m.at l<;>rw[hm] at g j<;>simp only at g<;>cases hm':m'.at l<;>rw[hm'] at j<;>try (first|trivial|exact j.elim)
    rw[D];exact g
 | .tC,v,g=>by rw[CR] at g ⊢;omega
 | .agg cs,v,g=>by
   have⟨u,y,p⟩:=g;exact⟨u,y,eD.mono h p⟩
 | .xb cs,v,g=>by
   rw[CR] at g ⊢;have⟨u,y,p⟩:=g;exact⟨u,y,eD.mono h p⟩
theorem eD.mono{w:World}{S:St}{m:Mem}{w':World}{S':St}{m':Mem}(h:dM w S m w' S' m'):∀{f:List AV} {c:List Value},eD w S m f c->eD w' S' m' f c
 | [],c,hc=>by rw[eD] at hc ⊢;omega
 | a::f,c,hc=>by
   rw[eD] at hc ⊢;have⟨v,r,g,i,j⟩:=hc;exact⟨v,r,g,CR.mono h i,eD.mono h j⟩
end
def gU(c:Nat×Nat)(f:Nat):Prop:=c=(0,0)
def sr:Nat->LoopState
 | 0=>.ready
 | 1=>.busy
 | 2=>.done
 | _=>.exhausted
def NF(w:World)(S:St)(m:Mem)(r:ND)(l:Loop):Prop:=
 l.state=sr r.state/\l.pending=r.pending/\l.fn=r.fn/\l.params=r.params.toArray/\l.assign=r.assign/\l.body=r.body/\(l.tmps.size=r.n/\r.n<=65535)/\
 ∀i,CR w S m (r.env.at i)<|l.tmps.getD i undef
def St.lv(S:St)(id:Nat):iM->Bool
 | .bU=>false
 | .aU=>false
 | .UE=>false
 | .arr _ _ _=>!S.vd id
 | _=>true
def r8(w:World)(S:St)(m:Mem)(id:Nat):iM->Prop
 | .bU=>True
 | .aU=>True
 | .UE=>True
 | .cH _ cs=>∃(c:Array Value) (T:TypeId) (f:Nat×Nat),w.heap[S.σ id]? = some (.cells c T f)/\gU f c.size/\eD w S m cs c.toList
 | .arr _ t x=>x.length<=gg/\(S.vd id=true->x=[])/\(S.vd id=false->∃(c:Array Value) (T:TypeId) (f:Nat×Nat),w.heap[S.σ id]? = some (.cells c T f)/\gU f c.size/\S.δ id+x.length*t.size<=c.size/\
    ∀(i:Nat) (y:t.T),x[i]? = some y->bW w S.I t ((c.toList.drop<|S.δ id+i*t.size).take t.size) y)
 | .loop r=>∃l,w.heap[S.σ id]? = some (.loop l)/\NF w S m r l
 | .FU=>w.heap[S.σ id]? = some (.deferred<|some [])
def St.fz(S:St)(id:Nat):iM->Bool
 | .cH fz _=>fz
 | .arr fz _ _=>fz && !S.vd id
 | _=>false
def iM.S9:iM->Bool
 | .cH fz _=>fz
 | .arr fz _ _=>fz
 | _=>false
def aha{id:Nat}{b:iM}(h:b.S9=false):S.fz id b=false:=by
 cases b<;>first|rfl|exact h|(simp only[iM.S9] at h;simp[St.fz,h])
def ZI{c:St}{j:Nat}{b:iM}(h:c.vd j=S.vd j):c.lv j b=S.lv j b:=by simp_all [St.lv]
variable{α:Type}
def ne_of_lt{x:List α}{k:Nat}(h:k<x.length):x≠ []:=λe=>by grind
def aih{w:World}{m:Mem}{id:Nat}{fz:Bool}(h:r8 w S m id<|.arr fz t x)(c:x≠ []):S.vd id=false:=by
 cases e:S.vd id with
 | false=>rfl
 | true=>exact absurd (h.2.1 e) c
def r8.blk{w:World}{m:Mem}{id:Nat}{fz:Bool}(h:r8 w S m id<|.arr fz t x)(g:x≠ []):∃(c:Array Value) (T:TypeId) (f:Nat×Nat),w.heap[S.σ id]? = some (.cells c T f)/\gU f c.size/\S.δ id+x.length*t.size<=c.size/\
  ∀(i:Nat) (y:t.T),x[i]? = some y->bW w S.I t ((c.toList.drop<|S.δ id+i*t.size).take t.size) y:=h.2.2<|aih h g
def own_ne{b:Bool}{p q:Prop}(h:(b=true/\p)\/b=false/\q)(c:b=false):q:=h.elim (λh=>by grind) (·.2)
theorem rP{id:Nat}{fz:Bool}:S.lv id (.arr fz t x)=!S.vd id:=rfl
theorem vY{id:Nat}:S.fz id (.arr false t x)=false:=rfl
def CP{x:List α}{v:Value}{b:Addr}{z:Bool}{q:Nat->Prop}(h:(z=true/\x=[]/\∃a,v=.slice a 0 0)\/z=false/\∃c,v=.slice (some b) x.length c/\x.length<=c/\q c):
  ∃a c,v=.slice a x.length c/\x.length<=c/\(a=none->c=0)/\(x.length≠0->a=some b):=by grind
structure nE extends World where
 X:Nat->Prop
 R:List (Nat×Option Nat):=[]
 D:Prop:=False
def nE.free(o:nE)(b:Nat):Prop:=o.heap.size<=b\/o.X b
def nE.old{o:nE}{b:Nat}(h:¬o.free b):b<o.heap.size:=Nat.lt_of_not_le λk=>h<|.inl k
def World.whole(w:World):nE:={w with X:=λ_=>False}
def World.Np(w:World):nE:={w with X:=λ_=>False,D:=True}
def R8(w0:nE)(w:World):Prop:=w.tape=w0.tape/\(w0.D->w0.drawn<=w.drawn)
variable{w0:nE}
def R8.on{w c:World}(h:R8 w0 w)(e:c.tape=w.tape)(d:w0.D->w.drawn<=c.drawn):R8 w0 c:=⟨e.trans h.1,λk=>aV (h.2 k)<|d k⟩
structure WR(w0:nE)(w:World)(S:St)(m:Mem):Prop where
 os:w.os=w0.os
 tape:R8 w0 w
 output:w.output=w0.output
 size:w0.heap.size<=w.heap.size
 base:∀b,¬w0.free b->w.heap[b]? = w0.heap[b]?
 nH:∀b,S.I b->b<w.heap.size
 box:∀id,r8 w S m id (m.at id)
 inj:∀id id',S.lv id (m.at id)=true->S.lv id' (m.at id')=true->S.σ id=S.σ id'->id=id'
 lo:∀id,S.lv id (m.at id)=true->(S.I (S.σ id)\/w0.free (S.σ id))/\S.σ id<w.heap.size
 qV:∀id,S.lv id (m.at id)=true->S.fz id (m.at id)=false->¬S.I (S.σ id)
 Ju:∀id,S.fz id (m.at id)=true->S.I (S.σ id)
 root:∀i b,w0.R[i]? = some b->i<m.length/\S.σ i=b.1/\∀d,b.2=some d->S.δ i=d/\S.vd i=false
 cells:∀(b:Nat) (us:Array Value) (T:TypeId) (fr:Nat×Nat),w0.heap[b]? = some (.cells us T fr)->∃(iH:Array Value) (T':TypeId) (iU:Nat×Nat),w.heap[b]? = some (.cells iH T' iU)/\iH.size=us.size
def WR.vd{w:World}{m:Mem}(h:WR w0 w S m){id:Nat}{fz:Bool}(c:m.at id=.arr fz t x)(f:x≠ []):S.vd id=false:=aih (by have:=h.box id;rwa [c] at this) f
def WR.lof{w:World}{m:Mem}(h:WR w0 w S m){id:Nat}(c:S.lv id (m.at id)=true)(f:S.fz id (m.at id)=false):w0.free<|S.σ id:=(h.lo id c).1.resolve_left<|h.qV id c f
def oN(all:Array Oper)(i:Nat):List Nat:=
 match all[i]? with
 | some o=>(o.after.toList.filter uQ).map (·.on)
 | none=>[]
structure Wb(all:Array Oper)(l:List Nat):Prop where
 nodup:l.Nodup
 lt:∀i∈l,i<all.size
 pw:l.Pairwise λi j=>j ∉ oN all i
 self:∀i∈l,i ∉ oN all i
 closed:∀k,k<all.size->k ∉ l->∀j∈oN all k,j ∉ l
def Fv(c l:List Nat):Prop:=∀l1 i l2,l=l1++i::l2->∀b,(c.getD i 0).testBit b=true->b ∉ i::l2
structure iW(n:Nat)(all:Array Oper)(ms rest bs l:List Nat):Prop where
 msk:Fv ms l
 lnd:l.Nodup
 nodup:(rest++bs).Nodup
 sub:∀i∈rest,i∈l
 cov:∀i∈l,i∈rest\/i∈bs
 lt:∀i∈bs,i<all.size
 read:∀i∈bs,∀b∈bs,i≠b->∀o p d,all[i]? = some o->all[b]? = some p->p.dst=some d->d∈kL all o->(ms.getD i 0).testBit b=true
 dst:∀i∈bs,∀b∈bs,i≠b->∀o p d,all[i]? = some o->all[b]? = some p->p.dst=some d->o.dst≠some d
 own:∀i∈bs,∀o d,all[i]? = some o->o.dst=some d->d ∉ kL all o
 grd:∀i∈bs,∀o,all[i]? = some o->yL (ms.getD i 0) o=true
 dok:∀i∈bs,∀o,all[i]? = some o->sU n o.dst=true
def Ft(n:Nat)(S:St):dT->Item->Prop
 | .code c,it=>it=.code c
 | .inBlock id,it=>it=.inBlock id
 | .inLoop b,it=>it=.inLoop b\/it=.code (.loop b)
 | .inScope b,it=>it=.inScope b
 | .ops all rest,it=>∃l:List Nat,it=.inRegion all l/\l.map (λi=>all[i]?)=rest.map some
 | .jH all ms rest bs,it=>∃l:List Nat,it=.inRegion all l/\iW n all ms rest bs l
 | .sT all ms i rest bs,it=>∃l:List Nat,it=.inRegion all (i::l)/\iW n all ms (i::rest) bs (i::l)
 | .oA l,it=>it=.inRangeFunc (S.σ l)
 | .pJ l,it=>it=.endRangeFunc (S.σ l)
 | .beginRound,it=>it=.beginRound
def fV(n:Nat)(S:St):List dT->List Item->Prop
 | [],l=>l=[]
 | a::r,l=>∃c k,l=c::k/\Ft n S a c/\fV n S r k
def dT.drawn:dT->Option (Array Oper×List Nat)
 | .jH all _ _ bs=>some (all,bs)
 | .sT all _ _ _ bs=>some (all,bs)
 | _=>none
def dT.GK(a:dT):Bool:=a.drawn.isSome
def Hid(f:dI)(c:Frame)(x:Nat):Prop:=
 ∃all bs l g b p,f.todo.head?.bind dT.drawn=some (all,bs)/\c.todo=.inRegion all l::g/\b∈bs/\b∈l/\all[b]? = some p/\p.dst=some x
def eF(m:Mem)(l:List dT):Prop:=∀a∈l,match a with | .oA id=>(m.at id).jY=true | .pJ id=>(m.at id).jY=true|_=>True
structure FR(w:World)(S:St)(m:Mem)(f:dI)(fr:Frame):Prop where
 fn:fr.fn=f.fn
 n:fr.tmps.size=f.n
 small:f.n<=65535
 env:∀i,¬Hid f fr i->CR w S m (f.env.at i) (fr.tmps.getD i undef)
 todo:fV f.n S f.todo fr.todo
 live:eF m f.todo
 cH:∀a∈f.todo.tail,a.GK=false
 defers:fr.defers=f.marks.map λd=>{target:=.collected (S.σ d),args:=#[]}
 marks:∀d∈f.marks,(m.at d).jY=true
 mode:fr.mode=.run
 kind:fr.kind=.normal
 gy:fr.roundOf=f.gy.map S.σ
 uH:∀l,f.gy=some l->(m.at l).jY=true
def Fs(w:World)(S:St)(m:Mem):List dI->List Frame->Prop
 | [],l=>l=[]
 | f::fs,l=>∃c r,l=c::r/\FR w S m f c/\Fs w S m fs r
end Go.Ev
namespace Go.Ev
theorem eD.append{w:World}{S:St}{m:Mem}:∀{a b:List AV} {f c:List Value},eD w S m a f->eD w S m b c->eD w S m (a++b) (f++c)
 | [],b,f,c,h1,h2=>by simp_all;rw[h1];grind
 | x::a,b,f,c,h1,h2=>by
   obtain⟨v,r,rfl,g,h⟩:=h1;exact⟨v,r++c,rfl,g,eD.append h h2⟩
theorem eD.split{w:World}{S:St}{m:Mem}:∀{a b:List AV} {c:List Value},eD w S m (a++b) c->∃f g,c=f++g/\eD w S m a f/\eD w S m b g
 | [],b,c,h=>⟨[],c,rfl,by rfl,h⟩
 | x::a,b,c,h=>by
   obtain⟨v,r,rfl,l,i⟩:=h;obtain⟨f,g,rfl,p,j⟩:=eD.split i;exact⟨v::f,g,rfl,by rw[eD];grind,j⟩
theorem eD.drop{w:World}{S:St}{m:Mem}:∀{a:List AV} {c:List Value} (n:Nat),eD w S m a c->eD w S m (a.drop n) (c.drop n)
 | [],c,n,h=>by simp_all [eD]
 | x::a,c,0,h=>h
 | x::a,c,n+1,h=>by
   obtain⟨v,r,rfl,g,f⟩:=h;exact eD.drop n f
theorem eD.take{w:World}{S:St}{m:Mem}:∀{a:List AV} {c:List Value} (n:Nat),eD w S m a c->eD w S m (a.take n) (c.take n)
 | [],c,n,h=>by simp_all [eD]
 | x::a,c,0,h=>by rfl
 | x::a,c,n+1,h=>by
   obtain⟨v,r,rfl,f,g⟩:=h;exact⟨v,_,rfl,f,eD.take n g⟩
theorem eD.get{w:World}{S:St}{m:Mem}:∀{a:List AV} {c:List Value} {i:Nat} {x:AV},eD w S m a c->a[i]? = some x->∃v,c[i]? = some v/\CR w S m x v
 | [],c,i,x,_,h=>by grind
 | y::a,c,0,x,h,hx=>by grind [eD]
 | y::a,c,i+1,x,h,hx=>by
   obtain⟨v,r,rfl,g,f⟩:=h;simp at hx ⊢;exact eD.get f hx
theorem eD.map{w:World}{S:St}{m:Mem}{α:Type}{f:α->AV}{g:α->Value}(h:∀x,CR w S m (f x)<|g x):∀l:List α,eD w S m (l.map f)<|l.map g
 | []=>by rfl
 | x::l=>by simp;rw[eD];exact⟨_,_,rfl,h x,eD.map h l⟩
theorem eD.zz{w:World}{S:St}{m:Mem}(f:Nat->List AV)(sz:Nat):∀(n:Nat) (c:List Value),c.length=n*sz->
  (∀i,i<n->eD w S m (f i) ((c.drop<|i*sz).take sz))->eD w S m ((List.range n).flatMap f) c
 | 0,c,h,_=>by
   have:c=[]:=by grind
   rw[this];rfl
 | n+1,c,h,hf=>by
   rw[List.range_succ,List.flatMap_append];have e:c=c.take (n*sz)++c.drop (n*sz):=(fo _ _).symm;rw[e];refine eD.append ?_ ?_
   .refine eD.zz f sz n _ (by grind) λi j=>?_;have:=hf i (by omega);have g:(i+1)*sz<=n*sz:=aH _ j;rw[kC] at g;rw[kH,kK,jT<|by omega];omega
   .have:=hf n (by omega);simp;rw[dH (by rw[dR,h,kC];omega)] at this;omega
def q8{t:Ty}{x:List t.T}{i:Nat}(h:i<x.length):x[i]? = some (af.n t x i):=by
 show x[i]? = some (x.getD (i:Int).toNat t.gH)
 grind
mutual
theorem lI{w:World}{S:St}{m:Mem}:∀(t:Ty) {c:List Value} {x:t.T},bW w S.I t c x->eD w S m (lH af t x) c
 | .int k,c,x,h=>by
   rw[bW] at h;rw[lH,h.1];simp only[eD];exact⟨_,_,rfl,fu.2 ⟨rfl,h.2⟩,rfl⟩
 | .bool,c,x,h=>by
   rw[bW] at h;rw[lH,h];simp only[eD];exact⟨_,_,rfl,iE.2 rfl,rfl⟩
 | .str,c,x,h=>by
   rw[bW] at h;rw[lH,h.1];simp only[eD];exact⟨_,_,rfl,vO.2 ⟨rfl,h.2⟩,rfl⟩
 | .slice t,c,x,h=>by
   have g:=h;have⟨a,f,e,_⟩:=g;exact⟨_,[],e,sO.2<|by simp_all,rfl⟩
 | .arr n t,c,x,h=>by
   rw[bW] at h;refine eD.zz _ t.size n c h.2.1 λi j=>?_;exact lI t<|h.2.2 i _<|q8 (by omega)
 | .struct ts,c,x,h=>by rw[bW] at h;rw[lH];exact FT ts h
 | .any n,c,x,h=>by
   rw[bW] at h;subst h;rw[lH];clear x
   induction c with
   | nil=>rfl
   | cons u c ih=>exact bL.2 ⟨u,c,rfl,gT,ih⟩
theorem FT{w:World}{S:St}{m:Mem}:∀(c:List Ty) {f:List Value} {x:Ty.Ts c},gk w S.I c f x->eD w S m (Be af c x) f
 | [],f,x,h=>by grind [gk,Be,eD]
 | [t],f,x,h=>by rw[gk] at h;rw[Be];exact lI t h
 | t::j::c,f,x,h=>by
   obtain⟨l,p,rfl,g,i⟩:=h;exact eD.append (lI t g)<|FT (j::c) i
end
def Bf{w:World}{S:St}{m:Mem}{t:Ty}{v:Value}{x:t.T}(h:mO w S.I t v x):CR w S m (UF af t x) v:=by
 unfold mO at h;unfold UF;cases ht:t.isAgg with
 | true=>
   rw[ht,if_pos rfl] at h;obtain⟨c,rfl,h⟩:=h;exact⟨c,rfl,lI t h⟩
 | false=>
   rw[ht,if_neg<|by simp] at h;have:=lI (m:=m) t h;cases hd:lH af t x with
   | nil=>simp_all;cases this
   | cons a r=>
     grind [eD]
theorem rL{α:Type}{w:World}{S:St}{m:Mem}(f:List AV->Option (α×List AV))(sz:Nat)(t:List Value->α->Prop)
  (u:∀c x r j,f c=some (x,r)->eD w S m c j->∃g l,j=g++l/\g.length=sz/\t g x/\eD w S m r l) :
  ∀(n:Nat) (c:List AV) (x:List α) (r:List AV) (j:List Value),Dc f n c=some (x,r)->eD w S m c j->
   ∃g l,j=g++l/\g.length=n*sz/\x.length=n/\(∀(i:Nat) (y:α),x[i]? = some y->t ((g.drop<|i*sz).take sz) y)/\eD w S m r l
 | 0,c,x,r,j,h,hc=>by
   cases h;exact⟨[],j,rfl,by simp,rfl,λi y B=>by grind,hc⟩
 | n+1,c,x,r,j,h,hc=>by
   simp only[Dc] at h;cases h1:f c with
   | none=>grind
   | some p=>
     have⟨a,C⟩:=p;rw[h1] at h;simp only at h;split at h;cases h;rename_i b F D;simp at h;obtain⟨rfl,rfl⟩:=h;obtain⟨g,l,rfl,l1,p1,c1⟩:=u c a C j h1 hc;obtain⟨G,H,rfl,l2,l3,p2,c2⟩:=rL f sz t u n C b F l D c1;refine⟨g++G,H,by simp,by grind,by grind,λi y B=>?_,c2⟩;cases i with
     | zero=>
       grind
     | succ i=>
       have:=p2 i y B;rw[show(i+1)*sz=sz+i*sz from by rw[kC,ko],<-fe,o7 l1];omega
def eD.cons_inv{w:World}{S:St}{m:Mem}{a:AV}{c:List AV}{f:List Value}(h:eD w S m (a::c) f):∃v r,f=v::r/\CR w S m a v/\eD w S m c r:=by grind [eD]
mutual
theorem nL{w:World}{S:St}{m:Mem}:∀(t:Ty) {f:List AV} {x:t.T} {r:List AV} {l:List Value},zo t f=some (x,r)->eD w S m f l->
  ∃D F,l=D++F/\bW w S.I t D x/\eD w S m r F
 | .int k,f,x,r,l,h,j=>by
   simp only[zo] at h;cases f with
   | nil=>grind
   | cons a f=>
     obtain⟨v,C,rfl,g,B⟩:=j.cons_inv;cases a<;>simp_all
     case int k' c n=>
      split at h
      rotate_left
      cases h;rename_i H;cases h;have g:=fu.1 g;have:=lQ H;subst this;exact⟨[v],C,rfl,vm.2 ⟨by grind,g.2⟩,B⟩
 | .bool,f,x,r,l,h,j=>by
   simp only[zo] at h;cases f with
   | nil=>grind
   | cons a f=>
     obtain⟨v,C,rfl,g,B⟩:=j.cons_inv;cases a<;>simp_all
     case bool c b=>
      cases h;exact⟨[v],C,rfl,Ck.2<|by rw[iE.1 g],B⟩
 | .str,f,x,r,l,h,j=>by
   simp only[zo] at h;cases f with
   | nil=>grind
   | cons a f=>
     obtain⟨v,C,rfl,g,B⟩:=j.cons_inv;cases a<;>simp_all
     case str c s=>
      cases h;have g:=vO.1 g;exact⟨[v],C,rfl,AZ.2 ⟨by grind,g.2⟩,B⟩
 | .slice t,f,x,r,l,h,j=>by
   simp only[zo] at h;cases f with
   | nil=>grind
   | cons a f=>
     obtain⟨v,C,rfl,g,B⟩:=j.cons_inv;cases a<;>simp only[reduceCtorEq] at h
     case sl t' x'=>
      by_cases G:t'.beq t=true
      .rw[dif_pos G] at h;have:=Ty.eq_of_beq G;subst this;cases h;exact⟨[v],C,rfl,sO.1 g,B⟩
      simp_all
     case eT b=>
      cases h;obtain⟨a,rfl,_⟩:=g;exact⟨[_],C,rfl,eP.2 ⟨a,0,rfl,ah _,aQ _,λ_=>rfl,λi y J=>by simp_all⟩,B⟩
 | .arr n t,f,x,r,l,h,j=>by
   obtain⟨D,F,rfl,l1,l2,p,c⟩:=rL (zo t) t.size (λu y=>bW w S.I t u y) (λf x r l h j=>by
    have⟨D,F,e,g,B⟩:=nL t h j;exact⟨D,F,e,g.length,g,B⟩) n f x r l h j
   exact⟨D,F,rfl,AY.2 ⟨l2,l1,p⟩,c⟩
 | .struct ts,f,x,r,l,h,j=>by
   have⟨D,F,e,g,B⟩:=nD ts h j
   grind [bW]
 | .any n,f,x,r,l,h,j=>by
   simp only[zo] at h;split at h
   rotate_left
   cases h;obtain⟨_,rfl⟩:=h;have I:=j.length;exact⟨l.take n,l.drop n,(fo n l).symm,show(l.take n).length=n by simp_all,j.drop n⟩
theorem nD{w:World}{S:St}{m:Mem}:∀(i:List Ty) {c:List AV} {x:Ty.Ts i} {r:List AV} {g:List Value},q9 i c=some (x,r)->eD w S m c g->
  ∃f j,g=f++j/\gk w S.I i f x/\eD w S m r j
 | [],c,x,r,g,h,hc=>by
   cases h;exact⟨[],g,rfl,yD.2 rfl,hc⟩
 | [t],c,x,r,g,h,hc=>by
   have⟨f,j,e,l,u⟩:=nL t h hc
   grind [gk]
 | t::B::i,c,x,r,g,h,hc=>by
   simp only[q9] at h;cases l:zo t c with
   | none=>simp_all
   | some p=>
     rw[l] at h;simp only at h;split at h;cases h;rename_i b D u;cases h;obtain⟨f,j,rfl,p1,c1⟩:=nL t l hc;obtain⟨y,C,rfl,p2,c2⟩:=nD (B::i) u c1;exact⟨f++y,C,by simp,zW.2 ⟨f,y,rfl,p1,p2⟩,c2⟩
end
end Go.Ev
namespace Go.Ev
def mD(k:IntKind)(n:Int):k.has<|k.wrap n:=wrap_within k n
theorem ae1(k:IntKind):alm k=k.min:=by cases k<;>decide
theorem ae0(k:IntKind):alk k=k.max:=by cases k<;>decide
def kindOk(P:Program)(T:TypeId):TK->Prop
 | .bool=>P.underlying T=some .bool
 | .int k=>P.underlying T=some (.int k)
 | .str=>P.underlying T=some .string
 | .slice e=>P.underlying T=some (.slice e)
 | .arr n e=>P.underlying T=some (.array n e)
 | .ptr e=>P.underlying T=some (.pointer e)
 | .func=>∃g h v,P.underlying T=some (.func g h v)
 | .struct fs=>∃F,P.underlying T=some (.struct F)/\F.size=fs.length/\∀(i off sz:Nat) (c:Bool),fs[i]? = some (off,sz,c)->
    ∃f j,F[i]? = some f/\f.offset=off/\P.info? f.type=some j/\j.size=sz/\∀w,(isAgg f.type).run P w=.ok c w
 | .other=>True
def aoa(P:Program)(T:TypeId)(zero:List AV):Prop:=
 ∀(w:World) (S:St) (m:Mem) (i j:List AV) (f h:Array Value) (c:Bool) (g:aS->Bool),nA i zero=true->gl i j=some (c,g)->eD w S m i f.toList->eD w S m j h.toList->
  (Op.equal T (.agg f)<|.agg h).run P w=.ok (g af) w/\∀l x y,(eqGuard l T x y (.agg f)<|.agg h).run P w=.ok () w
structure Cn(P:Program)(T:TypeId)(ti:TI):Prop where
 info:∃i z,P.info? T=some i/\i.size=ti.size/\i.bytes=ti.bytes/\i.zero=some z/\(∀w S m,eD w S m ti.zero z.cells.toList)/\
  (∀t,ti.ty=some t->∀w I,bW w I t z.cells.toList t.gH)
 kind:kindOk P T ti.kind
 agg:∀w,(isAgg T).run P w=.ok ti.agg w
 ayo:ti.zero.length=ti.size
 ty:∀t,ti.ty=some t->t.size=ti.size/\t.isAgg=ti.agg
 eq:ti.eq=true->ti.agg=true->aoa P T ti.zero
 r7:∀t,ti.ty=some t->t.r7=true
def og(P:Program)(c:PT TI):Prop:=∀T f,c.get T=some f->Cn P T f
variable{c:TI}
def Cn.rJ{P:Program}{T:TypeId}(h:Cn P T c)(w:World):(sizeOf T).run P w=.ok c.size w:=by
 have⟨i,z,f,g,_⟩:=h.info
 simp_all [sizeOf,typeInfo]
def TV.Is{α:Type}:TV α->α->Prop
 | .leaf a,x=>x=a
 | .br b t e,x=>(b=true/\t.Is x)\/(b=false/\e.Is x)
 | .ao b t,x=>b=true/\t.Is x
 | .bU _,_=>False
theorem TV.bind_ok{α:Type}{R:Type}{Q:R->Prop}{G:iF->Prop}{g:String}{K:α->Tr R}:∀{i:TV α},Tr.Ok Q G (i.bind g K)->∃x,i.Is x/\Tr.Ok Q G (K x)
 | .leaf a,h=>⟨a,rfl,h⟩
 | .br b t e,h=>by
   cases b with
   | true=>have⟨x,c,f⟩:=TV.bind_ok<|h.1 rfl;exact⟨x,.inl ⟨rfl,c⟩,f⟩
   | false=>have⟨x,c,f⟩:=TV.bind_ok<|h.2 rfl;exact⟨x,.inr ⟨rfl,c⟩,f⟩
 | .ao b t,h=>by
   have⟨x,c,f⟩:=TV.bind_ok h.2;exact⟨x,⟨h.1,c⟩,f⟩
 | .bU n,h=>by grind [TV.bind,Tr.Ok]
theorem TV.GX{α β:Type}{f:α->β}{y:β}:∀{i:TV α},(i.map f).Is y->∃x,i.Is x/\y=f x
 | .leaf a,h=>⟨a,rfl,h⟩
 | .br b t e,h=>by
   rcases h with h|h
   .have⟨x,c,g⟩:=TV.GX h.2;exact⟨x,.inl ⟨h.1,c⟩,g⟩
   .have⟨x,c,g⟩:=TV.GX h.2;exact⟨x,.inr ⟨h.1,c⟩,g⟩
 | .ao b t,h=>by
   have⟨x,c,g⟩:=TV.GX h.2;exact⟨x,⟨h.1,c⟩,g⟩
 | .bU n,h=>h.elim
variable{α:Type}{x:α}
def xZ{n:Nat}{o:Option α}(h:(G4 n o).Is x):o=some x:=by
 cases o with
 | none=>exact h.elim
 | some a=>exact congrArg some<|Eq.symm h
def G1{c b:Bool}{t:TV α}(h:(OA c b t).Is x):b=true/\t.Is x:=by
 unfold OA at h;cases c with
 | true=>cases b with
   | true=>grind
   | false=>exact h.elim
 | false=>exact h
variable{S:St}
def gV(k:IntKind)(c:Bool)(f:aS->Int){w:World}{m:Mem}(h:k.has<|f af):CR w S m (xX af k c f)<|.int k<|f af:=by
 cases c<;>exact fu.2 ⟨rfl,h⟩
def jQ(c:Bool)(f:aS->Bool){w:World}{m:Mem}:CR w S m (Ao af c f)<|.bool<|f af:=by
 cases c<;>rfl
variable{d:Nat}{f:BinOp}{v:AV}
section
variable {P:Program} {w:World} {S:St} {m:Mem}
def aeN{k:IntKind}{a:Int}(h:k.has a)(n:Nat):k.has<|a.fdiv<|2^n:=by
 have c:(0:Int)<2^n:=Int.pow_pos (by decide);rw[Int.fdiv_eq_ediv_of_nonneg _<|Int.le_of_lt c];have⟨j,l⟩:=h;have i:k.min<=0:=by cases k<;>decide
 have t:(0:Int)<=k.max:=by cases k<;>decide
 have g:(1:Int)<=2^n:=c;constructor
 .by_cases f:0<=a
  .exact bu i<|Int.ediv_nonneg f<|Int.le_of_lt c
  .have:a<=a/2^n:=by
    have p:a*2^n<=a:=by
     have:=Int.mul_le_mul_of_nonpos_left (a:=a) (by omega) g;omega
    simp_all [Int.le_ediv_iff_mul_le]
   omega
 .by_cases f:0<=a
  .have:a/2^n<=a:=Int.ediv_le_self _ f;omega
  .have:a/2^n<=0:=by
    have:=Int.ediv_lt_of_lt_mul c (show a<1*2^n by omega);omega
   omega
def Ze{k:IntKind}{a b:Int}(h:k.has a):k.has<|a.tmod b:=by
 have⟨g,i⟩:=h;have u:k.min<=0:=by cases k<;>decide
 have t:(0:Int)<=k.max:=by cases k<;>decide
 by_cases c:0<=a
 .have j:=Int.tmod_nonneg b c;have l:a.tmod b<=a:=by
   have f:(a.tmod b).natAbs<=a.natAbs:=by simp_all [Nat.mod_le]
   omega
  exact⟨by omega,by omega⟩
 .have f:(a.tmod b).natAbs<=a.natAbs:=by simp_all [Nat.mod_le]
  have p:a.tmod b<=0:=by
   have:=Int.tmod_nonneg b (show 0<= -a by omega)
   simp_all
  exact⟨by omega,by omega⟩
def Lv{T:TypeId}{k l:IntKind}{c g:Bool}{a b:Int}(p:k.has a)(B:l.has b)(x:f≠.shl)(y:f≠.shr)
  (h:(PY af f k c a l g b).Is v):∃u,(binOp f T (.int k a)<|.int l b).run P w=.ok u w/\CR w S m v u:=by
 unfold PY at h;split at h;exact h.elim;rename_i t;have:=lQ t;subst this;cases f<;>simp only[ahi] at h<;>try contradiction
 case quo=>
  have⟨i,j⟩:=G1 h;have i:b≠0:=by cases g<;>simp_all [af,xB]
  cases j;refine⟨_,?_,gV k _ _<|mD _ _⟩
  simp_all [binOp_quo,Op.intDiv,af,El]
 case rem=>
  have⟨i,j⟩:=G1 h;have i:b≠0:=by cases g<;>simp_all [af,xB]
  cases j;refine⟨_,?_,gV k _ _<|Ze p⟩
  simp_all [binOp_rem,Op.intDiv,af,El]
 case add=>cases h;exact⟨_,by simp[binOp_add,Op.intArith,af,El],gV k _ _<|mD _ _⟩
 case sub=>cases h;exact⟨_,by simp[binOp_sub,Op.intArith,af,El],gV k _ _<|mD _ _⟩
 case mul=>cases h;exact⟨_,by simp[binOp_mul,Op.intArith,af,El],gV k _ _<|mD _ _⟩
 case and=>cases h;exact⟨_,by simp[binOp_and,Op.intBits,af,El],gV k _ _<|mD _ _⟩
 case or=>cases h;exact⟨_,by simp[binOp_or,Op.intBits,af,El],gV k _ _<|mD _ _⟩
 case xor=>cases h;exact⟨_,by simp[binOp_xor,Op.intBits,af,El],gV k _ _<|mD _ _⟩
 case andNot=>cases h;exact⟨_,by simp[binOp_andNot,Op.intBits,af,El],gV k _ _<|mD _ _⟩
 case eql=>cases h;exact⟨_,by simp[binOp_eql,af,xB],jQ _ _⟩
 case neq=>cases h;exact⟨_,by simp[binOp_neq,af,xB],jQ _ _⟩
 case lss=>cases h;exact⟨_,by simp[binOp_lss,af,xB],jQ _ _⟩
 case leq=>cases h;exact⟨_,by simp[binOp_leq,af,xB],jQ _ _⟩
 case gtr=>cases h;exact⟨_,by simp[binOp_gtr,af,xB],jQ _ _⟩
 case geq=>cases h;exact⟨_,by simp[binOp_geq,af,xB],jQ _ _⟩
def zy{T:TypeId}{k t:IntKind}{c i:Bool}{a b:Int}(p:k.has a)(j:f=.shl\/f=.shr)
  (h:(Lw af f k c a i b).Is v):∃u,(binOp f T (.int k a)<|.int t b).run P w=.ok u w/\CR w S m v u:=by
 have⟨g,l⟩:=G1 h;have g:0<=b:=by cases i<;>simp_all [af,xB]
 cases l;rcases j with rfl|rfl
 .exact⟨_,by simp[binOp_shl,Op.shift,jG.2 g,af,El],gV k _ _<|mD _ _⟩
 .exact⟨_,by simp[binOp_shr,Op.shift,jG.2 g,af,El],gV k _ _<|aeN p _⟩
def mj{c:BinOp}{b:Bool}{T:TypeId}{x y:Value}(i:(Op.equal T x y).run P w=.ok b w)
  (f:binOp .eql T x y=(do pure (.bool<|<-Op.equal T x y))) (g:binOp .neq T x y=(do pure (.bool<|!(<-Op.equal T x y))))
  (h:(wj c b).Is v):∃u,(binOp c T x y).run P w=.ok u w/\CR w S m v u:=by
 cases c<;>simp only[wj] at h<;>try exact h.elim
 .cases h;exact⟨_,by simp_all,iE.2 rfl⟩
 .cases h;exact⟨_,by simp_all,iE.2 rfl⟩
def Cv{T:TypeId}{g i:Array TypeId}{j:Bool}{f:Fn}{a c:Array Value}(h:P.underlying T=some (.func g i j)):
  (Op.equalIn (d+1) T (.func f a c) .nilFunc).run P w=.ok false w:=by simp[Op.equalIn,run_underlying h]
def Eo{T:TypeId}{c f:Array TypeId}{g:Bool}(h:P.underlying T=some (.func c f g)):
  (Op.equalIn (d+1) T .nilFunc .nilFunc).run P w=.ok true w:=by simp[Op.equalIn,run_underlying h]
def Ep{T e:TypeId}{a:Addr}(h:P.underlying T=some (.pointer e)):
  (Op.equalIn (d+1) T (.pointer<|some a)<|.pointer none).run P w=.ok false w:=by simp[Op.equalIn,run_underlying h]
def FX{T e:TypeId}(h:P.underlying T=some (.pointer e)):
  (Op.equalIn (d+1) T (.pointer none)<|.pointer none).run P w=.ok true w:=by simp[Op.equalIn,run_underlying h]
def ua{T e:TypeId}{a:Addr}{n c:Nat}(h:P.underlying T=some (.slice e)):
  (Op.equalIn (d+1) T (.slice (some a) n c)<|.slice none 0 0).run P w=.ok false w:=by simp[Op.equalIn,run_underlying h]
def Cw{T e:TypeId}(h:P.underlying T=some (.slice e)):
  (Op.equalIn (d+1) T (.slice none 0 0)<|.slice none 0 0).run P w=.ok true w:=by simp[Op.equalIn,run_underlying h]
def Cn.i6{T:TypeId}{k:TK}(h:Cn P T c)(f:c.kind=k):kindOk P T k:=f▸h.kind
def NL{E:PT TI}(G:og P E){J:BinOp}{T:TypeId}{x y:AV}{u v:Value}{r:AV}(xo yo:Operand)(j:CR w S m x u)(i:CR w S m y v)
  (h:(Yi af m (E.get T) J x y).Is r):∃z,(do eqGuard J T xo yo u v;binOp J T u v:Sem Value).run P w=.ok z w/\CR w S m r z:=by
 unfold Yi at h;cases x<;>simp only at h<;>try exact h.elim
 case int k c a=>
  obtain⟨rfl,O⟩:=fu.1 j;cases y<;>simp only at h<;>try exact h.elim
  case int k' c' b=>
   obtain⟨rfl,Q⟩:=fu.1 i;rw[eqGuard_at_int,pure_bind]
   cases J<;>simp only at h<;>first
    | exact zy O (.inl rfl) h
    | exact zy O (.inr rfl) h
    | exact Lv O Q (by simp) (by simp) h
 case bool c a=>
  have j:=iE.1 j;subst j;cases y<;>simp only at h<;>try exact h.elim
  case bool c' b=>
   have i:=iE.1 i;subst i;cases ht:E.get T with
   | none=>rw[ht] at h;exact h.elim
   | some ti=>
     rw[ht] at h;simp only at h;cases hk:ti.kind<;>rw[hk] at h<;>simp only at h<;>try exact h.elim
     have B:P.underlying T=some .bool:=(G T ti ht).i6 hk;cases J<;>simp only at h<;>try exact h.elim
     .cases h;exact⟨_,run_eql_bool w T a b B,jQ _ _⟩
     .cases h;exact⟨_,run_neq_bool w T a b B,jQ _ _⟩
 case agg xs=>
  obtain⟨Z,rfl,X⟩:=uN.1 j;cases y<;>simp only at h<;>try exact h.elim
  case agg ys=>
   obtain⟨vs,rfl,Y⟩:=uN.1 i;cases ht:E.get T with
   | none=>rw[ht] at h;exact h.elim
   | some ti=>
     rw[ht] at h;simp only at h;cases hea:ti.eq&&(ti.agg&&nA xs ti.zero) with
     | false=>rw[hea] at h;exact h.elim
     | true=>
       rw[hea] at h;have⟨he,C⟩:=Bool.and_eq_true_iff.1 hea;have⟨C,I⟩:=Bool.and_eq_true_iff.1 C;cases hc:gl xs ys with
       | none=>rw[hc] at h;exact h.elim
       | some p=>
         have⟨c,g⟩:=p;rw[hc] at h;have⟨N,H⟩:=(G T ti ht).eq he C w S m xs ys Z vs c g I hc X Y;cases J<;>simp only at h<;>try exact h.elim
         .cases h;refine⟨_,?_,jQ _ _⟩;simp[dN,H];simp[binOp,N]
         .cases h;refine⟨_,?_,jQ _ _⟩;simp[dN,H];simp[binOp,N,af]
 case fn f a c=>
  obtain⟨Z,vs,rfl,_,_⟩:=vk.1 j;cases y<;>simp only at h<;>try exact h.elim
  have i:=sN.1 i;subst i;rw[eqGuard_at_func,pure_bind];cases ht:E.get T with
  | none=>rw[ht] at h;exact h.elim
  | some ti=>
    rw[ht] at h;simp only at h;cases hk:ti.kind<;>rw[hk] at h<;>simp only at h<;>try exact h.elim
    have⟨ps,rs,v,B⟩:=(G T ti ht).i6 hk;exact mj (b:=false) (Cv (d:=9999) B) rfl rfl h
 case tC=>
  have j:=sN.1 j;subst j;cases y<;>simp only at h<;>try exact h.elim
  have i:=sN.1 i;subst i;rw[eqGuard_at_nilFunc,pure_bind];cases ht:E.get T with
  | none=>rw[ht] at h;exact h.elim
  | some ti=>
    rw[ht] at h;simp only at h;cases hk:ti.kind<;>rw[hk] at h<;>simp only at h<;>try exact h.elim
    have⟨ps,rs,v,B⟩:=(G T ti ht).i6 hk;exact mj (b:=true) (Eo (d:=9999) B) rfl rfl h
 case gN=>
  have j:=qN.1 j;subst j;cases y<;>simp only at h<;>try exact h.elim
  have i:=qN.1 i;subst i;rw[eqGuard_at_pointer,pure_bind];cases ht:E.get T with
  | none=>rw[ht] at h;exact h.elim
  | some ti=>
    rw[ht] at h;simp only at h;cases hk:ti.kind<;>rw[hk] at h<;>simp only at h<;>try exact h.elim
    have B:P.underlying T=some (.pointer _):=(G T ti ht).i6 hk;exact mj (b:=true) (FX (d:=9999) B) rfl rfl h
 case ptr id off=>
  rw[CR] at j;cases hm:m.at id<;>rw[hm] at h j<;>cases y<;>simp only at h<;>try exact h.elim
  subst j;have i:=qN.1 i;subst i;rw[eqGuard_at_pointer,pure_bind];cases ht:E.get T with
  | none=>rw[ht] at h;exact h.elim
  | some ti=>
    rw[ht] at h;simp only at h;cases hk:ti.kind<;>rw[hk] at h<;>simp only at h<;>try exact h.elim
    have B:P.underlying T=some (.pointer _):=(G T ti ht).i6 hk;exact mj (b:=false) (Ep (d:=9999) B) rfl rfl h
 case eT b=>
  obtain⟨a,rfl,Q⟩:=m_.1 j;cases b<;>(try simp only at h)<;>try exact h.elim
  cases y<;>(try simp only at h)<;>try exact h.elim
  rename_i K;obtain⟨a2,rfl,D⟩:=m_.1 i;cases K<;>(try simp only at h)<;>try exact h.elim
  have N:=Q rfl;have H:=D rfl;subst N;subst H;rw[eqGuard_at_slice,pure_bind];cases ht:E.get T with
  | none=>rw[ht] at h;exact h.elim
  | some ti=>
    rw[ht] at h;simp only at h;cases hk:ti.kind<;>rw[hk] at h<;>simp only at h<;>try exact h.elim
    have B:P.underlying T=some (.slice _):=(G T ti ht).i6 hk;exact mj (b:=true) (Cw (d:=9999) B) rfl rfl h
 case own id=>
  rw[CR] at j;cases hm:m.at id<;>rw[hm] at h j<;>cases y<;>(try simp only at h)<;>try exact h.elim
  rename_i K;obtain⟨a2,rfl,D⟩:=m_.1 i;cases K<;>(try simp only at h)<;>try exact h.elim
  have H:=D rfl;subst H;rename_i fz t l;have W:∃a n F,u=.slice a n F/\(l≠ []->∃b,a=some b):=by grind
  obtain⟨a,n,F,rfl,V⟩:=W;rw[eqGuard_at_slice,pure_bind];cases ht:E.get T with
  | none=>rw[ht] at h;exact h.elim
  | some ti=>
    rw[ht] at h;simp only at h;cases hk:ti.kind<;>rw[hk] at h<;>simp only at h<;>try exact h.elim
    have B:P.underlying T=some (.slice _):=(G T ti ht).i6 hk;have hl:l≠ []:=λe=>by
     subst e;exact absurd (show af.c .neq (af.l ([]:List t.T)) 0=true from h.1) (by simp[af,xB])
    obtain⟨b,rfl⟩:=V hl;exact mj (b:=false) (ua (d:=9999) B) rfl rfl h.2
 case sl t l=>
  cases y<;>(try simp only at h)<;>try exact h.elim
  rename_i K;obtain⟨a2,rfl,D⟩:=m_.1 i;cases K<;>(try simp only at h)<;>try exact h.elim
  have H:=D rfl;subst H;have⟨a,F,e,h3,h4,h5,_⟩:=eP.1<|sO.1 j;have e:u=.slice a l.length F:=by simp_all
  subst e;rw[eqGuard_at_slice,pure_bind];cases ht:E.get T with
  | none=>rw[ht] at h;exact h.elim
  | some ti=>
    rw[ht] at h;simp only at h;cases hk:ti.kind<;>rw[hk] at h<;>simp only at h<;>try exact h.elim
    have B:P.underlying T=some (.slice _):=(G T ti ht).i6 hk;cases a with
    | none=>
      have h6:l=[]:=bg (by simp_all);subst h6;exact absurd (show af.c .neq (af.l ([]:List t.T)) 0=true from h.1) (by simp[af,xB])
    | some a=>exact mj (b:=false) (ua (d:=9999) B) rfl rfl h.2
end
end Go.Ev
namespace Go.Ev
variable{E:PT TI}{c f:List Value}{off:Nat}{p:AV}{u v:Value}
section
variable {P:Program} {w0:nE} {w:World} {S:St} {m:Mem}
def Iy{n:Nat}{c l:List AV}(h:eZ off n c=some l):off+n<=c.length/\l=(c.drop off).take n:=by
 unfold eZ at h;split at h
 all_goals simp_all
def eD.eZ{n:Nat}{f l:List AV}(h:eZ off n f=some l)(g:eD w S m f c):
  ((c.drop off).take n).length=n/\eD w S m l ((c.drop off).take n):=by
 obtain⟨i,rfl⟩:=Iy h;have:=g.length;exact⟨by grind,(g.drop off).take n⟩
def lV.sub{b o:Nat}(h:lV w b o f)(off n:Nat):lV w b (o+off)<|(f.drop off).take n:=by
 intro j u c;rw[cX] at c;split at c
 .rw[dh] at c;have:=h (off+j) u c
  grind
 grind
theorem jm{g:Nat}{c:Array Value}{T:TypeId}{f:Nat×Nat}(h:w.heap[g]? = some (.cells c T f))(off n:Nat):lV w g off ((c.toList.drop off).take n):=by
 intro j u i
 grind [cell_of_row]
def LS(K:WR w0 w S m){n:Nat}{I:List AV}(c:CR w S m p v)(h:Qs af m p n=some I):
  ∃b off g,v=.pointer (some ⟨b,off,none⟩)/\g.length=n/\eD w S m I g/\lV w b off g:=by
 unfold Qs at h;cases p<;>simp only at h<;>try cases h
 case ptr id off=>
  rw[CR] at c;have f:=K.box id;cases hm:m.at id<;>rw[hm] at h c f<;>simp only at h<;>try cases h
  have⟨g,T,O,B,_,F⟩:=f;have⟨D,C⟩:=eD.eZ h F
  grind [jm]
 case kR id i off=>
  rw[CR] at c;have f:=K.box id;cases hm:m.at id<;>rw[hm] at h c f<;>simp only at h<;>try cases h
  rename_i fz t x;obtain⟨k,rfl,V,rfl⟩:=c;have⟨g,T,O,B,_,F,D⟩:=r8.blk f<|ne_of_lt V;have C:=D k _<|q8 V;have G:=lI (m:=m) t C;have⟨Q,Z⟩:=eD.eZ h G;refine⟨_,_,_,rfl,Q,Z,?_⟩;exact(jm B _ _).sub off n
 case zp id off k t i=>
  rw[CR] at c;have f:=K.box id;cases hm:m.at id<;>rw[hm] at h c f<;>simp only at h<;>try cases h
  rename_i fz J;obtain⟨j,rfl,hj,rfl⟩:=c;have⟨g,T,O,B,_,F⟩:=f;cases H:Nat.beq t.size n<;>rw[H] at h<;>(try simp only at h)<;>try (cases h;done)
  have H:=vL H;subst H;cases ht:eZ off (k*t.size) J with
  | none=>simp_all
  | some l=>
    rw[ht] at h;simp only at h;have⟨D,C⟩:=eD.eZ ht F;split at h
    rotate_left
    cases h;rename_i x r hd;cases h;have⟨W,X,e,l1,l2,pr,_⟩:=rL (zo t) t.size (λu y=>bW w S.I t u y) (λI x r g h N=>by
     have⟨W,X,e,B,Y⟩:=nL t h N;exact⟨W,X,e,B.length,B,Y⟩) k l x r _ hd C
    have G:=pr j _<|q8 (by omega);refine⟨_,_,_,rfl,G.length,lI t G,?_⟩;have Q:=(jm B off<|k*t.size).sub (j*t.size) t.size
    simp_all
 case nI t x off=>
  obtain⟨b,o,g,rfl,hI,hl,hr,N⟩:=rf.1 c;have⟨D,C⟩:=eD.eZ h<|lI (m:=m) t N;exact⟨_,_,_,rfl,D,C,hr.sub off n⟩
def BR{b:Nat}(h:lV w b off c):(loadCells ⟨b,off,none⟩ c.length).run P w=.ok c.toArray w:=
 run_loadCells_list w ⟨b,off,none⟩ c λj v f=>by
  have:=h j v f
  grind [Addr.add]
def My{b:Nat}(h:lV w b off [u]):(load ⟨b,off,none⟩).run P w=.ok u w:=by
 have:=h 0 u rfl
 simp_all
def Dv{agg:Bool}{c:List AV}{v:AV}(h:Sc agg c=some v)(g:eD w S m c f):
  (agg=true/\CR w S m v (.agg f.toArray))\/(agg=false/\∃u,f=[u]/\CR w S m v u):=by
 cases agg with
 | true=>cases h;exact .inl ⟨rfl,uN.2 ⟨_,rfl,by omega⟩⟩
 | false=>
   cases c with
   | nil=>cases h
   | cons a r=>
     cases r with
     | cons _ _=>cases h
     | nil=>
       cases h
       simp_all [eD]
theorem Bl(t:og P E)(x:WR w0 w S m){T:TypeId}{r:AV}(B:CR w S m p v)(h:(F2 af (E.get T) m p).Is r):
  ∃b off u,v=.pointer (some ⟨b,off,none⟩)/\(loadVar T ⟨b,off,none⟩).run P w=.ok u w/\CR w S m r u:=by
 unfold F2 at h;cases ht:E.get T with
 | none=>rw[ht] at h;exact h.elim
 | some ti=>
   rw[ht] at h;simp only at h;have c:=t T ti ht;split at h;exact h.elim;rename_i C y;replace h:=xZ h;obtain⟨b,off,D,rfl,j,l,i⟩:=LS x B y;refine⟨b,off,?_⟩;rcases Dv h l with ⟨f,g⟩|⟨f,u,rfl,g⟩
   .refine⟨_,rfl,?_,g⟩;simp[loadVar,dN,c.agg,dF,f,if_true,c.rJ];rw[<-j,BR i];rfl
   .refine⟨u,rfl,?_,g⟩;simp only[loadVar,dN,c.agg,f];exact My i
def PZ{g:UnOp}{x:AV}{r:AV}(f:CR w S m x u)(h:(akR af g x).Is r):∃z,(Op.unary g u).run P w=.ok z w/\CR w S m r z:=by
 unfold akR at h;cases g<;>cases x<;>simp only at h<;>try exact h.elim
 case neg.int k c n=>
  obtain⟨rfl,i⟩:=fu.1 f;cases h;exact⟨_,by rfl,gV k _ _<|mD _ _⟩
 case xor.int k c n=>
  obtain⟨rfl,i⟩:=fu.1 f;cases h;exact⟨_,by rfl,gV k _ _<|mD _ _⟩
 case not.bool c b=>
  have f:=iE.1 f;subst f;cases h;exact⟨_,by rfl,jQ _ _⟩
def sM{b n:Nat}:(⟨b,off,none⟩:Addr).add n=⟨b,off+n,none⟩:=kl b off n
def Bi(y:og P E){T:TypeId}{i:Nat}{r:AV}(c:CR w S m p v)(h:(xF m (E.get T) p i).Is r):
  ∃z,(Instr.fieldAt T v i).run P w=.ok z w/\CR w S m r z:=by
 unfold xF at h;cases ht:E.get T with
 | none=>rw[ht] at h;exact h.elim
 | some ti=>
   rw[ht] at h;have⟨k,size,g,agg,zero,ty,Q⟩:=ti;cases k<;>simp only at h<;>try exact h.elim
   rename_i u;have⟨F,X,B,G⟩:=(y T _ ht).i6 (k:=.struct u) rfl;cases hi:u[i]? with
   | none=>rw[hi] at h;exact h.elim
   | some q=>
     have⟨off,sz,O⟩:=q;rw[hi] at h;simp only at h;split at h;exact h.elim;obtain⟨f,j,V,rfl,W,rfl,_⟩:=G i _ _ _ hi;replace hz:j.size≠0:=λe=>by simp_all
     have l:∀b o:Nat,v=.pointer (some ⟨b,o,none⟩)->(Instr.fieldAt T v i).run P w=.ok (.pointer<|some ⟨b,o+f.offset,none⟩) w:=by simp_all [run_underlying,sM,Instr.fieldAt,Instr.sureAddr,fieldPlace,sizeOf,typeInfo]
     unfold XB at h;cases p<;>simp only at h<;>try (cases h;done)
     case ptr id o=>
      rw[CR] at c;cases hm:m.at id<;>rw[hm] at c h<;>simp only at c h<;>try (cases h;done)
      cases h
      grind [CR]
     case kR id i o=>
      rw[CR] at c;cases hm:m.at id<;>rw[hm] at c h<;>simp only at c h<;>try (cases h;done)
      cases h
      grind [CR]
     case nI t x o=>
      cases h;have⟨b,K,N,J,C,H,I,D⟩:=rf.1 c;exact⟨_,l _ _ J,rf.2 ⟨b,K,N,by grind,C,H,I,D⟩⟩
def QC{T:TypeId}{i:Bool}{g:Array Value}{sz:Nat}{j l:List AV}{v:AV}(c:(isAgg T).run P w=.ok i w)(f:(sizeOf T).run P w=.ok sz w)
  (x:eD w S m j g.toList) (y:eZ off sz j=some l) (D:Sc i l=some v):∃z,(part T g off).run P w=.ok z w/\CR w S m v z:=by
 have⟨F,t⟩:=eD.eZ y x;rcases Dv D t with ⟨p,h⟩|⟨p,u,B,h⟩
 .refine⟨_,?_,h⟩;simp[part,dN,c,p,dF,if_true,f,iD]
  grind
 .refine⟨u,?_,h⟩;have C:g.toList[off]? = some u:=by
   have:=congrArg (λl:List Value=>l[0]?) B
   grind
  simp_all [part]
def iO{c f:Bool}{i n:Int}{t:TV AV}{r:AV}(h:(mf af c i f n t).Is r):0<=i/\i<n/\t.Is r:=by
 unfold mf at h;cases hc:c&&f with
 | true=>
   rw[hc] at h;cases g:af.and (af.c .leq 0 i) (af.c .lss i n) with
   | false=>rw[g] at h;exact h.elim
   | true=>
     simp_all [af,xB]
 | false=>
   rw[hc] at h;have⟨g,h⟩:=h
   simp_all [af,xB]
theorem wrap_small{n:Int}(c:0<=n)(f:n<=4611686018427387904):IntKind.i64.wrap n=n:=by grind [IntKind.wrap,IntKind.bits]
def Bj(G:og P E)(hW:WR w0 w S m){T:TypeId}{x ix:AV}{vi:Value}{r:AV}(D:CR w S m x v)(hi:CR w S m ix vi)
  (h:(xG af (E.get T) E.get m x ix).Is r):∃z,(Instr.indexAt T v vi).run P w=.ok z w/\CR w S m r z:=by
 unfold xG at h;cases ix<;>simp only at h<;>try exact h.elim
 rename_i k c i;obtain⟨rfl,hk⟩:=fu.1 hi;cases ht:E.get T with
 | none=>rw[ht] at h;exact h.elim
 | some ti=>
   rw[ht] at h;have⟨kd,size,Q,agg,zero,ty,eq⟩:=ti;cases kd<;>simp only at h<;>try exact h.elim
   case arr n e=>
    have Y:P.underlying T=some (.array n e):=(G T _ ht).i6 (k:=.arr n e) rfl;cases hte:E.get e with
    | none=>rw[hte] at h;cases x<;>exact h.elim
    | some te=>
      rw[hte] at h;have J:=(G e te hte).rJ w;have F:∀(b off:Nat) (_:0<=i) (_:i<n),(Instr.indexAt T (.pointer<|some ⟨b,off,none⟩)<|.int k i).run P w=.ok (.pointer<|some ⟨b,off+i.toNat*te.size,none⟩) w:=by
       intro b off g f;simp[Instr.indexAt,asIntOf,run_underlying Y,Instr.sureAddr,g,f,J,sM]
      cases x<;>simp only at h<;>try exact h.elim
      case nI t y off=>
       cases c with
       | false=>exact h.elim
       | true=>
         simp only at h;have⟨g,f,p⟩:=iO h;cases p;obtain⟨b,o,us,rfl,q⟩:=rf.1 D;exact⟨_,F _ _ g f,rf.2 ⟨b,o,us,by rw[Nat.add_assoc],q⟩⟩
      rename_i id off;rw[CR] at D;cases hm:m.at id<;>rw[hm] at D h<;>simp_all<;>try exact h.elim
      have j:=F (S.σ id) off;cases c with
      | true=>
        have⟨g,f,p⟩:=iO h;cases p;exact⟨_,j g f,by rw[CR,hm]⟩
      | false=>
        simp only at h;split at h
        rotate_left
        exact h.elim;rename_i t B;have⟨g,f,p⟩:=iO h;cases p;exact⟨_,j g f,by rw[CR,hm];exact⟨i.toNat,by omega,by omega,by rw[((G e te hte).ty t B).1]⟩⟩
   case slice e=>
    have Y:P.underlying T=some (.slice e):=(G T _ ht).i6 (k:=.slice e) rfl;cases hte:E.get e with
    | none=>rw[hte] at h;exact h.elim
    | some te=>
      rw[hte] at h;have J:=(G e te hte).rJ w;have j:∀(b o len u:Nat) (_:0<=i) (_:i<len),(Instr.indexAt T (.slice (some ⟨b,o,none⟩) len u)<|.int k i).run P w=.ok (.pointer<|some ⟨b,o+i.toNat*te.size,none⟩) w:=by
       intro b o len u g f;simp[Instr.indexAt,asIntOf,run_underlying Y,g,f,J,sM]
      cases x<;>simp only at h<;>try exact h.elim
      case sl t l=>
       split at h
       rotate_left
       exact h.elim;rename_i C;have⟨g,f,p⟩:=iO h;cases p;have⟨a,u,e1,h3,h4,V,W⟩:=eP.1<|sO.1 D;replace f:i<(l.length:Int):=f;have h7:=q8 (t:=t) (x:=l) (i:=i.toNat) (by omega);obtain⟨b,off,us,rfl,hI,Z,hr,hc⟩:=W _ _ h7;cases e1;exact⟨_,j _ _ _ _ g f,rf.2 ⟨b,off+i.toNat*t.size,us,by simp_all,hI,Z,hr,hc⟩⟩
      case own id=>
       rw[CR] at D;cases hm:m.at id<;>rw[hm] at D h<;>simp_all<;>try exact h.elim
       rename_i fz t l;split at h
       rotate_left
       exact h.elim;rename_i C;replace C:=vL C;have⟨g,f,p⟩:=iO h;cases p;replace f:i<(l.length:Int):=f;obtain⟨u,rfl,h3,_⟩:=own_ne D<|hW.vd hm<|ne_of_lt (k:=i.toNat) (by omega);exact⟨_,j _ _ _ _ g f,by rw[CR,hm];grind⟩
      case wq id sz c' lo len=>
       have hb:=hW.box id;rw[CR] at D;cases hm:m.at id<;>rw[hm] at D h hb<;>simp only at D h<;>try exact h.elim
       case arr fz t l=>
        split at h
        rotate_left
        exact h.elim;rename_i C;replace C:=vL C;have⟨g,f,p⟩:=iO h;cases p;obtain⟨K,n0,u,a,rfl,rfl,rfl,V,W,X,rfl,N,_⟩:=D;have H:=N (by omega);subst H;have⟨Z,_⟩:=hb;rw[jb] at Z;refine⟨_,j _ _ _ _ g f,?_⟩;rw[CR,hm];refine⟨K+i.toNat,?_,by omega,?_⟩
        .show IntKind.i64.wrap _=_;rw[wrap_small (by omega)<|by omega];omega
        grind
       case cH fz cs=>
        obtain⟨K,n0,u,a,rfl,rfl,h4,V,W,X,rfl,N⟩:=D;cases hcc:c&&(c'&&Nat.beq sz te.size) with
        | true=>
          rw[hcc] at h;simp only[eH] at hcc;have C:=vL hcc.2.2;have⟨g,f,p⟩:=iO h;cases p;have H:=N (by omega);subst H;refine⟨_,j _ _ _ _ g f,?_⟩;rw[CR,hm];rw[show((K:Int)+i).toNat=K+i.toNat from by omega,fD,C]
        | false=>
          rw[hcc] at h;simp only at h;cases B:te.ty with
          | none=>rw[B] at h;exact h.elim
          | some t=>
            rw[B] at h;cases hc2:c'&&Nat.beq sz te.size with
            | false=>
              rw[hc2] at h;simp only at h;split at h
              rotate_left
              exact h.elim;rename_i I;rw[eH] at I;have C:=vL I.1;have O:0<te.size:=KE I.2;have⟨g,f,p⟩:=iO h;cases p;have H:=N (by omega);subst H;refine⟨_,j _ _ _ _ g f,?_⟩;rw[jb] at h4;rw[CR,hm];refine⟨K+i.toNat,?_,?_,?_⟩
              .show IntKind.i64.wrap _=_;rw[wrap_small (by omega)<|by omega];omega
              .have h9:(K+i.toNat+1)*te.size<=cs.length:=aV (Nat.mul_le_mul (by omega)<|iC C.symm) V;exact(Nat.le_div_iff_mul_le O).2 h9
              .rw[((G e te hte).ty t B).1,C,fD];simp
            | true=>
              rw[hc2] at h;simp only[eH] at hc2;have C:=vL hc2.2;have⟨g,f,p⟩:=iO h;cases p;have H:=N (by omega);subst H;refine⟨_,j _ _ _ _ g f,?_⟩;rw[CR,hm];exact⟨i.toNat,by omega,by omega,by rw[((G e te hte).ty t B).1];grind⟩
end
end Go.Ev
namespace Go.Ev
section
variable {P:Program} {w0:nE} {w:World} {S:St} {m:Mem}
def PU{t:Ty}{T:TypeId}{c:Array Value}{off:Nat}{x:t.T}(f:(isAgg T).run P w=.ok t.isAgg w)(j:(sizeOf T).run P w=.ok t.size w)
  (l:bW w S.I t ((c.toList.drop off).take t.size) x) (h:off+t.size<=c.size):∃z,(part T c off).run P w=.ok z w/\CR w S m (UF af t x) z:=by
 cases ht:t.isAgg with
 | true=>
   refine⟨.agg<|c.extract off<|off+t.size,?_,Bf ?_⟩
   all_goals simp_all [part,mO]
 | false=>
   have i:t.size=1:=by cases t<;>first|rfl|grind [Ty.isAgg]
   have g:off<c.size:=by omega
   refine⟨c[off],?_,Bf ?_⟩
   all_goals simp_all [AX,part,mO]
def Jn{E:PT TI}(K:og P E){T:TypeId}{x Q:AV}{v vi:Value}{r:AV}(hx:CR w S m x v)(hi:CR w S m Q vi)
  (h:(Lu af (E.get T) E.get x Q).Is r):∃z,(Instr.index T v vi).run P w=.ok z w/\CR w S m r z:=by
 unfold Lu at h;cases Q<;>simp only at h<;>try exact h.elim
 rename_i k c i;obtain⟨rfl,hk⟩:=fu.1 hi;cases ht:E.get T with
 | none=>rw[ht] at h;exact h.elim
 | some ti=>
   rw[ht] at h;obtain⟨kd,size,I,agg,zero,ty,eq⟩:=ti;cases kd<;>(try simp only at h)<;>try exact h.elim
   case arr n e=>
    have hT:P.underlying T=some (.array n e):=(K T _ ht).i6 (k:=.arr n e) rfl;cases x<;>(try simp only at h)<;>try exact h.elim
    rename_i J;obtain⟨W,rfl,B⟩:=uN.1 hx;cases hte:E.get e with
    | none=>rw[hte] at h;exact h.elim
    | some te=>
      rw[hte] at h;have G:=K e te hte;have j:=G.rJ w;cases c with
      | true=>
        simp only at h;cases hl:eZ (i.toNat*te.size) te.size J with
        | none=>rw[hl] at h;exact h.elim
        | some l=>
          rw[hl] at h;simp only at h;split at h
          rotate_left
          exact h.elim;rename_i v hv;obtain⟨p,f,g⟩:=iO h;cases g;obtain⟨z,D,F⟩:=QC (T:=e) (G.agg w) j B hl hv
          simp_all [run_underlying,Instr.index,asIntOf]
      | false=>
        simp only at h;cases hty:te.ty with
        | none=>rw[hty] at h;exact h.elim
        | some t=>
          rw[hty] at h;simp only at h;split at h
          rotate_left
          exact h.elim;rename_i l rr hd;obtain⟨p,f,g⟩:=iO h;cases g;obtain⟨ac,O⟩:=G.ty t hty;obtain⟨H,V,X,l1,l2,pr,_⟩:=rL (zo t) t.size (λu y=>bW w S.I t u y) (λJ x r W h hc=>by
           obtain⟨H,V,e,f,g⟩:=nL t h hc;exact⟨H,V,e,f.length,f,g⟩) n J l rr _ hd B
          have Y:=pr i.toNat _<|q8 (by omega);have ab:i.toNat*t.size+t.size<=n*t.size:=by
           have:=aH t.size (show i.toNat+1<=n by omega)
           grind
          have Z:W.size=H.length+V.length:=by
           have:=congrArg List.length X
           grind
          have h7:(H.drop<|i.toNat*t.size).take t.size=(W.toList.drop<|i.toNat*t.size).take t.size:=by grind
          rw[h7] at Y;obtain⟨z,h8,h9⟩:=PU (m:=m) (T:=e) (by rw[O];exact G.agg w) (by simp_all) Y (by omega);refine⟨z,?_,h9⟩
          simp_all [run_underlying,Instr.index,asIntOf]
   case str=>
    have hT:P.underlying T=some .string:=(K T _ ht).i6 (k:=.str) rfl;cases x<;>(try simp only at h)<;>try exact h.elim
    rename_i c' s;obtain⟨rfl,hs⟩:=vO.1 hx;have C:∀(_:0<=i) (_:i<(s.length:Int)),(Instr.index T (.string ⟨s.toArray⟩)<|.int k i).run P w=.ok (.int .u8<|af.byte s i) w/\IntKind.u8.has (af.byte s i):=by
     intro p f;have N:i.toNat<s.length:=by omega
     have hg:(ByteArray.mk s.toArray)[i.toNat]? = some s[i.toNat]:=by
      have j:i.toNat<(ByteArray.mk s.toArray).size:=N;rw[getElem?_pos (ByteArray.mk s.toArray) i.toNat j];rfl
     have hb:af.byte s i=(s[i.toNat].toNat:Int):=by
      show((s.getD i.toNat 0).toNat:Int)=_
      simp_all
     refine⟨?_,?_⟩
     .simp_all [run_underlying,Instr.index,asIntOf]
     .rw[hb];have:=s[i.toNat].toNat_lt;have X:IntKind.u8.min=0:=by decide
      have e2:IntKind.u8.max=255:=by decide
      constructor<;>omega
    cases hcc:c&&c' with
    | true=>
      rw[hcc] at h;obtain⟨p,f,g⟩:=iO h;cases g;obtain⟨D,F⟩:=C p f;exact⟨_,D,fu.2 ⟨rfl,F⟩⟩
    | false=>
      rw[hcc] at h;obtain⟨p,f,g⟩:=iO h;cases g;obtain⟨D,F⟩:=C p f;exact⟨_,D,fu.2 ⟨rfl,F⟩⟩
def Fq(d:Int)(o:Option Value)(l:Int):Prop:=(o=none/\l=d)\/∃k,o=some (.int k l)
def pI{f:Operand->AV}{i:Operand->Value}(j:∀x,CR w S m (f x)<|i x){c c1:Bool}{d l:Int}{o:Option Operand}(h:bound c d (o.map f)=some (c1,l)):Fq d (o.map i) l:=by
 cases o with
 | none=>cases h;exact .inl ⟨rfl,rfl⟩
 | some x=>
   refine .inr ?_;have g:=j x;simp only[o_] at h ⊢;cases ha:f x<;>rw[ha] at h g<;>simp_all<;>try (cases h;done)
   cases h;exact⟨_,by rw[(fu.1 g).1]⟩
def BB{c:Bool}{l h n:Int}{t:TV AV}{r:AV}(f:(KF af c l h n t).Is r):0<=l/\l<=h/\h<=n/\t.Is r:=by
 unfold KF at f;cases c with
 | true=>
   cases g:af.and (af.c .leq 0 l) (af.and (af.c .leq l h)<|af.c .leq h n) with
   | false=>rw[g] at f;exact f.elim
   | true=>
     simp_all [af,xB]
 | false=>
   have⟨g,f⟩:=f
   simp_all [af,xB]
def w9{i:Bool}{len f:Nat}{p j:Option Value}{l h:Int}(B:Fq 0 p l)(u:Fq len j h)(t:0<=l)(C:l<=h)(D:h<=f) :
  (Instr.sliceBounds i len f p j none).run P w=.ok (l.toNat,h.toNat,f) w:=by
 have a1:∀k (y:Nat) c,l<=y->(Instr.sliceBound (.int k l) y c).run P w=.ok l.toNat w:=λk y c g=>run_sliceBound w k l y c t g;have a2:∀k (y:Nat) c,h<=y->(Instr.sliceBound (.int k h) y c).run P w=.ok h.toNat w:=λk y c g=>run_sliceBound w k h y c (by omega) g;have x:l<=(h.toNat:Int):=by omega
 rcases B with ⟨rfl,rfl⟩|⟨k,rfl⟩<;>rcases u with ⟨rfl,rfl⟩|⟨F,rfl⟩
 all_goals simp_all [Instr.sliceBounds]
def bW.sub{t:Ty}{I:Nat->Prop}{a:Option Addr}{c:Nat}{x:List t.T}(h:bW w I (.slice t) [.slice a x.length c] x){l hh:Nat}(J:l<=hh)(K:hh<=x.length) :
  bW w I (.slice t) [.slice (if c=l then a else a.map (·.add (l*t.size))) (hh-l)<|c-l] ((x.take hh).drop l):=by
 have⟨H,j,e,N,O,Q,p⟩:=eP.1 h;cases e;have f:((x.take hh).drop l).length=hh-l:=by grind
 refine eP.2 ⟨_,c-l,by rw[f],by omega,by omega,?_,λi y g=>?_⟩
 .intro F;split at F
  all_goals simp_all
 .rw[dh,cX] at g;split at g
  .rename_i D;obtain⟨b,off,G,rfl,u,C,V,B⟩:=p _ _ g;refine⟨b,off+l*t.size,G,?_,u,C,?_,B⟩
   .rw[if_neg<|by omega];simp[sM]
   grind
  grind
end
end Go.Ev
namespace Go.Ev
variable{f:Operand->AV}
section
variable {P:Program} {w0:nE} {w:World} {S:St} {m:Mem}
def HY{T e:TypeId}(u:P.underlying T=some (.slice e)){sz:Nat}(f:(sizeOf e).run P w=.ok sz w){a:Option Addr}{len c:Nat}{i g:Option Value}{l h:Int}
  (y:Fq 0 i l) (x:Fq len g h) (j:0<=l) (p:l<=h) (t:h<=c) :
  (Instr.sliceAt T (.slice a len c) i g none).run P w=.ok (.slice (if c=l.toNat then a else a.map (·.add (l.toNat*sz))) (h.toNat-l.toNat)<|c-l.toNat) w:=by
 simp[Instr.sliceAt,dN,run_underlying u,dF,Instr.slice,w9 y x j p t,f,iD]
def F5(hW:WR w0 w S m){i:Operand->Value}(D:∀x,CR w S m (f x)<|i x){T e:TypeId}(Q:P.underlying T=some (.slice e)){sz:Nat}(C:(sizeOf e).run P w=.ok sz w)
  {u:Operand} {H G p:Option Operand} {r:AV} (h:(F4 af sz m (f u) (H.map f) (G.map f)<|p.map f).Is r) :
  ∃z,(Instr.sliceAt T (i u) (H.map i) (G.map i)<|p.map i).run P w=.ok z w/\CR w S m r z:=by
 have j:=D u;unfold F4 at h;cases ha:f u<;>rw[ha] at h j<;>(try simp only at h)<;>try exact h.elim
 case sl t s=>
  split at h;exact h.elim;rename_i g;replace g:=vL g;have⟨a,c,e1,Y,h4,h5,h6⟩:=eP.1<|sO.1 j;have F:i u=.slice a s.length c:=by grind
  rw[F];cases p with
  | none=>
    cases hb1:bound true 0 (H.map f) with
    | none=>rw[hb1] at h;exact h.elim
    | some p1=>
      have⟨c1,l⟩:=p1;rw[hb1] at h;cases hb2:bound false (af.l s) (G.map f) with
      | none=>rw[hb2] at h;exact h.elim
      | some p2=>
        have⟨c2,B⟩:=p2;rw[hb2] at h;have⟨I,J,y,K⟩:=BB h;cases K;have y:B<=(s.length:Int):=y;refine⟨_,HY Q C (pI D hb1) (pI (d:=(s.length:Int)) D hb2) I J<|by omega,sO.2 ?_⟩;have:=bW.sub (by rw[F] at j;exact sO.1 j) (l:=l.toNat) (hh:=B.toNat) (by omega) (by omega);rw[g] at this;exact this
  | some p=>exact h.elim
 case own id=>
  rw[CR] at j;cases hm:m.at id<;>simp_all<;>(try simp only at j h)<;>try exact h.elim
  rename_i fz t s;split at h;exact h.elim;rename_i g;replace g:=vL g;have O:∃a c,i u=.slice a s.length c/\s.length<=c/\(a=none->c=0)/\(s≠ []->a=some ⟨S.σ id,S.δ id,none⟩)/\(S.vd id=true->c=0)/\(S.vd id=false->a=some ⟨S.σ id,S.δ id,none⟩/\∃W T X,w.heap[S.σ id]? = some (.cells W T X)/\S.δ id+c*t.size<=W.size):=by grind
  have⟨a,c,F,Y,Z,h8,h9⟩:=O;have V:=hW.box id;rw[hm] at V;have⟨N,_⟩:=V;rw[jb] at N;rw[F];cases p with
  | none=>
    cases hb1:bound true 0 (H.map f) with
    | none=>rw[hb1] at h;exact h.elim
    | some p1=>
      have⟨c1,l⟩:=p1;rw[hb1] at h;cases hb2:bound false (af.l s) (G.map f) with
      | none=>rw[hb2] at h;exact h.elim
      | some p2=>
        have⟨c2,B⟩:=p2;rw[hb2] at h;have⟨I,J,y,K⟩:=BB h;cases K;have y:B<=(s.length:Int):=y;refine⟨_,HY Q C (pI D hb1) (pI (d:=(s.length:Int)) D hb2) I J<|by omega,?_⟩;rw[CR,hm];refine⟨l.toNat,B.toNat-l.toNat,c-l.toNat,_,by omega,?_,rfl,by omega,by omega,?_,rfl,λa5=>?_,λe=>⟨λk=>?_,λk=>?_⟩⟩
        .show IntKind.i64.wrap _=_;rw[wrap_small (by omega)<|by omega];omega
        .grind
        .rw[if_neg<|by omega,h8<|ne_of_lt (k:=l.toNat)<|by omega];simp[sM,g]
        .simp_all
        .obtain⟨rfl,k2⟩:=h9.2 k;rw[e];exact⟨by simp[sM],k2⟩
  | some p=>exact h.elim
def Cy{g:Operand->AV}{j:Operand->Value}(N:∀x,CR w S m (g x)<|j x){T e:TypeId}{n:Nat}(W:P.underlying T=some (.array n e)){c:TI}(K:(sizeOf e).run P w=.ok c.size w)
  {I:Operand} {H G:Option Operand} {r:AV} (h:(z_ af n c m (g I) (H.map g)<|G.map g).Is r) :
  ∃z,(Instr.sliceAt T (j I) (H.map j) (G.map j) none).run P w=.ok z w/\CR w S m r z:=by
 have B:=N I;unfold z_ at h;cases ha:g I<;>rw[ha] at h B<;>(try simp only at h)<;>try exact h.elim
 rename_i id off;rw[CR] at B;cases hm:m.at id<;>rw[hm] at B h<;>(try simp only at B h)<;>try exact h.elim
 rename_i fz V;rw[B];cases hz:Nat.beq c.size 0 with
 | true=>rw[hz] at h;exact h.elim
 | false=>
   split at h
   rotate_left
   exact h.elim;rename_i Q;simp only[eH] at Q;have⟨p,t,u⟩:=Q;replace p:=vL p;replace t:=KE t;replace u:=KE u;have y:off=off/c.size*c.size:=by grind [Nat.div_add_mod]
   cases hb1:bound true 0 (H.map g) with
   | none=>rw[hb1] at h;exact h.elim
   | some p1=>
     have⟨c1,l⟩:=p1;rw[hb1] at h;cases hb2:bound true n (G.map g) with
     | none=>rw[hb2] at h;exact h.elim
     | some p2=>
       have⟨c2,i⟩:=p2;rw[hb2] at h;simp only at h
       have O:∀(_:0<=l) (_:l<=i) (_:i<=n),∃z,(Instr.sliceAt T (.pointer<|some ⟨S.σ id,off,none⟩) (H.map j) (G.map j) none).run P w=.ok z w/\
         ∃(l1 n1 f:Nat) (a1:Option Addr),((off/c.size:Nat):Int)+l=l1/\i-l=n1/\l1+n1<=gg/\(l1+f)*c.size<=V.length/\n1<=f/\(a1=none->f=0)/\z=.slice a1 n1 f/\(n1≠0->a1=some ⟨S.σ id,l1*c.size,none⟩):=by
        intro C D F
        refine⟨_,by simp[Instr.sliceAt,dN,run_underlying W,dF,Instr.sureAddr,iD,w9 (pI N hb1) (pI N hb2) C D F,K];rfl,
         off/c.size+l.toNat,i.toNat-l.toNat,n-l.toNat,_,by omega,by omega,by grind [jb],?_,by omega,?_,rfl,λX=>?_⟩
        .have Z:(off/c.size+l.toNat+(n-l.toNat))*c.size<=(off/c.size+n)*c.size:=aH _ (by omega)
         grind
        .grind
        .rw[if_neg<|by omega,sM,fD,<-y]
       cases hcc:c1&&c2 with
       | true=>
         rw[hcc] at h;have⟨C,D,F,J⟩:=BB h;cases J
         grind [CR]
       | false=>
         rw[hcc] at h;have⟨C,D,F,J⟩:=BB h;cases J;have⟨z,Y,k2⟩:=O C D F;refine⟨z,Y,?_⟩;rw[CR,hm];have w1:af.b .add .i64 ((off/c.size:Nat):Int) l=(off/c.size:Nat)+l:=by show IntKind.i64.wrap _=_;grind [wrap_small]
         have w2:af.b .sub .i64 i l=i-l:=by show IntKind.i64.wrap _=_;grind [wrap_small]
         grind
def Jo{E:PT TI}(i:og P E)(C:WR w0 w S m){g:Operand->Value}(u:∀x,CR w S m (f x)<|g x){T:TypeId}
  {B:Operand} {y t l:Option Operand} {r:AV} (h:(Lx af (E.get T) E.get m (f B) (y.map f) (t.map f)<|l.map f).Is r) :
  ∃z,(Instr.sliceAt T (g B) (y.map g) (t.map g)<|l.map g).run P w=.ok z w/\CR w S m r z:=by
 unfold Lx at h;cases ht:E.get T with
 | none=>rw[ht] at h;exact h.elim
 | some ti=>
   rw[ht] at h;simp only at h;cases hk:ti.kind<;>rw[hk] at h<;>(try simp only at h)<;>try exact h.elim
   case arr n e=>
    have j:P.underlying T=some (.array n e):=(i T _ ht).i6 hk;cases c:E.get e with
    | none=>rw[c] at h;exact h.elim
    | some p=>
      rw[c] at h;cases l with
      | some _=>exact h.elim
      | none=>
        exact Cy u j ((i e p c).rJ w) h
   case slice e=>
    have j:P.underlying T=some (.slice e):=(i T _ ht).i6 hk;split at h
    rotate_left
    exact h.elim;rename_i p c;exact F5 C u j ((i e p c).rJ w) h
end
end Go.Ev
namespace Go.Ev
variable{u:Value}{v:AV}
section
variable {P:Program} {w0:nE} {w:World} {S:St} {m:Mem}
def Cq(t:v.known m=true)(h:CR w S m v u):eD w S m v.cells u.cells.toList:=by
 have one:∀{v:AV} {u:Value},CR w S m v u->v.cells=[v]->u.cells=#[u]->eD w S m v.cells u.cells.toList:=by
  intro v u h j p;rw[j,p];exact bL.2 ⟨u,[],rfl,h,bA.2 rfl⟩
 cases v
 case undef=>cases t
 case agg cs=>obtain⟨i,rfl,c⟩:=uN.1 h;exact c
 case int=>have f:=(fu.1 h).1;exact one h rfl (by rw[f];rfl)
 case bool=>have f:=(iE.1 h);exact one h rfl (by rw[f];rfl)
 case str=>have f:=(vO.1 h).1;exact one h rfl (by rw[f];rfl)
 case sl=>have⟨a,g,e,_⟩:=eP.1<|sO.1 h;obtain rfl:=List.head_eq_of_cons_eq e;exact one h rfl rfl
 case eT=>have⟨a,f,_⟩:=m_.1 h;exact one h rfl (by rw[f];rfl)
 case nI=>have⟨b,o,i,f,_⟩:=rf.1 h;exact one h rfl (by rw[f];rfl)
 case gN=>have f:=qN.1 h;exact one h rfl (by rw[f];rfl)
 case fn=>have⟨i,x,f,_⟩:=vk.1 h;exact one h rfl (by rw[f];rfl)
 case tC=>have f:=sN.1 h;exact one h rfl (by rw[f];rfl)
 case xb=>have⟨i,f,_⟩:=jZ.1 h;exact one h rfl (by rw[f];rfl)
 case own id=>
  have c:=h;rw[CR] at c;cases hm:m.at id<;>rw[hm] at c<;>simp only at c
  case aU=>grind [AV.known,iM.lN]
  case arr=>rcases c with ⟨_,_,a,f⟩|⟨_,g,f,_⟩<;>exact one h rfl (by rw[f];rfl)
 case wq id _ _ _ _=>
  have c:=h;rw[CR] at c;cases hm:m.at id<;>rw[hm] at c<;>simp only at c
  case aU=>grind [AV.known,iM.lN]
  case arr=>have⟨_,_,g,a,_,_,_,_,_,_,f,_⟩:=c;exact one h rfl (by rw[f];rfl)
  case cH=>have⟨_,_,g,a,_,_,_,_,_,_,f,_⟩:=c;exact one h rfl (by rw[f];rfl)
 case ptr id _=>
  have c:=h;rw[CR] at c;cases hm:m.at id<;>rw[hm] at c<;>simp only at c
  case aU=>grind [AV.known,iM.lN]
  case cH=>exact one h rfl (by rw[c];rfl)
 case kR id _ _=>
  have c:=h;rw[CR] at c;cases hm:m.at id<;>rw[hm] at c<;>simp only at c
  case aU=>grind [AV.known,iM.lN]
  case arr=>have⟨_,_,_,f⟩:=c;exact one h rfl (by rw[f];rfl)
 case zp id _ _ _ _=>
  have c:=h;rw[CR] at c;cases hm:m.at id<;>rw[hm] at c<;>simp only at c
  case aU=>grind [AV.known,iM.lN]
  case cH=>have⟨_,_,_,f⟩:=c;exact one h rfl (by rw[f];rfl)
 case yield l=>
  have c:=h;rw[CR] at c;cases hm:m.at l<;>rw[hm] at c<;>simp only at c
  case aU=>grind [AV.known,iM.lN]
  case loop=>exact one h rfl (by rw[c];rfl)
def foldl_set(c:List Value):∀(off:Nat) (f:Array Value),off+c.length<=f.size->
  ((c.zipIdx 0).foldl (λ(g:Array Value) (p:Value×Nat)=>g.setIfInBounds (off+p.2) p.1) f).toList=f.toList.take off++c++f.toList.drop (off+c.length):=by
 suffices h:∀(c:List Value) (k off:Nat) (f:Array Value),off+k+c.length<=f.size->
   ((c.zipIdx k).foldl (λ(g:Array Value) (p:Value×Nat)=>g.setIfInBounds (off+p.2) p.1) f).toList=f.toList.take (off+k)++c++f.toList.drop (off+k+c.length) by simp_all
 intro c
 induction c with
 | nil=>simp_all
 | cons v c ih=>
   intro k off f h;simp only[List.zipIdx_cons,jS];rw[ih (k+1) off _ (by grind)];simp only[Array.toList_setIfInBounds,List.length_cons];apply dL;intro i;rw[e_,e_];have l:((f.toList.set (off+k) v).take (off+(k+1))).length=off+k+1:=by grind
   have t:(f.toList.take<|off+k).length=off+k:=by grind
   rcases Nat.lt_trichotomy i (off+k) with j|j|j
   .rw[cN<|by omega,cN<|by omega,cX,cX,if_pos<|by omega,if_pos j,List.getElem?_set_ne<|by omega]
   .simp_all [cN]
   .rw[dz (l₁:=(f.toList.set (off+k) v).take<|off+(k+1))<|by omega,dz (l₁:=f.toList.take<|off+k)<|by omega,l,t,show i-(off+k)=(i-(off+k+1))+1 from by omega,lu,List.getElem?_cons_succ]
    all_goals grind
def qm{off:Nat}{g l f:List AV}{c i:List Value}(h:iJ off g l=some f)(p:eD w S m g c)(j:eD w S m l i):
  off+c.length<=i.length/\eD w S m f (i.take off++c++i.drop (off+c.length)):=by
 unfold iJ at h;split at h
 rotate_left
 cases h;rename_i u;cases h;have x:=KE u;have t:=p.length;have y:=j.length;refine⟨by omega,?_⟩;rw[t];exact((j.take off).append p).append (j.drop _)
def zJ{place:Nat->Option (Nat×Nat)}{i off size:Nat}{g h:List AV}{f:Array Value}{rest:List<|Nat×Value}
  (I:place i=some (off,size)) (p:(v.known m&&Nat.beq v.cells.length size)=true) (C:CR w S m v u) (l:iJ off v.cells g=some h) (B:eD w S m g f.toList) :
  ∃t,Instr.fill place f ((i,u)::rest)=Instr.fill place t rest/\eD w S m h t.toList/\t.size=f.size:=by
 simp only[eH] at p;have x:=Cq p.1 C;have D:=vL p.2;have F:=x.length;have⟨G,H⟩:=qm l x B;have y:(u.cells.zipIdx.foldl (λg (c,j)=>g.setIfInBounds (off+j) c) f).toList=f.toList.take off++u.cells.toList++f.toList.drop (off+u.cells.size):=by
  have:=foldl_set u.cells.toList off f (by omega);rw[<-Array.foldl_toList]
  simp_all
 refine⟨u.cells.zipIdx.foldl (λg (c,j)=>g.setIfInBounds (off+j) c) f,?_,?_,?_⟩
 .grind [Instr.fill]
 .simp_all
 .have:=congrArg List.length y
  grind
end
end Go.Ev
namespace Go.Ev
variable{E:PT TI}{I:Nat->Prop}{O:Operand->Value}{f:Operand->AV}{rt:TypeId}{ts:Array TypeId}{v:Value}{x:AV}
section
variable {P:Program} {w0:nE} {w:World} {S:St} {m:Mem}
theorem xI{size:Nat}{l:Operand->AV}{B:Operand->Value}(C:∀x,CR w S m (l x)<|B x):∀(g:List<|Nat×Operand) (j c:List AV) (f:Array Value),
  F9 m size (g.map λp=>(p.1,l p.2)) j=some c->eD w S m j f.toList->
  ∃u,Instr.fill (λi=>some (i*size,size)) f (g.map λp=>(p.1,B p.2))=some u/\eD w S m c u.toList/\u.size=f.size
 | [],j,c,f,h,hc=>by cases h;exact⟨f,rfl,hc,rfl⟩
 | (i,x)::g,j,c,f,h,hc=>by
   simp[eX,F9] at h;cases hk:((l x).known m&&Nat.beq (l x).cells.length size) with
   | false=>grind
   | true=>
     rw[hk] at h;simp only at h;split at h;cases h;rename_i t F;have⟨y,H,D,I⟩:=zJ (rest:=g.map λp=>(p.1,B p.2)) (place:=λi=>some (i*size,size)) rfl hk (C x) F hc;have⟨G,J,K,N⟩:=xI C g t c y h D
     grind
theorem DF{B:List<|Nat×Nat×Bool}{place:Nat->Option (Nat×Nat)}(g:∀i off sz u,B[i]? = some (off,sz,u)->place i=some (off,sz))
  {t:Operand->AV} {F:Operand->Value} (G:∀x,CR w S m (t x)<|F x):∀(j:List<|Nat×Operand) (l c:List AV) (f:Array Value),
  NS m B (j.map λp=>(p.1,t p.2)) l=some c->eD w S m l f.toList->
  ∃C,Instr.fill place f (j.map λp=>(p.1,F p.2))=some C/\eD w S m c C.toList/\C.size=f.size
 | [],l,c,f,h,hc=>by cases h;exact⟨f,rfl,hc,rfl⟩
 | (i,x)::j,l,c,f,h,hc=>by
   simp[eX,NS] at h;cases hi:B[i]? with
   | none=>grind
   | some q=>
     have⟨off,sz,u⟩:=q;rw[hi] at h;simp only at h;cases hk:((t x).known m&&Nat.beq (t x).cells.length sz) with
     | false=>grind
     | true=>
       rw[hk] at h;simp only at h;split at h;cases h;rename_i y I;have⟨D,K,H,N⟩:=zJ (rest:=j.map λp=>(p.1,F p.2)) (place:=place) (g i off sz u hi) hk (G x) I hc;have⟨J,O,Q,V⟩:=DF g G j y c D h H
       grind
def Et{F:Array Field}{g:List<|Nat×Nat×Bool}(I:F.size=g.length)
  (H:∀(i off sz:Nat) (c:Bool),g[i]? = some (off,sz,c)->∃f j,F[i]? = some f/\f.offset=off/\P.info? f.type=some j/\j.size=sz/\∀w,(isAgg f.type).run P w=.ok c w) :
  (F.mapM λf=>(do pure (f.offset,<-sizeOf f.type):Sem<|Nat×Nat)).run P w=.ok ((g.map λp=>(p.1,p.2.1)).toArray) w:=by
 rw[mE]
 have y:∀(l:List Field) (fl:List<|Nat×Nat×Bool),l.length=fl.length->
   (∀(i off sz:Nat) (c:Bool),fl[i]? = some (off,sz,c)->∃f j,l[i]? = some f/\f.offset=off/\P.info? f.type=some j/\j.size=sz)->
   (l.mapM λf=>(do pure (f.offset,<-sizeOf f.type):Sem<|Nat×Nat)).run P w=.ok (fl.map λp=>(p.1,p.2.1)) w:=by
  intro l
  induction l with
  | nil=>intro fl h _;cases fl with
    | nil=>simp
    | cons _ _=>simp_all
  | cons f l ih=>
    intro fl h t;cases fl with
    | nil=>simp at h
    | cons q fl=>
      have⟨off,sz,c⟩:=q;have⟨B,j,u,C,D,G⟩:=t 0 off sz c rfl;simp at u;have:=ih fl (by simpa using h) (λi off sz c x=>by simpa using t (i+1) off sz c (by simpa using x))
      simp_all [sizeOf,typeInfo]
 grind [Sem.run_map,Result.andThen_ok]
def Jg(I:og P E){j:Operand->AV}(K:∀x,CR w S m (j x)<|O x){T:TypeId}{c:List<|Nat×Operand}{r:AV}
  (h:(Lk m (E.get T) E.get<|c.map λp=>(p.1,j p.2)).Is r) :
  ∃z,(Instr.build T (c.map λp=>(p.1,O p.2)).toArray).run P w=.ok z w/\CR w S m r z:=by
 unfold Lk at h;cases ht:E.get T with
 | none=>rw[ht] at h;exact h.elim
 | some ti=>
   rw[ht] at h;have y:=I T ti ht;have⟨i,z,B,X,Y,C,G,Z⟩:=y.info;have J:=G w S m;have⟨kd,size,l,agg,zero,ty,eq⟩:=ti;cases kd<;>(try simp only at h)<;>try exact h.elim
   case arr n e=>
    have W:P.underlying T=some (.array n e):=y.i6 (k:=.arr n e) rfl;split at h
    rotate_left
    exact h.elim;rename_i N D;replace h:=xZ h;cases g:F9 m N.size (c.map λp=>(p.1,j p.2)) zero with
    | none=>grind
    | some cs=>
      rw[g] at h;cases h;have⟨f,H,t,Q⟩:=xI K c zero cs z.cells g J;exact⟨.agg f,by simp[Instr.build,zeroValue,typeInfo,B,C,run_underlying W,(I e N D).rJ w,H],uN.2 ⟨f,rfl,t⟩⟩
   case struct fs=>
    have⟨F,V,u,g⟩:=y.i6 (k:=.struct fs) rfl;replace h:=xZ h;cases hfl:NS m fs (c.map λp=>(p.1,j p.2)) zero with
    | none=>grind
    | some cs=>
      rw[hfl] at h;cases h;have⟨f,H,t,Q⟩:=DF (place:=λi=>((fs.map λp=>(p.1,p.2.1)).toArray)[i]?) (λi off sz ag hi=>by grind) K c zero cs z.cells hfl J;refine⟨.agg f,?_,uN.2 ⟨f,rfl,t⟩⟩;simp only[Instr.build,dN,zeroValue,typeInfo,dF,run_underlying V,Et u g]
      simp_all
def Ls(l:og P E){s d:TypeId}{r:AV}(u:CR w S m x v)(h:(PW af (E.get s) (E.get d) x).Is r):
  ∃z,(convert s d v).run P w=.ok z w/\CR w S m r z:=by
 cases hs:E.get s with
 | none=>rw[hs] at h;exact h.elim
 | some B=>
   cases hd:E.get d with
   | none=>rw[hs,hd] at h;exact h.elim
   | some i=>
     rw[hs,hd] at h;have f:=l d i hd;have g:∃td,P.underlying s=some td:=by
      have j:=(l s B hs).agg w;unfold isAgg at j;simp[underlying] at j;cases p:P.underlying s with
      | none=>simp_all
      | some td=>simp_all
     have⟨td,p⟩:=g;have⟨y,size,c,agg,zero,ty,C⟩:=i;cases y<;>cases x<;>(try simp only at h)<;>try exact h.elim
     .obtain⟨rfl,D⟩:=fu.1 u;cases h;have t:P.underlying d=some (.int _):=f.i6 rfl;refine⟨_,?_,gV _ _ _<|mD _ _⟩;simp[convert,run_underlying p,run_underlying t,Conv.intToInt,af]
def rq{n:Nat}(h:n<=gg):IntKind.i64.has (n:Int):=by
 rw[jb] at h;have c:IntKind.i64.min = -9223372036854775808:=by decide
 have f:IntKind.i64.max=9223372036854775807:=by decide
 constructor<;>omega
def NO(K:og P E)(F:WR w0 w S m){T:TypeId}(p:ts[0]? = some T){r:AV}(g:CR w S m x v)(h:(Yj af (E.get T) m x).Is r):
  ∃z,(Builtin.len_ ts rt #[v]).run P w=.ok z w/\CR w S m r z:=by
 unfold Yj at h;cases ht:E.get T with
 | none=>rw[ht] at h;exact h.elim
 | some ti=>
   rw[ht] at h;have D:=K T ti ht;have⟨O,size,u,agg,zero,ty,X⟩:=ti;cases O<;>(try simp only at h)<;>try exact h.elim
   case arr n e=>
    have B:P.underlying T=some (.array n e):=D.i6 (k:=.arr n e) rfl;split at h
    rotate_left
    exact h.elim;rename_i j;cases h;exact⟨.int .i64 n,by simp[Builtin.len_,p,run_underlying B,goInt],fu.2 ⟨rfl,rq<|KE j⟩⟩
   case slice e=>
    have B:P.underlying T=some (.slice e):=D.i6 (k:=.slice e) rfl;have f:∀(a:Option Addr) (n c:Nat),(Builtin.len_ ts rt #[.slice a n c]).run P w=.ok (.int .i64 n) w:=by
     intro a n c;simp[Builtin.len_,p,run_underlying B,goInt]
    cases x<;>(try simp only at h)<;>try exact h.elim
    case sl t l=>
     have⟨a,i,W,Y,C,_⟩:=eP.1<|sO.1 g;have G:v=.slice a l.length i:=by simp_all
     cases h;subst G;exact⟨_,f _ _ _,fu.2 ⟨rfl,rq C⟩⟩
    case eT b=>
     obtain⟨a,rfl,_⟩:=m_.1 g;cases h;exact⟨_,f _ _ _,fu.2 ⟨rfl,rq<|aQ _⟩⟩
    case own id=>
     have j:=F.box id;rw[CR] at g;cases hm:m.at id<;>simp_all<;>(try simp only at g h)<;>try exact h.elim
     cases h;rcases g with ⟨_,rfl,a,rfl⟩|⟨_,i,rfl,_⟩<;>exact⟨_,f _ _ _,fu.2 ⟨rfl,rq j.1⟩⟩
    case wq id sz c lo n=>
     have j:=F.box id;rw[CR] at g;cases hm:m.at id<;>rw[hm] at g j h<;>(try simp only[iM.lN] at g h)
     case aU=>exact h.elim
     case arr=>
      obtain⟨Q,V,i,a,rfl,rfl,N,H,I,y,rfl,J⟩:=g;cases h;exact⟨_,f _ _ _,fu.2 ⟨rfl,rq (by have:=j.1;omega)⟩⟩
     case cH=>
      obtain⟨Q,V,i,a,rfl,rfl,C,H,I,y,rfl,J⟩:=g;cases h;exact⟨_,f _ _ _,fu.2 ⟨rfl,rq<|by omega⟩⟩
def NQ{t:Operand->Value}(p:∀x,CR w S m (f x)<|t x){g:Array Operand}{r:AV}(h:(Yl af<|g.toList.map f).Is r):
  ∃z,(Builtin.min_ ts rt<|g.map t).run P w=.ok z w/\CR w S m r z:=by
 have⟨l⟩:=g;unfold Yl at h
 match l,h with
 | [x,y],h=>
   have i:=p x;have j:=p y;simp at h;cases ha:f x<;>cases hb:f y<;>rw[ha,hb] at h<;>(try simp only at h)<;>try exact h.elim
   rw[ha] at i;rw[hb] at j;rename_i k c a H D b;have⟨u,F⟩:=fu.1 i;have⟨B,G⟩:=fu.1 j;split at h
   rotate_left
   exact h.elim;rename_i C;have:=lQ C;subst this;cases h;refine⟨.int k<|af.mn a b,?_,gV k _ (λA=>A.mn a b) ?_⟩
   .simp[nX,eX,u,B];rfl
   .show k.has (if _ then _ else _)
    grind
 | [],h=>exact h.elim
 | [x],h=>revert h;simp;cases f x<;>exact λh=>h.elim
 | x::y::z::l,h=>revert h;simp;cases f x<;>cases f y<;>exact λh=>h.elim
def NP{G:Operand->Value}(j:∀x,CR w S m (f x)<|G x){D:Array Operand}{r:AV}(h:(Yk af<|D.toList.map f).Is r):
  ∃z,(Builtin.max_ ts rt<|D.map G).run P w=.ok z w/\CR w S m r z:=by
 have⟨l⟩:=D;unfold Yk at h
 match l,h with
 | [x,y],h=>
   have g:=j x;have i:=j y;simp at h;cases ha:f x<;>cases hb:f y<;>rw[ha,hb] at h<;>(try simp only at h)<;>try exact h.elim
   rw[ha] at g;rw[hb] at i;rename_i k c a O H b;have⟨p,K⟩:=fu.1 g;have⟨t,N⟩:=fu.1 i;split at h
   rotate_left
   exact h.elim;rename_i B;have:=lQ B;subst this;cases h;refine⟨.int k<|af.mx a b,?_,gV k _ (λA=>A.mx a b) ?_⟩
   .simp[nX,eX,p,t];rfl
   .show k.has (if _ then _ else _)
    grind
 | [],h=>exact h.elim
 | [x],h=>revert h;simp;cases f x<;>exact λh=>h.elim
 | [x,y,z],h=>
   have g:=j x;have i:=j y;have F:=j z;simp at h;cases ha:f x<;>cases hb:f y<;>rw[ha,hb] at h<;>(try simp only at h)<;>try exact h.elim
   cases hd:f z<;>rw[hd] at h<;>(try simp only at h)<;>try exact h.elim
   rw[ha] at g;rw[hb] at i;rw[hd] at F;rename_i k c a O H b Q I d;have⟨p,K⟩:=fu.1 g;have⟨t,N⟩:=fu.1 i;have⟨J,V⟩:=fu.1 F;split at h
   rotate_left
   exact h.elim;rename_i B C;have:=lQ B;subst this;have:=lQ C;subst this;cases h;refine⟨.int k<|af.mx (af.mx a b) d,?_,gV k _ (λA=>A.mx (A.mx a b) d) ?_⟩
   .simp[nX,eX,p,t,J];rfl
   .show k.has (if _ then _ else if _ then _ else _)
    grind
 | x::y::z::u::l,h=>revert h;simp;cases f x<;>cases f y<;>cases f z<;>exact λh=>h.elim
def Qw(v:Value):CR w S m (L1 v) v:=by
 unfold L1;cases v<;>(try simp only)<;>try exact gT
 case int k n=>
  cases h:(decide (alm k<=n)&&decide (n<=alk k)) with
  | false=>exact gT
  | true=>
    exact fu.2 ⟨rfl,by grind [ae1],by grind [ae0]⟩
 case bool b=>rfl
 case string s=>
  cases h:Nat.ble s.data.toList.length 140737488355328 with
  | false=>exact gT
  | true=>exact vO.2 ⟨by simp,KE h⟩
 case pointer a=>cases a with
  | none=>rfl
  | some a=>exact gT
 case slice a n c=>
  cases a with
  | some a=>exact gT
  | none=>
    cases n with
    | succ n=>exact gT
    | zero=>cases c with
      | succ c=>exact gT
      | zero=>exact m_.2 ⟨none,rfl,λ_=>rfl⟩
 rfl
theorem EX{f:Operand->AV}{g:Operand->Value}(c:∀x,CR w S m (f x)<|g x):∀l:List Operand,eD w S m (l.map f)<|l.map g
 | []=>bA.2 rfl
 | x::l=>bL.2 ⟨_,_,rfl,c x,EX c l⟩
def Uz{t:Ty}{b off:Nat}:∀{x:List t.T},(∀(i:Nat) (y:t.T),x[i]? = some y->∃c,c.length=t.size/\lV w b (off+i*t.size) c/\bW w I t c y)->
  ∃c:List Value,c.length=x.length*t.size/\lV w b off c/\∀(i:Nat) (y:t.T),x[i]? = some y->bW w I t ((c.drop<|i*t.size).take t.size) y:=by
 intro x
 induction x generalizing off with
 | nil=>intro _;exact⟨[],by simp,λj u f=>by grind,λi y p=>by grind⟩
 | cons y x ih=>
   intro h;have⟨l,C,D,c0⟩:=h 0 y rfl;have⟨G,l1,F,c1⟩:=ih (off:=off+t.size) λi y p=>by
    have⟨c,a1,a2,H⟩:=h (i+1) y (by grind)
    grind
   refine⟨l++G,by grind,λj u f=>?_,λi z B=>?_⟩
   .by_cases g:j<l.length
    .rw[cN g] at f;have:=D j u f
     grind
    .rw[dz<|by omega] at f;have:=F _ u f
     grind
   .cases i with
    | zero=>
      grind
    | succ i=>
      have:=c1 i z B;rw[show(i+1)*t.size=t.size+i*t.size from by rw[kC,ko],<-fe,o7 C];omega
def I_(w:World)(I:Nat->Prop)(t:Ty)(v:Value)(y:List t.T):Prop:=
 ∃(a:Option Addr) (c:Nat) (f:List Value),v=.slice a y.length c/\y.length<=gg/\f.length=y.length*t.size/\(y.length≠0->∃b off,a=some ⟨b,off,none⟩/\lV w b off f)/\
  (a=none->c=0)/\y.length<=c/\∀(i:Nat) (z:t.T),y[i]? = some z->bW w I t ((f.drop<|i*t.size).take t.size) z
def I_.none{t:Ty}{a:Option Addr}{c:Nat}(h:a=none->c=0):I_ w I t (.slice a 0 c) []:=
 ⟨a,c,[],rfl,aQ _,by simp,λh=>absurd rfl h,h,aQ _,λi z f=>by grind⟩
def I_.Qx{t:Ty}{y:List t.T}(h:bW w I (.slice t) [v] y):I_ w I t v y:=by
 have⟨a,g,e,p,u,B,C⟩:=eP.1 h;have e:v=.slice a y.length g:=by grind
 by_cases F:y.length=0
 .have:y=[]:=bg F;subst this;exact⟨a,g,[],e,u,by simp,λh=>absurd rfl h,B,p,λi z G=>by grind⟩
 .have⟨j,f,J,D,_⟩:=C 0 _<|Jv (by omega);have⟨H,l,r,c⟩:=Uz (w:=w) (t:=t) (I:=I) (b:=j) (off:=f) (x:=y) λi z G=>by grind
  exact⟨a,g,H,e,u,l,λ_=>⟨j,f,D,r⟩,B,p,c⟩
def lV.heap{f:World}{b off:Nat}{c:List Value}(h:lV w b off c)(g:f.heap=w.heap):lV f b off c:=h.mono (by rw[g])
def sW{sz n:Nat}{a:Option Addr}{len c:Nat}{g:List Value}(t:g.length=n*sz)(h:n≠0->∃b off,a=some ⟨b,off,none⟩/\lV w b off g)(i:World)(l:i.heap=w.heap):
  (Builtin.firstCells sz n<|.slice a len c).run P i=.ok g.toArray i:=by
 cases a with
 | none=>
   have f:n=0:=Decidable.byContradiction λf=>by grind
   subst f;have:g=[]:=bg (by omega);subst this;rfl
 | some a=>
   refine run_firstCells_some i sz n a len c g t λj v p=>?_;have f:n≠0:=λf=>by grind
   have⟨b,off,e,u⟩:=h f;cases e;have:=u.heap l j v p
   rwa [kl]
def DD{R:Type}{E:kD R}(H:og P E.ti)(W:WR w0 w S m){N:Operand->AV}(C:∀x,CR w S m (N x)<|O x){o:Oper}{Q:TV AV}(h:ub af E N m o=some Q){v:AV}(g:Q.Is v):
  ∃z,(execOp O o).run P w=.ok (.value z) w/\CR w S m v z:=by
 obtain⟨X,Z,ty,a0,J,K⟩:=o;unfold ub at h;cases Z<;>simp only at h<;>try (cases h;done)
 case move x=>cases h;cases g;exact⟨_,rfl,C x⟩
 case assign x=>cases h;cases g;exact⟨_,rfl,C x⟩
 case pick c a b=>
  cases h;have F:=C c;cases ha:N c<;>rw[ha] at g F<;>(try simp only at g)<;>try exact g.elim
  rename_i kn vb;have e:=iE.1 F;cases kn with
  | true=>
    cases vb with
    | true=>cases g;exact⟨_,by simp[execOp,e,asBool],C a⟩
    | false=>cases g;exact⟨_,by simp[execOp,e,asBool],C b⟩
  | false=>
    rcases g with ⟨Y,g⟩|⟨Y,g⟩
    .subst Y;cases g;exact⟨_,by simp[execOp,e,asBool],C a⟩
    .subst Y;cases g;exact⟨_,by simp[execOp,e,asBool],C b⟩
 case load t p=>
  cases h;obtain⟨b,off,u,e,B,D⟩:=Bl H W (C p) g;exact⟨u,by simp[execOp,Instr.loadAt,e,Instr.sureAddr,B],D⟩
 case nilCheck x=>
  cases h;have I:=C x;cases ha:N x<;>rw[ha] at g I<;>(try simp only at g)<;>try exact g.elim
  case ptr id off=>
   have F:=I;rw[CR] at F;cases hm:m.at id<;>rw[hm] at g F<;>(try simp only at g F)<;>try exact g.elim
   cases g;exact⟨_,by simp[execOp,F];rfl,by simp_all⟩
  case kR id i off=>
   have F:=I;rw[CR] at F;cases hm:m.at id<;>simp_all<;>(try simp only at g F)<;>try exact g.elim
   cases g;obtain⟨k,_,_,F⟩:=F;exact⟨_,by simp[execOp,F];rfl,by simp_all⟩
  case nI t x' off=>
   obtain⟨b,o,us,F,_⟩:=rf.1 I;cases g;exact⟨_,by simp[execOp,F];rfl,by simp_all⟩
  case fn f a b=>
   obtain⟨us,vs,F,_⟩:=vk.1 I;cases g;exact⟨_,by simp[execOp,F];rfl,by simp_all⟩
 case binOp Z t x y t2=>
  cases h;obtain⟨z,B,D⟩:=NL (w:=w) H x y (C x) (C y) g;exact⟨z,by simp only[execOp,dN,B,dF,iD],D⟩
 case unOp Z t x=>
  cases h;obtain⟨z,B,D⟩:=PZ (P:=P) (C x) g;exact⟨z,by simp[execOp,B],D⟩
 case convert s d x=>
  have a5:∀{Q:TV AV} {v:AV},Q=PW af (E.ti.get s) (E.ti.get d) (N x)->Q.Is v->∃z,(execOp O {dst:=X,op:=.convert s d x,type:=ty,pos:=a0,after:=J,guard:=K}).run P w=.ok (.value z) w/\CR w S m v z:=by
   intro Q v he g;subst he;obtain⟨z,B,D⟩:=Ls H (C x) g;exact⟨z,by simp[execOp,B],D⟩
  cases ha:N x<;>rw[ha] at h<;>(try simp only at h)<;>try (cases h;done)
  .simp_all
 case makeFunc fn a c=>
  cases fn<;>simp only at h<;>try (cases h;done)
  cases h;cases g;refine⟨.func (.func _) (a.map O)<|c.map O,rfl,vk.2 ⟨_,_,rfl,?_,?_⟩⟩
  .have:=EX C a.toList;simp_all
  .have:=EX C c.toList;simp_all
 case slice t x lo hi mx=>
  cases h;obtain⟨z,B,D⟩:=Jo H W C g;exact⟨z,by simp[execOp,B],D⟩
 case fieldAddr t x i=>
  cases h;obtain⟨z,B,D⟩:=Bi H (C x) g;exact⟨z,by simp[execOp,B],D⟩
 case field t x i=>cases h;exact g.elim
 case indexAddr t x i=>
  cases h;obtain⟨z,B,D⟩:=Bj H W (C x) (C i) g;exact⟨z,by simp[execOp,B],D⟩
 case index t x i=>
  cases h;obtain⟨z,B,D⟩:=Jn H (C x) (C i) g;exact⟨z,by simp[execOp,B],D⟩
 case extract t i=>
  cases h;have I:=C t;cases ha:N t<;>rw[ha] at g I<;>(try simp only at g)<;>try exact g.elim
  obtain⟨us,e,F⟩:=jZ.1 I;replace g:=xZ g;obtain⟨z,B,D⟩:=F.get g;have B:us[i]? = some z:=by simp_all
  exact⟨z,by simp[execOp,Instr.extract,e,B],D⟩
 case build t ps=>
  cases h;obtain⟨z,B,D⟩:=Jg H C g;have e:(ps.map λ(i,x)=>(i,O x))=(ps.toList.map λp=>(p.1,O p.2)).toArray:=by grind
  exact⟨z,by simp[execOp,e,dN,B,dF,iD],D⟩
 case call c=>
  obtain⟨G,V,j⟩:=c;cases G<;>(try simp only at h)<;>try (cases h;done)
  rename_i b;cases b<;>simp_all<;>try (cases h;done)
  case len=>
   cases h;obtain⟨l⟩:=V;obtain⟨tl⟩:=j
   match l,tl,g with
   | [x],t::ts,g=>
     obtain⟨z,B,D⟩:=NO (rt:=ty) (ts:=(t::ts).toArray) H W (by simp) (C x) g;exact⟨z,by simp[execOp,resolve,invoke,builtin,B],D⟩
   | [x],[],g=>exact g.elim
   | [],_,g=>exact g.elim
   | _::_::_,_,g=>exact g.elim
  case max=>
   cases h;obtain⟨z,B,D⟩:=NP (P:=P) (rt:=ty) (ts:=j) C g;exact⟨z,by simp[execOp,resolve,invoke,builtin,B],D⟩
  case min=>
   cases h;obtain⟨z,B,D⟩:=NQ (P:=P) (rt:=ty) (ts:=j) C g;exact⟨z,by simp[execOp,resolve,invoke,builtin,B],D⟩
end
abbrev aS.bT (A:aS) (x y:Int):Int:=A.b .add .i64 x y
abbrev aS.f_ (A:aS) (x y:Int):Int:=A.b .sub .i64 x y
abbrev aS.bq (A:aS) (x y:Int):Bool:=A.c .lss x y
abbrev aS.bQ (A:aS) (x y:Int):Bool:=A.c .leq x y
abbrev aS.bG (A:aS) (x y:Int):Bool:=A.c .eql x y
abbrev aS.cm (A:aS) (x y:Int):Bool:=A.c .neq x y
abbrev aS.jr (A:aS) (x y:Int):Bool:=A.c .gtr x y
abbrev aS.qE (A:aS) (x y:Int):Bool:=A.c .geq x y
end Go.Ev
