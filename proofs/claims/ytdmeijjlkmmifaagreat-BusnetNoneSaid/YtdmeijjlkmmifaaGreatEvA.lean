/-
  PROVED: a symbolic evaluator over the model (a plain Lean function), and that each of its operations that leave memory alone says what the model does. Conditions: the type table fits the program.
-/
import GoSem.Claims
import Derived.Calls
import Derived.Laws.Sem
import Derived.Laws.World
import Derived.Laws.Cells
import Derived.Laws.AppendOwn
import Derived.Laws.Entries
import Derived.Laws.StructEq
import Derived.Laws.Slices
import Derived.Laws.Small
import Derived.Laws.Closers25b
import Derived.Laws.Strings
import Derived.Laws.Append
import Derived.Laws.BytesString
set_option linter.unusedVariables false
set_option linter.unusedSimpArgs false
set_option linter.unusedSectionVars false
namespace Go.Ev
abbrev bf:=@List.take_succ_eq_append_getElem
abbrev gG:=@List.replicate_append_replicate
abbrev cy:=@Int.mul_le_mul_of_nonneg_right
abbrev eH:=@Int.mul_le_mul_of_nonneg_left
abbrev a_:=@List.eq_nil_of_length_eq_zero
abbrev dR:=@Array.getD_eq_getD_getElem?
abbrev lJ:=@Array.getElem?_append_left
abbrev dp:=@Array.getElem?_eq_some_iff
abbrev lK:=@Int.tdiv_eq_ediv_of_nonneg
abbrev iX:=@Int.tmod_eq_emod_of_nonneg
abbrev bY:=@List.getElem?_append_right
abbrev rf:=@Nat.le_of_mul_le_mul_right
abbrev gw:=@Array.getElem?_eq_getElem
abbrev mg:=@Array.mapM_eq_mapM_toList
abbrev bQ:=@List.getElem?_append_left
abbrev aT:=@List.getElem?_eq_some_iff
abbrev jE:=@List.getElem?_take_of_lt
abbrev dY:=@Array.toList_eq_nil_iff
abbrev aO:=@Int.eq_ofNat_of_zero_le
abbrev gX:=@List.filter_cons_of_pos
abbrev cq:=@List.length_eq_zero_iff
abbrev ko:=@List.drop_eq_nil_of_le
abbrev gh:=@List.drop_of_length_le
abbrev kq:=@List.length_eq_one_iff
abbrev cH:=@List.take_of_length_le
abbrev kN:=@List.getElem?_eq_none
abbrev bw:=@List.length_singleton
abbrev kP:=@List.mem_of_mem_head?
abbrev eU:=@List.take_append_drop
abbrev iQ:=@Nat.le_div_iff_mul_le
abbrev lq:=@Array.toArray_toList
abbrev fR:=@BitVec.ofInt_natCast
abbrev gP:=@List.getElem?_of_mem
abbrev aA:=@List.mem_cons_of_mem
abbrev i6:=@List.mem_iff_getElem
abbrev i7:=@List.mem_of_getElem?
abbrev i_:=@List.mem_of_mem_tail
abbrev aG:=@Nat.mul_le_mul_right
abbrev fS:=@Nat.pow_le_pow_right
abbrev bI:=@Array.length_toList
abbrev fZ:=@Array.toList_append
abbrev jD:=@List.drop_replicate
abbrev lV:=@List.flatMap_append
abbrev pU:=@List.getElem?_range
abbrev eQ:=@List.map_congr_left
abbrev jF:=@List.replicate_zero
abbrev gZ:=@List.take_succ_cons
abbrev f_:=@Nat.add_le_add_left
abbrev e_:=@BitVec.toNat_ofNat
abbrev mH:=@Int.emod_lt_of_pos
abbrev mI:=@List.filter_append
abbrev bX:=@List.getElem?_drop
abbrev cv:=@List.getElem?_take
abbrev aN:=@List.mem_cons_self
abbrev aJ:=@List.mem_singleton
abbrev mJ:=@List.pairwise_cons
abbrev mK:=@List.set_cons_zero
abbrev bu:=@Nat.lt_of_lt_of_le
abbrev fu:=@Bool.not_eq_true'
abbrev dx:=@Decidable.not_not
abbrev nc:=@Int.emod_eq_of_lt
abbrev cX:=@List.append_assoc
abbrev dG:=@List.ext_getElem?
abbrev cn:=@List.getElem?_map
abbrev ng:=@List.getElem?_set
abbrev dQ:=@List.nodup_append
abbrev dz:=@Result.andThen_ok
abbrev rL:=@Array.toList_map
abbrev bG:=@List.all_eq_true
abbrev nO:=@List.cons_append
abbrev cK:=@List.drop_length
abbrev rM:=@List.getElem_inj
abbrev dF:=@List.getElem_mem
abbrev bA:=@List.length_cons
abbrev cN:=@List.length_drop
abbrev c_:=@List.length_take
abbrev nP:=@List.map_toArray
abbrev nQ:=@List.mem_reverse
abbrev aH:=@List.not_mem_nil
abbrev eB:=@List.take_length
abbrev nR:=@Nat.min_le_right
abbrev ij:=@Nat.mod_eq_of_lt
abbrev kY:=@Nat.not_le_of_lt
abbrev gk:=@Nat.not_lt_of_le
abbrev nT:=@World.size_alloc
abbrev gE:=@Bool.eq_iff_iff
abbrev oL:=@Bool.or_eq_true
abbrev jU:=@Int.emod_nonneg
abbrev aI:=@List.append_nil
abbrev oM:=@List.drop_left'
abbrev oN:=@List.filter_nil
abbrev jV:=@List.foldl_cons
abbrev bV:=@List.length_map
abbrev tc:=@List.length_nil
abbrev cO:=@List.length_set
abbrev fD:=@List.map_append
abbrev gF:=@List.mem_filter
abbrev jW:=@List.nil_append
abbrev bR:=@List.nodup_cons
abbrev iK:=@List.take_left'
abbrev iL:=@Nat.min_eq_left
abbrev oO:=@Option.map_some
abbrev dI:=@Bool.and_false
abbrev gn:=@Bool.false_and
abbrev eO:=@Int.mul_nonneg
abbrev eP:=@List.drop_drop
abbrev kG:=@List.drop_take
abbrev kH:=@List.drop_zero
abbrev gY:=@List.mem_range
abbrev pV:=@List.nodup_nil
abbrev kI:=@List.take_take
abbrev mT:=@List.take_zero
abbrev nC:=@Bool.false_or
abbrev cY:=@Bool.true_and
abbrev gN:=@List.all_cons
abbrev dT:=@List.map_cons
abbrev aF:=@List.mem_cons
abbrev dw:=@Nat.lt_irrefl
abbrev mf:=@Addr.add_lit
abbrev mh:=@Bool.or_true
abbrev dn:=@Int.le_trans
abbrev fX:=@List.map_map
abbrev mj:=@List.map_nil
abbrev dy:=@List.mem_map
abbrev mm:=@Nat.add_comm
abbrev kv:=@Nat.add_zero
abbrev jj:=@Nat.le_of_eq
abbrev aU:=@Nat.le_trans
abbrev mo:=@Nat.mul_comm
abbrev eF:=@Nat.ne_of_lt
abbrev kx:=@Nat.sub_self
abbrev ky:=@Nat.succ_mul
abbrev gx:=@Nat.zero_add
abbrev dV:=@Sem.run_bind
abbrev jk:=@Sem.run_pure
abbrev aj:=@Int.le_refl
abbrev fh:=@Nat.add_mul
abbrev ah:=@Nat.le_refl
abbrev dP:=@Nat.le_succ
abbrev aX:=@Nat.zero_le
abbrev jH:=@Int.not_lt
abbrev mC:=@Nat.mod_lt
abbrev fC:=@Iff.rfl
abbrev g_:=@Ne.symm
variable{p:Prop}
theorem da[Decidable p](h:p):decide p=true:=decide_eq_true h
theorem gI[Decidable p](h:¬p):decide p=false:=decide_eq_false h
theorem fQ(a b:Bool):((a&&b)=true)=(a=true/\b=true):=Bool.and_eq_true a b
variable{α:Type}
theorem ru{a bs:List α}:(a++bs).length=a.length+bs.length:=List.length_append
theorem rO(n:Nat):(n:Int).toNat=n:=Int.toNat_natCast n
theorem sK[Decidable p]:(decide p=true)=p:=decide_eq_true_eq
variable{i:Nat}{a:α}{l:List α}
theorem yb:l.getD i a=l[i]?.getD a:=List.getD_eq_getElem?_getD
variable{n:Nat}
theorem vk{m:Nat}(h:n.beq m=true):n=m:=Nat.eq_of_beq_eq_true h
theorem AB(h:i<l.length):List.drop i l=l[i]::List.drop (i+1) l:=List.drop_eq_getElem_cons h
theorem Gd(h:i<l.length):l[i]?=some l[i]:=List.getElem?_eq_getElem h
theorem IZ:(List.replicate n a).length=n:=List.length_replicate
theorem Ln{m:Nat}(h:n.ble m=true):n<=m:=Nat.le_of_ble_eq_true h
theorem oJ{s t:List α}:a∈s++t↔a∈s\/a∈t:=List.mem_append
inductive Ty where
 | int (k:IntKind)
 | bool
 | str
 | slice (t:Ty)
 | arr (n:Nat) (t:Ty)
 | struct (ts:List Ty)
 | any (n:Nat)
mutual
def Ty.T:Ty->Type
 | .int _=>Int
 | .bool=>Bool
 | .str=>List UInt8
 | .slice t=>List t.T
 | .arr _ t=>List t.T
 | .struct ts=>Ty.Ts ts
 | .any _=>Unit
def Ty.Ts:List Ty->Type
 | []=>Unit
 | [t]=>t.T
 | t::a::ts=>t.T×Ty.Ts (a::ts)
end
mutual
def Ty.size:Ty->Nat
 | .arr n t=>n*t.size
 | .struct ts=>Ty.mq ts
 | .any n=>n
 | _=>1
def Ty.mq:List Ty->Nat
 | []=>0
 | t::ts=>t.size+Ty.mq ts
end
def Ty.isAgg:Ty->Bool
 | .arr _ _=>true
 | .struct _=>true
 | .any _=>true
 | _=>false
def qA:IntKind->IntKind->Bool
 | .i8,.i8=>true | .i16,.i16=>true | .i32,.i32=>true | .i64,.i64=>true
 | .u8,.u8=>true | .u16,.u16=>true | .u32,.u32=>true | .u64,.u64=>true
 | _,_=>false
theorem ll{a b:IntKind}(h:qA a b=true):a=b:=by cases a<;>cases b<;>first|rfl|cases h
mutual
def Ty.beq:Ty->Ty->Bool
 | .int a,.int b=>qA a b
 | .bool,.bool=>true
 | .str,.str=>true
 | .slice a,.slice b=>a.beq b
 | .arr n a,.arr m b=>Nat.beq n m&&a.beq b
 | .struct c,.struct bs=>Ty.Ua c bs
 | .any n,.any m=>Nat.beq n m
 | _,_=>false
def Ty.Ua:List Ty->List Ty->Bool
 | [], []=>true
 | a::aa,b::bs=>a.beq b&&Ty.Ua aa bs
 | _,_=>false
end
mutual
theorem Ty.eq_of_beq:∀{a b:Ty},a.beq b=true->a=b
 | .int a,.int b,h=>by rw[Ty.beq] at h;rw[ll h]
 | .bool,.bool,_=>rfl
 | .str,.str,_=>rfl
 | .slice a,.slice b,h=>by rw[Ty.beq] at h;rw[Ty.eq_of_beq h]
 | .arr n a,.arr m b,h=>by
   rw[Ty.beq,fQ] at h;rw[vk h.1,Ty.eq_of_beq h.2]
 | .struct c,.struct bs,h=>by rw[Ty.beq] at h;rw[Ty.Dt h]
 | .any n,.any m,h=>by simp_all;rw[vk h]
 | .any _,.int _,h | .any _,.bool,h | .any _,.str,h | .any _,.slice _,h | .any _,.arr _ _,h | .any _,.struct _,h=>by simp[Ty.beq] at h
 | .int _,.any _,h | .bool,.any _,h | .str,.any _,h | .slice _,.any _,h | .arr _ _,.any _,h | .struct _,.any _,h=>by simp[Ty.beq] at h
 | .int _,.bool,h | .int _,.str,h | .int _,.slice _,h | .int _,.arr _ _,h | .int _,.struct _,h=>by simp[Ty.beq] at h
 | .bool,.int _,h | .bool,.str,h | .bool,.slice _,h | .bool,.arr _ _,h | .bool,.struct _,h=>by simp[Ty.beq] at h
 | .str,.int _,h | .str,.bool,h | .str,.slice _,h | .str,.arr _ _,h | .str,.struct _,h=>by simp[Ty.beq] at h
 | .slice _,.int _,h | .slice _,.bool,h | .slice _,.str,h | .slice _,.arr _ _,h | .slice _,.struct _,h=>by simp[Ty.beq] at h
 | .arr _ _,.int _,h | .arr _ _,.bool,h | .arr _ _,.str,h | .arr _ _,.slice _,h | .arr _ _,.struct _,h=>by simp[Ty.beq] at h
 | .struct _,.int _,h | .struct _,.bool,h | .struct _,.str,h | .struct _,.slice _,h | .struct _,.arr _ _,h=>by simp[Ty.beq] at h
theorem Ty.Dt:∀{c bs:List Ty},Ty.Ua c bs=true->c=bs
 | [], [],_=>rfl
 | a::c,b::bs,h=>by
   rw[Ty.Ua,fQ] at h;rw[Ty.eq_of_beq h.1,Ty.Dt h.2]
 | [],_::_,h=>by simp[Ty.Ua] at h
 | _::_, [],h=>by simp[Ty.Ua] at h
end
mutual
def Ty.gD:(t:Ty)->t.T
 | .int _=>(0:Int)
 | .bool=>false
 | .str=>([]:List UInt8)
 | .slice t=>([]:List t.T)
 | .arr n t=>List.replicate n (Ty.gD t)
 | .struct ts=>Ty.aR ts
 | .any _=>()
def Ty.aR:(a:List Ty)->Ty.Ts a
 | []=>()
 | [t]=>Ty.gD t
 | t::b::a=>(Ty.gD t,Ty.aR (b::a))
end
mutual
def Ty.rN:Ty->Bool
 | .slice t=>t.rN
 | .arr _ t=>t.rN
 | .struct ts=>Ty.Hd ts
 | .any _=>false
 | _=>true
def Ty.Hd:List Ty->Bool
 | []=>true
 | t::ts=>t.rN&&Ty.Hd ts
end
mutual
def Ty.scalar:Ty->Bool
 | .int _=>true
 | .bool=>true
 | .str=>true
 | .arr _ t=>t.scalar
 | .struct ts=>Ty.mV ts
 | _=>false
def Ty.mV:List Ty->Bool
 | []=>true
 | t::ts=>t.scalar&&Ty.mV ts
end
structure aS where
 b:BinOp->IntKind->Int->Int->Int
 c:BinOp->Int->Int->Bool
 u:UnOp->IntKind->Int->Int
 v:IntKind->Int->Int
 mn:Int->Int->Int
 mx:Int->Int->Int
 and:Bool->Bool->Bool
 not:Bool->Bool
 q:Bool->Bool->Bool
 l:{α:Type}->List α->Int
 n:(t:Ty)->List t.T->Int->t.T
 set:{α:Type}->List α->Int->α->List α
 s:{α:Type}->List α->Int->Int->List α
 p:{α:Type}->List α->List α->List α
 r:{α:Type}->Int->α->List α
 spl:{α:Type}->List α->Int->List α->List α
 z:BinOp->List UInt8->List UInt8->Bool
 byte:List UInt8->Int->Int
 bytes:List Int->List UInt8
 ints:List UInt8->List Int
 k:{α β:Type}->(α->β)->α->β
def Ea(c:BinOp)(k:IntKind)(a b:Int):Int:=
 match c with
 | .add=>k.wrap (a+b)
 | .sub=>k.wrap (a-b)
 | .mul=>k.wrap (a*b)
 | .quo=>k.wrap (a.tdiv b)
 | .rem=>a.tmod b
 | .and=>k.wrap (BitVec.ofInt k.bits a &&& BitVec.ofInt k.bits b).toNat
 | .or=>k.wrap (BitVec.ofInt k.bits a ||| BitVec.ofInt k.bits b).toNat
 | .xor=>k.wrap (BitVec.ofInt k.bits a ^^^ BitVec.ofInt k.bits b).toNat
 | .andNot=>k.wrap (BitVec.ofInt k.bits a &&& ~~~ BitVec.ofInt k.bits b).toNat
 | .shl=>k.wrap (a*2^min b.toNat k.bits)
 | .shr=>a.fdiv (2^min b.toNat k.bits)
 | _=>0
def wJ(a:BinOp)(x y:Int):Bool:=
 match a with
 | .eql=>x==y
 | .neq=>x != y
 | .lss=>decide (x<y)
 | .leq=>decide (x<=y)
 | .gtr=>decide (x > y)
 | .geq=>decide (x >= y)
 | _=>false
def awb(a:UnOp)(k:IntKind)(n:Int):Int:=
 match a with
 | .neg=>k.wrap (0-n)
 | .xor=>k.wrap (BitVec.ofInt k.bits (if k.signed then -1 else k.max) ^^^ BitVec.ofInt k.bits n).toNat
 | _=>0
def aai(a:BinOp)(x y:List UInt8):Bool:=
 match a with
 | .eql=>x==y
 | .neq=>!(x==y)
 | .lss=>Op.bytesLess x y
 | .leq=>Op.bytesLess x y||x==y
 | .gtr=>!(Op.bytesLess x y||x==y)
 | .geq=>!Op.bytesLess x y
 | _=>false
def af:aS where
 b:=Ea
 c:=wJ
 u:=awb
 v k n:=k.wrap n
 mn x y:=if y<x then y else x
 mx x y:=if y > x then y else x
 and a b:=a&&b
 not a:=!a
 q a b:=a==b
 l x:=x.length
 n t x i:=x.getD i.toNat t.gD
 set x i v:=x.set i.toNat v
 s x lo hi:=(x.take hi.toNat).drop lo.toNat
 p x y:=x++y
 r n v:=List.replicate n.toNat v
 spl x i y:=x.take i.toNat++y++x.drop (i.toNat+y.length)
 z:=aai
 byte s i:=((s.getD i.toNat 0).toNat:Int)
 bytes x:=x.map λn=>UInt8.ofNat n.toNat
 ints s:=s.map λb=>(b.toNat:Int)
 k f x:=f x
inductive AV where
 | undef
 | int (k:IntKind) (c:Bool) (n:Int)
 | bool (c:Bool) (b:Bool)
 | str (c:Bool) (s:List UInt8)
 | sl (t:Ty) (x:List t.T)
 | gi (isNil:Bool)
 | own (id:Nat)
 | uh (id sz:Nat) (c:Bool) (lo len:Int)
 | ptr (id off:Nat)
 | kV (id:Nat) (i:Int) (off:Nat)
 | yP (id off n:Nat) (t:Ty) (i:Int)
 | pj (t:Ty) (x:t.T) (off:Nat)
 | jT
 | fn (f:FuncId) (first caps:List AV)
 | yield (l:Nat)
 | s_
 | agg (cells:List AV)
 | yy (vs:List AV)
def AV.YS:AV->Bool
 | .agg _=>false
 | .yy _=>false
 | _=>true
def AV.cells:AV->List AV
 | .agg cs=>cs
 | v=>[v]
mutual
def lb(A:aS):(t:Ty)->t.T->List AV
 | .int k,x=>[.int k false x]
 | .bool,x=>[.bool false x]
 | .str,x=>[.str false x]
 | .slice t,x=>[.sl t x]
 | .arr n t,x=>(List.range n).flatMap λ(i:Nat)=>lb A t (A.n t x (i:Int))
 | .struct ts,x=>AA A ts x
 | .any n,_=>List.replicate n .undef
def AA(A:aS):(a:List Ty)->Ty.Ts a->List AV
 | [],_=>[]
 | [t],x=>lb A t x
 | t::b::a,x=>lb A t (Prod.fst (α:=t.T) (β:=Ty.Ts (b::a)) x)++AA A (b::a) (Prod.snd (α:=t.T) (β:=Ty.Ts (b::a)) x)
end
def Ul(A:aS)(t:Ty)(x:t.T):AV:=
 match t.isAgg with
 | true=>.agg (lb A t x)
 | false=>(lb A t x).headD .undef
def BO{α:Type}(f:List AV->Option (α×List AV)):Nat->List AV->Option (List α×List AV)
 | 0,cs=>some ([],cs)
 | n+1,cs=>match f cs with
   | none=>none
   | some (a,r)=>match BO f n r with
     | none=>none
     | some (b,r')=>some (a::b,r')
mutual
def xL:(t:Ty)->List AV->Option (t.T×List AV)
 | .int k,cs=>match cs with
   | []=>none
   | v::r=>match v with
     | .int k' _ n=>match qA k' k with|true=>some (n,r)|false=>none
     | _=>none
 | .bool,cs=>match cs with
   | []=>none
   | v::r=>match v with
     | .bool _ b=>some (b,r)
     | _=>none
 | .str,cs=>match cs with
   | []=>none
   | v::r=>match v with
     | .str _ s=>some (s,r)
     | _=>none
 | .slice t,cs=>match cs with
   | []=>none
   | v::r=>match v with
     | .sl t' x=>if h:t'.beq t=true then some (Ty.eq_of_beq h▸x,r) else none
     | .gi _=>some ([],r)
     | _=>none
 | .arr n t,cs=>BO (xL t) n cs
 | .struct ts,cs=>qL ts cs
 | .any n,cs=>match Nat.ble n cs.length with
   | true=>some ((),cs.drop n)
   | false=>none
def qL:(c:List Ty)->List AV->Option (Ty.Ts c×List AV)
 | [],cs=>some ((),cs)
 | [t],cs=>xL t cs
 | t::e::c,cs=>match xL t cs with
   | none=>none
   | some (a,r)=>match qL (e::c) r with
     | none=>none
     | some (b,r')=>some ((a,b),r')
end
inductive PT (α:Type) where
 | leaf
 | node (l:PT α) (v:Option α) (r:PT α)
def PT.get{α:Type}:PT α->Nat->Option α
 | .leaf,_=>none
 | .node l v r,n=>match Nat.beq n 0 with
   | true=>v
   | false=>match Nat.beq (n%2) 1 with
     | true=>l.get (n/2)
     | false=>r.get (n/2-1)
def PT.put{α:Type}:Nat->PT α->Nat->α->PT α
 | 0,t,_,_=>t
 | f+1,.leaf,n,a=>match Nat.beq n 0 with
   | true=>.node .leaf (some a) .leaf
   | false=>match Nat.beq (n%2) 1 with
     | true=>.node (PT.put f .leaf (n/2) a) none .leaf
     | false=>.node .leaf none (PT.put f .leaf (n/2-1) a)
 | f+1,.node l v r,n,a=>match Nat.beq n 0 with
   | true=>.node l (some a) r
   | false=>match Nat.beq (n%2) 1 with
     | true=>.node (PT.put f l (n/2) a) v r
     | false=>.node l v (PT.put f r (n/2-1) a)
abbrev Env:=PT AV
def Env.at(e:Env)(n:Nat):AV:=match PT.get e n with|some v=>v|none=>.undef
def Env.put(e:Env)(n:Nat)(v:AV):Env:=PT.put 20 e n v
def Env.ol(e:Env)(d:Option Nat)(v:AV):Env:=match d with|some n=>e.put n v|none=>e
def Env.of:Nat->List AV->Env->Env
 | _, [],e=>e
 | n,v::vs,e=>Env.of (n+1) vs (e.put n v)
def aj_:IntKind->Int
 | .i8=> -128 | .i16=> -32768 | .i32=> -2147483648 | .i64=> -9223372036854775808|_=>0
def aj9:IntKind->Int
 | .i8=>127 | .i16=>32767 | .i32=>2147483647 | .i64=>9223372036854775807
 | .u8=>255 | .u16=>65535 | .u32=>4294967295 | .u64=>18446744073709551615
def Ls:Value->AV
 | .int k n=>match decide (aj_ k<=n)&&decide (n<=aj9 k) with|true=>.int k true n|false=>.undef
 | .bool b=>.bool true b
 | .string s=>match Nat.ble s.data.toList.length 140737488355328 with|true=>.str true s.data.toList|false=>.undef
 | .slice none 0 0=>.gi true
 | .pointer none=>.jT
 | .nilFunc=>.s_
 | _=>.undef
def mF(e:Env):Operand->AV
 | .tmp t=>e.at t
 | .const v=>Ls v
 | .global _=>.undef
 | .func f=>.fn f [] []
structure M4 where
 fn:FuncId
 n:Nat
 env:Env
 params:List Nat
 assign:Code
 body:Code
 state:Nat
 pending:Option Code
inductive iR where
 | bT
 | aZ
 | ay (fz:Bool) (cells:List AV)
 | arr (fz:Bool) (t:Ty) (x:List t.T)
 | loop (r:M4)
 | It
 | Uk
abbrev Mem:=List iR
def Mem.at(m:Mem)(i:Nat):iR:=m.getD i .bT
inductive dW where
 | code (c:Code)
 | inBlock (id:Nat)
 | inLoop (body:Code)
 | inScope (body:Code)
 | ops (all:Array Oper) (rest:List Oper)
 | jI (all:Array Oper) (ms:List Nat) (rest bs:List Nat)
 | rR (all:Array Oper) (ms:List Nat) (i:Nat) (rest bs:List Nat)
 | oI (l:Nat)
 | oX (l:Nat)
 | beginRound
structure dJ where
 fn:FuncId
 n:Nat
 env:Env
 todo:List dW
 marks:List Nat
 gl:Option Nat
structure iH where
 bF:List dJ
 mem:Mem
def iR.lh:iR->Bool
 | .aZ=>true
 | _=>false
def AV.known(m:Mem):AV->Bool
 | .undef=>false
 | .own id=>!(m.at id).lh
 | .uh id _ _ _ _=>!(m.at id).lh
 | .ptr id _=>!(m.at id).lh
 | .kV id _ _=>!(m.at id).lh
 | .yP id _ _ _ _=>!(m.at id).lh
 | .yield l=>!(m.at l).lh
 | _=>true
inductive TK where
 | bool|int (k:IntKind)|str|slice (e:Nat)|arr (n e:Nat)|struct (fs:List (Nat×Nat×Bool))|ptr (e:Nat)|func|other
structure TI where
 kind:TK
 size:Nat
 bytes:Nat
 agg:Bool
 zero:List AV
 ty:Option Ty
 eq:Bool
structure aM where
 args:List Ty
 res:List Ty
 pre:Ty.Ts args->Bool
 fn:Ty.Ts args->Ty.Ts res
 M3:Bool
structure qm where
 view:Ty
 args:List Ty
 res:List Ty
 pre:view.T×Ty.Ts args->Bool
 fn:view.T×Ty.Ts args->Ty.Ts res
inductive VF where
 | d (t:Ty)
 | own (t:Ty)
 | fix (k:Nat) (t:Ty)
 | ptr (fs:List VF)
 | nM (fs:List VF)
mutual
def VF.ty:VF->Ty
 | .d t=>t
 | .own t=>.slice t
 | .fix _ t=>.slice t
 | .ptr fs=>.struct (VF.iA fs)
 | .nM fs=>.struct (VF.iA fs)
def VF.iA:List VF->List Ty
 | []=>[]
 | f::fs=>f.ty::VF.iA fs
end
def VF.fz:VF->Bool
 | .nM _=>true
 | _=>false
def VF.sub:VF->List VF
 | .nM fs=>fs
 | .ptr fs=>fs
 | _=>[]
def VF.size:VF->Nat
 | .d t=>t.size
 | _=>1
def VF.mq:List VF->Nat
 | []=>0
 | f::fs=>f.size+VF.mq fs
structure cd where
 aL:List VF
 args:List Ty
 res:List Ty
 pre:Ty.Ts (VF.iA aL)×Ty.Ts args->Bool
 fn:Ty.Ts (VF.iA aL)×Ty.Ts args->Ty.Ts (VF.iA aL)×Ty.Ts res
 rp:Bool
 M3:Bool
structure fT where
 elem:Ty
 args:List Ty
 lI:List FuncId
 res:List Ty
 pre:List elem.T×Ty.Ts args->Bool
 fn:List elem.T×Ty.Ts args->List elem.T×Ty.Ts res
structure oV where
 args:List Ty
 out:VF
 opt:Bool
 res:List Ty
 pre:Ty.Ts args->Bool
 fn:Ty.Ts args->Bool×out.ty.T×Ty.Ts res
structure Stop where
 fn:FuncId
 rid:Nat
 keep:List (List Nat)
structure kj(R:Type) where
 ti:PT TI
 lI:List (FuncId×Func)
 j6:List (FuncId×aM)
 stops:List Stop
 qg:List Stop
 consts:List (FuncId×Nat)
 fin:AV->Mem->Option R
 uG:List (FuncId×qm):=[]
 uF:List (FuncId×cd):=[]
 keep:Nat:=0
 uE:List (FuncId×fT):=[]
 ops:List (FuncId×oV):=[]
def Lc:List Stop->FuncId->Option Nat->Bool
 | [],_,_=>false
 | _::_,_,none=>false
 | s::r,f,some d=>match Nat.beq s.fn f&&Nat.beq s.rid (d+1000000) with
   | true=>true
   | false=>Lc r f (some d)
def Fz:List (FuncId×Nat)->FuncId->Option Nat->Bool
 | [],_,_=>false
 | (f,i)::r,g,d=>match Nat.beq f g,d with
   | true,some j=>match Nat.beq i j with|true=>true|false=>Fz r g d
   | _,_=>Fz r g d
def look{α:Type}:List (Nat×α)->Nat->Option α
 | [],_=>none
 | (i,a)::r,n=>match Nat.beq i n with|true=>some a|false=>look r n
inductive TV (α:Type) where
 | leaf (a:α)
 | br (b:Bool) (t e:TV α)
 | ap (b:Bool) (t:TV α)
 | bT (n:Nat)
inductive Tr (R:Type) where
 | ret (y:R)
 | ao (c:iH)
 | br (b:Bool) (t e:Tr R)
 | ap (b:Bool) (t:Tr R)
 | eqs (p:Prop) (t:Tr R)
 | same (l r:AV) (t:Tr R)
 | and (a b:Tr R)
 | bT (n:Nat) (pos:String)
def TV.bind{α R:Type}(c:String):TV α->(α->Tr R)->Tr R
 | .leaf a,K=>K a
 | .br b t e,K=>.br b (TV.bind c t K) (TV.bind c e K)
 | .ap b t,K=>.ap b (TV.bind c t K)
 | .bT n,_=>.bT n c
def TV.map{α β:Type}(f:α->β):TV α->TV β
 | .leaf a=>.leaf (f a)
 | .br b t e=>.br b (t.map f) (e.map f)
 | .ap b t=>.ap b (t.map f)
 | .bT n=>.bT n
def GA{α:Type}(n:Nat):Option α->TV α
 | some a=>.leaf a
 | none=>.bT n
def N4{α:Type}(c:Bool)(b:Bool)(t:TV α):TV α:=
 match c with
 | true=>match b with|true=>t|false=>.bT 2
 | false=>.ap b t
section
variable (A:aS)
def xv(k:IntKind)(c:Bool)(f:aS->Int):AV:=
 match c with
 | true=>.int k true (f af)
 | false=>.int k false (f A)
def xu(c:Bool)(f:aS->Bool):AV:=
 match c with
 | true=>.bool true (f af)
 | false=>.bool false (f A)
def J5:BinOp->Bool
 | .eql=>true | .neq=>true | .lss=>true | .leq=>true | .gtr=>true | .geq=>true|_=>false
def fG:List AV->List AV->Option (Bool×(aS->Bool))
 | [], []=>some (true,λ_=>true)
 | .int k c a::xs,.int k' c' b::ys=>match qA k k' with
   | false=>none
   | true=>match fG xs ys with
     | none=>none
     | some (c2,g)=>some (c&&c'&&c2,λA=>A.and (A.c .eql a b) (g A))
 | .bool c a::xs,.bool c' b::ys=>match fG xs ys with
   | none=>none
   | some (c2,g)=>some (c&&c'&&c2,λA=>A.and (A.q a b) (g A))
 | .str c a::xs,.str c' b::ys=>match fG xs ys with
   | none=>none
   | some (c2,g)=>some (c&&c'&&c2,λA=>A.and (A.z .eql a b) (g A))
 | _,_=>none
def Tt:AV->AV->Bool
 | .int k _ _,.int k' _ _=>qA k k'
 | .bool _ _,.bool _ _=>true
 | .str _ _,.str _ _=>true
 | _,_=>false
def nk:List AV->List AV->Bool
 | [], []=>true
 | a::as,b::bs=>Tt a b&&nk as bs
 | _,_=>false
def vI(b:BinOp)(a:Bool):TV AV:=
 match b with
 | .eql=>.leaf (.bool true a)
 | .neq=>.leaf (.bool true (!a))
 | _=>.bT 9
def Pw(f:BinOp)(k:IntKind)(c:Bool)(a:Int)(g:IntKind)(e:Bool)(b:Int):TV AV:=
 match qA k g with
 | false=>.bT 3
 | true=>match J5 f with
   | true=>.leaf (xu A (c&&e) λA=>A.c f a b)
   | false=>match f with
     | .quo=>N4 e (match e with|true=>af.c .neq b 0|false=>A.c .neq b 0) (.leaf (xv A k (c&&e) λA=>A.b .quo k a b))
     | .rem=>N4 e (match e with|true=>af.c .neq b 0|false=>A.c .neq b 0) (.leaf (xv A k (c&&e) λA=>A.b .rem k a b))
     | f=>.leaf (xv A k (c&&e) λA=>A.b f k a b)
def K2(f:BinOp)(k:IntKind)(c:Bool)(a:Int)(e:Bool)(b:Int):TV AV:=
 N4 e (match e with|true=>af.c .leq 0 b|false=>A.c .leq 0 b) (.leaf (xv A k (c&&e) λA=>A.b f k a b))
def XE(m:Mem)(e:Option TI)(f:BinOp)(x y:AV):TV AV:=
 match x with
 | .int k c a=>match y with
   | .int k' c' b=>match f with
     | .shl=>K2 A .shl k c a c' b
     | .shr=>K2 A .shr k c a c' b
     | f=>Pw A f k c a k' c' b
   | _=>.bT 10
 | .bool c a=>match y with
   | .bool c' b=>match e with
     | some e=>match e.kind with
       | .bool=>match f with
         | .eql=>.leaf (xu A (c&&c') λA=>A.q a b)
         | .neq=>.leaf (xu A (c&&c') λA=>A.not (A.q a b))
         | _=>.bT 4
       | _=>.bT 4
     | none=>.bT 4
   | _=>.bT 10
 | .str c a=>match y with
   | .str c' b=>match J5 f with
     | true=>.leaf (xu A (c&&c') λA=>A.z f a b)
     | false=>match f with
       | .add=>.ap (A.c .leq (A.l (A.p a b)) 140737488355328) (.leaf (.str false (A.p a b)))
       | _=>.bT 5
   | _=>.bT 10
 | .agg xs=>match y with
   | .agg ys=>match e with
     | some e=>match e.eq&&(e.agg&&nk xs e.zero) with
       | false=>.bT 6
       | true=>match fG xs ys with
         | none=>.bT 7
         | some (c,g)=>match f with
           | .eql=>.leaf (xu A c g)
           | .neq=>.leaf (xu A c λA=>A.not (g A))
           | _=>.bT 8
     | none=>.bT 6
   | _=>.bT 10
 | .fn _ _ _=>match y with
   | .s_=>match e with
     | some e=>match e.kind with | .func=>vI f false|_=>.bT 9
     | none=>.bT 9
   | _=>.bT 10
 | .s_=>match y with
   | .s_=>match e with
     | some e=>match e.kind with | .func=>vI f true|_=>.bT 9
     | none=>.bT 9
   | _=>.bT 10
 | .jT=>match y with
   | .jT=>match e with
     | some e=>match e.kind with | .ptr _=>vI f true|_=>.bT 9
     | none=>.bT 9
   | _=>.bT 10
 | .ptr id _=>match y,m.at id with
   | .jT,.ay _ _=>match e with
     | some e=>match e.kind with | .ptr _=>vI f false|_=>.bT 9
     | none=>.bT 9
   | _,_=>.bT 10
 | .gi true=>match y with
   | .gi true=>match e with
     | some e=>match e.kind with | .slice _=>vI f true|_=>.bT 9
     | none=>.bT 9
   | _=>.bT 10
 | .own id=>match y,m.at id with
   | .gi true,.arr _ _ l=>match e with
     | some e=>match e.kind with | .slice _=>.ap (A.c .neq (A.l l) 0) (vI f false)|_=>.bT 9
     | none=>.bT 9
   | _,_=>.bT 10
 | .sl _ l=>match y with
   | .gi true=>match e with
     | some e=>match e.kind with | .slice _=>.ap (A.c .neq (A.l l) 0) (vI f false)|_=>.bT 9
     | none=>.bT 9
   | _=>.bT 10
 | _=>.bT 10
def ajB(a:UnOp)(x:AV):TV AV:=
 match a,x with
 | .neg,.int k c n=>.leaf (xv A k c λA=>A.u .neg k n)
 | .xor,.int k c n=>.leaf (xv A k c λA=>A.u .xor k n)
 | .not,.bool c b=>.leaf (xu A c λA=>A.not b)
 | _,_=>.bT 11
def dU(off n:Nat)(a:List AV):Option (List AV):=
 match Nat.ble (off+n) a.length with
 | true=>some ((a.drop off).take n)
 | false=>none
def P7(m:Mem)(p:AV)(n:Nat):Option (List AV):=
 match p with
 | .ptr id off=>match m.at id with
   | .ay _ cs=>dU off n cs
   | _=>none
 | .kV id i off=>match m.at id with
   | .arr _ t x=>dU off n (lb A t (A.n t x i))
   | _=>none
 | .yP id off k t i=>match m.at id with
   | .ay _ cs=>match Nat.beq t.size n,dU off (k*n) cs with
     | true,some l=>match BO (xL t) k l with
       | some (x,_)=>some (lb A t (A.n t x i))
       | none=>none
     | _,_=>none
   | _=>none
 | .pj t x off=>dU off n (lb A t x)
 | _=>none
def RG(agg:Bool)(a:List AV):Option AV:=
 match agg with
 | true=>some (.agg a)
 | false=>match a with
   | [v]=>some v
   | _=>none
def FI(a:Option TI)(m:Mem)(p:AV):TV AV:=
 match a with
 | none=>.bT 20
 | some a=>match P7 A m p a.size with
   | none=>.bT 21
   | some cs=>GA 22 (RG a.agg cs)
def WV(m:Mem)(p:AV)(n:Nat):Option AV:=
 match p with
 | .ptr id off=>match m.at id with
   | .ay _ _=>some (.ptr id (off+n))
   | _=>none
 | .kV id i off=>match m.at id with
   | .arr _ _ _=>some (.kV id i (off+n))
   | _=>none
 | .pj t x off=>some (.pj t x (off+n))
 | _=>none
def w8(m:Mem)(a:Option TI)(p:AV)(i:Nat):TV AV:=
 match a with
 | some {kind:=.struct fs,.. }=>match fs[i]? with
   | some (off,size,_)=>match Nat.beq size 0 with
     | true=>.bT 23
     | false=>GA 24 (WV m p off)
   | none=>.bT 25
 | _=>.bT 26
def mR(c:Bool)(i:Int)(a:Bool)(n:Int)(t:TV AV):TV AV:=
 match c&&a with
 | true=>match af.and (af.c .leq 0 i) (af.c .lss i n) with|true=>t|false=>.bT 31
 | false=>.ap (A.and (A.c .leq 0 i) (A.c .lss i n)) t
def w9(f:Option TI)(a:Nat->Option TI)(m:Mem)(x b:AV):TV AV:=
 match b with
 | .int _ c i=>
   match f with
   | some {kind:=.arr n e,.. }=>match a e,x with
     | some a,.ptr id off=>match m.at id with
       | .ay _ _=>match c with
         | true=>mR A true i true n (.leaf (.ptr id (off+i.toNat*a.size)))
         | false=>match a.ty with
           | some t=>mR A false i true n (.leaf (.yP id off n t i))
           | none=>.bT 32
       | _=>.bT 32
     | _,_=>.bT 33
   | some {kind:=.slice e,.. }=>match a e with
     | some a=>match x with
       | .sl t l=>match Nat.beq a.size t.size with
         | true=>mR A false i false (A.l l) (.leaf (.pj t (A.n t l i) 0))
         | false=>.bT 37
       | .own id=>match m.at id with
         | .arr _ t l=>match Nat.beq a.size t.size with
           | true=>mR A false i false (A.l l) (.leaf (.kV id i 0))
           | false=>.bT 37
         | _=>.bT 34
       | .uh id sz c' lo len=>match m.at id with
         | .arr _ t _=>match Nat.beq a.size t.size with
           | true=>mR A c i c' len (.leaf (.kV id (A.b .add .i64 lo i) 0))
           | false=>.bT 37
         | .ay _ cs=>match c&&(c'&&Nat.beq sz a.size) with
           | true=>mR A true i true len (.leaf (.ptr id ((lo+i).toNat*a.size)))
           | false=>match a.ty,c'&&Nat.beq sz a.size with
             | some t,true=>mR A c i c' len (.leaf (.yP id (lo.toNat*a.size) len.toNat t i))
             | some t,false=>match Nat.beq sz a.size&&Nat.blt 0 a.size with
               | true=>mR A c i c' len (.leaf (.yP id 0 (cs.length/a.size) t (A.b .add .i64 lo i)))
               | false=>.bT 35
             | _,_=>.bT 35
         | _=>.bT 36
       | _=>.bT 37
     | none=>.bT 38
   | _=>.bT 39
 | _=>.bT 40
def K0(f:Option TI)(a:Nat->Option TI)(x b:AV):TV AV:=
 match b with
 | .int _ c i=>
   match f,x with
   | some {kind:=.arr n e,.. },.agg cs=>match a e with
     | some a=>match c with
       | true=>match dU (i.toNat*a.size) a.size cs with
         | some l=>match RG a.agg l with
           | some v=>mR A true i true n (.leaf v)
           | none=>.bT 41
         | none=>.bT 42
       | false=>match a.ty with
         | some t=>match BO (xL t) n cs with
           | some (l,_)=>mR A false i true n (.leaf (Ul A t (A.n t l i)))
           | none=>.bT 43
         | none=>.bT 44
     | none=>.bT 45
   | some {kind:=.str,.. },.str c' s=>match c&&c' with
     | true=>mR A true i true s.length (.leaf (.int .u8 true (af.byte s i)))
     | false=>mR A false i false (A.l s) (.leaf (.int .u8 false (A.byte s i)))
   | _,_=>.bT 46
 | _=>.bT 47
def bound(c:Bool)(n:Int):Option AV->Option (Bool×Int)
 | none=>some (c,n)
 | some (.int _ c i)=>some (c,i)
 | _=>none
def Gv(c:Bool)(l h n:Int)(t:TV AV):TV AV:=
 match c with
 | true=>match af.and (af.c .leq 0 l) (af.and (af.c .leq l h) (af.c .leq h n)) with|true=>t|false=>.bT 48
 | false=>.ap (A.and (A.c .leq 0 l) (A.and (A.c .leq l h) (A.c .leq h n))) t
def zJ(n:Nat)(a:TI)(m:Mem)(x:AV)(c b:Option AV):TV AV:=
 match x with
 | .ptr id off=>match m.at id with
   | .ay _ cs=>match Nat.beq a.size 0,Nat.beq (off%a.size) 0&&(Nat.ble (off+n*a.size) cs.length&&Nat.ble (off/a.size+n) 140737488355328) with
     | false,true=>match bound true 0 c,bound true n b with
       | some (c1,l),some (c2,h)=>match c1&&c2 with
         | true=>Gv A true l h n (.leaf (.uh id a.size true ((off/a.size:Nat)+l) (h-l)))
         | false=>Gv A false l h n (.leaf (.uh id a.size false (A.b .add .i64 (off/a.size:Nat) l) (A.b .sub .i64 h l)))
       | _,_=>.bT 51
     | _,_=>.bT 50
   | _=>.bT 49
 | _=>.bT 52
def rT:List AV->Bool
 | []=>true
 | v::vs=>match v with
   | .own _=>false
   | .uh _ _ _ _ _=>false
   | _=>rT vs
def Yu(m:Mem)(a:TI)(v:AV):AV:=
 match v with
 | .uh id sz true lo n=>match m.at id,a.ty with
   | .ay true cs,some t=>match dU (lo.toNat*t.size) (n.toNat*t.size) cs with
     | some l=>match Nat.beq sz t.size&&rT l with
       | true=>match BO (xL t) n.toNat l with
         | some (x, [])=>.sl t x
         | _=>.uh id sz true lo n
       | false=>.uh id sz true lo n
     | none=>.uh id sz true lo n
   | _,_=>.uh id sz true lo n
 | v=>v
def FK(a:Nat)(m:Mem)(x:AV)(c b e:Option AV):TV AV:=
 match x with
 | .sl t s=>match Nat.beq t.size a with
   | false=>.bT 53
   | true=>match e with
     | none=>match bound true 0 c,bound false (A.l s) b with
       | some (_,l),some (_,h)=>Gv A false l h (A.l s) (.leaf (.sl t (A.s s l h)))
       | _,_=>.bT 53
     | some _=>.bT 53
 | .own id=>match m.at id with
   | .arr _ t s=>match Nat.beq t.size a with
     | false=>.bT 54
     | true=>match e with
       | none=>match bound true 0 c,bound false (A.l s) b with
         | some (_,l),some (_,h)=>Gv A false l h (A.l s) (.leaf (.uh id t.size false l (A.b .sub .i64 h l)))
         | _,_=>.bT 54
       | some _=>.bT 54
   | _=>.bT 55
 | _=>.bT 59
def K3(g:Option TI)(a:Nat->Option TI)(m:Mem)(x:AV)(c b f:Option AV):TV AV:=
 match g with
 | none=>.bT 62
 | some g=>match g.kind with
   | .arr n e=>match a e,f with
     | some a,none=>(zJ A n a m x c b).map (Yu m a)
     | _,_=>.bT 52
   | .slice e=>match a e with
     | some a=>FK A a.size m x c b f
     | none=>.bT 62
   | .str=>match x,f with
     | .str _ s,none=>match bound true 0 c,bound false (A.l s) b with
       | some (_,l),some (_,h)=>Gv A false l h (A.l s) (.leaf (.str false (A.s s l h)))
       | _,_=>.bT 60
     | _,_=>.bT 61
   | _=>.bT 62
def iD(off:Nat)(a b:List AV):Option (List AV):=
 match Nat.ble (off+a.length) b.length with
 | true=>some (b.take off++a++b.drop (off+a.length))
 | false=>none
def Nr(m:Mem)(b:List (Nat×Nat×Bool)):List (Nat×AV)->List AV->Option (List AV)
 | [],cs=>some cs
 | (i,v)::ps,cs=>match b[i]? with
   | none=>none
   | some (off,size,_)=>match v.known m&&Nat.beq v.cells.length size with
     | false=>none
     | true=>match iD off v.cells cs with
       | none=>none
       | some a=>Nr m b ps a
def FO(m:Mem)(size:Nat):List (Nat×AV)->List AV->Option (List AV)
 | [],cs=>some cs
 | (i,v)::ps,cs=>match v.known m&&Nat.beq v.cells.length size with
   | false=>none
   | true=>match iD (i*size) v.cells cs with
     | none=>none
     | some a=>FO m size ps a
def KQ(m:Mem)(c:Option TI)(a:Nat->Option TI)(b:List (Nat×AV)):TV AV:=
 match c with
 | some {kind:=.struct fs,zero:=z,.. }=>GA 63 ((Nr m fs b z).map .agg)
 | some {kind:=.arr _ e,zero:=z,.. }=>match a e with
   | some a=>GA 64 ((FO m a.size b z).map .agg)
   | none=>.bT 65
 | _=>.bT 66
def KX(src a:Option TI)(x:AV):TV AV:=
 match src,a,x with
 | some _,some {kind:=.int k,.. },.int _ c n=>.leaf (xv A k c λA=>A.v k n)
 | some _,some {kind:=.str,.. },.str c s=>.leaf (.str c s)
 | _,_,_=>.bT 67
def XF(a:Option TI)(m:Mem)(x:AV):TV AV:=
 match a,x with
 | some {kind:=.str,.. },.str c s=>match c with
   | true=>.leaf (.int .i64 true s.length)
   | false=>.leaf (.int .i64 false (A.l s))
 | some {kind:=.arr n _,.. },_=>match Nat.ble n 140737488355328 with|true=>.leaf (.int .i64 true n)|false=>.bT 68
 | some {kind:=.slice _,.. },.sl _ l=>.leaf (.int .i64 false (A.l l))
 | some {kind:=.slice _,.. },.gi _=>.leaf (.int .i64 true 0)
 | some {kind:=.slice _,.. },.uh id _ c _ n=>match (m.at id).lh with|true=>.bT 68|false=>.leaf (.int .i64 c n)
 | some {kind:=.slice _,.. },.own id=>match m.at id with
   | .arr _ _ l=>.leaf (.int .i64 false (A.l l))
   | _=>.bT 68
 | _,_=>.bT 69
def XH:List AV->TV AV
 | [.int k c a,.int k' c' b]=>match qA k k' with|true=>.leaf (xv A k (c&&c') λA=>A.mn a b)|false=>.bT 70
 | _=>.bT 70
def XG:List AV->TV AV
 | [.int k c a,.int k' c' b]=>match qA k k' with|true=>.leaf (xv A k (c&&c') λA=>A.mx a b)|false=>.bT 71
 | [.int k c a,.int k' c' b,.int k'' e d]=>match qA k k',qA k k'' with|true,true=>.leaf (xv A k (c&&(c'&&e)) λA=>A.mx (A.mx a b) d)|_,_=>.bT 71
 | _=>.bT 71
def Pq(s d:Option TI)(a:Nat->Option TI)(t:Ty)(l:List t.T):Option (TV AV):=
 match s,d with
 | some {kind:=.slice e,.. },some {kind:=.str,.. }=>match a e with
   | some {kind:=.int .u8,.. }=>if h:t.beq (.int .u8)=true then some (.leaf (.str false (A.bytes (Ty.eq_of_beq h▸l:List (Ty.T (.int .u8)))))) else none
   | _=>none
 | _,_=>none
def tL{R:Type}(E:kj R)(ρ:Operand->AV)(m:Mem)(o:Oper):Option (TV AV):=
 match o.op with
 | .move x=>some (.leaf (ρ x))
 | .assign x=>some (.leaf (ρ x))
 | .pick c a b=>some (match ρ c with
   | .bool true v=>match v with|true=>.leaf (ρ a)|false=>.leaf (ρ b)
   | .bool false v=>.br v (.leaf (ρ a)) (.leaf (ρ b))
   | _=>.bT 72)
 | .load t p=>some (FI A (E.ti.get t) m (ρ p))
 | .nilCheck x=>some (match ρ x with
   | .ptr id off=>match m.at id with | .ay _ _=>.leaf (.ptr id off)|_=>.bT 73
   | .kV id i off=>match m.at id with | .arr _ _ _=>.leaf (.kV id i off)|_=>.bT 73
   | .pj t x off=>.leaf (.pj t x off)
   | .fn f a b=>.leaf (.fn f a b)
   | _=>.bT 73)
 | .binOp op t x y _=>some (XE A m (E.ti.get t) op (ρ x) (ρ y))
 | .unOp op _ x=>some (ajB A op (ρ x))
 | .convert s d x=>match ρ x with
   | .int k c n=>some (KX A (E.ti.get s) (E.ti.get d) (.int k c n))
   | .str c n=>match E.ti.get d with
     | some {kind:=.str,.. }=>some (KX A (E.ti.get s) (E.ti.get d) (.str c n))
     | _=>none
   | .sl t l=>Pq A (E.ti.get s) (E.ti.get d) E.ti.get t l
   | _=>none
 | .makeFunc (.func f) first e=>some (.leaf (.fn f (first.toList.map ρ) (e.toList.map ρ)))
 | .slice t x lo hi mx=>some (K3 A (E.ti.get t) E.ti.get m (ρ x) (lo.map ρ) (hi.map ρ) (mx.map ρ))
 | .fieldAddr t x i=>some (w8 m (E.ti.get t) (ρ x) i)
 | .field _ _ _=>some (.bT 40)
 | .indexAddr t x i=>some (w9 A (E.ti.get t) E.ti.get m (ρ x) (ρ i))
 | .index t x i=>some (K0 A (E.ti.get t) E.ti.get (ρ x) (ρ i))
 | .extract t i=>some (match ρ t with
   | .yy vs=>GA 74 vs[i]?
   | _=>.bT 75)
 | .build t ps=>some (KQ m (E.ti.get t) E.ti.get (ps.toList.map λp=>(p.1,ρ p.2)))
 | .call {callee:=.builtin .len,args,argTypes}=>some (match args.toList,argTypes.toList with
   | [x],t::_=>XF A (E.ti.get t) m (ρ x)
   | _,_=>.bT 76)
 | .call {callee:=.builtin .min,args,.. }=>some (XH A (args.toList.map ρ))
 | .call {callee:=.builtin .max,args,.. }=>some (XG A (args.toList.map ρ))
 | _=>none
def fU:Mem->List AV->Option (Mem×List AV)
 | m, []=>some (m, [])
 | m,v::vs=>
   match (match v with
    | .own id=>match m.at id with
      | .arr _ t x=>some (m.set id (.arr true t x),AV.sl t x)
      | _=>none
    | .uh id _ _ lo len=>match m.at id with
      | .arr _ t x=>some (m.set id (.arr true t x),AV.sl t (A.s x lo (A.b .add .i64 lo len)))
      | _=>none
    | v=>some (m,v)) with
   | none=>none
   | some (m,v)=>match fU m vs with
     | none=>none
     | some (m,vs)=>some (m,v::vs)
def mD(t:Ty)(m:Mem)(v:AV):Option (List t.T):=
 match v with
 | .sl t' x=>if h:t'.beq t=true then some (Ty.eq_of_beq h▸x) else none
 | .gi _=>some []
 | .own id=>match m.at id with
   | .arr _ t' x=>if h:t'.beq t=true then some (Ty.eq_of_beq h▸x) else none
   | _=>none
 | .uh id sz c lo len=>match m.at id with
   | .arr _ t' x=>if h:t'.beq t=true then some (A.s (Ty.eq_of_beq h▸x) lo (A.b .add .i64 lo len)) else none
   | .ay _ cs=>match c&&Nat.beq sz t.size with
     | true=>match dU (lo.toNat*t.size) (len.toNat*t.size) cs with
       | some l=>match fU A m l with
         | some (_,l)=>match BO (xL t) len.toNat l with
           | some (x,_)=>some x
           | none=>none
         | none=>none
       | none=>none
     | false=>none
   | _=>none
 | _=>none
def lL(t:Ty)(m:Mem)(v:AV):Option Mem:=
 match v with
 | .uh id _ _ lo len=>match m.at id with
   | .ay _ cs=>match dU (lo.toNat*t.size) (len.toNat*t.size) cs with
      | some l=>match fU A m l with
        | some (m',_)=>some m'
        | none=>none
      | none=>none
   | _=>some m
 | _=>some m
def Mp(m:Mem)(p:AV)(a:List AV):Option Mem:=
 match p with
 | .ptr id off=>match m.at id with
   | .ay false cs=>match iD off a cs with
     | some b=>some (m.set id (.ay false b))
     | none=>none
   | _=>none
 | .kV id i off=>match fU A m a with
   | none=>none
   | some (m,a)=>match m.at id with
     | .arr false t x=>match iD off a (lb A t (A.n t x i)) with
       | some b=>match xL t b with
         | some (y, [])=>some (m.set id (.arr false t (A.set x i y)))
         | _=>none
       | none=>none
     | _=>none
 | .yP id off k t i=>match fU A m a with
   | none=>none
   | some (m,a)=>match m.at id with
     | .ay false cs=>match dU off (k*t.size) cs with
       | some l=>match BO (xL t) k l,xL t a with
         | some (x,_),some (y, [])=>match iD off (lb A (.arr k t) (A.set x i y)) cs with
           | some b=>some (m.set id (.ay false b))
           | none=>none
         | _,_=>none
       | none=>none
     | _=>none
 | _=>none
def Aw(m:Mem):List AV->Bool
 | []=>true
 | v::vs=>v.known m&&(v.YS&&Aw m vs)
def K4(a:Option TI)(m:Mem)(p v:AV):TV Mem:=
 match a with
 | none=>.bT 80
 | some a=>match v.known m&&(Nat.beq v.cells.length a.size&&Aw m v.cells) with
   | false=>.bT 81
   | true=>GA 82 (Mp A m p v.cells)
def room(a:Nat)(n:Int):Bool:=A.c .leq (A.b .mul .i64 n a) 140737488355328
def Br(t:Ty)(m:Mem)(v:AV):Option (AV×Mem):=
 match v with
 | .uh id sz true lo n=>match m.at id with
   | .ay false cs=>match decide (lo=0)&&(Nat.beq cs.length (n.toNat*t.size)&&(Nat.beq sz t.size && !Nat.beq t.size 0)) with
     | true=>match Nat.beq n.toNat 0 with
       | true=>some (.gi false,m)
       | false=>match fU A m cs with
         | some (m',a)=>match BO (xL t) n.toNat a with
           | some (x, [])=>some (.own m'.length,m'.set id .aZ ++ [.arr false t x])
           | _=>none
         | none=>none
     | false=>none
   | _=>none
 | v=>some (v,m)
def Ci(t:Ty)(m:Mem)(v:AV):Option (AV×Mem):=
 match v with
 | .uh id sz c lo n=>match m.at id with
   | .ay _ cs=>match Nat.beq sz t.size&&(!Nat.beq t.size 0&&Nat.beq cs.length (cs.length/t.size*t.size)) with
     | true=>match fU A m cs with
       | some (m',a)=>match BO (xL t) (cs.length/t.size) a with
         | some (x, [])=>some (.sl t (match c&&(decide (lo=0)&&decide (n=(cs.length/t.size:Nat))) with|true=>x|false=>A.s x lo (A.b .add .i64 lo n)),m'.set id (.ay true a))
         | _=>none
       | none=>none
     | false=>none
   | _=>none
 | _=>none
def Ch(t:Ty)(m:Mem)(v:AV):Option (AV×Mem):=
 match Ci A t m v with
 | some r=>some r
 | none=>none
def Gp:AV->Option Bool
 | .uh _ _ true _ n=>some (decide (n=0))
 | .gi _=>some true
 | _=>none
def Cn(t:Ty)(a:Nat)(m:Mem)(c:AV)(y:List t.T)(e:Option Bool):TV (AV×Mem):=
  match Br A t m c with
  | none=>.bT 85
  | some (c,m)=>match c with
    | .gi b=>match e with
      | some true=>.leaf (.gi b,m)
      | some false=>.ap (A.c .leq (A.l y) (140737488355328/(a.max 1:Nat))) (.leaf (.own m.length,m ++ [.arr false t y]))
      | none=>.br (A.c .eql (A.l y) 0) (.leaf (.gi b,m)) (.ap (A.c .leq (A.l y) (140737488355328/(a.max 1:Nat))) (.leaf (.own m.length,m ++ [.arr false t y])))
    | .own id=>match m.at id with
      | .arr false t' x=>if h:t'.beq t=true then
         .ap (A.c .leq (A.l (A.p (Ty.eq_of_beq h▸x) y)) (140737488355328/(a.max 1:Nat)))
          (.leaf (.own m.length,m.set id .aZ ++ [.arr false t (A.p (Ty.eq_of_beq h▸x) y)]))
        else .bT 83
      | _=>.bT 84
    | _=>.bT 85
def FE(t:Ty)(a:Nat)(m:Mem)(b src:AV):TV (AV×Mem):=
 match mD A t m src,lL A t m src with
 | some y,some m=>Cn A t a m b y (Gp src)
 | _,_=>.bT 86
def Pv(t:Ty)(m:Mem)(a src:AV):TV (AV×Mem):=
 match mD A t m src,lL A t m src with
 | some y,some m=>
   match a with
   | .own id=>match m.at id with
     | .arr false t' x=>if h:t'.beq t=true then
        let z:List t.T:=Ty.eq_of_beq h▸x
        let n:=A.mn (A.l y) (A.l z)
        .leaf (.int .i64 false n,m.set id (.arr false t (A.spl z 0 (A.s y 0 n))))
       else .bT 87
     | _=>.bT 88
   | .uh id _ false lo len=>match m.at id with
     | .arr false t' x=>if h:t'.beq t=true then
        let z:List t.T:=Ty.eq_of_beq h▸x
        let n:=A.mn (A.l y) len
        .leaf (.int .i64 false n,m.set id (.arr false t (A.spl z lo (A.s y 0 n))))
       else .bT 89
     | _=>.bT 90
   | _=>.bT 91
 | _,_=>.bT 92
def KW(t:Ty)(m:Mem)(a:AV):TV (AV×Mem):=
 match a with
 | .uh id _ false lo len=>match m.at id with
   | .arr false t' x=>if h:t'.beq t=true then
      .leaf (.yy [],m.set id (.arr false t (A.spl (Ty.eq_of_beq h▸x) lo (A.r len t.gD))))
     else .bT 119
   | _=>.bT 120
 | _=>.bT 121
mutual
def Ty.leaves:Ty->List (Option Ty)
 | .slice t=>[some t]
 | .arr n t=>(List.replicate n t.leaves).flatten
 | .struct ts=>Ty.Lk ts
 | _=>[none]
def Ty.Lk:List Ty->List (Option Ty)
 | []=>[]
 | t::ts=>t.leaves++Ty.Lk ts
end
def aj8:iR->Bool
 | .ay _ _=>true
 | _=>false
def Bq(k:Option Ty)(m:Mem)(v:AV):Option (AV×Mem):=
 match k,v with
 | some t,.uh id sz c lo n=>match aj8 (m.at id) with
   | true=>Ch A t m (.uh id sz c lo n)
   | false=>some (.uh id sz c lo n,m)
 | _,v=>some (v,m)
def GG:List (Option Ty)->Mem->List AV->Option (Mem×List AV)
 | [],m,cs=>some (m,cs)
 | _::_,m, []=>some (m, [])
 | k::ks,m,v::vs=>match Bq A k m v with
   | none=>none
   | some (v,m)=>match GG ks m vs with
     | none=>none
     | some (m,vs)=>some (m,v::vs)
def Qh(t:Option Ty)(n:Nat)(m:Mem)(a:List AV):Option (Mem×List AV):=
 match t with
 | none=>some (m,a)
 | some t=>GG A (List.replicate n t.leaves).flatten m a
def aga(q:Bool)(a:TV (AV×Mem)):TV (AV×Mem):=
 match q with
 | false=>a
 | true=>match a with
   | .br b _ e=>.ap (A.not b) e
   | .leaf (.gi _,_)=>.bT 118
   | a=>a
def K5(q:Bool)(m:Mem)(v:AV):AV×Mem:=
 match q with
 | false=>(v,m)
 | true=>match v with
   | .uh id _ _ lo n=>match m.at id with
     | .arr false t x=>match decide (lo=0) with
       | true=>(.own m.length,m.set id .aZ ++ [.arr false t (A.s x 0 n)])
       | false=>(v,m)
     | _=>(v,m)
   | v=>(v,m)
def w7{R:Type}(E:kj R)(fn:FuncId)(ρ:Operand->AV)(m:Mem)(o:Oper):TV (AV×Mem):=
 match o.op with
 | .alloc t=>match E.ti.get t with
   | some ti=>.leaf (.ptr m.length 0,m ++ [.ay false ti.zero])
   | none=>.bT 100
 | .box _ x=>match (ρ x).known m with
   | true=>.leaf (.ptr m.length 0,m ++ [.ay (Fz E.consts fn o.dst) (ρ x).cells])
   | false=>.bT 99
 | .buildSlice t n ps=>match E.ti.get t with
   | some {kind:=.slice e,.. }=>match E.ti.get e with
     | some te=>match FO m te.size (ps.toList.map λp=>(p.1,ρ p.2)) ((List.replicate n te.zero).flatten) with
       | some cs=>match Nat.ble (n*te.size) 16777216&&Nat.ble n 140737488355328 with
         | true=>match Qh A te.ty n m cs with
           | some (m,cs)=>.leaf (.uh m.length te.size true 0 n,m ++ [.ay false cs])
           | none=>.bT 101
         | false=>.bT 101
       | none=>.bT 101
     | none=>.bT 102
   | _=>.bT 103
 | .makeSlice t l c=>match E.ti.get t with
   | some {kind:=.slice e,.. }=>match E.ti.get e with
     | some {ty:=some t,bytes,.. }=>match ρ l,ρ c with
       | .int _ _ n,.int _ _ n'=>.ap (match Lc E.stops fn (some 1000000) with
          | true=>A.and (A.c .leq n n') (A.and (A.c .leq 0 n) (A.c .leq n' (140737488355328/(bytes.max 1:Nat))))
          | false=>A.and (A.c .eql n n') (A.and (A.c .leq 0 n) (A.c .leq n (140737488355328/(bytes.max 1:Nat)))))
          (.leaf (.own m.length,m ++ [.arr false t (A.r n t.gD)]))
       | _,_=>.bT 104
     | _=>.bT 105
   | _=>.bT 106
 | .store t p x=>match K5 A (Lc E.stops fn (some 1000000)) m (ρ x) with
   | (v,m)=>(K4 A (E.ti.get t) m (ρ p) v).map λm=>(.undef,m)
 | .call {callee:=.builtin .append,args,argTypes}=>match args.toList,argTypes.toList with
   | [d,s],t::t'::_=>match E.ti.get t,E.ti.get t' with
     | some {kind:=.slice e,.. },some {kind:=.slice _,.. }=>match E.ti.get e with
       | some {ty:=some t,bytes,.. }=>aga A (Lc E.stops fn o.dst) (FE A t bytes m (ρ d) (ρ s))
       | _=>.bT 107
     | _,_=>.bT 109
   | _,_=>.bT 110
 | .call {callee:=.builtin .copy,args,argTypes}=>match args.toList,argTypes.toList with
   | [d,s],t::t'::_=>match E.ti.get t,E.ti.get t' with
     | some {kind:=.slice e,.. },some {kind:=.slice _,.. }=>match E.ti.get e with
       | some {ty:=some t,.. }=>Pv A t m (ρ d) (ρ s)
       | _=>.bT 111
     | _,_=>.bT 112
   | _,_=>.bT 113
 | .call {callee:=.builtin .clear,args,argTypes}=>match args.toList,argTypes.toList with
   | [d],t::_=>match E.ti.get t with
     | some {kind:=.slice e,.. }=>match E.ti.get e with
       | some {ty:=some t,.. }=>KW A t m (ρ d)
       | _=>.bT 122
     | _=>.bT 123
   | _,_=>.bT 124
 | .convert s d x=>match E.ti.get s,E.ti.get d with
   | some {kind:=.slice e,.. },some {kind:=.str,.. }=>match E.ti.get e with
     | some {kind:=.int .u8,.. }=>match mD A (.int .u8) m (ρ x),lL A (.int .u8) m (ρ x) with
       | some l,some m=>.leaf (.str false (A.bytes l),m)
       | _,_=>.bT 114
     | _=>.bT 114
   | _,_=>.bT 116
 | _=>.bT 117
end
mutual
def YM:AV->List Nat
 | .own id=>[id]
 | .uh id _ _ _ _=>[id]
 | .ptr id _=>[id]
 | .kV id _ _=>[id]
 | .yP id _ _ _ _=>[id]
 | .yield l=>[l]
 | .fn _ a b=>Cw a++Cw b
 | .agg cs=>Cw cs
 | .yy cs=>Cw cs
 | _=>[]
def Cw:List AV->List Nat
 | []=>[]
 | v::vs=>YM v++Cw vs
end
def idxOf:List Nat->Nat->Nat->Nat
 | [],_,k=>k
 | i::r,n,k=>match Nat.beq i n with|true=>k|false=>idxOf r n (k+1)
mutual
def nh(l:List Nat):AV->AV
 | .own id=>.own (idxOf l id 0)
 | .uh id sz _ lo len=>.uh (idxOf l id 0) sz false lo len
 | .ptr id off=>.ptr (idxOf l id 0) off
 | .kV id i off=>.kV (idxOf l id 0) i off
 | .yP id off n t i=>.yP (idxOf l id 0) off n t i
 | .yield id=>.yield (idxOf l id 0)
 | .fn f a b=>.fn f (uI l a) (uI l b)
 | .agg cs=>.agg (uI l cs)
 | .yy cs=>.yy (uI l cs)
 | .int k _ n=>.int k false n
 | .bool _ b=>.bool false b
 | .str _ s=>.str false s
 | .undef=>.undef
 | .sl t x=>.sl t x
 | .gi b=>.gi b
 | .pj t x off=>.pj t x off
 | .jT=>.jT
 | .s_=>.s_
def uI(l:List Nat):List AV->List AV
 | []=>[]
 | v::vs=>nh l v::uI l vs
end
def Lh:PT AV->List Nat
 | .leaf=>[]
 | .node l v r=>(match v with|some a=>YM a|none=>[])++(Lh l++Lh r)
def A9:iR->List Nat
 | .ay _ cs=>Cw cs
 | .loop r=>Lh r.env
 | _=>[]
def sW:List Nat->Nat->Bool
 | [],_=>false
 | i::r,n=>match Nat.beq i n with|true=>true|false=>sW r n
def oE:List Nat->List Nat->List Nat
 | acc, []=>acc
 | acc,i::r=>match sW acc i with
   | true=>oE acc r
   | false=>oE (acc ++ [i]) r
def nX:Nat->Mem->List Nat->Nat->List Nat
 | 0,_,acc,_=>acc
 | f+1,m,acc,p=>match acc[p]? with
   | none=>acc
   | some id=>nX f m (oE acc (A9 (m.at id))) (p+1)
def qz:dW->List Nat
 | .oI l=>[l]
 | .oX l=>[l]
 | _=>[]
def ui(l:List Nat):dW->dW
 | .oI id=>.oI (idxOf l id 0)
 | .oX id=>.oX (idxOf l id 0)
 | x=>x
def G1(l:List Nat):PT AV->PT AV
 | .leaf=>.leaf
 | .node a v b=>.node (G1 l a) (match v with|some x=>some (nh l x)|none=>none) (G1 l b)
def pX(l:List Nat):iR->iR
 | .bT=>.aZ
 | .aZ=>.aZ
 | .ay fz cs=>.ay fz (uI l cs)
 | .arr fz t x=>.arr fz t x
 | .loop r=>.loop {r with env:=G1 l r.env}
 | .It=>.It
 | .Uk=>.Uk
def SL(e:Env):List Nat->List Nat
 | []=>[]
 | i::r=>YM (e.at i)++SL e r
def agi(i:Nat):Nat:=i%65536
def SK(e:Env)(i:Nat)(r:Env):Env:=
 match Nat.ble i 65535,e.at i with
 | true,.int k c n=>r.put i (.int k c n)
 | _,_=>r
def tZ(l:List Nat)(e:Env):List Nat->Env
 | []=>.leaf
 | i::r=>match Nat.ble i 65535 with
   | true=>(tZ l e r).put i (nh l (e.at i))
   | false=>SK e (agi i) (tZ l e r)
def pY:List (List Nat)->List dJ->List Nat
 | _, []=>[]
 | ks,f::fs=>SL f.env (ks.headD [])++(f.marks++((match f.gl with|some l=>[l]|none=>[])++(f.todo.flatMap qz++pY ks.tail fs)))
def sr(l:List Nat):List (List Nat)->List dJ->List dJ
 | _, []=>[]
 | ks,f::fs=>{f with env:=tZ l f.env (ks.headD []),todo:=f.todo.map (ui l),marks:=f.marks.map (idxOf l · 0),gl:=f.gl.map (idxOf l · 0)}::sr l ks.tail fs
def canon(k:Nat)(a:List (List Nat))(c:iH):iH:=
 let l:=nX (c.mem.length+1) c.mem (oE (List.range k) (pY a c.bF)) 0
 {bF:=sr l a c.bF,mem:=(l.map λid=>pX l (c.mem.at id)) ++ [.aZ]}
def kD:Code->Option Nat
 | .region id _ _=>some id
 | .seq a b=>match kD a with|some i=>some i|none=>kD b
 | .block _ b=>kD b
 | .loop b=>kD b
 | .scope b=>kD b
 | .cond _ a b=>match kD a with|some i=>some i|none=>kD b
 | _=>none
def C3:List Stop->FuncId->Option Nat->Option (List (List Nat))
 | _,_,none=>none
 | [],_,_=>none
 | s::r,f,some i=>match Nat.beq s.fn f,Nat.beq s.rid i with
   | true,true=>some s.keep
   | _,_=>C3 r f (some i)
def NQ:Option Code->Bool
 | none=>true
 | some _=>false
def Gl:Option Code->Nat
 | none=>0
 | some _=>2
def mA(id:Nat):List dW->Option (List dW)
 | .inBlock a::k=>match Nat.beq a id with|true=>some k|false=>mA id k
 | _::k=>mA id k
 | []=>none
def mB(l:Nat):List dW->Option (List dW)
 | .inScope body::k=>match findLabel body l with
   | some rest=>some (.code rest :: .inScope body::k)
   | none=>mB l k
 | _::k=>mB l k
 | []=>none
def kL:List Ty->List AV->Bool
 | [], []=>true
 | t::ts,v::vs=>(match t.isAgg,v with
   | true,.agg cs=>Nat.beq cs.length t.size
   | true,_=>false
   | false,.agg _=>false
   | false,_=>true)&&kL ts vs
 | _,_=>false
def ik(A:aS):(a:List Ty)->Ty.Ts a->List AV
 | [],_=>[]
 | [t],x=>[Ul A t x]
 | t::b::a,x=>Ul A t (Prod.fst (α:=t.T) (β:=Ty.Ts (b::a)) x)::ik A (b::a) (Prod.snd (α:=t.T) (β:=Ty.Ts (b::a)) x)
def gM:List AV->AV
 | [v]=>v
 | vs=>.yy vs
def fq(A:aS)(b:List Ty)(m:Mem)(a:List AV):Option (Mem×List AV):=
 match GG A (Ty.Lk b) m a with
 | none=>none
 | some (m,a)=>fU A m a
def Zi{α:Type}(a b:Bool)(t:TV α):TV α:=
 match a with
 | true=>t
 | false=>.ap b t
def vz(A:aS)(s:aM)(m:Mem)(a:List AV):TV (AV×Mem):=
 match kL s.args a with
 | false=>.bT 120
 | true=>match fq A s.args m (a.flatMap AV.cells) with
   | none=>.bT 121
   | some (m,cs)=>match qL s.args cs with
     | some (x, [])=>Zi s.M3 (A.k s.pre x) (.leaf (gM (ik A s.res (A.k s.fn x)),m))
     | _=>.bT 122
def KU(A:aS)(s:qm)(m:Mem)(a:List AV):TV (AV×Mem):=
 match a with
 | .ptr id 0::rest=>match m.at id with
   | .ay _ cs=>match xL s.view cs with
     | some (x, [])=>match kL s.args rest with
       | false=>.bT 123
       | true=>match fq A s.args m (rest.flatMap AV.cells) with
         | none=>.bT 124
         | some (m,cs)=>match qL s.args cs,Ty.mV s.res with
           | some (y, []),true=>.ap (A.k s.pre (x,y)) (.leaf (gM (ik A s.res (A.k s.fn (x,y))),m))
           | _,_=>.bT 125
     | _=>.bT 126
   | _=>.bT 127
 | _=>.bT 128
def nN:List Nat->Bool
 | []=>true
 | i::is=>!sW is i&&nN is
mutual
def VF.read(m:Mem):(f:VF)->List AV->Option (f.ty.T×List Nat×List AV)
 | .d t,cs=>match xL t cs with
   | some (x,r)=>some (x, [],r)
   | none=>none
 | .own t,cs=>match cs with
   | []=>none
   | v::r=>match v with
     | .own id=>match m.at id with
       | .arr false t' x=>if h:t'.beq t=true then some ((Ty.eq_of_beq h▸x:List t.T), [id],r) else none
       | _=>none
     | .gi _=>some (([]:List t.T), [],r)
     | _=>none
 | .fix _ t,cs=>match cs with
   | []=>none
   | v::r=>match v with
     | .own id=>match m.at id with
       | .arr false t' x=>if h:t'.beq t=true then some ((Ty.eq_of_beq h▸x:List t.T), [id],r) else none
       | _=>none
     | _=>none
 | .ptr fs,cs=>match cs with
   | []=>none
   | v::r=>match v with
     | .ptr id off=>match off,m.at id with
       | 0,.ay false l=>match VF.reads m fs l with
         | some (x,ids, [])=>some (x,id::ids,r)
         | _=>none
       | _,_=>none
     | _=>none
 | .nM fs,cs=>match cs with
   | []=>none
   | v::r=>match v with
     | .ptr id off=>match off,m.at id with
       | 0,.ay true l=>match VF.reads m fs l with
         | some (x,ids, [])=>some (x,ids,r)
         | _=>none
       | _,_=>none
     | _=>none
def VF.reads(m:Mem):(c:List VF)->List AV->Option (Ty.Ts (VF.iA c)×List Nat×List AV)
 | [],cs=>some ((), [],cs)
 | [f],cs=>VF.read m f cs
 | f::g::c,cs=>match VF.read m f cs with
   | none=>none
   | some (x,a,r)=>match VF.reads m (g::c) r with
     | none=>none
     | some (y,b,r)=>some ((x,y),a++b,r)
end
mutual
def VF.fx(m:Mem):VF->List AV->List (Nat×Nat)
 | .fix k _,cs=>match cs with
   | .own id::_=>[(k,id)]
   | _=>[]
 | .ptr fs,cs=>match cs with
   | .ptr id _::_=>match m.at id with
     | .ay _ l=>VF.x_ m fs l
     | _=>[]
   | _=>[]
 | .nM fs,cs=>match cs with
   | .ptr id _::_=>match m.at id with
     | .ay _ l=>VF.x_ m fs l
     | _=>[]
   | _=>[]
 | _,_=>[]
def VF.x_(m:Mem):List VF->List AV->List (Nat×Nat)
 | [],_=>[]
 | f::fs,cs=>VF.fx m f cs++match VF.read m f cs with
   | some (_,_,r)=>VF.x_ m fs r
   | none=>[]
end
mutual
def VF.Gm:VF->List Nat
 | .fix k _=>[k]
 | .ptr fs=>VF.iW fs
 | .nM fs=>VF.iW fs
 | _=>[]
def VF.iW:List VF->List Nat
 | []=>[]
 | f::fs=>f.Gm++VF.iW fs
end
mutual
def VF.rows:(f:VF)->f.ty.T->List (Nat×iR)
 | .fix k t,x=>[(k,.arr false t x)]
 | .ptr fs,x=>VF.gp fs x
 | .nM fs,x=>VF.gp fs x
 | _,_=>[]
def VF.gp:(a:List VF)->Ty.Ts (VF.iA a)->List (Nat×iR)
 | [],_=>[]
 | [f],x=>VF.rows f x
 | f::g::a,x=>VF.rows f (Prod.fst (α:=f.ty.T) (β:=Ty.Ts (VF.iA (g::a))) x)++VF.gp (g::a) (Prod.snd (α:=f.ty.T) (β:=Ty.Ts (VF.iA (g::a))) x)
end
mutual
def VF.neT(A:aS){α:Type}:(f:VF)->f.ty.T->TV α->TV α
 | .fix _ t,x,k=>.ap (A.c .neq (A.l (show List t.T from x)) 0) k
 | .ptr fs,x,k=>VF.Zh A fs x k
 | .nM fs,x,k=>VF.Zh A fs x k
 | _,_,k=>k
def VF.Zh(A:aS){α:Type}:(a:List VF)->Ty.Ts (VF.iA a)->TV α->TV α
 | [],_,k=>k
 | [f],x,k=>VF.neT A f x k
 | f::g::a,x,k=>VF.neT A f (Prod.fst (α:=f.ty.T) (β:=Ty.Ts (VF.iA (g::a))) x) (VF.Zh A (g::a) (Prod.snd (α:=f.ty.T) (β:=Ty.Ts (VF.iA (g::a))) x) k)
end
def ajQ(fx:List (Nat×Nat))(k:Nat):AV:=
 match look fx k with
 | some id=>.own id
 | none=>.undef
def Gb(fx:List (Nat×Nat))(rows:List (Nat×iR))(i:Nat):Option iR:=
 match fx with
 | []=>none
 | (k,id)::fx=>match Nat.beq id i with
   | true=>look rows k
   | false=>Gb fx rows i
mutual
def VF.write(A:aS)(g:Nat->AV):(f:VF)->f.ty.T->Mem->Mem×List AV
 | .d t,x,m=>(m,lb A t x)
 | .own t,x,m=>(m ++ [.arr false t x], [.own m.length])
 | .fix k _,_,m=>(m, [g k])
 | .ptr fs,x,m=>match VF.writes A g fs x m with
   | (m',cs)=>(m' ++ [.ay false cs], [.ptr m'.length 0])
 | .nM _,_,m=>(m, [.undef])
def VF.writes(A:aS)(g:Nat->AV):(c:List VF)->Ty.Ts (VF.iA c)->Mem->Mem×List AV
 | [],_,m=>(m, [])
 | [f],x,m=>VF.write A g f x m
 | f::h::c,x,m=>match VF.write A g f (Prod.fst (α:=f.ty.T) (β:=Ty.Ts (VF.iA (h::c))) x) m with
   | (m1,a)=>match VF.writes A g (h::c) (Prod.snd (α:=f.ty.T) (β:=Ty.Ts (VF.iA (h::c))) x) m1 with
     | (m2,b)=>(m2,a++b)
end
def VF.back(A:aS)(g:Nat->AV):(f:VF)->AV->f.ty.T->Mem->Option Mem
 | .ptr fs,v,x,m=>match v with
   | .ptr id _=>match VF.writes A g fs x m with
     | (m',cs)=>some (m'.set id (.ay false cs))
   | _=>none
 | .nM fs,v,x,m=>match v with
   | .ptr id _=>match VF.writes A g fs x m with
     | (m',cs)=>some (m'.set id (.ay true cs))
   | _=>none
 | _,_,_,_=>none
def VF.Jy(A:aS)(g:Nat->AV):(a:List VF)->List AV->Ty.Ts (VF.iA a)->Mem->Option Mem
 | [],_,_,m=>some m
 | [f],vs,x,m=>match vs with
   | v::_=>VF.back A g f v x m
   | []=>none
 | f::h::a,vs,x,m=>match vs with
   | v::vs=>match VF.back A g f v (Prod.fst (α:=f.ty.T) (β:=Ty.Ts (VF.iA (h::a))) x) m with
     | some m=>VF.Jy A g (h::a) vs (Prod.snd (α:=f.ty.T) (β:=Ty.Ts (VF.iA (h::a))) x) m
     | none=>none
   | []=>none
def iy:List VF->Bool
 | []=>true
 | f::fs=>match f with
   | .ptr _=>iy fs
   | .nM _=>iy fs
   | _=>false
def fP:List AV->List Nat
 | []=>[]
 | v::vs=>match v with
   | .ptr id _=>id::fP vs
   | _=>fP vs
def xV(rows:Nat->Option iR)(roots:List Nat)(i:Nat)(b:iR):iR:=
 match rows i with
 | some bx=>bx
 | none=>match sW roots i,b with
   | true,.ay _ cs=>.ay false (List.replicate cs.length .undef)
   | _,_=>.aZ
def BX(rows:Nat->Option iR)(roots:List Nat):List Nat->Mem->Mem
 | [],m=>m
 | i::r,m=>BX rows roots r (m.set i (xV rows roots i (m.at i)))
def PY:VF->AV->Mem->Mem
 | .nM _,v,m=>match v with
   | .ptr id _=>match m.at id with
     | .ay _ cs=>m.set id (.ay true cs)
     | _=>m
   | _=>m
 | _,_,m=>m
def ya:List VF->List AV->Mem->Mem
 | [],_,m=>m
 | f::fs,vs,m=>match vs with
   | v::vs=>ya fs vs (PY f v m)
   | []=>m
def au0(c:Bool)(b:List AV)(v:AV):AV:=
 match c with
 | false=>v
 | true=>match b with
   | a::_=>a
   | []=>.undef
def W_(A:aS)(s:cd)(fx:List (Nat×Nat))(a:List AV)(x:Ty.Ts (VF.iA s.aL))(ids:List Nat)(m:Mem):Option Mem:=
 VF.Jy A (ajQ fx) s.aL a x (BX (Gb fx (VF.gp s.aL x)) (fP a) ids m)
def KS(A:aS)(s:cd)(m:Mem)(a:List AV):TV (AV×Mem):=
 match kL s.args (a.drop s.aL.length) with
 | false=>.bT 190
 | true=>match fq A s.args m ((a.drop s.aL.length).flatMap AV.cells) with
   | none=>.bT 191
   | some (m,cs)=>match qL s.args cs with
     | some (y, [])=>match VF.reads (ya s.aL (a.take s.aL.length) m) s.aL (a.take s.aL.length) with
       | some (x,ids, [])=>match nN ids&&(nN (fP (a.take s.aL.length))&&(iy s.aL&&nN (VF.iW s.aL))) with
         | false=>.bT 192
         | true=>match W_ A s (VF.x_ (ya s.aL (a.take s.aL.length) m) s.aL (a.take s.aL.length)) (a.take s.aL.length) (A.k s.fn (x,y)).1 ids (ya s.aL (a.take s.aL.length) m) with
           | some m=>Zi s.M3 (A.k s.pre (x,y)) (VF.Zh A s.aL x (.leaf (au0 s.rp a (gM (ik A s.res (A.k s.fn (x,y)).2)),m)))
           | none=>.bT 193
       | _=>.bT 194
     | _=>.bT 195
def Lb:List FuncId->List AV->Bool
 | [],vs=>match vs with | []=>true|_=>false
 | f::fs,vs=>match vs with
   | []=>false
   | v::vs=>match v with
     | .fn g [] []=>Nat.beq g f&&Lb fs vs
     | _=>false
def KR(A:aS)(s:fT)(m:Mem)(a:List AV):TV (AV×Mem):=
 match a with
 | []=>.bT 200
 | v::rest=>match kL s.args (rest.take s.args.length)&&Lb s.lI (rest.drop s.args.length) with
   | false=>.bT 201
   | true=>match fq A s.args m ((rest.take s.args.length).flatMap AV.cells) with
     | none=>.bT 202
     | some (m,cs)=>match qL s.args cs with
       | some (y, [])=>match v with
         | .own id=>match m.at id with
           | .arr false t x=>if h:t.beq s.elem=true then
              .ap (A.k s.pre ((Ty.eq_of_beq h▸x:List s.elem.T),y)) (.leaf (gM (ik A s.res (A.k s.fn ((Ty.eq_of_beq h▸x:List s.elem.T),y)).2),m.set id (.arr false s.elem (A.k s.fn ((Ty.eq_of_beq h▸x:List s.elem.T),y)).1)))
             else .bT 203
           | _=>.bT 204
         | .gi _=>.ap (A.k s.pre (([]:List s.elem.T),y)) (.leaf (gM (ik A s.res (A.k s.fn (([]:List s.elem.T),y)).2),m))
         | _=>.bT 205
       | _=>.bT 206
def KT(A:aS)(s:oV)(m:Mem)(a:List AV):TV (AV×Mem):=
 match kL s.args a with
 | false=>.bT 210
 | true=>match fq A s.args m (a.flatMap AV.cells) with
   | none=>.bT 211
   | some (m,cs)=>match qL s.args cs with
     | some (x, [])=>match VF.write A (λ_=>.undef) s.out (A.k s.fn x).2.1 m with
       | (m', [v])=>.ap (A.k s.pre x) (match s.opt with
         | false=>.leaf (gM (v::ik A s.res (A.k s.fn x).2.2),m')
         | true=>.br (A.k s.fn x).1 (.leaf (gM (v::ik A s.res (A.k s.fn x).2.2),m')) (.leaf (gM (.jT::ik A s.res (A.k s.fn x).2.2),m)))
       | _=>.bT 213
     | _=>.bT 212
def sN(A:aS){R:Type}(E:kj R)(g:FuncId)(m:Mem)(a:List AV):Option (TV (AV×Mem)):=
 match look E.uG g with
 | some s=>some (KU A s m a)
 | none=>match look E.uF g with
   | some s=>some (KS A s m a)
   | none=>match look E.uE g with
     | some s=>some (KR A s m a)
     | none=>match look E.ops g with
       | some s=>some (KT A s m a)
       | none=>none
def abV{α:Type}:TV α->Option α
 | .leaf a=>some a
 | _=>none
def AP(A:aS){R:Type}(E:kj R)(b:Env)(m:Mem):ResultVar->Option AV
 | .tmp t=>some (b.at t)
 | .cell a t=>abV (FI A (E.ti.get t) m (b.at a))
def qx(A:aS){R:Type}(E:kj R)(a:Env)(m:Mem):List ResultVar->Option (List AV)
 | []=>some []
 | r::rs=>match AP A E a m r with
   | none=>none
   | some v=>match qx A E a m rs with
     | none=>none
     | some vs=>some (v::vs)
def r9:List Nat->Mem->Option Mem
 | [],m=>some m
 | d::ds,m=>match m.at d with
   | .It=>r9 ds (m.set d .Uk)
   | _=>none
def sM(n:Nat):Option Nat->Bool
 | none=>true
 | some d=>Nat.blt d n
def finish(g:dJ)(v:AV):Option dJ:=
 match g.todo with
 | .ops all (o::rest)::k=>match sM g.n o.dst with
   | true=>some {g with env:=g.env.ol o.dst v,todo:=.ops all rest::k}
   | false=>none
 | .rR all ms i rest bs::k=>match all[i]? with
   | some o=>match sM g.n o.dst with
     | true=>some {g with env:=g.env.ol o.dst v,todo:=.jI all ms rest bs::k}
     | false=>none
   | none=>none
 | .oI l::k=>some {g with todo:=.oX l::k}
 | _=>none
def jf(f:FuncId)(F:Func)(a:List AV):Option dJ:=
 match F.body with
 | none=>none
 | some b=>match Nat.ble a.length F.ntmps,Nat.ble F.ntmps 65535 with
   | true,true=>some {fn:=f,n:=F.ntmps,env:=Env.of 0 a .leaf,todo:=[.code b],marks:=[],gl:=none}
   | _,_=>none
def Aa:List Nat->List AV->Env->Env
 | [],_,e=>e
 | _, [],e=>e
 | i::is,v::vs,e=>Aa is vs (e.put i v)
def uy(e:Edge):Bool:=
 match e.ground with
 | .textOnly _=>false
 | .gcOnly _=>false
 | _=>true
def pP(a:List Nat):List Edge->Nat
 | []=>0
 | e::es=>match uy e with
   | true=>(2^e.on ||| a.getD e.on 0) ||| pP a es
   | false=>pP a es
def ov:List Oper->List Nat->List Nat
 | [],ms=>ms
 | o::os,ms=>ov os (ms ++ [pP ms o.after.toList])
def pG:Nat->List Oper->Bool
 | _, []=>true
 | i,o::os=>o.after.toList.all (λe=>!uy e||Nat.blt e.on i)&&pG (i+1) os
def tmpsOf:List Operand->List Nat
 | []=>[]
 | x::r=>match x with
   | .tmp t=>t::tmpsOf r
   | _=>tmpsOf r
def iB(all:Array Oper)(o:Oper):List Nat:=
 match o.guard with
 | none=>[]
 | some (j,_)=>match all[j]? with
   | none=>[]
   | some p=>match p.dst with
     | some d=>[d]
     | none=>[]
def kJ(all:Array Oper)(o:Oper):List Nat:=tmpsOf o.op.operands.toList++iB all o
def isDst(d:Nat):Option Nat->Bool
 | some x=>Nat.beq x d
 | none=>false
def Bj(all:Array Oper)(bs:List Nat)(d:Nat):Bool:=
 bs.all λb=>match all[b]? with
  | some o=>!sW (kJ all o) d
  | none=>false
def P_(all:Array Oper)(bs:List Nat)(d:Nat):Bool:=
 bs.all λb=>match all[b]? with
  | some o=>!isDst d o.dst
  | none=>false
def uC(all:Array Oper)(bs:List Nat):Option Nat->Bool
 | none=>true
 | some d=>Bj all bs d&&P_ all bs d
def ZB(all:Array Oper)(m:Nat)(bs:List Nat)(o:Oper):Bool:=
 bs.all λb=>match all[b]? with
  | some p=>match p.dst with
    | some d=>!sW (kJ all o) d||m.testBit b
    | none=>true
  | none=>false
def GH(all:Array Oper)(o:Oper):Bool:=
 match o.dst with
 | none=>true
 | some d=>!sW (kJ all o) d
def yc(m:Nat)(o:Oper):Bool:=
 match o.guard with
 | none=>true
 | some (j,_)=>m.testBit j
def oQ:AV->AV->Prop
 | .bool _ a,.bool _ b=>a=b
 | .int k _ a,.int k' _ b=>k=k'/\a=b
 | x,y=>x=y
def vW(a:Env):Option Nat->AV->Prop
 | none,_=>True
 | some d,v=>oQ v (a.at d)
def anK(a:List (FuncId×aM)):Op->Bool
 | .move _=>true | .assign _=>true | .pick _ _ _=>true | .load _ _=>true | .nilCheck _=>true | .binOp _ _ _ _ _=>true | .unOp _ _ _=>true
 | .convert _ _ _=>true | .makeFunc _ _ _=>true | .slice _ _ _ _ _=>true | .fieldAddr _ _ _=>true | .field _ _ _=>true | .indexAddr _ _ _=>true | .index _ _ _=>true
 | .extract _ _=>true | .build _ _=>true
 | .call c=>match c.callee with
   | .builtin b=>match b with | .len=>true | .min=>true | .max=>true|_=>false
   | .value x=>match x with | .func f=>(match look a f with|some _=>true|none=>false)|_=>false
   | _=>false
 | _=>false
def ZI(a:List (FuncId×aM))(all:Array Oper)(b:List Nat)(left:Nat):List Nat->Option Nat
 | []=>none
 | i::is=>match Nat.beq (b.getD i 0 &&& left) 0,all[i]? with
   | true,some o=>match anK a o.op with|true=>some i|false=>ZI a all b left is
   | _,_=>ZI a all b left is
def uS:List Nat->Nat->List Nat
 | [],_=>[]
 | i::is,n=>match Nat.beq i n with|true=>is|false=>i::uS is n
def eager(a:List (FuncId×aM))(all:Array Oper)(b:List Nat):Nat->Nat->List Nat->List Nat
 | 0,_,_=>[]
 | f+1,left,is=>match ZI a all b left is with
   | some i=>i::eager a all b f (left-2^i) (uS is i)
   | none=>match is with
     | []=>[]
     | i::is=>i::eager a all b f (left-2^i) is
def qw(e:List (FuncId×aM))(a:Array Oper):Option (List Nat×List Nat):=
 let c:=ov a.toList []
 let b:=eager e a c a.size (2^a.size-1) (List.range a.size)
 match pG 0 a.toList&&(nN b&&(b.all (λi=>Nat.blt i a.size)&&(List.range a.size).all (λi=>sW b i))) with
 | true=>some (c,b)
 | false=>none
def uw(j:Nat)(a:List Nat):Nat->List Nat->List Nat
 | _, []=>[]
 | k,m::ms=>(match sW a k && !Nat.beq k j with|true=>m ||| 2^j|false=>m)::uw j a (k+1) ms
def RJ:List Nat->Nat
 | []=>0
 | i::r=>2^i ||| RJ r
def QM(c a:List Nat)(j:Nat):Bool:=a.all λb=>!(c.getD j 0).testBit b
def SX(e:List (FuncId×aM))(all:Array Oper)(f a:List Nat)(j:Nat):Option (List Nat×List Nat):=
 let r:=uS a j
 let b:=uw j a 0 f
 let c:=eager e all b r.length (RJ r) r
 match nN (j::c)&&(c.all (λi=>sW r i)&&r.all (λi=>sW c i)) with
 | true=>some (b,j::c)
 | false=>none
def M_{R:Type}(K:Nat->Tr R):List Nat->Tr R
 | []=>.bT 181 ""
 | j::js=>match js with
   | []=>K j
   | _::_=>.and (K j) (M_ K js)
def sJ(m:Nat)(bs:List Nat):List Nat:=bs.filter λb=>!m.testBit b
def qy(all:Array Oper)(a:Env)(o:Oper):Option Bool:=
 match o.guard with
 | none=>some true
 | some (j,want)=>match all[j]? with
   | none=>none
   | some p=>match p.dst with
     | none=>none
     | some d=>match a.at d with
       | .bool c v=>match c with
         | true=>match v,want with
           | true,true=>some true
           | false,false=>some true
           | _,_=>some false
         | false=>none
       | .yy []=>some false
       | _=>none
section
variable (A:aS) {R:Type} (E:kj R)
def Eu(all:Array Oper)(a:Env)(o:Oper)(b e:Env->Tr R):Tr R:=
 match o.guard with
 | none=>b a
 | some (j,want)=>match all[j]? with
   | none=>.bT 130 o.pos
   | some p=>match p.dst with
     | none=>.bT 131 o.pos
     | some d=>match a.at d with
       | .bool c v=>match c with
         | true=>match v,want with
           | true,true=>b a
           | false,false=>b a
           | _,_=>e a
         | false=>match want with
           | true=>.br v (b (a.put d (.bool true true))) (e (a.put d (.bool true false)))
           | false=>.br v (e (a.put d (.bool true true))) (b (a.put d (.bool true false)))
       | .yy []=>e a
       | _=>.bT 132 o.pos
def AI(m:Mem)(ρ:Operand->AV)(o:Oper):Option (TV AV):=
 match o.op with
 | .call c=>match c.callee with
   | .value x=>match ρ x with
     | .fn g first a=>match look E.j6 g with
       | some s=>match rT ((first++(c.args.toList.map ρ++a)).flatMap AV.cells) with
         | true=>some ((vz A s m (first++(c.args.toList.map ρ++a))).map Prod.fst)
         | false=>none
       | none=>none
     | _=>none
   | _=>none
 | _=>none
def evV(m:Mem)(ρ:Operand->AV)(o:Oper):Option (TV AV):=
 match tL A E ρ m o with
 | some a=>some a
 | none=>AI A E m ρ o
def aaf(a:Env):Option Nat->AV->Tr R->Tr R
 | none,_,t=>t
 | some d,v,t=>.same v (a.at d) t
def xK(a:Env)(m:Mem)(all:Array Oper):List Nat->Tr R->Tr R
 | [],t=>t
 | b::bs,t=>match all[b]? with
   | none=>.bT 170 ""
   | some o=>match qy all a o with
     | none=>.bT 171 o.pos
     | some false=>aaf a o.dst (.yy []) (xK a m all bs t)
     | some true=>match evV A E m (mF a) o with
       | none=>.bT 172 o.pos
       | some c=>c.bind o.pos λv=>aaf a o.dst v (xK a m all bs t)
def v7(f:dJ)(m:Mem)(t:Tr R):Tr R:=
 match f.todo with
 | .jI all _ _ bs::_=>xK A E f.env m all bs t
 | _=>t
def PZ(all:Array Oper)(bs:List Nat)(a:Env)(o:Oper)(b c:Env->Tr R):Tr R:=
 match qy all a o with
 | some true=>b a
 | some false=>c a
 | none=>match iB all o with
   | [d]=>match Bj all bs d with
     | true=>Eu all a o b c
     | false=>.bT 173 o.pos
   | _=>.bT 174 o.pos
def run:Nat->iH->Tr R
 | 0,c=>.ao c
 | n+1,c=>
   match c.bF with
   | []=>.bT 140 ""
   | f::fs=>
     let back (g:dJ) (D:List dJ) (m:Mem):Tr R:=v7 A E g m (run n {bF:=g::D,mem:=m})
     let u (z:Option Code):Tr R:=
      match f.gl with
      | none=>match r9 f.marks c.mem with
        | none=>.bT 139 ""
        | some m=>match look E.lI f.fn with
          | none=>.bT 141 ""
          | some F=>match qx A E f.env m F.results.toList with
            | none=>.bT 142 ""
            | some vs=>match fs with
              | []=>match E.fin (gM vs) m with
                | some y=>.ret y
                | none=>.bT 143 ""
              | g::D=>match finish g (gM vs) with
                | some g=>back g D m
                | none=>.bT 144 ""
      | some l=>match c.mem.at l with
        | .loop r=>match fs with
          | g::D=>match finish g (.bool true (NQ z)) with
            | some g=>back g D (c.mem.set l (.loop {r with state:=Gl z,pending:=z}))
            | none=>.bT 145 ""
          | []=>.bT 146 ""
        | _=>.bT 147 ""
     let enter (g:FuncId) (B:String) (H:List AV) (t:dJ):Tr R:=
      match look E.lI g with
      | none=>.bT 163 B
      | some G=>match jf g G H with
        | none=>.bT 164 B
        | some h=>run n {bF:=h::t::fs,mem:=c.mem}
     let yield (l:Nat) (B:String) (H:List AV) (t:dJ):Tr R:=
      match c.mem.at l with
      | .loop r=>match Nat.beq r.params.length H.length&&r.params.all (λp=>Nat.blt p r.n) with
        | true=>run n {bF:={fn:=r.fn,n:=r.n,env:=Aa r.params H r.env,todo:=[.code r.assign,.beginRound,.code r.body],marks:=[],gl:=some l}::t::fs,mem:=c.mem}
        | false=>.bT 165 B
      | _=>.bT 166 B
     match f.todo with
     | []=>u none
     | i::k=>match i with
       | .inBlock _=>run n {c with bF:={f with todo:=k}::fs}
       | .inScope _=>run n {c with bF:={f with todo:=k}::fs}
       | .inLoop body=>match C3 E.stops f.fn (kD body) with
         | some ks=>.ao (canon E.keep ks c)
         | none=>run n {c with bF:={f with todo:=.code body :: .inLoop body::k}::fs}
       | .oI _=>.bT 148 ""
       | .rR _ _ _ _ _=>.bT 148 ""
       | .oX l=>match c.mem.at l with
         | .loop r=>match Nat.beq r.state 1 with
           | true=>.bT 149 ""
           | false=>run n {bF:={f with todo:=(match r.pending with|some j=>.code j::k|none=>k)}::fs,mem:=c.mem.set l (.loop {r with state:=3})}
         | _=>.bT 150 ""
       | .beginRound=>match f.gl with
         | some l=>match c.mem.at l with
           | .loop r=>match Nat.beq r.state 0 with
             | true=>run n {bF:={f with todo:=k}::fs,mem:=c.mem.set l (.loop {r with state:=1})}
             | false=>.bT 151 ""
           | _=>.bT 152 ""
         | none=>.bT 153 ""
       | .code x=>match x with
         | .skip=>run n {c with bF:={f with todo:=k}::fs}
         | .label _=>run n {c with bF:={f with todo:=k}::fs}
         | .ret=>u (some .ret)
         | .seq a b=>run n {c with bF:={f with todo:=.code a :: .code b::k}::fs}
         | .cond x a b=>match mF f.env x with
           | .bool c1 v=>match c1 with
             | true=>match v with
               | true=>run n {c with bF:={f with todo:=.code a::k}::fs}
               | false=>run n {c with bF:={f with todo:=.code b::k}::fs}
             | false=>.br v (run n {c with bF:={f with todo:=.code a::k}::fs}) (run n {c with bF:={f with todo:=.code b::k}::fs})
           | _=>.bT 154 ""
         | .block id b=>run n {c with bF:={f with todo:=.code b :: .inBlock id::k}::fs}
         | .loop b=>run n {c with bF:={f with todo:=.inLoop b::k}::fs}
         | .scope b=>run n {c with bF:={f with todo:=.code b :: .inScope b::k}::fs}
         | .exit id=>match mA id k with
           | some k=>run n {c with bF:={f with todo:=k}::fs}
           | none=>match f.gl with
             | some _=>u (some (.exit id))
             | none=>.bT 155 ""
         | .goto l=>match mB l k with
           | some k=>run n {c with bF:={f with todo:=k}::fs}
           | none=>match f.gl with
             | some _=>u (some (.goto l))
             | none=>.bT 156 ""
         | .refuse _=>.bT 157 ""
         | .rangeFunc x ps a b=>match mF f.env x with
           | .fn g [] q=>
             let J:Option (List Nat×Mem):=match f.gl with
              | none=>some (c.mem.length::f.marks,c.mem ++ [.It])
              | some l0=>match c.mem.at l0 with
                | .loop _=>some (f.marks,c.mem)
                | _=>none
             match J with
             | none=>.bT 158 ""
             | some (marks,m)=>match look E.lI g with
               | none=>.bT 159 ""
               | some G=>match jf g G (.yield m.length::q) with
                 | none=>.bT 160 ""
                 | some h=>run n {bF:=h :: {f with todo:=.oI m.length::k,marks:=marks}::fs,mem:=m ++ [.loop {fn:=f.fn,n:=f.n,env:=f.env,params:=ps.toList,assign:=a,body:=b,state:=0,pending:=none}]}
           | _=>.bT 161 ""
         | .region id os draw=>match C3 E.qg f.fn (some id) with
           | some ks=>.ao (canon E.keep ks c)
           | none=>match draw with
             | false=>run n {c with bF:={f with todo:=.ops os os.toList::k}::fs}
             | true=>match qw E.j6 os with
               | some (ms,is)=>run n {c with bF:={f with todo:=.jI os ms is []::k}::fs}
               | none=>.bT 175 ""
       | .ops all rest=>match rest with
         | []=>run n {c with bF:={f with todo:=k}::fs}
         | o::rest=>match sM f.n o.dst with
           | false=>.bT 162 o.pos
           | true=>Eu all f.env o
             (λe=>
               let next (v:AV) (m:Mem):Tr R:=run n {bF:={f with env:=e.ol o.dst v,todo:=.ops all rest::k}::fs,mem:=m}
               match tL A E (mF e) c.mem o with
               | some C=>C.bind o.pos λv=>next v c.mem
               | none=>match o.op with
                 | .call {callee:=.value x,args,.. }=>match mF e x with
                   | .fn g first q=>match look E.j6 g with
                     | some s=>(vz A s c.mem (first++(args.toList.map (mF e)++q))).bind o.pos λp=>next p.1 p.2
                     | none=>match sN A E g c.mem (first++(args.toList.map (mF e)++q)) with
                       | some C=>C.bind o.pos λp=>next p.1 p.2
                       | none=>enter g o.pos (first++(args.toList.map (mF e)++q)) {f with env:=e}
                   | .yield l=>yield l o.pos (args.toList.map (mF e)) {f with env:=e}
                   | _=>.bT 167 o.pos
                 | _=>(w7 A E f.fn (mF e) c.mem o).bind o.pos λp=>next p.1 p.2)
             (λe=>run n {c with bF:={f with env:=e.ol o.dst (.yy []),todo:=.ops all rest::k}::fs})
       | .jI all ms rest bs=>match rest with
         | []=>run n {c with bF:={f with todo:=k}::fs}
         | i::rest=>match all[i]? with
           | none=>.bT 176 ""
           | some o=>match sM f.n o.dst&&(ZB all (ms.getD i 0) bs o&&yc (ms.getD i 0) o) with
             | false=>.bT 177 o.pos
             | true=>PZ all bs f.env o
               (λe=>match evV A E c.mem (mF e) o,uC all bs o.dst&&GH all o with
                 | some C,true=>C.bind o.pos λv=>run n {c with bF:={f with env:=e.ol o.dst v,todo:=.jI all ms rest (i::bs)::k}::fs}
                 | _,_=>match rest.all (λj=>(ms.getD j 0).testBit i) with
                  | false=>M_ (λj=>match SX E.j6 all ms (i::rest) j with
                     | some (I,is)=>run n {bF:={f with env:=e,todo:=.jI all I is bs::k}::fs,mem:=c.mem}
                     | none=>.bT 180 o.pos) ((i::rest).filter (QM ms (i::rest)))
                  | true=>match uC all (sJ (ms.getD i 0) bs) o.dst with
                   | false=>.bT 178 o.pos
                   | true=>
                     let next (v:AV) (m:Mem):Tr R:=xK A E (e.ol o.dst v) m all (sJ (ms.getD i 0) bs) (run n {bF:={f with env:=e.ol o.dst v,todo:=.jI all ms rest (sJ (ms.getD i 0) bs)::k}::fs,mem:=m})
                     let t:dJ:={f with env:=e,todo:=.rR all ms i rest (sJ (ms.getD i 0) bs)::k}
                     match tL A E (mF e) c.mem o with
                     | some C=>C.bind o.pos λv=>next v c.mem
                     | none=>match o.op with
                       | .call {callee:=.value x,args,.. }=>match mF e x with
                         | .fn g first q=>match look E.j6 g with
                           | some s=>(vz A s c.mem (first++(args.toList.map (mF e)++q))).bind o.pos λp=>next p.1 p.2
                           | none=>match sN A E g c.mem (first++(args.toList.map (mF e)++q)) with
                             | some C=>C.bind o.pos λp=>next p.1 p.2
                             | none=>enter g o.pos (first++(args.toList.map (mF e)++q)) t
                         | .yield l=>yield l o.pos (args.toList.map (mF e)) t
                         | _=>.bT 167 o.pos
                       | _=>(w7 A E f.fn (mF e) c.mem o).bind o.pos λp=>next p.1 p.2)
               (λe=>match uC all bs o.dst&&GH all o with
                 | true=>run n {c with bF:={f with env:=e.ol o.dst (.yy []),todo:=.jI all ms rest (i::bs)::k}::fs}
                 | false=>.bT 179 o.pos)
def Tr.Ok(Q:R->Prop)(G:iH->Prop):Tr R->Prop
 | .ret y=>Q y
 | .ao c=>G c
 | .br b t e=>(b=true->Tr.Ok Q G t)/\(b=false->Tr.Ok Q G e)
 | .ap b t=>b=true/\Tr.Ok Q G t
 | .eqs p t=>p/\Tr.Ok Q G t
 | .same l r t=>oQ l r/\Tr.Ok Q G t
 | .and a b=>Tr.Ok Q G a/\Tr.Ok Q G b
 | .bT _ _=>False
end
def Cr(A:aS)(a:List Ty)(v:AV)(m:Mem):Option (Ty.Ts a):=
 match (match a with | [_]=>some [v]|_=>match v with | .yy b=>some b|_=>none:Option (List AV)) with
 | none=>none
 | some b=>match kL a b with
   | false=>none
   | true=>match fq A a m (b.flatMap AV.cells) with
     | none=>none
     | some (_,cs)=>match qL a cs with
       | some (y, [])=>some y
       | _=>none
def XJ(A:aS)(t:Ty)(a:List Ty)(v:AV)(m:Mem):Option (List t.T×Ty.Ts a):=
 match (match a with | [_]=>some [v]|_=>match v with | .yy b=>some b|_=>none:Option (List AV)) with
 | none=>none
 | some b=>match kL a b with
   | false=>none
   | true=>match fq A a m (b.flatMap AV.cells) with
     | none=>none
     | some (m,cs)=>match qL a cs with
       | some (y, [])=>match m.at 0 with
         | .arr false t' x=>if h:t'.beq t=true then some ((Ty.eq_of_beq h▸x:List t.T),y) else none
         | _=>none
       | _=>none
def XK(A:aS)(f:VF)(c:Bool)(a:List Ty)(v:AV)(m:Mem):Option (Bool×f.ty.T×Ty.Ts a):=
 match (match a with | []=>some [v]|_=>match v with | .yy b=>some b|_=>none:Option (List AV)) with
 | none=>none
 | some []=>none
 | some (v::b)=>match kL a b with
   | false=>none
   | true=>match fq A a m (b.flatMap AV.cells) with
     | none=>none
     | some (m,cs)=>match qL a cs with
       | some (y, [])=>match c,v with
         | true,.jT=>some (false,Ty.gD f.ty,y)
         | _,v=>match VF.read m f [v] with
           | some (x,ids, [])=>match nN ids&&f.Gm.isEmpty with
             | true=>some (true,x,y)
             | false=>none
           | _=>none
       | _=>none
def jl(k:Nat):List AV:=(List.range k).map λi=>.ptr i 0
def ao7(m:Mem)(k:Nat)(v:AV):Option (List AV):=
 match v with
 | .ptr i d=>match Nat.beq i 0&&(Nat.beq d 0&&Nat.ble 1 k) with
   | true=>match m.at 0 with
     | .ay _ _=>some []
     | _=>none
   | false=>none
 | _=>none
def Gc:List (Nat×Nat)->Bool
 | []=>true
 | (k,id)::r=>Nat.beq id k&&Gc r
def PD(A:aS)(e:Bool)(b:List VF)(a:List Ty)(v:AV)(m:Mem):Option (Ty.Ts (VF.iA b)×Ty.Ts a):=
 match (match e with|true=>ao7 m b.length v|false=>match a with | [_]=>some [v]|_=>match v with | .yy c=>some c|_=>none:Option (List AV)) with
 | none=>none
 | some c=>match kL a c with
   | false=>none
   | true=>match fq A a m (c.flatMap AV.cells) with
     | none=>none
     | some (m,cs)=>match qL a cs with
       | some (y, [])=>match VF.reads m b (jl b.length) with
         | some (x,ids, [])=>match nN ids&&(iy b&&Gc (VF.x_ m b (jl b.length))) with
           | true=>some (x,y)
           | false=>none
         | _=>none
       | _=>none
def Gh:VF->iR
 | .ptr fs=>.ay false (List.replicate (VF.mq fs) .undef)
 | .nM fs=>.ay true (List.replicate (VF.mq fs) .undef)
 | _=>.ay false []
def holds:List VF->Mem
 | []=>[]
 | f::fs=>Gh f::holds fs
def Ho(A:aS)(a:List VF)(x:Ty.Ts (VF.iA a)):Mem:=(VF.Jy A .own a (jl a.length) x (holds a++(VF.gp a x).map Prod.snd)).getD []
def tj(g:FuncId)(F:Func)(a:List AV)(m:Mem:=[]):iH:=
 match jf g F a with
 | some h=>{bF:=[h],mem:=m}
 | none=>{bF:=[],mem:=[]}
def Code.way:Code->List Nat->Code
 | c, []=>c
 | .seq a b,i::r=>match i with|0=>Code.way a r|_=>Code.way b r
 | .cond _ a b,i::r=>match i with|0=>Code.way a r|_=>Code.way b r
 | .block _ b,_::r=>Code.way b r
 | .loop b,_::r=>Code.way b r
 | .scope b,_::r=>Code.way b r
 | .rangeFunc _ _ a b,i::r=>match i with|0=>Code.way a r|_=>Code.way b r
 | _,_::_=>.skip
def stk:Code->List Nat->List dW->List dW
 | .seq a b,i::r,k=>match i with|0=>stk a r (.code b::k)|_=>stk b r k
 | .cond _ a b,i::r,k=>match i with|0=>stk a r k|_=>stk b r k
 | .block n b,_::r,k=>stk b r (.inBlock n::k)
 | .loop b,_::r,k=>stk b r (.inLoop b::k)
 | .scope b,_::r,k=>stk b r (.inScope b::k)
 | _,_,k=>k
def Pm(F:Func):Code:=match F.body with|some b=>b|none=>.skip
def opsOf:Code->Array Oper
 | .region _ os _=>os
 | _=>#[]
def advance(a:List (FuncId×aM))(c:iH):iH:=
 match c.bF with
 | []=>c
 | f::fs=>match f.todo with
   | .inLoop b::k=>{c with bF:={f with todo:=.code b :: .inLoop b::k}::fs}
   | .code (.region _ os false)::k=>{c with bF:={f with todo:=.ops os os.toList::k}::fs}
   | .code (.region _ os true)::k=>match qw a os with
     | some (ms,is)=>{c with bF:={f with todo:=.jI os ms is []::k}::fs}
     | none=>c
   | _=>c
end Go.Ev
namespace Go.Ev
def gj:Nat:=140737488355328
theorem ig:gj=140737488355328:=rfl
structure St where
 σ:Nat->Nat
 δ:Nat->Nat
 vd:Nat->Bool
 I:Nat->Prop
def lF(w:World)(b off:Nat)(a:List Value):Prop:=
 ∀(j:Nat) (u:Value),a[j]? = some u->w.cell? ⟨b,off+j,none⟩=some u
mutual
def bS(w:World)(I:Nat->Prop):(t:Ty)->List Value->t.T->Prop
 | .int k,cs,x=>cs=[.int k x]/\k.has x
 | .bool,cs,x=>cs=[.bool x]
 | .str,cs,x=>cs=[.string ⟨(show List UInt8 from x).toArray⟩]/\(show List UInt8 from x).length<=gj
 | .slice t,cs,x=>∃(a:Option Addr) (c:Nat),cs=[.slice a (show List t.T from x).length c]/\(show List t.T from x).length<=c/\(show List t.T from x).length<=gj/\
    (a=none->c=0)/\
    ∀(i:Nat) (y:t.T),(show List t.T from x)[i]? = some y->∃b off e,a=some ⟨b,off,none⟩/\I b/\e.length=t.size/\lF w b (off+i*t.size) e/\bS w I t e y
 | .arr n t,cs,x=>(show List t.T from x).length=n/\cs.length=n*t.size/\
    ∀(i:Nat) (y:t.T),(show List t.T from x)[i]? = some y->bS w I t ((cs.drop (i*t.size)).take t.size) y
 | .struct ts,cs,x=>fY w I ts cs x
 | .any n,cs,_=>cs.length=n
def fY(w:World)(I:Nat->Prop):(a:List Ty)->List Value->Ty.Ts a->Prop
 | [],cs,_=>cs=[]
 | [t],cs,x=>bS w I t cs x
 | t::b::a,cs,x=>∃c e,cs=c++e/\bS w I t c (Prod.fst (α:=t.T) (β:=Ty.Ts (b::a)) x)/\fY w I (b::a) e (Prod.snd (α:=t.T) (β:=Ty.Ts (b::a)) x)
end
mutual
theorem bS.length{w:World}{I:Nat->Prop}:∀(t:Ty) {b:List Value} {x:t.T},bS w I t b x->b.length=t.size
 | .int k,b,x,h=>by rw[bS] at h;rw[h.1];rfl
 | .bool,b,x,h=>by rw[bS] at h;rw[h];rfl
 | .str,b,x,h=>by rw[bS] at h;rw[h.1];rfl
 | .slice t,b,x,h=>by rw[bS] at h;obtain⟨a,c,h,_⟩:=h;rw[h];rfl
 | .arr n t,b,x,h=>by grind [bS,Ty.size]
 | .struct ts,b,x,h=>by rw[bS] at h;rw[Ty.size];exact fY.length ts h
 | .any n,b,x,h=>by rw[bS] at h;rw[h];rfl
theorem fY.length{w:World}{I:Nat->Prop}:∀(b:List Ty) {a:List Value} {x:Ty.Ts b},fY w I b a x->a.length=Ty.mq b
 | [],a,x,h=>by rw[fY] at h;rw[h];rfl
 | [t],a,x,h=>by rw[fY] at h;simp only[Ty.mq];exact bS.length t h
 | t::f::b,a,x,h=>by
   obtain⟨g,i,rfl,c,e⟩:=h;rw[ru,bS.length t c,fY.length (f::b) e];rfl
end
variable{c:List Value}
theorem lF.mono{w w':World}{b off:Nat}(h:lF w b off c)(e:w'.heap[b]? = w.heap[b]?):lF w' b off c:=
 λj u f=>(World.cell?_of_block (w:=w) (a:=⟨b,off+j,none⟩) e).trans (h j u f)
mutual
theorem bS.mono{w w':World}{I j:Nat->Prop}(e:∀b,I b->j b/\w'.heap[b]? = w.heap[b]?):∀(t:Ty) {c:List Value} {x:t.T},bS w I t c x->bS w' j t c x
 | .int k,c,x,h=>by grind [bS]
 | .bool,c,x,h=>by grind [bS]
 | .str,c,x,h=>by grind [bS]
 | .slice t,c,x,h=>by
   obtain⟨a,f,o,p,q,r,s⟩:=h;refine⟨a,f,o,p,q,r,λi y g=>?_⟩;obtain⟨b,off,D,u,l,B,C,z⟩:=s i y g;exact⟨b,off,D,u,(e b l).1,B,C.mono (e b l).2,bS.mono e t z⟩
 | .arr n t,c,x,h=>by
   exact⟨h.1,h.2.1,λi y g=>bS.mono e t (h.2.2 i y g)⟩
 | .struct ts,c,x,h=>by rw[bS] at h ⊢;exact fY.mono e ts h
 | .any n,c,x,h=>by grind [bS]
theorem fY.mono{w w':World}{I f:Nat->Prop}(e:∀b,I b->f b/\w'.heap[b]? = w.heap[b]?):∀(c:List Ty) {a:List Value} {x:Ty.Ts c},fY w I c a x->fY w' f c a x
 | [],a,x,h=>by grind [fY]
 | [t],a,x,h=>by rw[fY] at h ⊢;exact bS.mono e t h
 | t::l::c,a,x,h=>by
   obtain⟨n,o,g,i,j⟩:=h;exact⟨n,o,g,bS.mono e t i,fY.mono e (l::c) j⟩
end
def mE(w:World)(I:Nat->Prop)(t:Ty)(v:Value)(x:t.T):Prop:=
 if t.isAgg=true then ∃a:Array Value,v=.agg a/\bS w I t a.toList x else bS w I t [v] x
def kR(w:World)(I:Nat->Prop):(a:List Ty)->List Value->Ty.Ts a->Prop
 | [],vs,_=>vs=[]
 | [t],vs,x=>∃v,vs=[v]/\mE w I t v x
 | t::b::a,vs,x=>∃v r,vs=v::r/\mE w I t v (Prod.fst (α:=t.T) (β:=Ty.Ts (b::a)) x)/\kR w I (b::a) r (Prod.snd (α:=t.T) (β:=Ty.Ts (b::a)) x)
mutual
def CR(w:World)(S:St)(m:Mem):AV->Value->Prop
 | .undef,_=>True
 | .int k _ n,v=>v=.int k n/\k.has n
 | .bool _ b,v=>v=.bool b
 | .str _ s,v=>v=.string ⟨s.toArray⟩/\s.length<=gj
 | .sl t x,v=>bS w S.I (.slice t) [v] x
 | .gi b,v=>∃a,v=.slice a 0 0/\(b=true->a=none)
 | .own id,v=>match m.at id with
   | .arr _ t x=>(S.vd id=true/\x=[]/\∃a,v=.slice a 0 0)\/S.vd id=false/\∃e,v=.slice (some ⟨S.σ id,S.δ id,none⟩) x.length e/\x.length<=e/\(∃g T h,w.heap[S.σ id]? = some (.cells g T h)/\S.δ id+e*t.size<=g.size)
   | .aZ=>True
   | _=>False
 | .uh id sz _ lo len,v=>match m.at id with
   | .arr _ t x=>∃(l n e:Nat) (a:Option Addr),lo=l/\len=n/\sz=t.size/\l+n<=x.length/\n<=e/\(a=none->e=0)/\v=.slice a n e/\(n≠0->a=some ⟨S.σ id,S.δ id+l*sz,none⟩)/\
      (l=0->(S.vd id=true->e=0)/\(S.vd id=false->a=some ⟨S.σ id,S.δ id,none⟩/\∃g T h,w.heap[S.σ id]? = some (.cells g T h)/\S.δ id+e*t.size<=g.size))
   | .ay _ cs=>∃(l n e:Nat) (a:Option Addr),lo=l/\len=n/\l+n<=gj/\(l+e)*sz<=cs.length/\n<=e/\(a=none->e=0)/\v=.slice a n e/\(n≠0->a=some ⟨S.σ id,l*sz,none⟩)
   | .aZ=>True
   | _=>False
 | .ptr id off,v=>match m.at id with
   | .ay _ _=>v=.pointer (some ⟨S.σ id,off,none⟩)
   | .aZ=>True
   | _=>False
 | .kV id i off,v=>match m.at id with
   | .arr _ t x=>∃k:Nat,i=k/\k<x.length/\v=.pointer (some ⟨S.σ id,S.δ id+k*t.size+off,none⟩)
   | .aZ=>True
   | _=>False
 | .yP id off n t i,v=>match m.at id with
   | .ay _ _=>∃k:Nat,i=k/\k<n/\v=.pointer (some ⟨S.σ id,off+k*t.size,none⟩)
   | .aZ=>True
   | _=>False
 | .pj t x off,v=>∃b o g,v=.pointer (some ⟨b,o+off,none⟩)/\S.I b/\g.length=t.size/\lF w b o g/\bS w S.I t g x
 | .jT,v=>v=.pointer none
 | .fn f a c,v=>∃g j:Array Value,v=.func (.func f) g j/\eD w S m a g.toList/\eD w S m c j.toList
 | .yield l,v=>match m.at l with
   | .loop _=>v=.func (.yield (S.σ l)) #[] #[]
   | .aZ=>True
   | _=>False
 | .s_,v=>v=.nilFunc
 | .agg cs,v=>∃g:Array Value,v=.agg g/\eD w S m cs g.toList
 | .yy cs,v=>∃g:Array Value,v=.tuple g/\eD w S m cs g.toList
def eD(w:World)(S:St)(m:Mem):List AV->List Value->Prop
 | [],vs=>vs=[]
 | a::as',vs=>∃v r,vs=v::r/\CR w S m a v/\eD w S m as' r
end
variable{I:Nat->Prop}{a:List Value}{b:Bool}{t:Ty}{x:List t.T}
section
variable {w:World} {S:St} {m:Mem} {v:Value}
theorem gJ:CR w S m .undef v:=by rw[CR];trivial
theorem fe{k:IntKind}{c:Bool}{n:Int}:CR w S m (.int k c n) v↔v=.int k n/\k.has n:=by rw[CR]
theorem iw{c:Bool}:CR w S m (.bool c b) v↔v=.bool b:=by rw[CR]
theorem lQ{c:Bool}{s:List UInt8}:CR w S m (.str c s) v↔v=.string ⟨s.toArray⟩/\s.length<=gj:=by rw[CR]
theorem qT:CR w S m (.sl t x) v↔bS w S.I (.slice t) [v] x:=by rw[CR]
theorem mX:CR w S m (.gi b) v↔∃a,v=.slice a 0 0/\(b=true->a=none):=by rw[CR]
theorem tF{x:t.T}{off:Nat}:CR w S m (.pj t x off) v↔∃b o a,v=.pointer (some ⟨b,o+off,none⟩)/\S.I b/\a.length=t.size/\lF w b o a/\bS w S.I t a x:=by rw[CR]
theorem qs:CR w S m .jT v↔v=.pointer none:=by rw[CR]
theorem uO{f:FuncId}{a c:List AV}:CR w S m (.fn f a c) v↔∃b e:Array Value,v=.func (.func f) b e/\eD w S m a b.toList/\eD w S m c e.toList:=by rw[CR]
theorem sD:CR w S m .s_ v↔v=.nilFunc:=by rw[CR]
theorem uu{a:List AV}:CR w S m (.agg a) v↔∃b:Array Value,v=.agg b/\eD w S m a b.toList:=by rw[CR]
theorem kh{a:List AV}:CR w S m (.yy a) v↔∃b:Array Value,v=.tuple b/\eD w S m a b.toList:=by rw[CR]
theorem bC:eD w S m [] a↔a=[]:=by rfl
theorem bL{a:AV}{b:List AV}:eD w S m (a::b) c↔∃v r,c=v::r/\CR w S m a v/\eD w S m b r:=by rfl
theorem sG{k:IntKind}{x:Int}:bS w I (.int k) a x↔a=[.int k x]/\k.has x:=fC
theorem B_{x:Bool}:bS w I .bool a x↔a=[.bool x]:=fC
theorem Ao{x:List UInt8}:bS w I .str a x↔a=[.string ⟨x.toArray⟩]/\x.length<=gj:=fC
theorem dX{f:List Value}:bS w I (.slice t) f x↔∃(a:Option Addr) (c:Nat),f=[.slice a x.length c]/\x.length<=c/\x.length<=gj/\
   (a=none->c=0)/\
   ∀(i:Nat) (y:t.T),x[i]? = some y->∃b off e,a=some ⟨b,off,none⟩/\I b/\e.length=t.size/\lF w b (off+i*t.size) e/\bS w I t e y:=fC
theorem An{n:Nat}:bS w I (.arr n t) a x↔x.length=n/\a.length=n*t.size/\
   ∀(i:Nat) (y:t.T),x[i]? = some y->bS w I t ((a.drop (i*t.size)).take t.size) y:=fC
theorem wS{a:List Ty}{b:List Value}{x:Ty.Ts a}:bS w I (.struct a) b x↔fY w I a b x:=fC
theorem xY{x:Ty.Ts []}:fY w I [] a x↔a=[]:=fC
theorem Ca{x:t.T}:fY w I [t] a x↔bS w I t a x:=fC
theorem zy{a:Ty}{b:List Ty}{x:t.T}{y:Ty.Ts (a::b)}:fY w I (t::a::b) c (x,y)↔∃e f,c=e++f/\bS w I t e x/\fY w I (a::b) f y:=fC
end
theorem eD.length{w:World}{S:St}{m:Mem}:∀{c:List AV} {b:List Value},eD w S m c b->b.length=c.length
 | [],b,h=>by grind [eD]
 | a::c,b,h=>by
   obtain⟨v,r,rfl,_,e⟩:=h;simp[eD.length e]
def iU:iR->iR->Prop
 | .bT,_=>False
 | _,.aZ=>True
 | .ay _ cs,.ay _ a=>a.length=cs.length
 | .arr _ t x,.arr _ t' x'=>∃h:t=t',x'.length=x.length/\h=h
 | .loop _,.loop _=>True
 | .It,.It=>True
 | .It,.Uk=>True
 | .Uk,.Uk=>True
 | _,_=>False
def iR.kg:iR->Bool
 | .loop _=>true
 | .It=>true
 | .Uk=>true
 | _=>false
def St.fl(S:St)(id:Nat):iR->Bool
 | .ay _ _=>true
 | .arr _ _ _=>!S.vd id
 | _=>false
structure dH(w:World)(S:St)(m:Mem)(w':World)(S':St)(m':Mem):Prop where
 ny:∀b,S.I b->S'.I b/\w'.heap[b]? = w.heap[b]?
 box:∀id,m.at id≠.bT->iU (m.at id) (m'.at id)/\(m'.at id≠.aZ->S'.σ id=S.σ id/\S'.δ id=S.δ id/\S'.vd id=S.vd id/\
  (S.fl id (m.at id)=true->∀us T fr,w.heap[S.σ id]? = some (.cells us T fr)->∃iG T' iO,w'.heap[S.σ id]? = some (.cells iG T' iO)/\iG.size=us.size))
 ctl:∀id,(m.at id).kg=true->(m'.at id).kg=true
variable{S:St}{m:Mem}
theorem dH.inv{w:World}{i:World}{b:St}{a:Mem}(h:dH w S m i b a){id:Nat}(o:m.at id≠.bT):a.at id=.aZ\/
  (iU (m.at id) (a.at id)/\a.at id≠.bT/\b.σ id=S.σ id/\b.δ id=S.δ id/\b.vd id=S.vd id/\
  (S.fl id (m.at id)=true->∀g T l,w.heap[S.σ id]? = some (.cells g T l)->∃f j q,i.heap[S.σ id]? = some (.cells f j q)/\f.size=g.size)):=by
 obtain⟨c,n⟩:=h.box id o;by_cases p:a.at id=.aZ
 ·grind
 ·refine .inr ⟨c,λe=>?_,n p⟩
  rw[e] at c;cases hm:m.at id<;>rw[hm] at c<;>exact c.elim
mutual
theorem CR.mono{w:World}{S:St}{m:Mem}{w':World}{S':St}{m':Mem}(h:dH w S m w' S' m'):∀{a:AV} {v:Value},CR w S m a v->CR w' S' m' a v
 | .undef,v,_=>by rw[CR];trivial
 | .int k c n,v,g=>by rw[CR] at g ⊢;omega
 | .bool c b,v,g=>by rw[CR] at g ⊢;omega
 | .str c s,v,g=>by rw[CR] at g ⊢;omega
 | .sl t x,v,g=>by rw[CR] at g ⊢;exact bS.mono h.ny _ g
 | .gi b,v,g=>by rw[CR] at g ⊢;omega
 | .own id,v,g=>by
   rw[CR] at g ⊢;rcases h.inv (id:=id) (λe=>by grind) with D|⟨j,_,z,F,y,u⟩
   ·grind
   ·cases hm:m.at id<;>rw[hm] at g j<;>simp only at g<;>cases hm':m'.at id<;>rw[hm'] at j<;>try (first|trivial|exact j.elim)
    obtain⟨rfl,J,_⟩:=j;rcases g with ⟨hz,rfl,g⟩|⟨K,C,rfl,r,q,T,H,p,B⟩
    ·simp_all
    ·obtain⟨W,O,X,I,G⟩:=u (by rw[hm];simp[St.fl,K]) q T H p
     simp_all
 | .uh id sz c lo len,v,g=>by
   rw[CR] at g ⊢;rcases h.inv (id:=id) (λe=>by grind) with D|⟨j,_,z,F,y,u⟩
   ·simp_all
   ·cases hm:m.at id<;>rw[hm] at g j<;>simp only at g<;>cases hm':m'.at id<;>rw[hm'] at j<;>try (first|trivial|exact j.elim)
    ·have J:_=_:=j
     grind
    ·obtain⟨rfl,J,_⟩:=j
     obtain⟨l,n,C,a,r,p,B,I,G,Q,V,h8,N⟩:=g;refine⟨l,n,C,a,r,p,B,by omega,G,Q,V,by simp_all,λe=>⟨λk=>(N e).1 (y▸k),λk=>?_⟩⟩;rw[y] at k;obtain⟨k1,q,T,H,Y,k3⟩:=(N e).2 k;obtain⟨W,O,X,k4,k5⟩:=u (by rw[hm];simp[St.fl,k]) q T H Y
     simp_all
 | .ptr id off,v,g=>by
   rw[CR] at g ⊢;rcases h.inv (id:=id) (λe=>by simp_all) with D|⟨j,_,z,F,y,u⟩
   ·simp_all
   ·cases hm:m.at id<;>rw[hm] at g j<;>simp only at g<;>cases hm':m'.at id<;>rw[hm'] at j<;>try (first|trivial|exact j.elim)
    simp_all
 | .kV id i off,v,g=>by
   rw[CR] at g ⊢;rcases h.inv (id:=id) (λe=>by simp_all) with D|⟨j,_,z,F,y,u⟩
   ·simp_all
   ·cases hm:m.at id<;>rw[hm] at g j<;>simp only at g<;>cases hm':m'.at id<;>rw[hm'] at j<;>try (first|trivial|exact j.elim)
    obtain⟨rfl,J,_⟩:=j
    simp_all
 | .yP id off n t i,v,g=>by
   rw[CR] at g ⊢;rcases h.inv (id:=id) (λe=>by simp_all) with D|⟨j,_,z,F,y,u⟩
   ·simp_all
   ·cases hm:m.at id<;>rw[hm] at g j<;>simp only at g<;>cases hm':m'.at id<;>rw[hm'] at j<;>try (first|trivial|exact j.elim)
    rw[z];exact g
 | .pj t x off,v,g=>by
   obtain⟨b,o,q,r,p,B,I,G⟩:=g;exact⟨b,o,q,r,(h.ny b p).1,B,I.mono (h.ny b p).2,bS.mono h.ny _ G⟩
 | .jT,v,g=>by rw[CR] at g ⊢;omega
 | .fn f a c,v,g=>by
   obtain⟨q,Z,r,p,B⟩:=g;exact⟨q,Z,r,eD.mono h p,eD.mono h B⟩
 | .yield l,v,g=>by
   rw[CR] at g ⊢;rcases h.inv (id:=l) (λe=>by simp_all) with D|⟨j,_,z,F,y,u⟩
   ·simp_all
   ·cases hm:m.at l<;>rw[hm] at g j<;>simp only at g<;>cases hm':m'.at l<;>rw[hm'] at j<;>try (first|trivial|exact j.elim)
    rw[z];exact g
 | .s_,v,g=>by rw[CR] at g ⊢;omega
 | .agg cs,v,g=>by
   obtain⟨q,r,p⟩:=g;exact⟨q,r,eD.mono h p⟩
 | .yy cs,v,g=>by
   rw[CR] at g ⊢;obtain⟨q,r,p⟩:=g;exact⟨q,r,eD.mono h p⟩
theorem eD.mono{w:World}{S:St}{m:Mem}{w':World}{S':St}{m':Mem}(h:dH w S m w' S' m'):∀{c:List AV} {b:List Value},eD w S m c b->eD w' S' m' c b
 | [],b,hc=>by rw[eD] at hc ⊢;omega
 | a::c,b,hc=>by
   rw[eD] at hc ⊢;obtain⟨v,r,e,f,g⟩:=hc;exact⟨v,r,e,CR.mono h f,eD.mono h g⟩
end
def gK(a:Nat×Nat)(b:Nat):Prop:=a=(0,0)
def rX:Nat->LoopState
 | 0=>.ready
 | 1=>.busy
 | 2=>.done
 | _=>.exhausted
def M7(w:World)(S:St)(m:Mem)(r:M4)(l:Loop):Prop:=
 l.state=rX r.state/\l.pending=r.pending/\l.fn=r.fn/\l.params=r.params.toArray/\l.assign=r.assign/\l.body=r.body/\(l.tmps.size=r.n/\r.n<=65535)/\
 ∀i,CR w S m (r.env.at i) (l.tmps.getD i undef)
def St.lv(S:St)(id:Nat):iR->Bool
 | .bT=>false
 | .aZ=>false
 | .Uk=>false
 | .arr _ _ _=>!S.vd id
 | _=>true
def rP(w:World)(S:St)(m:Mem)(id:Nat):iR->Prop
 | .bT=>True
 | .aZ=>True
 | .Uk=>True
 | .ay _ cs=>∃(a:Array Value) (T:TypeId) (b:Nat×Nat),w.heap[S.σ id]? = some (.cells a T b)/\gK b a.size/\eD w S m cs a.toList
 | .arr _ t x=>x.length<=gj/\(S.vd id=true->x=[])/\(S.vd id=false->∃(a:Array Value) (T:TypeId) (b:Nat×Nat),w.heap[S.σ id]? = some (.cells a T b)/\gK b a.size/\S.δ id+x.length*t.size<=a.size/\
    ∀(i:Nat) (y:t.T),x[i]? = some y->bS w S.I t ((a.toList.drop (S.δ id+i*t.size)).take t.size) y)
 | .loop r=>∃l,w.heap[S.σ id]? = some (.loop l)/\M7 w S m r l
 | .It=>w.heap[S.σ id]? = some (.deferred (some []))
def St.fz(S:St)(id:Nat):iR->Bool
 | .ay fz _=>fz
 | .arr fz _ _=>fz && !S.vd id
 | _=>false
def iR.Sz:iR->Bool
 | .ay fz _=>fz
 | .arr fz _ _=>fz
 | _=>false
theorem agb{id:Nat}{b:iR}(h:b.Sz=false):S.fz id b=false:=by
 cases b<;>first|rfl|exact h|(simp only[iR.Sz] at h;simp[St.fz,h])
theorem Y6{a:St}{j:Nat}{b:iR}(h:a.vd j=S.vd j):a.lv j b=S.lv j b:=by simp_all [St.lv]
variable{α:Type}
theorem ne_of_lt{x:List α}{k:Nat}(h:k<x.length):x≠ []:=λe=>by grind
theorem ahf{w:World}{id:Nat}{fz:Bool}(h:rP w S m id (.arr fz t x))(a:x≠ []):S.vd id=false:=by
 cases e:S.vd id with
 | false=>rfl
 | true=>exact absurd (h.2.1 e) a
theorem rP.blk{w:World}{id:Nat}{fz:Bool}(h:rP w S m id (.arr fz t x))(c:x≠ []):∃(a:Array Value) (T:TypeId) (b:Nat×Nat),w.heap[S.σ id]? = some (.cells a T b)/\gK b a.size/\S.δ id+x.length*t.size<=a.size/\
  ∀(i:Nat) (y:t.T),x[i]? = some y->bS w S.I t ((a.toList.drop (S.δ id+i*t.size)).take t.size) y:=h.2.2 (ahf h c)
theorem own_ne{p q:Prop}(h:(b=true/\p)\/b=false/\q)(a:b=false):q:=h.elim (λh=>by grind) (·.2)
theorem rA{id:Nat}{fz:Bool}:S.lv id (.arr fz t x)=!S.vd id:=rfl
theorem vC{id:Nat}:S.fz id (.arr false t x)=false:=rfl
theorem CG{x:List α}{v:Value}{b:Addr}{z:Bool}{q:Nat->Prop}(h:(z=true/\x=[]/\∃a,v=.slice a 0 0)\/z=false/\∃c,v=.slice (some b) x.length c/\x.length<=c/\q c):
  ∃a c,v=.slice a x.length c/\x.length<=c/\(a=none->c=0)/\(x.length≠0->a=some b):=by grind
structure nt extends World where
 X:Nat->Prop
 R:List (Nat×Option Nat):=[]
 D:Prop:=False
def nt.free(o:nt)(b:Nat):Prop:=o.heap.size<=b\/o.X b
theorem nt.old{o:nt}{b:Nat}(h:¬o.free b):b<o.heap.size:=Nat.lt_of_not_le λk=>h (.inl k)
def World.whole(w:World):nt:={w with X:=λ_=>False}
def World.MV(w:World):nt:={w with X:=λ_=>False,D:=True}
def RB(w0:nt)(w:World):Prop:=w.tape=w0.tape/\(w0.D->w0.drawn<=w.drawn)
variable{w0:nt}
theorem RB.on{w a:World}(h:RB w0 w)(e:a.tape=w.tape)(d:w0.D->w.drawn<=a.drawn):RB w0 a:=⟨e.trans h.1,λk=>aU (h.2 k) (d k)⟩
structure WR(w0:nt)(w:World)(S:St)(m:Mem):Prop where
 os:w.os=w0.os
 tape:RB w0 w
 output:w.output=w0.output
 size:w0.heap.size<=w.heap.size
 base:∀b,¬w0.free b->w.heap[b]? = w0.heap[b]?
 ny:∀b,S.I b->b<w.heap.size
 box:∀id,rP w S m id (m.at id)
 inj:∀id id',S.lv id (m.at id)=true->S.lv id' (m.at id')=true->S.σ id=S.σ id'->id=id'
 lo:∀id,S.lv id (m.at id)=true->(S.I (S.σ id)\/w0.free (S.σ id))/\S.σ id<w.heap.size
 qD:∀id,S.lv id (m.at id)=true->S.fz id (m.at id)=false->¬S.I (S.σ id)
 Iv:∀id,S.fz id (m.at id)=true->S.I (S.σ id)
 root:∀i b,w0.R[i]? = some b->i<m.length/\S.σ i=b.1/\∀d,b.2=some d->S.δ i=d/\S.vd i=false
 cells:∀(b:Nat) (us:Array Value) (T:TypeId) (fr:Nat×Nat),w0.heap[b]? = some (.cells us T fr)->∃(iG:Array Value) (T':TypeId) (iO:Nat×Nat),w.heap[b]? = some (.cells iG T' iO)/\iG.size=us.size
theorem WR.vd{w:World}(h:WR w0 w S m){id:Nat}{fz:Bool}(a:m.at id=.arr fz t x)(b:x≠ []):S.vd id=false:=ahf (by have:=h.box id;rwa [a] at this) b
theorem WR.lof{w:World}(h:WR w0 w S m){id:Nat}(a:S.lv id (m.at id)=true)(b:S.fz id (m.at id)=false):w0.free (S.σ id):=(h.lo id a).1.resolve_left (h.qD id a b)
def oy(all:Array Oper)(i:Nat):List Nat:=
 match all[i]? with
 | some o=>(o.after.toList.filter uy).map (·.on)
 | none=>[]
structure VI(all:Array Oper)(l:List Nat):Prop where
 nodup:l.Nodup
 lt:∀i∈l,i<all.size
 pw:l.Pairwise λi j=>j ∉ oy all i
 self:∀i∈l,i ∉ oy all i
 closed:∀k,k<all.size->k ∉ l->∀j∈oy all k,j ∉ l
def EQ(a l:List Nat):Prop:=∀l1 i l2,l=l1++i::l2->∀b,(a.getD i 0).testBit b=true->b ∉ i::l2
structure iT(n:Nat)(all:Array Oper)(ms rest bs l:List Nat):Prop where
 msk:EQ ms l
 lnd:l.Nodup
 nodup:(rest++bs).Nodup
 sub:∀i∈rest,i∈l
 cov:∀i∈l,i∈rest\/i∈bs
 lt:∀i∈bs,i<all.size
 read:∀i∈bs,∀b∈bs,i≠b->∀o p d,all[i]? = some o->all[b]? = some p->p.dst=some d->d∈kJ all o->(ms.getD i 0).testBit b=true
 dst:∀i∈bs,∀b∈bs,i≠b->∀o p d,all[i]? = some o->all[b]? = some p->p.dst=some d->o.dst≠some d
 own:∀i∈bs,∀o d,all[i]? = some o->o.dst=some d->d ∉ kJ all o
 grd:∀i∈bs,∀o,all[i]? = some o->yc (ms.getD i 0) o=true
 dok:∀i∈bs,∀o,all[i]? = some o->sM n o.dst=true
def EP(n:Nat)(S:St):dW->Item->Prop
 | .code c,it=>it=.code c
 | .inBlock id,it=>it=.inBlock id
 | .inLoop b,it=>it=.inLoop b\/it=.code (.loop b)
 | .inScope b,it=>it=.inScope b
 | .ops all rest,it=>∃l:List Nat,it=.inRegion all l/\l.map (λi=>all[i]?)=rest.map some
 | .jI all ms rest bs,it=>∃l:List Nat,it=.inRegion all l/\iT n all ms rest bs l
 | .rR all ms i rest bs,it=>∃l:List Nat,it=.inRegion all (i::l)/\iT n all ms (i::rest) bs (i::l)
 | .oI l,it=>it=.inRangeFunc (S.σ l)
 | .oX l,it=>it=.endRangeFunc (S.σ l)
 | .beginRound,it=>it=.beginRound
def fK(n:Nat)(S:St):List dW->List Item->Prop
 | [],l=>l=[]
 | a::r,l=>∃b k,l=b::k/\EP n S a b/\fK n S r k
def dW.drawn:dW->Option (Array Oper×List Nat)
 | .jI all _ _ bs=>some (all,bs)
 | .rR all _ _ _ bs=>some (all,bs)
 | _=>none
def dW.Gk(a:dW):Bool:=a.drawn.isSome
def Hid(f:dJ)(a:Frame)(x:Nat):Prop:=
 ∃all bs l c b p,f.todo.head?.bind dW.drawn=some (all,bs)/\a.todo=.inRegion all l::c/\b∈bs/\b∈l/\all[b]? = some p/\p.dst=some x
def dZ(m:Mem)(l:List dW):Prop:=∀a∈l,match a with | .oI id=>(m.at id).kg=true | .oX id=>(m.at id).kg=true|_=>True
structure FR(w:World)(S:St)(m:Mem)(f:dJ)(fr:Frame):Prop where
 fn:fr.fn=f.fn
 n:fr.tmps.size=f.n
 small:f.n<=65535
 env:∀i,¬Hid f fr i->CR w S m (f.env.at i) (fr.tmps.getD i undef)
 todo:fK f.n S f.todo fr.todo
 live:dZ m f.todo
 ay:∀a∈f.todo.tail,a.Gk=false
 defers:fr.defers=f.marks.map λd=>{target:=.collected (S.σ d),args:=#[]}
 marks:∀d∈f.marks,(m.at d).kg=true
 mode:fr.mode=.run
 kind:fr.kind=.normal
 gl:fr.roundOf=f.gl.map S.σ
 uj:∀l,f.gl=some l->(m.at l).kg=true
def EO(w:World)(S:St)(m:Mem):List dJ->List Frame->Prop
 | [],l=>l=[]
 | f::fs,l=>∃a r,l=a::r/\FR w S m f a/\EO w S m fs r
end Go.Ev
namespace Go.Ev
theorem eD.append{w:World}{S:St}{m:Mem}:∀{a b:List AV} {e c:List Value},eD w S m a e->eD w S m b c->eD w S m (a++b) (e++c)
 | [],b,e,c,h1,h2=>by simp_all;rw[h1];grind
 | x::a,b,e,c,h1,h2=>by
   obtain⟨v,r,rfl,f,g⟩:=h1;exact⟨v,r++c,rfl,f,eD.append g h2⟩
theorem eD.split{w:World}{S:St}{m:Mem}:∀{a b:List AV} {c:List Value},eD w S m (a++b) c->∃e f,c=e++f/\eD w S m a e/\eD w S m b f
 | [],b,c,h=>⟨[],c,rfl,by rfl,h⟩
 | x::a,b,c,h=>by
   obtain⟨v,r,rfl,j,g⟩:=h;obtain⟨e,f,rfl,l,i⟩:=eD.split g;exact⟨v::e,f,rfl,by rw[eD];grind,i⟩
theorem eD.drop{w:World}{S:St}{m:Mem}:∀{a:List AV} {b:List Value} (n:Nat),eD w S m a b->eD w S m (a.drop n) (b.drop n)
 | [],b,n,h=>by simp_all [eD]
 | x::a,b,0,h=>h
 | x::a,b,n+1,h=>by
   obtain⟨v,r,rfl,e,c⟩:=h;exact eD.drop n c
theorem eD.take{w:World}{S:St}{m:Mem}:∀{a:List AV} {b:List Value} (n:Nat),eD w S m a b->eD w S m (a.take n) (b.take n)
 | [],b,n,h=>by simp_all [eD]
 | x::a,b,0,h=>by rfl
 | x::a,b,n+1,h=>by
   obtain⟨v,r,rfl,c,e⟩:=h;exact⟨v,_,rfl,c,eD.take n e⟩
theorem eD.get{w:World}{S:St}{m:Mem}:∀{a:List AV} {b:List Value} {i:Nat} {x:AV},eD w S m a b->a[i]? = some x->∃v,b[i]? = some v/\CR w S m x v
 | [],b,i,x,_,h=>by grind
 | y::a,b,0,x,h,hx=>by grind [eD]
 | y::a,b,i+1,x,h,hx=>by
   obtain⟨v,r,rfl,e,c⟩:=h;simp at hx ⊢;exact eD.get c hx
theorem eD.map{w:World}{S:St}{m:Mem}{α:Type}{f:α->AV}{g:α->Value}(h:∀x,CR w S m (f x) (g x)):∀l:List α,eD w S m (l.map f) (l.map g)
 | []=>by rfl
 | x::l=>by simp;rw[eD];exact⟨_,_,rfl,h x,eD.map h l⟩
theorem eD.y8{w:World}{S:St}{m:Mem}(f:Nat->List AV)(sz:Nat):∀(n:Nat) (a:List Value),a.length=n*sz->
  (∀i,i<n->eD w S m (f i) ((a.drop (i*sz)).take sz))->eD w S m ((List.range n).flatMap f) a
 | 0,a,h,_=>by
   have:a=[]:=by grind
   rw[this];rfl
 | n+1,a,h,hf=>by
   rw[List.range_succ,lV];have e:a=a.take (n*sz)++a.drop (n*sz):=(eU _ _).symm;rw[e];refine eD.append ?_ ?_
   ·refine eD.y8 f sz n _ (by grind) λi c=>?_
    have:=hf i (by omega);have b:(i+1)*sz<=n*sz:=aG _ c;rw[ky] at b;rw[kG,kI,iL (by omega)];omega
   ·have:=hf n (by omega)
    simp;rw[cH (by rw[cN,h,ky];omega)] at this;omega
variable{t:Ty}
theorem qK{x:List t.T}{i:Nat}(h:i<x.length):x[i]? = some (af.n t x (i:Int)):=by
 show x[i]? = some (x.getD (i:Int).toNat t.gD)
 grind
mutual
theorem lf{w:World}{S:St}{m:Mem}:∀(t:Ty) {b:List Value} {x:t.T},bS w S.I t b x->eD w S m (lb af t x) b
 | .int k,b,x,h=>by
   rw[bS] at h;rw[lb,h.1];simp only[eD];exact⟨_,_,rfl,fe.2 ⟨rfl,h.2⟩,rfl⟩
 | .bool,b,x,h=>by
   rw[bS] at h;rw[lb,h];simp only[eD];exact⟨_,_,rfl,iw.2 rfl,rfl⟩
 | .str,b,x,h=>by
   rw[bS] at h;rw[lb,h.1];simp only[eD];exact⟨_,_,rfl,lQ.2 ⟨rfl,h.2⟩,rfl⟩
 | .slice t,b,x,h=>by
   have f:=h;obtain⟨a,c,e,_⟩:=f;exact⟨_, [],e,qT.2 (by simp_all),rfl⟩
 | .arr n t,b,x,h=>by
   rw[bS] at h;refine eD.y8 _ t.size n b h.2.1 λi g=>?_;exact lf t (h.2.2 i _ (qK (by omega)))
 | .struct ts,b,x,h=>by rw[bS] at h;rw[lb];exact FB ts h
 | .any n,b,x,h=>by
   rw[bS] at h;subst h;rw[lb];clear x
   induction b with
   | nil=>rfl
   | cons u b ih=>exact bL.2 ⟨u,b,rfl,gJ,ih⟩
theorem FB{w:World}{S:St}{m:Mem}:∀(a:List Ty) {b:List Value} {x:Ty.Ts a},fY w S.I a b x->eD w S m (AA af a x) b
 | [],b,x,h=>by grind [fY,AA,eD]
 | [t],b,x,h=>by rw[fY] at h;rw[AA];exact lf t h
 | t::f::a,b,x,h=>by
   obtain⟨g,i,rfl,c,e⟩:=h;exact eD.append (lf t c) (FB (f::a) e)
end
variable{S:St}{m:Mem}
theorem AF{w:World}{v:Value}{x:t.T}(h:mE w S.I t v x):CR w S m (Ul af t x) v:=by
 unfold mE at h;unfold Ul;cases ht:t.isAgg with
 | true=>
   rw[ht,if_pos rfl] at h;obtain⟨b,rfl,h⟩:=h;exact⟨b,rfl,lf t h⟩
 | false=>
   rw[ht,if_neg (by simp)] at h;have:=lf (m:=m) t h;cases hd:lb af t x with
   | nil=>simp_all;cases this
   | cons a r=>
     grind [eD]
theorem qb{α:Type}{w:World}{S:St}{m:Mem}(f:List AV->Option (α×List AV))(sz:Nat)(l:List Value->α->Prop)
  (o:∀c x r g,f c=some (x,r)->eD w S m c g->∃e j,g=e++j/\e.length=sz/\l e x/\eD w S m r j) :
  ∀(n:Nat) (c:List AV) (x:List α) (r:List AV) (g:List Value),BO f n c=some (x,r)->eD w S m c g->
   ∃e j,g=e++j/\e.length=n*sz/\x.length=n/\(∀(i:Nat) (y:α),x[i]? = some y->l ((e.drop (i*sz)).take sz) y)/\eD w S m r j
 | 0,c,x,r,g,h,hc=>by
   cases h;exact⟨[],g,rfl,by simp,rfl,λi y q=>by grind,hc⟩
 | n+1,c,x,r,g,h,hc=>by
   simp only[BO] at h;cases h1:f c with
   | none=>grind
   | some p=>
     obtain⟨a,s⟩:=p;rw[h1] at h;simp only at h;split at h;cases h;rename_i b u t;simp at h;obtain⟨rfl,rfl⟩:=h;obtain⟨e,j,rfl,l1,p1,c1⟩:=o c a s g h1 hc;obtain⟨z,B,rfl,l2,l3,p2,c2⟩:=qb f sz l o n s b u j t c1;refine⟨e++z,B,by simp,by grind,by grind,λi y q=>?_,c2⟩;cases i with
     | zero=>
       grind
     | succ i=>
       have:=p2 i y q;rw[show(i+1)*sz=sz+i*sz from by rw[ky,mm],<-eP,oM l1];omega
theorem eD.cons_inv{w:World}{a:AV}{b:List AV}{c:List Value}(h:eD w S m (a::b) c):∃v r,c=v::r/\CR w S m a v/\eD w S m b r:=by grind [eD]
mutual
theorem mW{w:World}{S:St}{m:Mem}:∀(t:Ty) {f:List AV} {x:t.T} {r:List AV} {l:List Value},xL t f=some (x,r)->eD w S m f l->
  ∃z B,l=z++B/\bS w S.I t z x/\eD w S m r B
 | .int k,f,x,r,l,h,j=>by
   simp only[xL] at h;cases f with
   | nil=>grind
   | cons a f=>
     obtain⟨v,q,rfl,g,o⟩:=j.cons_inv;cases a<;>simp_all
     case int k' c n=>
      split at h
      rotate_left
      cases h;rename_i D;cases h;have g:=fe.1 g;have:=ll D;subst this;exact⟨[v],q,rfl,sG.2 ⟨by grind,g.2⟩,o⟩
 | .bool,f,x,r,l,h,j=>by
   simp only[xL] at h;cases f with
   | nil=>grind
   | cons a f=>
     obtain⟨v,q,rfl,g,o⟩:=j.cons_inv;cases a<;>simp_all
     case bool c b=>
      cases h;exact⟨[v],q,rfl,B_.2 (by rw[iw.1 g]),o⟩
 | .str,f,x,r,l,h,j=>by
   simp only[xL] at h;cases f with
   | nil=>grind
   | cons a f=>
     obtain⟨v,q,rfl,g,o⟩:=j.cons_inv;cases a<;>simp_all
     case str c s=>
      cases h;have g:=lQ.1 g;exact⟨[v],q,rfl,Ao.2 ⟨by grind,g.2⟩,o⟩
 | .slice t,f,x,r,l,h,j=>by
   simp only[xL] at h;cases f with
   | nil=>grind
   | cons a f=>
     obtain⟨v,q,rfl,g,o⟩:=j.cons_inv;cases a<;>simp only[reduceCtorEq] at h
     case sl t' x'=>
      by_cases C:t'.beq t=true
      ·rw[dif_pos C] at h
       have:=Ty.eq_of_beq C;subst this;cases h;exact⟨[v],q,rfl,qT.1 g,o⟩
      simp_all
     case gi b=>
      cases h;obtain⟨a,rfl,_⟩:=g;exact⟨[_],q,rfl,dX.2 ⟨a,0,rfl,ah _,aX _,λ_=>rfl,λi y G=>by simp_all⟩,o⟩
 | .arr n t,f,x,r,l,h,j=>by
   obtain⟨z,B,rfl,l1,l2,p,c⟩:=qb (xL t) t.size (λu y=>bS w S.I t u y) (λf x r l h j=>by
    obtain⟨z,B,e,g,o⟩:=mW t h j;exact⟨z,B,e,g.length,g,o⟩) n f x r l h j
   exact⟨z,B,rfl,An.2 ⟨l2,l1,p⟩,c⟩
 | .struct ts,f,x,r,l,h,j=>by
   obtain⟨z,B,e,g,o⟩:=np ts h j
   grind [bS]
 | .any n,f,x,r,l,h,j=>by
   simp only[xL] at h;split at h
   rotate_left
   cases h;obtain⟨_,rfl⟩:=h;have F:=j.length;exact⟨l.take n,l.drop n,(eU n l).symm,(show(l.take n).length=n by simp_all),j.drop n⟩
theorem np{w:World}{S:St}{m:Mem}:∀(g:List Ty) {a:List AV} {x:Ty.Ts g} {r:List AV} {f:List Value},qL g a=some (x,r)->eD w S m a f->
  ∃c i,f=c++i/\fY w S.I g c x/\eD w S m r i
 | [],a,x,r,f,h,hc=>by
   cases h;exact⟨[],f,rfl,xY.2 rfl,hc⟩
 | [t],a,x,r,f,h,hc=>by
   obtain⟨c,i,e,j,l⟩:=mW t h hc
   grind [fY]
 | t::o::g,a,x,r,f,h,hc=>by
   simp only[qL] at h;cases j:xL t a with
   | none=>simp_all
   | some p=>
     rw[j] at h;simp only at h;split at h;cases h;rename_i b s l;cases h;obtain⟨c,i,rfl,p1,c1⟩:=mW t j hc;obtain⟨n,q,rfl,p2,c2⟩:=np (o::g) l c1;exact⟨c++n,q,by simp,zy.2 ⟨c,n,rfl,p1,p2⟩,c2⟩
end
end Go.Ev
namespace Go.Ev
theorem l_(k:IntKind)(n:Int):k.has (k.wrap n):=wrap_within k n
theorem ad7(k:IntKind):aj_ k=k.min:=by cases k<;>decide
theorem ad6(k:IntKind):aj9 k=k.max:=by cases k<;>decide
def kindOk(P:Program)(T:TypeId):TK->Prop
 | .bool=>P.underlying T=some .bool
 | .int k=>P.underlying T=some (.int k)
 | .str=>P.underlying T=some .string
 | .slice e=>P.underlying T=some (.slice e)
 | .arr n e=>P.underlying T=some (.array n e)
 | .ptr e=>P.underlying T=some (.pointer e)
 | .func=>∃b c v,P.underlying T=some (.func b c v)
 | .struct fs=>∃F,P.underlying T=some (.struct F)/\F.size=fs.length/\∀(i off sz:Nat) (a:Bool),fs[i]? = some (off,sz,a)->
    ∃f j,F[i]? = some f/\f.offset=off/\P.info? f.type=some j/\j.size=sz/\∀w,(isAgg f.type).run P w=.ok a w
 | .other=>True
def amQ(P:Program)(T:TypeId)(zero:List AV):Prop:=
 ∀(w:World) (S:St) (m:Mem) (e f:List AV) (a b:Array Value) (c:Bool) (g:aS->Bool),nk e zero=true->fG e f=some (c,g)->eD w S m e a.toList->eD w S m f b.toList->
  (Op.equal T (.agg a) (.agg b)).run P w=.ok (g af) w/\∀h x y,(eqGuard h T x y (.agg a) (.agg b)).run P w=.ok () w
structure Cc(P:Program)(T:TypeId)(ti:TI):Prop where
 info:∃i z,P.info? T=some i/\i.size=ti.size/\i.bytes=ti.bytes/\i.zero=some z/\(∀w S m,eD w S m ti.zero z.cells.toList)/\
  (∀t,ti.ty=some t->∀w I,bS w I t z.cells.toList t.gD)
 kind:kindOk P T ti.kind
 agg:∀w,(isAgg T).run P w=.ok ti.agg w
 awg:ti.zero.length=ti.size
 ty:∀t,ti.ty=some t->t.size=ti.size/\t.isAgg=ti.agg
 eq:ti.eq=true->ti.agg=true->amQ P T ti.zero
 rN:∀t,ti.ty=some t->t.rN=true
def nG(P:Program)(a:PT TI):Prop:=∀T b,a.get T=some b->Cc P T b
theorem Cc.rh{P:Program}{T:TypeId}{a:TI}(h:Cc P T a)(w:World):(sizeOf T).run P w=.ok a.size w:=by
 obtain⟨i,z,b,c,_⟩:=h.info
 simp_all [sizeOf,typeInfo]
def TV.Is{α:Type}:TV α->α->Prop
 | .leaf a,x=>x=a
 | .br b t e,x=>(b=true/\t.Is x)\/(b=false/\e.Is x)
 | .ap b t,x=>b=true/\t.Is x
 | .bT _,_=>False
theorem TV.bind_ok{α:Type}{R:Type}{Q:R->Prop}{G:iH->Prop}{g:String}{K:α->Tr R}:∀{i:TV α},Tr.Ok Q G (i.bind g K)->∃x,i.Is x/\Tr.Ok Q G (K x)
 | .leaf a,h=>⟨a,rfl,h⟩
 | .br b t e,h=>by
   cases b with
   | true=>obtain⟨x,c,f⟩:=TV.bind_ok (h.1 rfl);exact⟨x,.inl ⟨rfl,c⟩,f⟩
   | false=>obtain⟨x,c,f⟩:=TV.bind_ok (h.2 rfl);exact⟨x,.inr ⟨rfl,c⟩,f⟩
 | .ap b t,h=>by
   obtain⟨x,c,f⟩:=TV.bind_ok h.2;exact⟨x,⟨h.1,c⟩,f⟩
 | .bT n,h=>by grind [TV.bind,Tr.Ok]
theorem TV.Cz{α β:Type}{f:α->β}{y:β}:∀{i:TV α},(i.map f).Is y->∃x,i.Is x/\y=f x
 | .leaf a,h=>⟨a,rfl,h⟩
 | .br b t e,h=>by
   rcases h with h|h
   ·obtain⟨x,c,g⟩:=TV.Cz h.2;exact⟨x,.inl ⟨h.1,c⟩,g⟩
   ·obtain⟨x,c,g⟩:=TV.Cz h.2;exact⟨x,.inr ⟨h.1,c⟩,g⟩
 | .ap b t,h=>by
   obtain⟨x,c,g⟩:=TV.Cz h.2;exact⟨x,⟨h.1,c⟩,g⟩
 | .bT n,h=>h.elim
variable{α:Type}{x:α}
theorem xA{n:Nat}{o:Option α}(h:(GA n o).Is x):o=some x:=by
 cases o with
 | none=>exact h.elim
 | some a=>exact congrArg some (Eq.symm h)
variable{c:Bool}
theorem Gw{b:Bool}{t:TV α}(h:(N4 c b t).Is x):b=true/\t.Is x:=by
 unfold N4 at h;cases c with
 | true=>cases b with
   | true=>grind
   | false=>exact h.elim
 | false=>exact h
variable{S:St}{m:Mem}
theorem gL(k:IntKind)(c:Bool)(f:aS->Int){w:World}(h:k.has (f af)):CR w S m (xv af k c f) (.int k (f af)):=by
 cases c<;>exact fe.2 ⟨rfl,h⟩
theorem jh(c:Bool)(f:aS->Bool){w:World}:CR w S m (xu af c f) (.bool (f af)):=by
 cases c<;>rfl
variable{a:BinOp}{d:Nat}{e:TypeId}{v:AV}
section
variable {P:Program} {w:World} {S:St} {m:Mem}
theorem adT{k:IntKind}{a:Int}(h:k.has a)(n:Nat):k.has (a.fdiv (2^n)):=by
 have b:(0:Int)<2^n:=Int.pow_pos (by decide);rw[Int.fdiv_eq_ediv_of_nonneg _ (Int.le_of_lt b)];obtain⟨g,i⟩:=h;have f:k.min<=0:=by cases k<;>decide
 have l:(0:Int)<=k.max:=by cases k<;>decide
 have e:(1:Int)<=2^n:=b;constructor
 ·by_cases c:0<=a
  ·exact dn f (Int.ediv_nonneg c (Int.le_of_lt b))
  ·have:a<=a/2^n:=by
    have j:a*2^n<=a:=by
     have:=Int.mul_le_mul_of_nonpos_left (a:=a) (by omega) e;omega
    simp_all [Int.le_ediv_iff_mul_le]
   omega
 ·by_cases c:0<=a
  ·have:a/2^n<=a:=Int.ediv_le_self _ c
   omega
  ·have:a/2^n<=0:=by
    have:=Int.ediv_lt_of_lt_mul b (show a<1*2^n by omega);omega
   omega
theorem YF{k:IntKind}{a b:Int}(h:k.has a):k.has (a.tmod b):=by
 obtain⟨f,g⟩:=h;have o:k.min<=0:=by cases k<;>decide
 have n:(0:Int)<=k.max:=by cases k<;>decide
 by_cases c:0<=a
 ·have i:=Int.tmod_nonneg b c
  have j:a.tmod b<=a:=by
   have e:(a.tmod b).natAbs<=a.natAbs:=by simp_all [Nat.mod_le]
   omega
  exact⟨by omega,by omega⟩
 ·have e:(a.tmod b).natAbs<=a.natAbs:=by simp_all [Nat.mod_le]
  have l:a.tmod b<=0:=by
   have:=Int.tmod_nonneg b (show 0<= -a by omega)
   simp_all
  exact⟨by omega,by omega⟩
theorem K1{e:BinOp}{T:TypeId}{k j:IntKind}{f:Bool}{a b:Int}(l:k.has a)(q:j.has b)(o:e≠.shl)(p:e≠.shr)
  (h:(Pw af e k c a j f b).Is v):∃u,(binOp e T (.int k a) (.int j b)).run P w=.ok u w/\CR w S m v u:=by
 unfold Pw at h;split at h;exact h.elim;rename_i n;have:=ll n;subst this;cases e<;>simp only[J5] at h<;>try contradiction
 case quo=>
  obtain⟨g,i⟩:=Gw h;have g:b≠0:=by cases f<;>simp_all [af,wJ]
  cases i;refine⟨_,?_,gL k _ _ (l_ _ _)⟩
  simp_all [binOp_quo,Op.intDiv,af,Ea]
 case rem=>
  obtain⟨g,i⟩:=Gw h;have g:b≠0:=by cases f<;>simp_all [af,wJ]
  cases i;refine⟨_,?_,gL k _ _ (YF l)⟩
  simp_all [binOp_rem,Op.intDiv,af,Ea]
 case add=>cases h;exact⟨_,by simp[binOp_add,Op.intArith,af,Ea],gL k _ _ (l_ _ _)⟩
 case sub=>cases h;exact⟨_,by simp[binOp_sub,Op.intArith,af,Ea],gL k _ _ (l_ _ _)⟩
 case mul=>cases h;exact⟨_,by simp[binOp_mul,Op.intArith,af,Ea],gL k _ _ (l_ _ _)⟩
 case and=>cases h;exact⟨_,by simp[binOp_and,Op.intBits,af,Ea],gL k _ _ (l_ _ _)⟩
 case or=>cases h;exact⟨_,by simp[binOp_or,Op.intBits,af,Ea],gL k _ _ (l_ _ _)⟩
 case xor=>cases h;exact⟨_,by simp[binOp_xor,Op.intBits,af,Ea],gL k _ _ (l_ _ _)⟩
 case andNot=>cases h;exact⟨_,by simp[binOp_andNot,Op.intBits,af,Ea],gL k _ _ (l_ _ _)⟩
 case eql=>cases h;exact⟨_,by simp[binOp_eql,af,wJ],jh _ _⟩
 case neq=>cases h;exact⟨_,by simp[binOp_neq,af,wJ],jh _ _⟩
 case lss=>cases h;exact⟨_,by simp[binOp_lss,af,wJ],jh _ _⟩
 case leq=>cases h;exact⟨_,by simp[binOp_leq,af,wJ],jh _ _⟩
 case gtr=>cases h;exact⟨_,by simp[binOp_gtr,af,wJ],jh _ _⟩
 case geq=>cases h;exact⟨_,by simp[binOp_geq,af,wJ],jh _ _⟩
theorem y7{e:BinOp}{T:TypeId}{k n:IntKind}{g:Bool}{a b:Int}(l:k.has a)(i:e=.shl\/e=.shr)
  (h:(K2 af e k c a g b).Is v):∃u,(binOp e T (.int k a) (.int n b)).run P w=.ok u w/\CR w S m v u:=by
 obtain⟨f,j⟩:=Gw h;have f:0<=b:=by cases g<;>simp_all [af,wJ]
 cases j;rcases i with rfl|rfl
 ·exact⟨_,by simp[binOp_shl,Op.shift,jH.2 f,af,Ea],gL k _ _ (l_ _ _)⟩
 ·exact⟨_,by simp[binOp_shr,Op.shift,jH.2 f,af,Ea],gL k _ _ (adT l _)⟩
theorem Mq(b:J5 a=true)(x y:List UInt8):Op.stringOp a ⟨x.toArray⟩ ⟨y.toArray⟩=pure (.bool (af.z a x y)):=by
 cases a<;>simp[J5] at b<;>simp[Op.stringOp,af,aai]
theorem lU{b:Bool}{T:TypeId}{x y:Value}(f:(Op.equal T x y).run P w=.ok b w)
  (c:binOp .eql T x y=(do pure (.bool (<-Op.equal T x y)))) (e:binOp .neq T x y=(do pure (.bool (!(<-Op.equal T x y)))))
  (h:(vI a b).Is v):∃u,(binOp a T x y).run P w=.ok u w/\CR w S m v u:=by
 cases a<;>simp only[vI] at h<;>try exact h.elim
 ·cases h;exact⟨_,by simp_all,iw.2 rfl⟩
 ·cases h;exact⟨_,by simp_all,iw.2 rfl⟩
theorem Ck{T:TypeId}{b e:Array TypeId}{g:Bool}{f:Fn}{a c:Array Value}(h:P.underlying T=some (.func b e g)):
  (Op.equalIn (d+1) T (.func f a c) .nilFunc).run P w=.ok false w:=by simp[Op.equalIn,run_underlying h]
theorem Ef{T:TypeId}{a b:Array TypeId}(h:P.underlying T=some (.func a b c)):
  (Op.equalIn (d+1) T .nilFunc .nilFunc).run P w=.ok true w:=by simp[Op.equalIn,run_underlying h]
theorem Eg{T:TypeId}{a:Addr}(h:P.underlying T=some (.pointer e)):
  (Op.equalIn (d+1) T (.pointer (some a)) (.pointer none)).run P w=.ok false w:=by simp[Op.equalIn,run_underlying h]
theorem FD{T:TypeId}(h:P.underlying T=some (.pointer e)):
  (Op.equalIn (d+1) T (.pointer none) (.pointer none)).run P w=.ok true w:=by simp[Op.equalIn,run_underlying h]
theorem tK{T:TypeId}{a:Addr}{n c:Nat}(h:P.underlying T=some (.slice e)):
  (Op.equalIn (d+1) T (.slice (some a) n c) (.slice none 0 0)).run P w=.ok false w:=by simp[Op.equalIn,run_underlying h]
theorem Cm{T:TypeId}(h:P.underlying T=some (.slice e)):
  (Op.equalIn (d+1) T (.slice none 0 0) (.slice none 0 0)).run P w=.ok true w:=by simp[Op.equalIn,run_underlying h]
theorem Cc.fV{T:TypeId}{a:TI}{k:TK}(h:Cc P T a)(b:a.kind=k):kindOk P T k:=b▸h.kind
theorem Nk{E:PT TI}(D:nG P E){B:BinOp}{T:TypeId}{x y:AV}{u v:Value}{r:AV}(xo yo:Operand)(j:CR w S m x u)(i:CR w S m y v)
  (h:(XE af m (E.get T) B x y).Is r):∃z,(do eqGuard B T xo yo u v;binOp B T u v:Sem Value).run P w=.ok z w/\CR w S m r z:=by
 unfold XE at h;cases x<;>simp only at h<;>try exact h.elim
 case int k c a=>
  obtain⟨rfl,K⟩:=fe.1 j;cases y<;>simp only at h<;>try exact h.elim
  case int k' c' b=>
   obtain⟨rfl,N⟩:=fe.1 i;rw[eqGuard_at_int,pure_bind]
   cases B<;>simp only at h<;>first
    | exact y7 K (.inl rfl) h
    | exact y7 K (.inr rfl) h
    | exact K1 K N (by simp) (by simp) h
 case bool c a=>
  have j:=iw.1 j;subst j;cases y<;>simp only at h<;>try exact h.elim
  case bool c' b=>
   have i:=iw.1 i;subst i;cases ht:E.get T with
   | none=>rw[ht] at h;exact h.elim
   | some ti=>
     rw[ht] at h;simp only at h;cases hk:ti.kind<;>rw[hk] at h<;>simp only at h<;>try exact h.elim
     have o:P.underlying T=some .bool:=(D T ti ht).fV hk;cases B<;>simp only at h<;>try exact h.elim
     ·cases h;exact⟨_,run_eql_bool w T a b o,jh _ _⟩
     ·cases h;exact⟨_,run_neq_bool w T a b o,jh _ _⟩
 case str c a=>
  obtain⟨rfl,K⟩:=lQ.1 j;cases y<;>simp only at h<;>try exact h.elim
  case str c' b=>
   obtain⟨rfl,N⟩:=lQ.1 i;rw[eqGuard_at_string,pure_bind];have J:binOp B T (.string ⟨a.toArray⟩) (.string ⟨b.toArray⟩)=Op.stringOp B ⟨a.toArray⟩ ⟨b.toArray⟩:=by cases B<;>rfl
   rw[J];cases hc:J5 B with
   | true=>
     rw[hc] at h;cases h
     simp_all [Mq,jh]
   | false=>
     rw[hc] at h;cases B<;>simp only at h<;>try exact h.elim
     obtain⟨H,F⟩:=h;cases F;have H:(a++b).length<=gj:=by
      have:((a++b).length:Int)<=140737488355328:=by simpa [af,wJ] using H
      grind [ig]
     refine⟨.string ⟨(a++b).toArray⟩,?_,lQ.2 ⟨rfl,H⟩⟩;have Q:(ByteArray.mk a.toArray).size=a.length:=rfl;have V:(ByteArray.mk b.toArray).size=b.length:=rfl;have Z:¬(((a.length+b.length:Nat):Int) > IntKind.i64.max):=by grind [ig,IntKind.max_i64]
     simp only[Op.stringOp,Q,V,Z];rfl
 case agg xs=>
  obtain⟨us,rfl,X⟩:=uu.1 j;cases y<;>simp only at h<;>try exact h.elim
  case agg ys=>
   obtain⟨vs,rfl,Y⟩:=uu.1 i;cases ht:E.get T with
   | none=>rw[ht] at h;exact h.elim
   | some ti=>
     rw[ht] at h;simp only at h;cases hea:ti.eq&&(ti.agg&&nk xs ti.zero) with
     | false=>rw[hea] at h;exact h.elim
     | true=>
       rw[hea] at h;obtain⟨he,q⟩:=Bool.and_eq_true_iff.1 hea;obtain⟨q,G⟩:=Bool.and_eq_true_iff.1 q;cases hc:fG xs ys with
       | none=>rw[hc] at h;exact h.elim
       | some p=>
         obtain⟨c,g⟩:=p;rw[hc] at h;obtain⟨H,F⟩:=(D T ti ht).eq he q w S m xs ys us vs c g G hc X Y;cases B<;>simp only at h<;>try exact h.elim
         ·cases h
          simp_all [jh,binOp]
         ·cases h
          refine⟨_,?_,jh _ _⟩
          simp_all [binOp,af]
 case fn f a c=>
  obtain⟨us,vs,rfl,_,_⟩:=uO.1 j;cases y<;>simp only at h<;>try exact h.elim
  have i:=sD.1 i;subst i;rw[eqGuard_at_func,pure_bind];cases ht:E.get T with
  | none=>rw[ht] at h;exact h.elim
  | some ti=>
    rw[ht] at h;simp only at h;cases hk:ti.kind<;>rw[hk] at h<;>simp only at h<;>try exact h.elim
    obtain⟨ps,rs,v,o⟩:=(D T ti ht).fV hk;exact lU (b:=false) (Ck (d:=9999) o) rfl rfl h
 case s_=>
  have j:=sD.1 j;subst j;cases y<;>simp only at h<;>try exact h.elim
  have i:=sD.1 i;subst i;rw[eqGuard_at_nilFunc,pure_bind];cases ht:E.get T with
  | none=>rw[ht] at h;exact h.elim
  | some ti=>
    rw[ht] at h;simp only at h;cases hk:ti.kind<;>rw[hk] at h<;>simp only at h<;>try exact h.elim
    obtain⟨ps,rs,v,o⟩:=(D T ti ht).fV hk;exact lU (b:=true) (Ef (d:=9999) o) rfl rfl h
 case jT=>
  have j:=qs.1 j;subst j;cases y<;>simp only at h<;>try exact h.elim
  have i:=qs.1 i;subst i;rw[eqGuard_at_pointer,pure_bind];cases ht:E.get T with
  | none=>rw[ht] at h;exact h.elim
  | some ti=>
    rw[ht] at h;simp only at h;cases hk:ti.kind<;>rw[hk] at h<;>simp only at h<;>try exact h.elim
    have o:P.underlying T=some (.pointer _):=(D T ti ht).fV hk;exact lU (b:=true) (FD (d:=9999) o) rfl rfl h
 case ptr id off=>
  rw[CR] at j;cases hm:m.at id<;>rw[hm] at h j<;>cases y<;>simp only at h<;>try exact h.elim
  subst j;have i:=qs.1 i;subst i;rw[eqGuard_at_pointer,pure_bind];cases ht:E.get T with
  | none=>rw[ht] at h;exact h.elim
  | some ti=>
    rw[ht] at h;simp only at h;cases hk:ti.kind<;>rw[hk] at h<;>simp only at h<;>try exact h.elim
    have o:P.underlying T=some (.pointer _):=(D T ti ht).fV hk;exact lU (b:=false) (Eg (d:=9999) o) rfl rfl h
 case gi b=>
  obtain⟨a,rfl,N⟩:=mX.1 j;cases b<;>(try simp only at h)<;>try exact h.elim
  cases y<;>(try simp only at h)<;>try exact h.elim
  rename_i I;obtain⟨a2,rfl,s⟩:=mX.1 i;cases I<;>(try simp only at h)<;>try exact h.elim
  have H:=N rfl;have F:=s rfl;subst H;subst F;rw[eqGuard_at_slice,pure_bind];cases ht:E.get T with
  | none=>rw[ht] at h;exact h.elim
  | some ti=>
    rw[ht] at h;simp only at h;cases hk:ti.kind<;>rw[hk] at h<;>simp only at h<;>try exact h.elim
    have o:P.underlying T=some (.slice _):=(D T ti ht).fV hk;exact lU (b:=true) (Cm (d:=9999) o) rfl rfl h
 case own id=>
  rw[CR] at j;cases hm:m.at id<;>rw[hm] at h j<;>cases y<;>(try simp only at h)<;>try exact h.elim
  rename_i I;obtain⟨a2,rfl,s⟩:=mX.1 i;cases I<;>(try simp only at h)<;>try exact h.elim
  have F:=s rfl;subst F;rename_i fz t l;have W:∃a n C,u=.slice a n C/\(l≠ []->∃b,a=some b):=by grind
  obtain⟨a,n,C,rfl,O⟩:=W;rw[eqGuard_at_slice,pure_bind];cases ht:E.get T with
  | none=>rw[ht] at h;exact h.elim
  | some ti=>
    rw[ht] at h;simp only at h;cases hk:ti.kind<;>rw[hk] at h<;>simp only at h<;>try exact h.elim
    have o:P.underlying T=some (.slice _):=(D T ti ht).fV hk;have hl:l≠ []:=λe=>by
     subst e;exact absurd (show af.c .neq (af.l ([]:List t.T)) 0=true from h.1) (by simp[af,wJ])
    obtain⟨b,rfl⟩:=O hl;exact lU (b:=false) (tK (d:=9999) o) rfl rfl h.2
 case sl t l=>
  cases y<;>(try simp only at h)<;>try exact h.elim
  rename_i I;obtain⟨a2,rfl,s⟩:=mX.1 i;cases I<;>(try simp only at h)<;>try exact h.elim
  have F:=s rfl;subst F;obtain⟨a,C,e,Z,h4,h5,_⟩:=dX.1 (qT.1 j);have e:u=.slice a l.length C:=by simp_all
  subst e;rw[eqGuard_at_slice,pure_bind];cases ht:E.get T with
  | none=>rw[ht] at h;exact h.elim
  | some ti=>
    rw[ht] at h;simp only at h;cases hk:ti.kind<;>rw[hk] at h<;>simp only at h<;>try exact h.elim
    have o:P.underlying T=some (.slice _):=(D T ti ht).fV hk;cases a with
    | none=>
      have h6:l=[]:=a_ (by simp_all);subst h6;exact absurd (show af.c .neq (af.l ([]:List t.T)) 0=true from h.1) (by simp[af,wJ])
    | some a=>exact lU (b:=false) (tK (d:=9999) o) rfl rfl h.2
end
end Go.Ev
namespace Go.Ev
variable{E:PT TI}{a c:List Value}{n off:Nat}{p r:AV}{u v:Value}
section
variable {P:Program} {w0:nt} {w:World} {S:St} {m:Mem}
theorem HV{a l:List AV}(h:dU off n a=some l):off+n<=a.length/\l=(a.drop off).take n:=by
 unfold dU at h;split at h
 all_goals simp_all
theorem eD.dU{b l:List AV}(h:dU off n b=some l)(c:eD w S m b a):
  ((a.drop off).take n).length=n/\eD w S m l ((a.drop off).take n):=by
 obtain⟨e,rfl⟩:=HV h;have:=c.length;exact⟨by grind,(c.drop off).take n⟩
theorem lF.sub{b o:Nat}(h:lF w b o c)(off n:Nat):lF w b (o+off) ((c.drop off).take n):=by
 intro j u a;rw[cv] at a;split at a
 ·rw[bX] at a
  have:=h (off+j) u a
  grind
 grind
theorem iM{g:Nat}{a:Array Value}{T:TypeId}{b:Nat×Nat}(c:w.heap[g]? = some (.cells a T b))(off n:Nat):lF w g off ((a.toList.drop off).take n):=by
 intro j u e
 grind [cell_of_row]
theorem Lm(G:WR w0 w S m){D:List AV}(a:CR w S m p v)(h:P7 af m p n=some D):
  ∃b off f,v=.pointer (some ⟨b,off,none⟩)/\f.length=n/\eD w S m D f/\lF w b off f:=by
 unfold P7 at h;cases p<;>simp only at h<;>try cases h
 case ptr id off=>
  rw[CR] at a;have c:=G.box id;cases hm:m.at id<;>rw[hm] at h a c<;>simp only at h<;>try cases h
  obtain⟨f,T,I,g,_,z⟩:=c;obtain⟨s,q⟩:=eD.dU h z
  grind [iM]
 case kV id i off=>
  rw[CR] at a;have c:=G.box id;cases hm:m.at id<;>rw[hm] at h a c<;>simp only at h<;>try cases h
  rename_i fz t x;obtain⟨k,rfl,K,rfl⟩:=a;obtain⟨f,T,I,g,_,z,s⟩:=rP.blk c (ne_of_lt K);have q:=s k _ (qK K);have B:=lf (m:=m) t q;obtain⟨J,V⟩:=eD.dU h B;refine⟨_,_,_,rfl,J,V,?_⟩;exact(iM g _ _).sub off n
 case yP id off k t i=>
  rw[CR] at a;have c:=G.box id;cases hm:m.at id<;>rw[hm] at h a c<;>simp only at h<;>try cases h
  rename_i fz F;obtain⟨j,rfl,hj,rfl⟩:=a;obtain⟨f,T,I,g,_,z⟩:=c;cases C:Nat.beq t.size n<;>rw[C] at h<;>(try simp only at h)<;>try (cases h;done)
  have C:=vk C;subst C;cases ht:dU off (k*t.size) F with
  | none=>simp_all
  | some l=>
    rw[ht] at h;simp only at h;obtain⟨s,q⟩:=eD.dU ht z;split at h
    rotate_left
    cases h;rename_i x r W;cases h;obtain⟨N,O,e,l1,l2,Y,_⟩:=qb (xL t) t.size (λu y=>bS w S.I t u y) (λD x r f h H=>by
     obtain⟨N,O,e,g,Q⟩:=mW t h H;exact⟨N,O,e,g.length,g,Q⟩) k l x r _ W q
    have B:=Y j _ (qK (by omega));refine⟨_,_,_,rfl,B.length,lf t B,?_⟩;have J:=(iM g off (k*t.size)).sub (j*t.size) t.size
    simp_all
 case pj t x off=>
  obtain⟨b,o,f,rfl,Z,hl,X,H⟩:=tF.1 a;obtain⟨s,q⟩:=eD.dU h (lf (m:=m) t H);exact⟨_,_,_,rfl,s,q,X.sub off n⟩
theorem Bw{b:Nat}(h:lF w b off a):(loadCells ⟨b,off,none⟩ a.length).run P w=.ok a.toArray w:=
 run_loadCells_list w ⟨b,off,none⟩ a λj v c=>by
  have:=h j v c
  grind [Addr.add]
theorem LY{b:Nat}(h:lF w b off [u]):(load ⟨b,off,none⟩).run P w=.ok u w:=by
 have:=h 0 u rfl
 simp_all
theorem Dm{agg:Bool}{b:List AV}{v:AV}(h:RG agg b=some v)(e:eD w S m b c):
  (agg=true/\CR w S m v (.agg c.toArray))\/(agg=false/\∃u,c=[u]/\CR w S m v u):=by
 cases agg with
 | true=>cases h;exact .inl ⟨rfl,uu.2 ⟨_,rfl,by omega⟩⟩
 | false=>
   cases b with
   | nil=>cases h
   | cons a r=>
     cases r with
     | cons _ _=>cases h
     | nil=>
       cases h
       simp_all [eD]
theorem AO(j:nG P E)(l:WR w0 w S m){T:TypeId}(o:CR w S m p v)(h:(FI af (E.get T) m p).Is r):
  ∃b off u,v=.pointer (some ⟨b,off,none⟩)/\(loadVar T ⟨b,off,none⟩).run P w=.ok u w/\CR w S m r u:=by
 unfold FI at h;cases ht:E.get T with
 | none=>rw[ht] at h;exact h.elim
 | some ti=>
   rw[ht] at h;simp only at h;have a:=j T ti ht;split at h;exact h.elim;rename_i q n;replace h:=xA h;obtain⟨b,off,s,rfl,g,i,f⟩:=Lm l o n;refine⟨b,off,?_⟩;rcases Dm h i with ⟨c,e⟩|⟨c,u,rfl,e⟩
   ·refine⟨_,rfl,?_,e⟩
    simp[loadVar,dV,a.agg,dz,c,if_true,a.rh];rw[<-g,Bw f];rfl
   ·refine⟨u,rfl,?_,e⟩
    simp only[loadVar,dV,a.agg,c];exact LY f
theorem Px{e:UnOp}{x:AV}(a:CR w S m x u)(h:(ajB af e x).Is r):∃z,(Op.unary e u).run P w=.ok z w/\CR w S m r z:=by
 unfold ajB at h;cases e<;>cases x<;>simp only at h<;>try exact h.elim
 case neg.int k c n=>
  obtain⟨rfl,f⟩:=fe.1 a;cases h;exact⟨_,by rfl,gL k _ _ (l_ _ _)⟩
 case xor.int k c n=>
  obtain⟨rfl,f⟩:=fe.1 a;cases h;exact⟨_,by rfl,gL k _ _ (l_ _ _)⟩
 case not.bool c b=>
  have a:=iw.1 a;subst a;cases h;exact⟨_,by rfl,jh _ _⟩
theorem sC{b:Nat}:(⟨b,off,none⟩:Addr).add n=⟨b,off+n,none⟩:=mf b off n
theorem AL(n:nG P E){T:TypeId}{i:Nat}(a:CR w S m p v)(h:(w8 m (E.get T) p i).Is r):
  ∃z,(Instr.fieldAt T v i).run P w=.ok z w/\CR w S m r z:=by
 unfold w8 at h;cases ht:E.get T with
 | none=>rw[ht] at h;exact h.elim
 | some ti=>
   rw[ht] at h;obtain⟨k,size,c,agg,zero,ty,K⟩:=ti;cases k<;>simp only at h<;>try exact h.elim
   rename_i l;obtain⟨F,Q,s,B⟩:=(n T _ ht).fV (k:=.struct l) rfl;cases hi:l[i]? with
   | none=>rw[hi] at h;exact h.elim
   | some q=>
     obtain⟨off,sz,J⟩:=q;rw[hi] at h;simp only at h;split at h;exact h.elim;obtain⟨f,j,N,rfl,O,rfl,_⟩:=B i _ _ _ hi;replace hz:j.size≠0:=λe=>by simp_all
     have g:∀b o:Nat,v=.pointer (some ⟨b,o,none⟩)->(Instr.fieldAt T v i).run P w=.ok (.pointer (some ⟨b,o+f.offset,none⟩)) w:=by simp_all [run_underlying,sC,Instr.fieldAt,Instr.sureAddr,fieldPlace,sizeOf,typeInfo]
     unfold WV at h;cases p<;>simp only at h<;>try (cases h;done)
     case ptr id o=>
      rw[CR] at a;cases hm:m.at id<;>rw[hm] at a h<;>simp only at a h<;>try (cases h;done)
      cases h
      grind [CR]
     case kV id i o=>
      rw[CR] at a;cases hm:m.at id<;>rw[hm] at a h<;>simp only at a h<;>try (cases h;done)
      cases h
      grind [CR]
     case pj t x o=>
      cases h;obtain⟨b,H,I,G,u,C,D,y⟩:=tF.1 a;exact⟨_,g _ _ G,tF.2 ⟨b,H,I,by grind,u,C,D,y⟩⟩
theorem Qi{T:TypeId}{e:Bool}{c:Array Value}{sz:Nat}{f l:List AV}{v:AV}(a:(isAgg T).run P w=.ok e w)(b:(sizeOf T).run P w=.ok sz w)
  (j:eD w S m f c.toList) (n:dU off sz f=some l) (q:RG e l=some v):∃z,(part T c off).run P w=.ok z w/\CR w S m v z:=by
 obtain⟨r,i⟩:=eD.dU n j;rcases Dm q i with ⟨g,h⟩|⟨g,u,o,h⟩
 ·refine⟨_,?_,h⟩
  simp[part,dV,a,g,dz,if_true,b,jk]
  grind
 ·refine⟨u,?_,h⟩
  have p:c.toList[off]? = some u:=by
   have:=congrArg (λl:List Value=>l[0]?) o
   grind
  simp_all [part]
theorem jg{c a:Bool}{i n:Int}{t:TV AV}(h:(mR af c i a n t).Is r):0<=i/\i<n/\t.Is r:=by
 unfold mR at h;cases hc:c&&a with
 | true=>
   rw[hc] at h;cases b:af.and (af.c .leq 0 i) (af.c .lss i n) with
   | false=>rw[b] at h;exact h.elim
   | true=>
     simp_all [af,wJ]
 | false=>
   rw[hc] at h;obtain⟨b,h⟩:=h
   simp_all [af,wJ]
theorem wrap_small{n:Int}(a:0<=n)(b:n<=4611686018427387904):IntKind.i64.wrap n=n:=by grind [IntKind.wrap,IntKind.bits]
theorem AN(D:nG P E)(hW:WR w0 w S m){T:TypeId}{x Y:AV}{vi:Value}(C:CR w S m x v)(hi:CR w S m Y vi)
  (h:(w9 af (E.get T) E.get m x Y).Is r):∃z,(Instr.indexAt T v vi).run P w=.ok z w/\CR w S m r z:=by
 unfold w9 at h;cases Y<;>simp only at h<;>try exact h.elim
 rename_i k c i;obtain⟨rfl,hk⟩:=fe.1 hi;cases ht:E.get T with
 | none=>rw[ht] at h;exact h.elim
 | some ti=>
   rw[ht] at h;obtain⟨kd,size,N,agg,zero,ty,eq⟩:=ti;cases kd<;>simp only at h<;>try exact h.elim
   case arr n e=>
    have W:P.underlying T=some (.array n e):=(D T _ ht).fV (k:=.arr n e) rfl;cases p:E.get e with
    | none=>rw[p] at h;cases x<;>exact h.elim
    | some y=>
      rw[p] at h;cases x<;>simp only at h<;>try exact h.elim
      rename_i id off;rw[CR] at C;cases hm:m.at id<;>rw[hm] at C h<;>simp_all<;>try exact h.elim
      have H:=(D e y p).rh w;have j:∀(_:0<=i) (_:i<n),(Instr.indexAt T (.pointer (some ⟨S.σ id,off,none⟩)) (.int k i)).run P w=.ok (.pointer (some ⟨S.σ id,off+i.toNat*y.size,none⟩)) w:=by
       intro g f;simp[Instr.indexAt,asIntOf,run_underlying W,Instr.sureAddr,g,f,H,sC]
      cases c with
      | true=>
        obtain⟨g,f,q⟩:=jg h;cases q;exact⟨_,j g f,by rw[CR,hm]⟩
      | false=>
        simp only at h;split at h
        rotate_left
        exact h.elim;rename_i t u;obtain⟨g,f,q⟩:=jg h;cases q;exact⟨_,j g f,by rw[CR,hm];exact⟨i.toNat,by omega,by omega,by rw[((D e y p).ty t u).1]⟩⟩
   case slice e=>
    have W:P.underlying T=some (.slice e):=(D T _ ht).fV (k:=.slice e) rfl;split at h
    rotate_left
    exact h.elim;rename_i y p;have H:=(D e y p).rh w;have j:∀(b o len s:Nat) (_:0<=i) (_:i<len),(Instr.indexAt T (.slice (some ⟨b,o,none⟩) len s) (.int k i)).run P w=.ok (.pointer (some ⟨b,o+i.toNat*y.size,none⟩)) w:=by
     intro b o len s g f;simp[Instr.indexAt,asIntOf,run_underlying W,g,f,H,sC]
    cases x<;>simp only at h<;>try exact h.elim
    case sl t l=>
     split at h
     rotate_left
     exact h.elim;obtain⟨g,f,q⟩:=jg h;cases q;obtain⟨a,s,e1,h3,Z,O,Q⟩:=dX.1 (qT.1 C);replace f:i<(l.length:Int):=f;have h7:=qK (t:=t) (x:=l) (i:=i.toNat) (by omega);obtain⟨b,off,us,rfl,hI,X,hr,hc⟩:=Q _ _ h7;cases e1;exact⟨_,j _ _ _ _ g f,tF.2 ⟨b,off+i.toNat*t.size,us,by simp_all,hI,X,hr,hc⟩⟩
    case own id=>
     rw[CR] at C;cases hm:m.at id<;>rw[hm] at C h<;>simp_all<;>try exact h.elim
     rename_i fz t l;split at h
     rotate_left
     exact h.elim;rename_i B;replace B:=vk B;obtain⟨g,f,q⟩:=jg h;cases q;replace f:i<(l.length:Int):=f;obtain⟨s,rfl,h3,_⟩:=own_ne C (hW.vd hm (ne_of_lt (k:=i.toNat) (by omega)));exact⟨_,j _ _ _ _ g f,by rw[CR,hm];grind⟩
    case uh id sz c' lo len=>
     have hb:=hW.box id;rw[CR] at C;cases hm:m.at id<;>rw[hm] at C h hb<;>simp only at C h<;>try exact h.elim
     case arr fz t l=>
      split at h
      rotate_left
      exact h.elim;rename_i B;replace B:=vk B;obtain⟨g,f,q⟩:=jg h;cases q;obtain⟨I,n0,s,a,rfl,rfl,rfl,O,Q,V,rfl,J,_⟩:=C;have F:=J (by omega);subst F;obtain⟨X,_⟩:=hb;rw[ig] at X;refine⟨_,j _ _ _ _ g f,?_⟩;rw[CR,hm];refine⟨I+i.toNat,?_,by omega,?_⟩
      ·show IntKind.i64.wrap _=_
       rw[wrap_small (by omega) (by omega)];omega
      grind
     case ay fz cs=>
      obtain⟨I,n0,s,a,rfl,rfl,Z,O,Q,V,rfl,J⟩:=C;cases hcc:c&&(c'&&Nat.beq sz y.size) with
      | true=>
        rw[hcc] at h;simp only[fQ] at hcc;have B:=vk hcc.2.2;obtain⟨g,f,q⟩:=jg h;cases q;have F:=J (by omega);subst F;refine⟨_,j _ _ _ _ g f,?_⟩;rw[CR,hm];rw[show((I:Int)+i).toNat=I+i.toNat from by omega,fh,B]
      | false=>
        rw[hcc] at h;simp only at h;cases u:y.ty with
        | none=>rw[u] at h;exact h.elim
        | some t=>
          rw[u] at h;cases hc2:c'&&Nat.beq sz y.size with
          | false=>
            rw[hc2] at h;simp only at h;split at h
            rotate_left
            exact h.elim;rename_i G;rw[fQ] at G;have B:=vk G.1;have K:0<y.size:=Ln G.2;obtain⟨g,f,q⟩:=jg h;cases q;have F:=J (by omega);subst F;refine⟨_,j _ _ _ _ g f,?_⟩;rw[ig] at Z;rw[CR,hm];refine⟨I+i.toNat,?_,?_,?_⟩
            ·show IntKind.i64.wrap _=_
             rw[wrap_small (by omega) (by omega)];omega
            ·have h9:(I+i.toNat+1)*y.size<=cs.length:=aU (Nat.mul_le_mul (by omega) (jj B.symm)) O
             exact(iQ K).2 h9
            ·rw[((D e y p).ty t u).1,B,fh];simp
          | true=>
            rw[hc2] at h;simp only[fQ] at hc2;have B:=vk hc2.2;obtain⟨g,f,q⟩:=jg h;cases q;have F:=J (by omega);subst F;refine⟨_,j _ _ _ _ g f,?_⟩;rw[CR,hm];exact⟨i.toNat,by omega,by omega,by rw[((D e y p).ty t u).1];grind⟩
end
end Go.Ev
namespace Go.Ev
variable{r:AV}{t:Ty}
section
variable {P:Program} {w0:nt} {w:World} {S:St} {m:Mem}
theorem Ps{T:TypeId}{a:Array Value}{off:Nat}{x:t.T}(b:(isAgg T).run P w=.ok t.isAgg w)(g:(sizeOf T).run P w=.ok t.size w)
  (h:bS w S.I t ((a.toList.drop off).take t.size) x) (e:off+t.size<=a.size):∃z,(part T a off).run P w=.ok z w/\CR w S m (Ul af t x) z:=by
 cases ht:t.isAgg with
 | true=>
   refine⟨.agg (a.extract off (off+t.size)),?_,AF ?_⟩
   all_goals simp_all [part,mE]
 | false=>
   have f:t.size=1:=by cases t<;>first|rfl|grind [Ty.isAgg]
   have c:off<a.size:=by omega
   refine⟨a[off],?_,AF ?_⟩
   all_goals simp_all [AB,part,mE]
theorem IS{E:PT TI}(G:nG P E){T:TypeId}{x J:AV}{v vi:Value}(W:CR w S m x v)(hi:CR w S m J vi)
  (h:(K0 af (E.get T) E.get x J).Is r):∃z,(Instr.index T v vi).run P w=.ok z w/\CR w S m r z:=by
 unfold K0 at h;cases J<;>simp only at h<;>try exact h.elim
 rename_i k c i;obtain⟨rfl,hk⟩:=fe.1 hi;cases ht:E.get T with
 | none=>rw[ht] at h;exact h.elim
 | some ti=>
   rw[ht] at h;obtain⟨kd,size,D,agg,zero,ty,eq⟩:=ti;cases kd<;>(try simp only at h)<;>try exact h.elim
   case arr n e=>
    have hT:P.underlying T=some (.array n e):=(G T _ ht).fV (k:=.arr n e) rfl;cases x<;>(try simp only at h)<;>try exact h.elim
    rename_i F;obtain⟨N,rfl,j⟩:=uu.1 W;cases hte:E.get e with
    | none=>rw[hte] at h;exact h.elim
    | some te=>
      rw[hte] at h;have B:=G e te hte;have f:=B.rh w;cases c with
      | true=>
        simp only at h;cases hl:dU (i.toNat*te.size) te.size F with
        | none=>rw[hl] at h;exact h.elim
        | some l=>
          rw[hl] at h;simp only at h;split at h
          rotate_left
          exact h.elim;rename_i v hv;obtain⟨g,a,b⟩:=jg h;cases b;obtain⟨z,p,q⟩:=Qi (T:=e) (B.agg w) f j hl hv
          simp_all [run_underlying,Instr.index,asIntOf]
      | false=>
        simp only at h;cases hty:te.ty with
        | none=>rw[hty] at h;exact h.elim
        | some t=>
          rw[hty] at h;simp only at h;split at h
          rotate_left
          exact h.elim;rename_i l rr hd;obtain⟨g,a,b⟩:=jg h;cases b;obtain⟨a8,I⟩:=B.ty t hty;obtain⟨C,K,O,l1,l2,pr,_⟩:=qb (xL t) t.size (λu y=>bS w S.I t u y) (λF x r N h hc=>by
           obtain⟨C,K,e,a,b⟩:=mW t h hc;exact⟨C,K,e,a.length,a,b⟩) n F l rr _ hd j
          have Q:=pr i.toNat _ (qK (by omega));have a7:i.toNat*t.size+t.size<=n*t.size:=by
           have:=aG t.size (show i.toNat+1<=n by omega)
           grind
          have V:N.size=C.length+K.length:=by
           have:=congrArg List.length O
           grind
          have Y:(C.drop (i.toNat*t.size)).take t.size=(N.toList.drop (i.toNat*t.size)).take t.size:=by grind
          rw[Y] at Q;obtain⟨z,h8,Z⟩:=Ps (m:=m) (T:=e) (by rw[I];exact B.agg w) (by simp_all) Q (by omega);refine⟨z,?_,Z⟩
          simp_all [run_underlying,Instr.index,asIntOf]
   case str=>
    have hT:P.underlying T=some .string:=(G T _ ht).fV (k:=.str) rfl;cases x<;>(try simp only at h)<;>try exact h.elim
    rename_i X s;obtain⟨rfl,hs⟩:=lQ.1 W;have o:∀(_:0<=i) (_:i<(s.length:Int)),(Instr.index T (.string ⟨s.toArray⟩) (.int k i)).run P w=.ok (.int .u8 (af.byte s i)) w/\IntKind.u8.has (af.byte s i):=by
     intro g a;have H:i.toNat<s.length:=by omega
     have hg:(ByteArray.mk s.toArray)[i.toNat]? = some s[i.toNat]:=by
      have f:i.toNat<(ByteArray.mk s.toArray).size:=H;rw[getElem?_pos (ByteArray.mk s.toArray) i.toNat f];rfl
     have hb:af.byte s i=(s[i.toNat].toNat:Int):=by
      show((s.getD i.toNat 0).toNat:Int)=_
      simp_all
     refine⟨?_,?_⟩
     ·simp_all [run_underlying,Instr.index,asIntOf]
     ·rw[hb]
      have:=s[i.toNat].toNat_lt;have O:IntKind.u8.min=0:=by decide
      have e2:IntKind.u8.max=255:=by decide
      constructor<;>omega
    cases hcc:c&&X with
    | true=>
      rw[hcc] at h;obtain⟨g,a,b⟩:=jg h;cases b;obtain⟨p,q⟩:=o g a;exact⟨_,p,fe.2 ⟨rfl,q⟩⟩
    | false=>
      rw[hcc] at h;obtain⟨g,a,b⟩:=jg h;cases b;obtain⟨p,q⟩:=o g a;exact⟨_,p,fe.2 ⟨rfl,q⟩⟩
def EM(d:Int)(o:Option Value)(l:Int):Prop:=(o=none/\l=d)\/∃k,o=some (.int k l)
theorem lH{a:Operand->AV}{e:Operand->Value}(f:∀x,CR w S m (a x) (e x)){c c1:Bool}{d l:Int}{o:Option Operand}(h:bound c d (o.map a)=some (c1,l)):EM d (o.map e) l:=by
 cases o with
 | none=>cases h;exact .inl ⟨rfl,rfl⟩
 | some x=>
   refine .inr ?_;have b:=f x;simp only[oO] at h ⊢;cases ha:a x<;>rw[ha] at h b<;>simp_all<;>try (cases h;done)
   cases h;exact⟨_,by rw[(fe.1 b).1]⟩
theorem xx{c:Bool}{l h n:Int}{t:TV AV}(a:(Gv af c l h n t).Is r):0<=l/\l<=h/\h<=n/\t.Is r:=by
 unfold Gv at a;cases c with
 | true=>
   cases b:af.and (af.c .leq 0 l) (af.and (af.c .leq l h) (af.c .leq h n)) with
   | false=>rw[b] at a;exact a.elim
   | true=>
     simp_all [af,wJ]
 | false=>
   obtain⟨b,a⟩:=a
   simp_all [af,wJ]
theorem rF{e:Bool}{len a:Nat}{g f:Option Value}{l h:Int}(o:EM 0 g l)(j:EM len f h)(i:0<=l)(p:l<=h)(q:h<=a):
  (Instr.sliceBounds e len a g f none).run P w=.ok (l.toNat,h.toNat,a) w:=by
 have a1:∀k (y:Nat) c,l<=y->(Instr.sliceBound (.int k l) y c).run P w=.ok l.toNat w:=λk y c b=>run_sliceBound w k l y c i b;have a2:∀k (y:Nat) c,h<=y->(Instr.sliceBound (.int k h) y c).run P w=.ok h.toNat w:=λk y c b=>run_sliceBound w k h y c (by omega) b;have n:l<=(h.toNat:Int):=by omega
 rcases o with ⟨rfl,rfl⟩|⟨k,rfl⟩<;>rcases j with ⟨rfl,rfl⟩|⟨r,rfl⟩
 all_goals simp_all [Instr.sliceBounds]
theorem bS.sub{I:Nat->Prop}{a:Option Addr}{c:Nat}{x:List t.T}(h:bS w I (.slice t) [.slice a x.length c] x){l hh:Nat}(B:l<=hh)(C:hh<=x.length):
  bS w I (.slice t) [.slice (if c=l then a else a.map (·.add (l*t.size))) (hh-l) (c-l)] ((x.take hh).drop l):=by
 obtain⟨z,j,e,D,F,G,n⟩:=dX.1 h;cases e;have f:((x.take hh).drop l).length=hh-l:=by grind
 refine dX.2 ⟨_,c-l,by rw[f],by omega,by omega,?_,λi y g=>?_⟩
 ·intro s
  split at s
  all_goals simp_all
 ·rw[bX,cv] at g
  split at g
  ·rename_i r
   obtain⟨b,off,u,rfl,o,q,H,p⟩:=n _ _ g;refine⟨b,off+l*t.size,u,?_,o,q,?_,p⟩
   ·rw[if_neg (by omega)]
    simp[sC]
   grind
  grind
end
end Go.Ev
namespace Go.Ev
variable{c:Operand->AV}{g:Operand->Value}
section
variable {P:Program} {w0:nt} {w:World} {S:St} {m:Mem}
theorem G6{T e:TypeId}(o:P.underlying T=some (.slice e)){sz:Nat}(c:(sizeOf e).run P w=.ok sz w){a:Option Addr}{len b:Nat}{g f:Option Value}{l h:Int}
  (q:EM 0 g l) (p:EM len f h) (i:0<=l) (j:l<=h) (n:h<=b) :
  (Instr.sliceAt T (.slice a len b) g f none).run P w=.ok (.slice (if b=l.toNat then a else a.map (·.add (l.toNat*sz))) (h.toNat-l.toNat) (b-l.toNat)) w:=by
 simp[Instr.sliceAt,dV,run_underlying o,dz,Instr.slice,rF q p i j n,c,jk]
theorem FL(Y:WR w0 w S m)(u:∀x,CR w S m (c x) (g x)){T e:TypeId}(J:P.underlying T=some (.slice e)){sz:Nat}(q:(sizeOf e).run P w=.ok sz w)
  {n:Operand} {C B j:Option Operand} {r:AV} (h:(FK af sz m (c n) (C.map c) (B.map c) (j.map c)).Is r) :
  ∃z,(Instr.sliceAt T (g n) (C.map g) (B.map g) (j.map g)).run P w=.ok z w/\CR w S m r z:=by
 have i:=u n;unfold FK at h;cases ha:c n<;>rw[ha] at h i<;>(try simp only at h)<;>try exact h.elim
 case sl t s=>
  split at h;exact h.elim;rename_i f;replace f:=vk f;obtain⟨a,b,e1,Q,h4,h5,h6⟩:=dX.1 (qT.1 i);have y:g n=.slice a s.length b:=by grind
  rw[y];cases j with
  | none=>
    cases hb1:bound true 0 (C.map c) with
    | none=>rw[hb1] at h;exact h.elim
    | some p1=>
      obtain⟨c1,l⟩:=p1;rw[hb1] at h;cases hb2:bound false (af.l s) (B.map c) with
      | none=>rw[hb2] at h;exact h.elim
      | some p2=>
        obtain⟨c2,p⟩:=p2;rw[hb2] at h;obtain⟨D,F,o,G⟩:=xx h;cases G;have o:p<=(s.length:Int):=o;refine⟨_,G6 J q (lH u hb1) (lH (d:=(s.length:Int)) u hb2) D F (by omega),qT.2 ?_⟩;have:=bS.sub (by rw[y] at i;exact qT.1 i) (l:=l.toNat) (hh:=p.toNat) (by omega) (by omega);rw[f] at this;exact this
  | some j=>exact h.elim
 case own id=>
  rw[CR] at i;cases hm:m.at id<;>simp_all<;>(try simp only at i h)<;>try exact h.elim
  rename_i fz t s;split at h;exact h.elim;rename_i f;replace f:=vk f;have I:∃a b,g n=.slice a s.length b/\s.length<=b/\(a=none->b=0)/\(s≠ []->a=some ⟨S.σ id,S.δ id,none⟩)/\(S.vd id=true->b=0)/\(S.vd id=false->a=some ⟨S.σ id,S.δ id,none⟩/\∃N T O,w.heap[S.σ id]? = some (.cells N T O)/\S.δ id+b*t.size<=N.size):=by grind
  obtain⟨a,b,y,Q,V,W,X⟩:=I;have K:=Y.box id;rw[hm] at K;obtain⟨H,_⟩:=K;rw[ig] at H;rw[y];cases j with
  | none=>
    cases hb1:bound true 0 (C.map c) with
    | none=>rw[hb1] at h;exact h.elim
    | some p1=>
      obtain⟨c1,l⟩:=p1;rw[hb1] at h;cases hb2:bound false (af.l s) (B.map c) with
      | none=>rw[hb2] at h;exact h.elim
      | some p2=>
        obtain⟨c2,p⟩:=p2;rw[hb2] at h;obtain⟨D,F,o,G⟩:=xx h;cases G;have o:p<=(s.length:Int):=o;refine⟨_,G6 J q (lH u hb1) (lH (d:=(s.length:Int)) u hb2) D F (by omega),?_⟩;rw[CR,hm];refine⟨l.toNat,p.toNat-l.toNat,b-l.toNat,_,by omega,?_,rfl,by omega,by omega,?_,rfl,λZ=>?_,λe=>⟨λk=>?_,λk=>?_⟩⟩
        ·show IntKind.i64.wrap _=_
         rw[wrap_small (by omega) (by omega)];omega
        ·grind
        ·rw[if_neg (by omega),W (ne_of_lt (k:=l.toNat) (by omega))];simp[sC,f]
        ·simp_all
        ·obtain⟨rfl,k2⟩:=X.2 k
         rw[e];exact⟨by simp[sC],k2⟩
  | some j=>exact h.elim
theorem Co(G:∀x,CR w S m (c x) (g x)){T e:TypeId}{n:Nat}(K:P.underlying T=some (.array n e)){a:TI}(F:(sizeOf e).run P w=.ok a.size w)
  {C:Operand} {B y:Option Operand} {r:AV} (h:(zJ af n a m (c C) (B.map c) (y.map c)).Is r) :
  ∃z,(Instr.sliceAt T (g C) (B.map g) (y.map g) none).run P w=.ok z w/\CR w S m r z:=by
 have q:=G C;unfold zJ at h;cases ha:c C<;>rw[ha] at h q<;>(try simp only at h)<;>try exact h.elim
 rename_i id off;rw[CR] at q;cases hm:m.at id<;>rw[hm] at q h<;>(try simp only at q h)<;>try exact h.elim
 rename_i fz J;rw[q];cases hz:Nat.beq a.size 0 with
 | true=>rw[hz] at h;exact h.elim
 | false=>
   split at h
   rotate_left
   exact h.elim;rename_i I;simp only[fQ] at I;obtain⟨i,j,o⟩:=I;replace i:=vk i;replace j:=Ln j;replace o:=Ln o;have p:off=off/a.size*a.size:=by grind [Nat.div_add_mod]
   cases hb1:bound true 0 (B.map c) with
   | none=>rw[hb1] at h;exact h.elim
   | some p1=>
     obtain⟨c1,l⟩:=p1;rw[hb1] at h;cases hb2:bound true (n:Int) (y.map c) with
     | none=>rw[hb2] at h;exact h.elim
     | some p2=>
       obtain⟨c2,f⟩:=p2;rw[hb2] at h;simp only at h
       have H:∀(_:0<=l) (_:l<=f) (_:f<=n),∃z,(Instr.sliceAt T (.pointer (some ⟨S.σ id,off,none⟩)) (B.map g) (y.map g) none).run P w=.ok z w/\
         ∃(l1 n1 b:Nat) (a1:Option Addr),((off/a.size:Nat):Int)+l=l1/\f-l=n1/\l1+n1<=gj/\(l1+b)*a.size<=J.length/\n1<=b/\(a1=none->b=0)/\z=.slice a1 n1 b/\(n1≠0->a1=some ⟨S.σ id,l1*a.size,none⟩):=by
        intro s t u
        refine⟨_,by simp[Instr.sliceAt,dV,run_underlying K,dz,Instr.sureAddr,jk,rF (lH G hb1) (lH G hb2) s t u,F];rfl,
         off/a.size+l.toNat,f.toNat-l.toNat,n-l.toNat,_,by omega,by omega,by grind [ig],?_,by omega,?_,rfl,λN=>?_⟩
        ·have Q:(off/a.size+l.toNat+(n-l.toNat))*a.size<=(off/a.size+n)*a.size:=aG _ (by omega)
         grind
        ·grind
        ·rw[if_neg (by omega),sC,fh,<-p]
       cases hcc:c1&&c2 with
       | true=>
         rw[hcc] at h;obtain⟨s,t,u,D⟩:=xx h;cases D
         grind [CR]
       | false=>
         rw[hcc] at h;obtain⟨s,t,u,D⟩:=xx h;cases D;obtain⟨z,O,V⟩:=H s t u;refine⟨z,O,?_⟩;rw[CR,hm];have W:af.b .add .i64 ((off/a.size:Nat):Int) l=(off/a.size:Nat)+l:=by show IntKind.i64.wrap _=_;grind [wrap_small]
         have X:af.b .sub .i64 f l=f-l:=by show IntKind.i64.wrap _=_;grind [wrap_small]
         grind
theorem NN(B:WR w0 w S m){Z:TI}{v:AV}{u:Value}(D:CR w S m v u):CR w S m (Yu m Z v) u:=by
 unfold Yu;split
 ·rename_i id sz lo n
  split
  ·rename_i q t s V
   split
   ·rename_i j g
    split
    ·rename_i b
     split
     ·rename_i x z
      rw[fQ] at b;have o:=vk b.1;subst o;rw[CR,s] at D;obtain⟨l,k,p,a,rfl,rfl,h4,h5,h6,J,rfl,h8⟩:=D;have c:l*t.size+k*t.size<=q.length/\j=(q.drop (l*t.size)).take (k*t.size):=by
       unfold dU at g;split at g
       all_goals simp_all
      obtain⟨C,rfl⟩:=c;have f:=B.box id;rw[s] at f;obtain⟨us,T,fr,k1,k2,X⟩:=f;have N:S.I (S.σ id):=B.Iv id (by rw[s];rfl);obtain⟨F,G,e,l1,l2,Y,Q⟩:=qb (xL t) t.size (λu y=>bS w S.I t u y) (λq x r us h K=>by
       obtain⟨F,G,e,o,I⟩:=mW t h K;exact⟨F,G,e,o.length,o,I⟩) k _ x [] _ z ((X.drop (l*t.size)).take (k*t.size))
      rw[bC.1 Q,aI] at e;refine qT.2 (dX.2 ⟨a,p,by rw[l2],by omega,by omega,J,λi y W=>?_⟩);have O:i<k:=by grind
      have h9:=Y i y W;have H:(i+1)*t.size<=k*t.size:=aG _ O
      grind [List.drop_take,List.drop_drop,iM]
     omega
    omega
   omega
  omega
 omega
theorem IT{E:PT TI}(f:nG P E)(J:WR w0 w S m){b:Operand->AV}{o:Operand->Value}(j:∀x,CR w S m (b x) (o x)){T:TypeId}
  {q:Operand} {y t p:Option Operand} {r:AV} (h:(K3 af (E.get T) E.get m (b q) (y.map b) (t.map b) (p.map b)).Is r) :
  ∃z,(Instr.sliceAt T (o q) (y.map o) (t.map o) (p.map o)).run P w=.ok z w/\CR w S m r z:=by
 unfold K3 at h;cases ht:E.get T with
 | none=>rw[ht] at h;exact h.elim
 | some ti=>
   rw[ht] at h;simp only at h;cases hk:ti.kind<;>rw[hk] at h<;>(try simp only at h)<;>try exact h.elim
   case arr n e=>
    have g:P.underlying T=some (.array n e):=(f T _ ht).fV hk;cases a:E.get e with
    | none=>rw[a] at h;exact h.elim
    | some B=>
      rw[a] at h;cases p with
      | some _=>exact h.elim
      | none=>
        obtain⟨v,N,rfl⟩:=TV.Cz h;obtain⟨z,V,O⟩:=Co j g ((f e B a).rh w) N
        grind [NN]
   case slice e=>
    have g:P.underlying T=some (.slice e):=(f T _ ht).fV hk;split at h
    rotate_left
    exact h.elim;rename_i B a;exact FL J j g ((f e B a).rh w) h
   case str=>
    have g:P.underlying T=some .string:=(f T _ ht).fV hk;have D:=j q;cases ha:b q<;>rw[ha] at h D<;>(try simp only at h)<;>try exact h.elim
    rename_i c s;obtain⟨F,Q⟩:=lQ.1 D;rw[F];cases p with
    | some _=>exact h.elim
    | none=>
      simp at h ⊢;cases hb1:bound true 0 (y.map b) with
      | none=>rw[hb1] at h;exact h.elim
      | some p1=>
        obtain⟨c1,l⟩:=p1;rw[hb1] at h;cases hb2:bound false (af.l s) (t.map b) with
        | none=>rw[hb2] at h;exact h.elim
        | some p2=>
          obtain⟨c2,i⟩:=p2;rw[hb2] at h;obtain⟨G,H,C,I⟩:=xx h;cases I;have C:i<=(s.length:Int):=C;have u:(ByteArray.mk s.toArray).size=s.length:=rfl;refine⟨.string ⟨((s.take i.toNat).drop l.toNat).toArray⟩,?_,lQ.2 ⟨rfl,?_⟩⟩
          ·simp only[Instr.sliceAt,dV,run_underlying g,dz,Instr.slice]
           simp only[Option.isSome_none,Bool.false_eq_true,if_false];rw[dV];rw[u,rF (lH j hb1) (lH (d:=(s.length:Int)) j hb2) G H (by omega)];simp;have K:(ByteArray.mk s.toArray).extract l.toNat i.toNat=ByteArray.mk ((s.take i.toNat).drop l.toNat).toArray:=by
            apply ByteArray.ext;rw[ByteArray.data_extract]
            grind
           grind
          ·show((s.take i.toNat).drop l.toNat).length<=_
           grind
end
end Go.Ev
namespace Go.Ev
variable{u:Value}{v:AV}
section
variable {P:Program} {w0:nt} {w:World} {S:St} {m:Mem}
theorem Cf(p:v.known m=true)(h:CR w S m v u):eD w S m v.cells u.cells.toList:=by
 have one:∀{v:AV} {u:Value},CR w S m v u->v.cells=[v]->u.cells=#[u]->eD w S m v.cells u.cells.toList:=by
  intro v u h j n;rw[j,n];exact bL.2 ⟨u, [],rfl,h,bC.2 rfl⟩
 cases v
 case undef=>cases p
 case agg cs=>obtain⟨i,rfl,c⟩:=uu.1 h;exact c
 case int=>have f:=(fe.1 h).1;exact one h rfl (by rw[f];rfl)
 case bool=>have f:=(iw.1 h);exact one h rfl (by rw[f];rfl)
 case str=>have f:=(lQ.1 h).1;exact one h rfl (by rw[f];rfl)
 case sl=>obtain⟨a,g,e,_⟩:=dX.1 (qT.1 h);obtain rfl:=List.head_eq_of_cons_eq e;exact one h rfl rfl
 case gi=>obtain⟨a,f,_⟩:=mX.1 h;exact one h rfl (by rw[f];rfl)
 case pj=>obtain⟨b,o,i,f,_⟩:=tF.1 h;exact one h rfl (by rw[f];rfl)
 case jT=>have f:=qs.1 h;exact one h rfl (by rw[f];rfl)
 case fn=>obtain⟨i,q,f,_⟩:=uO.1 h;exact one h rfl (by rw[f];rfl)
 case s_=>have f:=sD.1 h;exact one h rfl (by rw[f];rfl)
 case yy=>obtain⟨i,f,_⟩:=kh.1 h;exact one h rfl (by rw[f];rfl)
 case own id=>
  have c:=h;rw[CR] at c;cases hm:m.at id<;>rw[hm] at c<;>simp only at c
  case aZ=>grind [AV.known,iR.lh]
  case arr=>rcases c with ⟨_,_,a,f⟩|⟨_,g,f,_⟩<;>exact one h rfl (by rw[f];rfl)
 case uh id _ _ _ _=>
  have c:=h;rw[CR] at c;cases hm:m.at id<;>rw[hm] at c<;>simp only at c
  case aZ=>grind [AV.known,iR.lh]
  case arr=>obtain⟨_,_,g,a,_,_,_,_,_,_,f,_⟩:=c;exact one h rfl (by rw[f];rfl)
  case ay=>obtain⟨_,_,g,a,_,_,_,_,_,_,f,_⟩:=c;exact one h rfl (by rw[f];rfl)
 case ptr id _=>
  have c:=h;rw[CR] at c;cases hm:m.at id<;>rw[hm] at c<;>simp only at c
  case aZ=>grind [AV.known,iR.lh]
  case ay=>exact one h rfl (by rw[c];rfl)
 case kV id _ _=>
  have c:=h;rw[CR] at c;cases hm:m.at id<;>rw[hm] at c<;>simp only at c
  case aZ=>grind [AV.known,iR.lh]
  case arr=>obtain⟨_,_,_,f⟩:=c;exact one h rfl (by rw[f];rfl)
 case yP id _ _ _ _=>
  have c:=h;rw[CR] at c;cases hm:m.at id<;>rw[hm] at c<;>simp only at c
  case aZ=>grind [AV.known,iR.lh]
  case ay=>obtain⟨_,_,_,f⟩:=c;exact one h rfl (by rw[f];rfl)
 case yield l=>
  have c:=h;rw[CR] at c;cases hm:m.at l<;>rw[hm] at c<;>simp only at c
  case aZ=>grind [AV.known,iR.lh]
  case loop=>exact one h rfl (by rw[c];rfl)
theorem foldl_set(a:List Value):∀(off:Nat) (b:Array Value),off+a.length<=b.size->
  ((a.zipIdx 0).foldl (λ(c:Array Value) (p:Value×Nat)=>c.setIfInBounds (off+p.2) p.1) b).toList=b.toList.take off++a++b.toList.drop (off+a.length):=by
 suffices h:∀(a:List Value) (k off:Nat) (b:Array Value),off+k+a.length<=b.size->
   ((a.zipIdx k).foldl (λ(c:Array Value) (p:Value×Nat)=>c.setIfInBounds (off+p.2) p.1) b).toList=b.toList.take (off+k)++a++b.toList.drop (off+k+a.length) by simp_all
 intro a
 induction a with
 | nil=>simp_all
 | cons v a ih=>
   intro k off b h;simp only[List.zipIdx_cons,jV];rw[ih (k+1) off _ (by grind)];simp only[Array.toList_setIfInBounds,List.length_cons];apply dG;intro i;rw[cX,cX];have f:((b.toList.set (off+k) v).take (off+(k+1))).length=off+k+1:=by grind
   have g:(b.toList.take (off+k)).length=off+k:=by grind
   rcases Nat.lt_trichotomy i (off+k) with e|e|e
   ·rw[bQ (by omega),bQ (by omega),cv,cv,if_pos (by omega),if_pos e,List.getElem?_set_ne (by omega)]
   ·simp_all [bQ]
   ·rw[bY (l₁:=(b.toList.set (off+k) v).take (off+(k+1))) (by omega),bY (l₁:=b.toList.take (off+k)) (by omega),f,g,show i-(off+k)=(i-(off+k+1))+1 from by omega,nO,List.getElem?_cons_succ]
    all_goals grind
theorem pT{off:Nat}{c g b:List AV}{a e:List Value}(h:iD off c g=some b)(i:eD w S m c a)(f:eD w S m g e):
  off+a.length<=e.length/\eD w S m b (e.take off++a++e.drop (off+a.length)):=by
 unfold iD at h;split at h
 rotate_left
 cases h;rename_i l;cases h;have n:=Ln l;have j:=i.length;have o:=f.length;refine⟨by omega,?_⟩;rw[j];exact((f.take off).append i).append (f.drop _)
theorem zk{place:Nat->Option (Nat×Nat)}{i off size:Nat}{b e:List AV}{a:Array Value}{rest:List (Nat×Value)}
  (x:place i=some (off,size)) (g:(v.known m&&Nat.beq v.cells.length size)=true) (p:CR w S m v u) (f:iD off v.cells b=some e) (o:eD w S m b a.toList) :
  ∃h,Instr.fill place a ((i,u)::rest)=Instr.fill place h rest/\eD w S m e h.toList/\h.size=a.size:=by
 simp only[fQ] at g;have l:=Cf g.1 p;have q:=vk g.2;have r:=l.length;obtain⟨s,t⟩:=pT f l o;have n:(u.cells.zipIdx.foldl (λb (c,j)=>b.setIfInBounds (off+j) c) a).toList=a.toList.take off++u.cells.toList++a.toList.drop (off+u.cells.size):=by
  have:=foldl_set u.cells.toList off a (by omega);rw[<-Array.foldl_toList]
  simp_all
 refine⟨u.cells.zipIdx.foldl (λb (c,j)=>b.setIfInBounds (off+j) c) a,?_,?_,?_⟩
 ·grind [Instr.fill]
 ·simp_all
 ·have:=congrArg List.length n
  grind
end
end Go.Ev
namespace Go.Ev
variable{E:PT TI}{I:Nat->Prop}{a:Option Addr}{e:Operand->AV}{r:AV}{rt:TypeId}{t:Ty}{ts:Array TypeId}{v x:Value}{y:List Int}
section
variable {P:Program} {w0:nt} {w:World} {S:St} {m:Mem}
theorem xa{size:Nat}{f:Operand->AV}{n:Operand->Value}(o:∀x,CR w S m (f x) (n x)):∀(c:List (Nat×Operand)) (e a:List AV) (b:Array Value),
  FO m size (c.map λp=>(p.1,f p.2)) e=some a->eD w S m e b.toList->
  ∃j,Instr.fill (λi=>some (i*size,size)) b (c.map λp=>(p.1,n p.2))=some j/\eD w S m a j.toList/\j.size=b.size
 | [],e,a,b,h,hc=>by cases h;exact⟨b,rfl,hc,rfl⟩
 | (i,x)::c,e,a,b,h,hc=>by
   simp[dT,FO] at h;cases hk:((f x).known m&&Nat.beq (f x).cells.length size) with
   | false=>grind
   | true=>
     rw[hk] at h;simp only at h;split at h;cases h;rename_i g r;obtain⟨l,t,q,u⟩:=zk (rest:=c.map λp=>(p.1,n p.2)) (place:=λi=>some (i*size,size)) rfl hk (o x) r hc;obtain⟨s,y,z,B⟩:=xa o c g a l h q
     grind
theorem Dw{n:List (Nat×Nat×Bool)}{place:Nat->Option (Nat×Nat)}(c:∀i off sz j,n[i]? = some (off,sz,j)->place i=some (off,sz))
  {g:Operand->AV} {s:Operand->Value} (t:∀x,CR w S m (g x) (s x)):∀(e:List (Nat×Operand)) (f a:List AV) (b:Array Value),
  Nr m n (e.map λp=>(p.1,g p.2)) f=some a->eD w S m f b.toList->
  ∃o,Instr.fill place b (e.map λp=>(p.1,s p.2))=some o/\eD w S m a o.toList/\o.size=b.size
 | [],f,a,b,h,hc=>by cases h;exact⟨b,rfl,hc,rfl⟩
 | (i,x)::e,f,a,b,h,hc=>by
   simp[dT,Nr] at h;cases hi:n[i]? with
   | none=>grind
   | some q=>
     obtain⟨off,sz,j⟩:=q;rw[hi] at h;simp only at h;cases hk:((g x).known m&&Nat.beq (g x).cells.length sz) with
     | false=>grind
     | true=>
       rw[hk] at h;simp only at h;split at h;cases h;rename_i l y;obtain⟨r,B,u,C⟩:=zk (rest:=e.map λp=>(p.1,s p.2)) (place:=place) (c i off sz j hi) hk (t x) y hc;obtain⟨z,D,F,G⟩:=Dw c t e l a r h u
       grind
theorem Ei{F:Array Field}{b:List (Nat×Nat×Bool)}(x:F.size=b.length)
  (u:∀(i off sz:Nat) (a:Bool),b[i]? = some (off,sz,a)->∃f j,F[i]? = some f/\f.offset=off/\P.info? f.type=some j/\j.size=sz/\∀w,(isAgg f.type).run P w=.ok a w) :
  (F.mapM λf=>(do pure (f.offset,<-sizeOf f.type):Sem (Nat×Nat))).run P w=.ok ((b.map λp=>(p.1,p.2.1)).toArray) w:=by
 rw[mg]
 have n:∀(l:List Field) (fl:List (Nat×Nat×Bool)),l.length=fl.length->
   (∀(i off sz:Nat) (a:Bool),fl[i]? = some (off,sz,a)->∃f j,l[i]? = some f/\f.offset=off/\P.info? f.type=some j/\j.size=sz)->
   (l.mapM λf=>(do pure (f.offset,<-sizeOf f.type):Sem (Nat×Nat))).run P w=.ok (fl.map λp=>(p.1,p.2.1)) w:=by
  intro l
  induction l with
  | nil=>intro fl c _;cases fl with
    | nil=>simp
    | cons _ _=>simp_all
  | cons f l ih=>
    intro fl c e;cases fl with
    | nil=>simp at c
    | cons q fl=>
      obtain⟨off,sz,a⟩:=q;obtain⟨o,j,g,r,s,t⟩:=e 0 off sz a rfl;simp at g;have:=ih fl (by simpa using c) (λi off sz a h=>by simpa using e (i+1) off sz a (by simpa using h))
      simp_all [sizeOf,typeInfo]
 grind [Sem.run_map,Result.andThen_ok]
theorem IK(B:nG P E){f:Operand->AV}{H:Operand->Value}(D:∀x,CR w S m (f x) (H x)){T:TypeId}{a:List (Nat×Operand)}
  (h:(KQ m (E.get T) E.get (a.map λp=>(p.1,f p.2))).Is r) :
  ∃z,(Instr.build T (a.map λp=>(p.1,H p.2)).toArray).run P w=.ok z w/\CR w S m r z:=by
 unfold KQ at h;cases ht:E.get T with
 | none=>rw[ht] at h;exact h.elim
 | some ti=>
   rw[ht] at h;have o:=B T ti ht;obtain⟨i,z,q,N,O,s,u,Q⟩:=o.info;have C:=u w S m;obtain⟨V,size,g,agg,zero,ty,X⟩:=ti;cases V<;>(try simp only at h)<;>try exact h.elim
   case arr n e=>
    have K:P.underlying T=some (.array n e):=o.fV (k:=.arr n e) rfl;split at h
    rotate_left
    exact h.elim;rename_i G t;replace h:=xA h;cases c:FO m G.size (a.map λp=>(p.1,f p.2)) zero with
    | none=>grind
    | some cs=>
      rw[c] at h;cases h;obtain⟨b,y,j,I⟩:=xa D a zero cs z.cells c C;exact⟨.agg b,by simp[Instr.build,zeroValue,typeInfo,q,s,run_underlying K,(B e G t).rh w,y],uu.2 ⟨b,rfl,j⟩⟩
   case struct fs=>
    obtain⟨F,J,l,c⟩:=o.fV (k:=.struct fs) rfl;replace h:=xA h;cases hfl:Nr m fs (a.map λp=>(p.1,f p.2)) zero with
    | none=>grind
    | some cs=>
      rw[hfl] at h;cases h;obtain⟨b,y,j,I⟩:=Dw (place:=λi=>((fs.map λp=>(p.1,p.2.1)).toArray)[i]?) (λi off sz W Y=>by grind) D a zero cs z.cells hfl C;refine⟨.agg b,?_,uu.2 ⟨b,rfl,j⟩⟩;simp only[Instr.build,dV,zeroValue,typeInfo,dz,run_underlying J,Ei l c]
      simp_all
theorem KY(g:nG P E){s d:TypeId}{x:AV}(i:CR w S m x v)(h:(KX af (E.get s) (E.get d) x).Is r):
  ∃z,(convert s d v).run P w=.ok z w/\CR w S m r z:=by
 cases hs:E.get s with
 | none=>rw[hs] at h;exact h.elim
 | some p=>
   cases hd:E.get d with
   | none=>rw[hs,hd] at h;exact h.elim
   | some e=>
     rw[hs,hd] at h;have a:=g d e hd;have c:∃td,P.underlying s=some td:=by
      have f:=(g s p hs).agg w;unfold isAgg at f;simp[underlying] at f;cases n:P.underlying s with
      | none=>simp_all
      | some td=>simp_all
     obtain⟨td,n⟩:=c;obtain⟨o,size,b,agg,zero,ty,q⟩:=e;cases o<;>cases x<;>(try simp only at h)<;>try exact h.elim
     ·obtain⟨rfl,l⟩:=fe.1 i
      cases h;have j:P.underlying d=some (.int _):=a.fV rfl;refine⟨_,?_,gL _ _ _ (l_ _ _)⟩
      simp_all [run_underlying,convert,Conv.intToInt,af]
     ·obtain⟨rfl,l⟩:=lQ.1 i
      cases h;have j:P.underlying d=some .string:=a.fV (k:=.str) rfl
      simp_all [run_underlying,convert]
theorem mQ{n:Nat}(h:n<=gj):IntKind.i64.has (n:Int):=by
 rw[ig] at h;have a:IntKind.i64.min = -9223372036854775808:=by decide
 have b:IntKind.i64.max=9223372036854775807:=by decide
 constructor<;>omega
theorem Nn(H:nG P E)(B:WR w0 w S m){T:TypeId}(N:ts[0]? = some T){x:AV}(f:CR w S m x v)(h:(XF af (E.get T) m x).Is r):
  ∃z,(Builtin.len_ ts rt #[v]).run P w=.ok z w/\CR w S m r z:=by
 unfold XF at h;cases ht:E.get T with
 | none=>rw[ht] at h;exact h.elim
 | some ti=>
   rw[ht] at h;have q:=H T ti ht;obtain⟨O,size,o,agg,zero,ty,X⟩:=ti;cases O<;>(try simp only at h)<;>try exact h.elim
   case str=>
    have y:P.underlying T=some .string:=q.fV (k:=.str) rfl;cases x<;>(try simp only at h)<;>try exact h.elim
    rename_i c s;obtain⟨rfl,I⟩:=lQ.1 f;have K:(ByteArray.mk s.toArray).size=s.length:=rfl;have:r=.int .i64 c (s.length:Int):=by cases c<;>exact h
    subst this;exact⟨.int .i64 s.length,by simp_all [run_underlying,Builtin.len_,goInt],fe.2 ⟨rfl,mQ I⟩⟩
   case arr n e=>
    have y:P.underlying T=some (.array n e):=q.fV (k:=.arr n e) rfl;split at h
    rotate_left
    exact h.elim;rename_i j;cases h;exact⟨.int .i64 n,by simp_all [run_underlying,Builtin.len_,goInt],fe.2 ⟨rfl,mQ (Ln j)⟩⟩
   case slice e=>
    have y:P.underlying T=some (.slice e):=q.fV (k:=.slice e) rfl;have g:∀(a:Option Addr) (n c:Nat),(Builtin.len_ ts rt #[.slice a n c]).run P w=.ok (.int .i64 n) w:=by simp_all [run_underlying,Builtin.len_,goInt]
    cases x<;>(try simp only at h)<;>try exact h.elim
    case sl t l=>
     obtain⟨a,i,W,Y,u,_⟩:=dX.1 (qT.1 f);have C:v=.slice a l.length i:=by simp_all
     cases h;subst C;exact⟨_,g _ _ _,fe.2 ⟨rfl,mQ u⟩⟩
    case gi b=>
     obtain⟨a,rfl,_⟩:=mX.1 f;cases h;exact⟨_,g _ _ _,fe.2 ⟨rfl,mQ (aX _)⟩⟩
    case own id=>
     have j:=B.box id;rw[CR] at f;cases hm:m.at id<;>simp_all<;>(try simp only at f h)<;>try exact h.elim
     cases h;rcases f with ⟨_,rfl,a,rfl⟩|⟨_,i,rfl,_⟩<;>exact⟨_,g _ _ _,fe.2 ⟨rfl,mQ j.1⟩⟩
    case uh id sz c lo n=>
     have j:=B.box id;rw[CR] at f;cases hm:m.at id<;>rw[hm] at f j h<;>(try simp only[iR.lh] at f h)
     case aZ=>exact h.elim
     case arr=>
      obtain⟨Q,V,i,a,rfl,rfl,J,D,F,p,rfl,G⟩:=f;cases h;exact⟨_,g _ _ _,fe.2 ⟨rfl,mQ (by have:=j.1;omega)⟩⟩
     case ay=>
      obtain⟨Q,V,i,a,rfl,rfl,u,D,F,p,rfl,G⟩:=f;cases h;exact⟨_,g _ _ _,fe.2 ⟨rfl,mQ (by omega)⟩⟩
theorem Np{n:Operand->Value}(j:∀x,CR w S m (e x) (n x)){f:Array Operand}(h:(XH af (f.toList.map e)).Is r):
  ∃z,(Builtin.min_ ts rt (f.map n)).run P w=.ok z w/\CR w S m r z:=by
 obtain⟨l⟩:=f;unfold XH at h
 match l,h with
 | [x,y],h=>
   have g:=j x;have i:=j y;simp at h;cases ha:e x<;>cases hb:e y<;>rw[ha,hb] at h<;>(try simp only at h)<;>try exact h.elim
   rw[ha] at g;rw[hb] at i;rename_i k c a B s b;obtain⟨o,t⟩:=fe.1 g;obtain⟨p,u⟩:=fe.1 i;split at h
   rotate_left
   exact h.elim;rename_i q;have:=ll q;subst this;cases h;refine⟨.int k (af.mn a b),?_,gL k _ (λA=>A.mn a b) ?_⟩
   ·simp[nP,dT,o,p]
    rfl
   ·show k.has (if _ then _ else _)
    grind
 | [],h=>exact h.elim
 | [x],h=>revert h;simp;cases e x<;>exact λh=>h.elim
 | x::y::z::l,h=>revert h;simp;cases e x<;>cases e y<;>exact λh=>h.elim
theorem No{t:Operand->Value}(i:∀x,CR w S m (e x) (t x)){q:Array Operand}(h:(XG af (q.toList.map e)).Is r):
  ∃z,(Builtin.max_ ts rt (q.map t)).run P w=.ok z w/\CR w S m r z:=by
 obtain⟨l⟩:=q;unfold XG at h
 match l,h with
 | [x,y],h=>
   have f:=i x;have g:=i y;simp at h;cases ha:e x<;>cases hb:e y<;>rw[ha,hb] at h<;>(try simp only at h)<;>try exact h.elim
   rw[ha] at f;rw[hb] at g;rename_i k c a H B b;obtain⟨j,F⟩:=fe.1 f;obtain⟨n,G⟩:=fe.1 g;split at h
   rotate_left
   exact h.elim;rename_i o;have:=ll o;subst this;cases h;refine⟨.int k (af.mx a b),?_,gL k _ (λA=>A.mx a b) ?_⟩
   ·simp[nP,dT,j,n]
    rfl
   ·show k.has (if _ then _ else _)
    grind
 | [],h=>exact h.elim
 | [x],h=>revert h;simp;cases e x<;>exact λh=>h.elim
 | [x,y,z],h=>
   have f:=i x;have g:=i y;have s:=i z;simp at h;cases ha:e x<;>cases hb:e y<;>rw[ha,hb] at h<;>(try simp only at h)<;>try exact h.elim
   cases hd:e z<;>rw[hd] at h<;>(try simp only at h)<;>try exact h.elim
   rw[ha] at f;rw[hb] at g;rw[hd] at s;rename_i k c a H B b I C d;obtain⟨j,F⟩:=fe.1 f;obtain⟨n,G⟩:=fe.1 g;obtain⟨D,J⟩:=fe.1 s;split at h
   rotate_left
   exact h.elim;rename_i o p;have:=ll o;subst this;have:=ll p;subst this;cases h;refine⟨.int k (af.mx (af.mx a b) d),?_,gL k _ (λA=>A.mx (A.mx a b) d) ?_⟩
   ·simp[nP,dT,j,n,D]
    rfl
   ·show k.has (if _ then _ else if _ then _ else _)
    grind
 | x::y::z::u::l,h=>revert h;simp;cases e x<;>cases e y<;>cases e z<;>exact λh=>h.elim
theorem Qb(v:Value):CR w S m (Ls v) v:=by
 unfold Ls;cases v<;>(try simp only)<;>try exact gJ
 case int k n=>
  cases h:(decide (aj_ k<=n)&&decide (n<=aj9 k)) with
  | false=>exact gJ
  | true=>
    exact fe.2 ⟨rfl,by grind [ad7],by grind [ad6]⟩
 case bool b=>rfl
 case string s=>
  cases h:Nat.ble s.data.toList.length 140737488355328 with
  | false=>exact gJ
  | true=>exact lQ.2 ⟨by simp,Ln h⟩
 case pointer a=>cases a with
  | none=>rfl
  | some a=>exact gJ
 case slice a n c=>
  cases a with
  | some a=>exact gJ
  | none=>
    cases n with
    | succ n=>exact gJ
    | zero=>cases c with
      | succ c=>exact gJ
      | zero=>exact mX.2 ⟨none,rfl,λ_=>rfl⟩
 rfl
theorem Kt{b:Operand->AV}{c:Operand->Value}(a:∀x,CR w S m (b x) (c x)):∀l:List Operand,eD w S m (l.map b) (l.map c)
 | []=>bC.2 rfl
 | x::l=>bL.2 ⟨_,_,rfl,a x,Kt a l⟩
theorem Ue{b off:Nat}:∀{x:List t.T},(∀(i:Nat) (y:t.T),x[i]? = some y->∃a,a.length=t.size/\lF w b (off+i*t.size) a/\bS w I t a y)->
  ∃a:List Value,a.length=x.length*t.size/\lF w b off a/\∀(i:Nat) (y:t.T),x[i]? = some y->bS w I t ((a.drop (i*t.size)).take t.size) y:=by
 intro x
 induction x generalizing off with
 | nil=>intro _;exact⟨[],by simp,λj u c=>by grind,λi y g=>by grind⟩
 | cons y x ih=>
   intro h;obtain⟨f,n,o,c0⟩:=h 0 y rfl;obtain⟨q,l1,p,c1⟩:=ih (off:=off+t.size) λi y g=>by
    obtain⟨a,a1,a2,r⟩:=h (i+1) y (by grind)
    grind
   refine⟨f++q,by grind,λj u c=>?_,λi z l=>?_⟩
   ·by_cases e:j<f.length
    ·rw[bQ e] at c
     have:=o j u c
     grind
    ·rw[bY (by omega)] at c
     have:=p _ u c
     grind
   ·cases i with
    | zero=>
      grind
    | succ i=>
      have:=c1 i z l;rw[show(i+1)*t.size=t.size+i*t.size from by rw[ky,mm],<-eP,oM n];omega
def Es(w:World)(I:Nat->Prop)(t:Ty)(v:Value)(y:List t.T):Prop:=
 ∃(a:Option Addr) (c:Nat) (e:List Value),v=.slice a y.length c/\y.length<=gj/\e.length=y.length*t.size/\(y.length≠0->∃b off,a=some ⟨b,off,none⟩/\lF w b off e)/\
  (a=none->c=0)/\y.length<=c/\∀(i:Nat) (z:t.T),y[i]? = some z->bS w I t ((e.drop (i*t.size)).take t.size) z
theorem Es.none{b:Nat}(h:a=none->b=0):Es w I t (.slice a 0 b) []:=
 ⟨a,b, [],rfl,aX _,by simp,λh=>absurd rfl h,h,aX _,λi z c=>by grind⟩
theorem Es.Lt{y:List t.T}(h:bS w I (.slice t) [v] y):Es w I t v y:=by
 obtain⟨a,g,e,n,o,p,q⟩:=dX.1 h;have e:v=.slice a y.length g:=by grind
 by_cases u:y.length=0
 ·have:y=[]:=a_ u
  subst this;exact⟨a,g, [],e,o,by simp,λh=>absurd rfl h,p,n,λi z B=>by grind⟩
 ·obtain⟨j,f,D,s,_⟩:=q 0 _ (Gd (by omega))
  obtain⟨C,l,r,c⟩:=Ue (w:=w) (t:=t) (I:=I) (b:=j) (off:=f) (x:=y) λi z B=>by grind
  exact⟨a,g,C,e,o,l,λ_=>⟨j,f,s,r⟩,p,n,c⟩
theorem lF.heap{c:World}{b off:Nat}{a:List Value}(h:lF w b off a)(e:c.heap=w.heap):lF c b off a:=h.mono (by rw[e])
theorem pH{sz n:Nat}{len cap:Nat}{f:List Value}(o:f.length=n*sz)(h:n≠0->∃b off,a=some ⟨b,off,none⟩/\lF w b off f)(g:World)(i:g.heap=w.heap):
  (Builtin.firstCells sz n (.slice a len cap)).run P g=.ok f.toArray g:=by
 cases a with
 | none=>
   have c:n=0:=Decidable.byContradiction λc=>by grind
   subst c;have:f=[]:=a_ (by omega);subst this;rfl
 | some a=>
   refine run_firstCells_some g sz n a len cap f o λj v l=>?_;have c:n≠0:=λc=>by grind
   obtain⟨b,off,e,p⟩:=h c;cases e;have:=p.heap i j v l
   rwa [mf]
theorem foldl_push(a:List Int):∀s:ByteArray,a.foldl (λr n=>r.push (UInt8.ofNat n.toNat)) s=⟨(s.data.toList++a.map λn=>UInt8.ofNat n.toNat).toArray⟩:=by
 induction a with
 | nil=>simp_all
 | cons n a ih=>
   simp_all
theorem G5{I:Nat->Prop}:∀{y:List Int} {us:List Value},us.length=y.length->(∀(i:Nat) (z:Int),y[i]? = some z->bS w I (.int .u8) ((us.drop (i*1)).take 1) z)->us=y.map (Value.int .u8)
 | [],us,hl,_=>a_ hl
 | z::y, [],hl,_=>by grind
 | z::y,u::us,hl,h=>by
   have a:=(sG.1 (h 0 z rfl)).1;simp at a;rw[dT,a,G5 (y:=y) (us:=us) (by simpa using hl) λi z b=>by
    have:=h (i+1) z (by simpa using b);simpa using this]
theorem Ng{s d e:TypeId}(z:P.underlying s=some (.slice e))(u:P.underlying e=some (.int .u8))(t:P.underlying d=some .string)(h:Es w I (.int .u8) x y):
  (convert s d x).run P w=.ok (.string ⟨(y.map λn=>UInt8.ofNat n.toNat).toArray⟩) w:=by
 obtain⟨a,c,C,l,D,j,o,p,q,r⟩:=h;have B:C=y.map (Value.int .u8):=G5 (by rw[j];exact Nat.mul_one _) r;subst l;refine(run_convert_bytes_string w s d e a (List.length (α:=Int) y) c z u t).trans ?_;cases a with
 | none=>
   have g:=p rfl;have i:y=[]:=a_ (Nat.le_zero.1 (g▸q));subst i;rfl
 | some a=>
   have f:(loadCells a (List.length (α:=Int) y)).run P w=.ok (y.map (Value.int .u8)).toArray w:=by
    have:=pH (P:=P) (sz:=1) (len:=y.length) (cap:=c) (by rw[j];rfl) o w rfl;rw[Builtin.firstCells,Nat.mul_one] at this;exact this.trans (by grind)
   exact(run_bytesToString (P:=P) w a (List.length (α:=Int) y) c y f).trans (congrArg (λb=>Result.ok (Value.string b) w) (foldl_push y ByteArray.empty))
theorem Nh(h:Es w I (.int .u8) x y):CR w S m (.str false (af.bytes y)) (.string ⟨(y.map λn=>UInt8.ofNat n.toNat).toArray⟩):=by
 obtain⟨_,_,_,_,a,_⟩:=h;exact lQ.2 ⟨rfl,aU (jj (bV (α:=Int) (as:=y) λn=>UInt8.ofNat n.toNat)) a⟩
theorem KO{R:Type}{E:kj R}(a:nG P E.ti){s d:TypeId}{l:List t.T}{c:TV AV}(o:CR w S m (.sl t l) x)(h:Pq af (E.ti.get s) (E.ti.get d) E.ti.get t l=some c){v:AV}(n:c.Is v):
  ∃z,(convert s d x).run P w=.ok z w/\CR w S m v z:=by
 unfold Pq at h;split at h
 ·rename_i e _ _ _ _ _ _ _ _ _ _ _ _ i f
  split at h
  ·rename_i _ _ _ _ _ _ g
   split at h
   ·rename_i j
    have:=Ty.eq_of_beq j;subst this;cases h;cases n;have b:=Es.Lt (qT.1 o);exact⟨_,Ng ((a s _ i).fV (k:=.slice e) rfl) ((a e _ g).fV (k:=.int .u8) rfl) ((a d _ f).fV (k:=.str) rfl) b,Nh b⟩
   grind
  grind
 grind
theorem Dv{R:Type}{E:kj R}(C:nG P E.ti)(O:WR w0 w S m){I:Operand->AV}{J:Operand->Value}(n:∀x,CR w S m (I x) (J x)){o:Oper}{K:TV AV}(h:tL af E I m o=some K){v:AV}(g:K.Is v):
  ∃z,(execOp J o).run P w=.ok (.value z) w/\CR w S m v z:=by
 obtain⟨Q,W,ty,X,G,H⟩:=o;unfold tL at h;cases W<;>simp only at h<;>try (cases h;done)
 case move x=>cases h;cases g;exact⟨_,rfl,n x⟩
 case assign x=>cases h;cases g;exact⟨_,rfl,n x⟩
 case pick c a b=>
  cases h;have q:=n c;cases ha:I c<;>rw[ha] at g q<;>(try simp only at g)<;>try exact g.elim
  rename_i kn vb;have e:=iw.1 q;cases kn with
  | true=>
    cases vb with
    | true=>cases g;simp_all [execOp,asBool]
    | false=>cases g;simp_all [execOp,asBool]
  | false=>
    rcases g with ⟨V,g⟩|⟨V,g⟩
    ·subst V;cases g;simp_all [execOp,asBool]
    ·subst V;cases g;simp_all [execOp,asBool]
 case load t p=>
  cases h;obtain⟨b,off,u,e,r,B⟩:=AO C O (n p) g
  simp_all [execOp,Instr.loadAt,Instr.sureAddr]
 case nilCheck x=>
  cases h;have F:=n x;cases ha:I x<;>rw[ha] at g F<;>(try simp only at g)<;>try exact g.elim
  case ptr id off=>
   have q:=F;rw[CR] at q;cases hm:m.at id<;>rw[hm] at g q<;>(try simp only at g q)<;>try exact g.elim
   cases g
   simp_all [execOp]
  case kV id i off=>
   have q:=F;rw[CR] at q;cases hm:m.at id<;>simp_all<;>(try simp only at g q)<;>try exact g.elim
   cases g;obtain⟨k,_,_,q⟩:=q
   simp_all [execOp]
  case pj t x' off=>
   obtain⟨b,o,Y,q,_⟩:=tF.1 F;cases g
   simp_all [execOp]
  case fn f a b=>
   obtain⟨Y,vs,q,_⟩:=uO.1 F;cases g
   simp_all [execOp]
 case binOp W t x y t2=>
  cases h;obtain⟨z,r,B⟩:=Nk (w:=w) C x y (n x) (n y) g
  grind [Sem.run_bind,Result.andThen_ok,Sem.run_pure,execOp]
 case unOp W t x=>
  cases h;obtain⟨z,r,B⟩:=Px (P:=P) (n x) g
  simp_all [execOp]
 case convert s d x=>
  have a0:∀{K:TV AV} {v:AV},K=KX af (E.ti.get s) (E.ti.get d) (I x)->K.Is v->∃z,(execOp J {dst:=Q,op:=.convert s d x,type:=ty,pos:=X,after:=G,guard:=H}).run P w=.ok (.value z) w/\CR w S m v z:=by
   intro K v Z g;subst Z;obtain⟨z,r,B⟩:=KY C (n x) g
   simp_all [execOp]
  cases ha:I x<;>rw[ha] at h<;>(try simp only at h)<;>try (cases h;done)
  ·simp_all
  ·grind
  ·obtain⟨z,r,B⟩:=KO C (by rw[<-ha];exact n x) h g
   simp_all [execOp]
 case makeFunc fn a c=>
  cases fn<;>simp only at h<;>try (cases h;done)
  cases h;cases g;refine⟨.func (.func _) (a.map J) (c.map J),rfl,uO.2 ⟨_,_,rfl,?_,?_⟩⟩
  all_goals simp_all [Kt]
 case slice t x lo hi mx=>
  cases h;obtain⟨z,r,B⟩:=IT C O n g
  simp_all [execOp]
 case fieldAddr t x i=>
  cases h;obtain⟨z,r,B⟩:=AL C (n x) g
  simp_all [execOp]
 case field t x i=>cases h;exact g.elim
 case indexAddr t x i=>
  cases h;obtain⟨z,r,B⟩:=AN C O (n x) (n i) g
  simp_all [execOp]
 case index t x i=>
  cases h;obtain⟨z,r,B⟩:=IS C (n x) (n i) g
  simp_all [execOp]
 case extract t i=>
  cases h;have F:=n t;cases ha:I t<;>rw[ha] at g F<;>(try simp only at g)<;>try exact g.elim
  obtain⟨Y,e,q⟩:=kh.1 F;replace g:=xA g;obtain⟨z,r,B⟩:=q.get g
  simp_all [execOp,Instr.extract]
 case build t ps=>
  cases h;obtain⟨z,r,B⟩:=IK C n g;have e:(ps.map λ(i,x)=>(i,J x))=(ps.toList.map λp=>(p.1,J p.2)).toArray:=by grind
  grind [Sem.run_bind,Result.andThen_ok,Sem.run_pure,execOp]
 case call c=>
  obtain⟨D,N,j⟩:=c;cases D<;>(try simp only at h)<;>try (cases h;done)
  rename_i b;cases b<;>simp_all<;>try (cases h;done)
  case len=>
   cases h;obtain⟨l⟩:=N;obtain⟨tl⟩:=j
   match l,tl,g with
   | [x],t::ts,g=>
     obtain⟨z,r,B⟩:=Nn (rt:=ty) (ts:=(t::ts).toArray) C O (by simp) (n x) g
     simp_all [execOp,resolve,invoke,builtin]
   | [x], [],g=>exact g.elim
   | [],_,g=>exact g.elim
   | _::_::_,_,g=>exact g.elim
  case max=>
   cases h;obtain⟨z,r,B⟩:=No (P:=P) (rt:=ty) (ts:=j) n g
   simp_all [execOp,resolve,invoke,builtin]
  case min=>
   cases h;obtain⟨z,r,B⟩:=Np (P:=P) (rt:=ty) (ts:=j) n g
   simp_all [execOp,resolve,invoke,builtin]
end
abbrev aS.cB (A:aS) (x y:Int):Int:=A.b .add .i64 x y
abbrev aS.fF (A:aS) (x y:Int):Int:=A.b .sub .i64 x y
abbrev aS.bD (A:aS) (x y:Int):Bool:=A.c .lss x y
abbrev aS.bU (A:aS) (x y:Int):Bool:=A.c .leq x y
abbrev aS.bK (A:aS) (x y:Int):Bool:=A.c .eql x y
abbrev aS.cr (A:aS) (x y:Int):Bool:=A.c .neq x y
abbrev aS.jw (A:aS) (x y:Int):Bool:=A.c .gtr x y
abbrev aS.qP (A:aS) (x y:Int):Bool:=A.c .geq x y
end Go.Ev
