/-
  PROVED: a symbolic evaluator over the model (a plain Lean function), and that each of its operations that leave memory alone says what the model does. Conditions: the type table fits the program.
-/
import GoSem.Claims
import Derived.Calls
import Derived.Laws.Sem
import Derived.Laws.World
import Derived.Laws.Cells
import Derived.Laws.AppendOwn
import Derived.Laws.Entries
import Derived.Laws.StructEq
import Derived.Laws.Slices
import Derived.Laws.Small
import Derived.Laws.Closers25b
import Derived.Laws.Strings
import Derived.Laws.Append
import Derived.Laws.BytesString
set_option linter.unusedVariables false
set_option linter.unusedSimpArgs false
set_option linter.unusedSectionVars false
namespace Go.Ev
abbrev bi:=@List.take_succ_eq_append_getElem
abbrev gI:=@List.replicate_append_replicate
abbrev dY:=@Int.mul_le_mul_of_nonneg_right
abbrev fN:=@Int.mul_le_mul_of_nonneg_left
abbrev bA:=@List.eq_nil_of_length_eq_zero
abbrev dQ:=@Array.getD_eq_getD_getElem?
abbrev lN:=@Array.getElem?_append_left
abbrev dp:=@Array.getElem?_eq_some_iff
abbrev iV:=@Int.tdiv_eq_ediv_of_nonneg
abbrev iW:=@Int.tmod_eq_emod_of_nonneg
abbrev cn:=@List.getElem?_append_right
abbrev rq:=@Nat.le_of_mul_le_mul_right
abbrev gE:=@Array.getElem?_eq_getElem
abbrev l_:=@Array.mapM_eq_mapM_toList
abbrev bR:=@List.getElem?_append_left
abbrev aT:=@List.getElem?_eq_some_iff
abbrev jF:=@List.getElem?_take_of_lt
abbrev dT:=@Array.toList_eq_nil_iff
abbrev aP:=@Int.eq_ofNat_of_zero_le
abbrev gV:=@List.filter_cons_of_pos
abbrev cB:=@List.length_eq_zero_iff
abbrev gg:=@List.drop_of_length_le
abbrev ko:=@List.length_eq_one_iff
abbrev kq:=@List.sum_replicate_nat
abbrev cK:=@List.take_of_length_le
abbrev kR:=@List.getElem?_eq_none
abbrev bg:=@List.length_singleton
abbrev kS:=@List.mem_of_mem_head?
abbrev eX:=@List.take_append_drop
abbrev iK:=@Nat.le_div_iff_mul_le
abbrev lG:=@Array.toArray_toList
abbrev fQ:=@BitVec.ofInt_natCast
abbrev gS:=@List.getElem?_of_mem
abbrev aC:=@List.mem_cons_of_mem
abbrev ja:=@List.mem_iff_getElem
abbrev jb:=@List.mem_of_getElem?
abbrev jc:=@List.mem_of_mem_tail
abbrev aH:=@Nat.mul_le_mul_right
abbrev fR:=@Nat.pow_le_pow_right
abbrev bD:=@Array.length_toList
abbrev f_:=@Array.toList_append
abbrev jE:=@List.drop_replicate
abbrev lT:=@List.flatMap_append
abbrev pX:=@List.getElem?_range
abbrev lU:=@List.length_flatten
abbrev eQ:=@List.map_congr_left
abbrev jG:=@List.replicate_zero
abbrev gW:=@List.take_succ_cons
abbrev fH:=@Nat.add_le_add_left
abbrev fe:=@BitVec.toNat_ofNat
abbrev mD:=@Int.emod_lt_of_pos
abbrev mE:=@List.filter_append
abbrev cm:=@List.getElem?_drop
abbrev cJ:=@List.getElem?_take
abbrev mF:=@List.map_replicate
abbrev aQ:=@List.mem_cons_self
abbrev aJ:=@List.mem_singleton
abbrev mG:=@List.pairwise_cons
abbrev mH:=@List.set_cons_zero
abbrev bu:=@Nat.lt_of_lt_of_le
abbrev fB:=@Bool.not_eq_true'
abbrev dx:=@Decidable.not_not
abbrev ng:=@Int.emod_eq_of_lt
abbrev b_:=@List.append_assoc
abbrev dH:=@List.ext_getElem?
abbrev cy:=@List.getElem?_map
abbrev nh:=@List.getElem?_set
abbrev dP:=@List.nodup_append
abbrev dz:=@Result.andThen_ok
abbrev rN:=@Array.toList_map
abbrev bH:=@List.all_eq_true
abbrev nR:=@List.cons_append
abbrev cv:=@List.drop_length
abbrev rO:=@List.getElem_inj
abbrev cN:=@List.getElem_mem
abbrev bw:=@List.length_cons
abbrev cO:=@List.length_drop
abbrev cd:=@List.length_take
abbrev nS:=@List.map_toArray
abbrev nT:=@List.mem_reverse
abbrev aI:=@List.not_mem_nil
abbrev dW:=@List.take_length
abbrev nU:=@Nat.min_le_right
abbrev g_:=@Nat.mod_eq_of_lt
abbrev kZ:=@Nat.not_le_of_lt
abbrev gh:=@Nat.not_lt_of_le
abbrev nV:=@World.size_alloc
abbrev fE:=@Bool.eq_iff_iff
abbrev oS:=@Bool.or_eq_true
abbrev jS:=@Int.emod_nonneg
abbrev aL:=@List.append_nil
abbrev oT:=@List.drop_left'
abbrev oU:=@List.filter_nil
abbrev jT:=@List.foldl_cons
abbrev bO:=@List.length_map
abbrev tq:=@List.length_nil
abbrev cX:=@List.length_set
abbrev fG:=@List.map_append
abbrev gH:=@List.mem_filter
abbrev jU:=@List.nil_append
abbrev bS:=@List.nodup_cons
abbrev fV:=@List.take_left'
abbrev iF:=@Nat.min_eq_left
abbrev oV:=@Option.map_some
abbrev dD:=@Bool.and_false
abbrev gk:=@Bool.false_and
abbrev gl:=@Int.mul_nonneg
abbrev eP:=@List.drop_drop
abbrev kJ:=@List.drop_take
abbrev mR:=@List.drop_zero
abbrev gm:=@List.mem_range
abbrev pY:=@List.nodup_nil
abbrev kK:=@List.take_take
abbrev mT:=@List.take_zero
abbrev nE:=@Bool.and_true
abbrev nF:=@Bool.false_or
abbrev cY:=@Bool.true_and
abbrev iE:=@List.all_cons
abbrev eB:=@List.map_cons
abbrev aG:=@List.mem_cons
abbrev eD:=@Nat.lt_irrefl
abbrev lZ:=@Addr.add_lit
abbrev kx:=@Bool.or_true
abbrev oF:=@Int.le_of_eq
abbrev bX:=@Int.le_trans
abbrev fX:=@List.map_map
abbrev mf:=@List.map_nil
abbrev dy:=@List.mem_map
abbrev mg:=@Nat.add_comm
abbrev ky:=@Nat.add_zero
abbrev kC:=@Nat.le_of_eq
abbrev aW:=@Nat.le_trans
abbrev mh:=@Nat.mul_comm
abbrev eE:=@Nat.ne_of_lt
abbrev kD:=@Nat.sub_self
abbrev kE:=@Nat.succ_mul
abbrev gF:=@Nat.zero_add
abbrev dN:=@Sem.run_bind
abbrev ig:=@Sem.run_pure
abbrev al:=@Int.le_refl
abbrev fj:=@Nat.add_mul
abbrev aj:=@Nat.le_refl
abbrev iX:=@Nat.le_succ
abbrev aX:=@Nat.zero_le
abbrev mA:=@Int.not_lt
abbrev kT:=@Nat.mod_lt
abbrev fF:=@Iff.rfl
abbrev gX:=@Ne.symm
variable{p:Prop}
theorem dn[Decidable p](h:p):decide p=true:=decide_eq_true h
theorem gj[Decidable p](h:¬p):decide p=false:=decide_eq_false h
theorem fv(a b:Bool):((a&&b)=true)=(a=true/\b=true):=Bool.and_eq_true a b
variable{α:Type}
theorem qS{a bs:List α}:(a++bs).length=a.length+bs.length:=List.length_append
theorem rz(n:Nat):(n:Int).toNat=n:=Int.toNat_natCast n
theorem rR[Decidable p]:(decide p=true)=p:=decide_eq_true_eq
variable{i:Nat}{a:α}{l:List α}
theorem xB:l.getD i a=l[i]?.getD a:=List.getD_eq_getElem?_getD
variable{n:Nat}
theorem vH{m:Nat}(h:n.beq m=true):n=m:=Nat.eq_of_beq_eq_true h
theorem Cg(h:i<l.length):List.drop i l=l[i]::List.drop (i+1) l:=List.drop_eq_getElem_cons h
theorem EK(h:i<l.length):l[i]?=some l[i]:=List.getElem?_eq_getElem h
theorem I4:(List.replicate n a).length=n:=List.length_replicate
theorem Lu{m:Nat}(h:n.ble m=true):n<=m:=Nat.le_of_ble_eq_true h
theorem nY{s t:List α}:a∈s++t↔a∈s\/a∈t:=List.mem_append
inductive Ty where
 | int (k:IntKind)
 | bool
 | str
 | slice (t:Ty)
 | arr (n:Nat) (t:Ty)
 | struct (ts:List Ty)
 | any (n:Nat)
mutual
def Ty.T:Ty->Type
 | .int _=>Int
 | .bool=>Bool
 | .str=>List UInt8
 | .slice t=>List t.T
 | .arr _ t=>List t.T
 | .struct ts=>Ty.Ts ts
 | .any _=>Unit
def Ty.Ts:List Ty->Type
 | []=>Unit
 | [t]=>t.T
 | t::a::ts=>t.T×Ty.Ts (a::ts)
end
mutual
def Ty.size:Ty->Nat
 | .arr n t=>n*t.size
 | .struct ts=>Ty.mj ts
 | .any n=>n
 | _=>1
def Ty.mj:List Ty->Nat
 | []=>0
 | t::ts=>t.size+Ty.mj ts
end
def Ty.isAgg:Ty->Bool
 | .arr _ _=>true
 | .struct _=>true
 | .any _=>true
 | _=>false
def qC:IntKind->IntKind->Bool
 | .i8,.i8=>true | .i16,.i16=>true | .i32,.i32=>true | .i64,.i64=>true
 | .u8,.u8=>true | .u16,.u16=>true | .u32,.u32=>true | .u64,.u64=>true
 | _,_=>false
theorem lF{a b:IntKind}(h:qC a b=true):a=b:=by cases a<;>cases b<;>first|rfl|cases h
mutual
def Ty.beq:Ty->Ty->Bool
 | .int a,.int b=>qC a b
 | .bool,.bool=>true
 | .str,.str=>true
 | .slice a,.slice b=>a.beq b
 | .arr n a,.arr m b=>Nat.beq n m&&a.beq b
 | .struct c,.struct bs=>Ty.Ux c bs
 | .any n,.any m=>Nat.beq n m
 | _,_=>false
def Ty.Ux:List Ty->List Ty->Bool
 | [], []=>true
 | a::aa,b::bs=>a.beq b&&Ty.Ux aa bs
 | _,_=>false
end
mutual
theorem Ty.eq_of_beq:∀{a b:Ty},a.beq b=true->a=b
 | .int a,.int b,h=>by rw[Ty.beq] at h;rw[lF h]
 | .bool,.bool,_=>rfl
 | .str,.str,_=>rfl
 | .slice a,.slice b,h=>by rw[Ty.beq] at h;rw[Ty.eq_of_beq h]
 | .arr n a,.arr m b,h=>by
   rw[Ty.beq,fv] at h;rw[vH h.1,Ty.eq_of_beq h.2]
 | .struct c,.struct bs,h=>by rw[Ty.beq] at h;rw[Ty.DF h]
 | .any n,.any m,h=>by simp_all;rw[vH h]
 | .any _,.int _,h | .any _,.bool,h | .any _,.str,h | .any _,.slice _,h | .any _,.arr _ _,h | .any _,.struct _,h=>by simp[Ty.beq] at h
 | .int _,.any _,h | .bool,.any _,h | .str,.any _,h | .slice _,.any _,h | .arr _ _,.any _,h | .struct _,.any _,h=>by simp[Ty.beq] at h
 | .int _,.bool,h | .int _,.str,h | .int _,.slice _,h | .int _,.arr _ _,h | .int _,.struct _,h=>by simp[Ty.beq] at h
 | .bool,.int _,h | .bool,.str,h | .bool,.slice _,h | .bool,.arr _ _,h | .bool,.struct _,h=>by simp[Ty.beq] at h
 | .str,.int _,h | .str,.bool,h | .str,.slice _,h | .str,.arr _ _,h | .str,.struct _,h=>by simp[Ty.beq] at h
 | .slice _,.int _,h | .slice _,.bool,h | .slice _,.str,h | .slice _,.arr _ _,h | .slice _,.struct _,h=>by simp[Ty.beq] at h
 | .arr _ _,.int _,h | .arr _ _,.bool,h | .arr _ _,.str,h | .arr _ _,.slice _,h | .arr _ _,.struct _,h=>by simp[Ty.beq] at h
 | .struct _,.int _,h | .struct _,.bool,h | .struct _,.str,h | .struct _,.slice _,h | .struct _,.arr _ _,h=>by simp[Ty.beq] at h
theorem Ty.DF:∀{c bs:List Ty},Ty.Ux c bs=true->c=bs
 | [], [],_=>rfl
 | a::c,b::bs,h=>by
   rw[Ty.Ux,fv] at h;rw[Ty.eq_of_beq h.1,Ty.DF h.2]
 | [],_::_,h=>by simp[Ty.Ux] at h
 | _::_, [],h=>by simp[Ty.Ux] at h
end
mutual
def Ty.gw:(t:Ty)->t.T
 | .int _=>(0:Int)
 | .bool=>false
 | .str=>([]:List UInt8)
 | .slice t=>([]:List t.T)
 | .arr n t=>List.replicate n (Ty.gw t)
 | .struct ts=>Ty.aS ts
 | .any _=>()
def Ty.aS:(a:List Ty)->Ty.Ts a
 | []=>()
 | [t]=>Ty.gw t
 | t::b::a=>(Ty.gw t,Ty.aS (b::a))
end
mutual
def Ty.rP:Ty->Bool
 | .slice t=>t.rP
 | .arr _ t=>t.rP
 | .struct ts=>Ty.GZ ts
 | .any _=>false
 | _=>true
def Ty.GZ:List Ty->Bool
 | []=>true
 | t::ts=>t.rP&&Ty.GZ ts
end
mutual
def Ty.scalar:Ty->Bool
 | .int _=>true
 | .bool=>true
 | .str=>true
 | .arr _ t=>t.scalar
 | .struct ts=>Ty.mV ts
 | _=>false
def Ty.mV:List Ty->Bool
 | []=>true
 | t::ts=>t.scalar&&Ty.mV ts
end
structure aU where
 b:BinOp->IntKind->Int->Int->Int
 c:BinOp->Int->Int->Bool
 u:UnOp->IntKind->Int->Int
 v:IntKind->Int->Int
 mn:Int->Int->Int
 mx:Int->Int->Int
 and:Bool->Bool->Bool
 not:Bool->Bool
 q:Bool->Bool->Bool
 l:{α:Type}->List α->Int
 n:(t:Ty)->List t.T->Int->t.T
 set:{α:Type}->List α->Int->α->List α
 s:{α:Type}->List α->Int->Int->List α
 p:{α:Type}->List α->List α->List α
 r:{α:Type}->Int->α->List α
 spl:{α:Type}->List α->Int->List α->List α
 byte:List UInt8->Int->Int
 k:{α β:Type}->(α->β)->α->β
def En(c:BinOp)(k:IntKind)(a b:Int):Int:=
 match c with
 | .add=>k.wrap (a+b)
 | .sub=>k.wrap (a-b)
 | .mul=>k.wrap (a*b)
 | .quo=>k.wrap (a.tdiv b)
 | .rem=>a.tmod b
 | .and=>k.wrap (BitVec.ofInt k.bits a &&& BitVec.ofInt k.bits b).toNat
 | .or=>k.wrap (BitVec.ofInt k.bits a ||| BitVec.ofInt k.bits b).toNat
 | .xor=>k.wrap (BitVec.ofInt k.bits a ^^^ BitVec.ofInt k.bits b).toNat
 | .andNot=>k.wrap (BitVec.ofInt k.bits a &&& ~~~ BitVec.ofInt k.bits b).toNat
 | .shl=>k.wrap (a*2^min b.toNat k.bits)
 | .shr=>a.fdiv (2^min b.toNat k.bits)
 | _=>0
def w9(a:BinOp)(x y:Int):Bool:=
 match a with
 | .eql=>x==y
 | .neq=>x != y
 | .lss=>decide (x<y)
 | .leq=>decide (x<=y)
 | .gtr=>decide (x > y)
 | .geq=>decide (x >= y)
 | _=>false
def axv(a:UnOp)(k:IntKind)(n:Int):Int:=
 match a with
 | .neg=>k.wrap (0-n)
 | .xor=>k.wrap (BitVec.ofInt k.bits (if k.signed then -1 else k.max) ^^^ BitVec.ofInt k.bits n).toNat
 | _=>0
def af:aU where
 b:=En
 c:=w9
 u:=axv
 v k n:=k.wrap n
 mn x y:=if y<x then y else x
 mx x y:=if y > x then y else x
 and a b:=a&&b
 not a:=!a
 q a b:=a==b
 l x:=x.length
 n t x i:=x.getD i.toNat t.gw
 set x i v:=x.set i.toNat v
 s x lo hi:=(x.take hi.toNat).drop lo.toNat
 p x y:=x++y
 r n v:=List.replicate n.toNat v
 spl x i y:=x.take i.toNat++y++x.drop (i.toNat+y.length)
 byte s i:=((s.getD i.toNat 0).toNat:Int)
 k f x:=f x
inductive AV where
 | undef
 | int (k:IntKind) (c:Bool) (n:Int)
 | bool (c:Bool) (b:Bool)
 | str (c:Bool) (s:List UInt8)
 | sl (t:Ty) (x:List t.T)
 | gb (isNil:Bool)
 | own (id:Nat)
 | vL (id sz:Nat) (c:Bool) (lo len:Int)
 | ptr (id off:Nat)
 | kX (id:Nat) (i:Int) (off:Nat)
 | y_ (id off n:Nat) (t:Ty) (i:Int)
 | pI (t:Ty) (x:t.T) (off:Nat)
 | jB
 | fn (f:FuncId) (first caps:List AV)
 | yield (l:Nat)
 | tg
 | agg (cells:List AV)
 | yM (vs:List AV)
def AV.Zf:AV->Bool
 | .agg _=>false
 | .yM _=>false
 | _=>true
def AV.cells:AV->List AV
 | .agg cs=>cs
 | v=>[v]
mutual
def lh(A:aU):(t:Ty)->t.T->List AV
 | .int k,x=>[.int k false x]
 | .bool,x=>[.bool false x]
 | .str,x=>[.str false x]
 | .slice t,x=>[.sl t x]
 | .arr n t,x=>(List.range n).flatMap λ(i:Nat)=>lh A t (A.n t x (i:Int))
 | .struct ts,x=>AR A ts x
 | .any n,_=>List.replicate n .undef
def AR(A:aU):(a:List Ty)->Ty.Ts a->List AV
 | [],_=>[]
 | [t],x=>lh A t x
 | t::b::a,x=>lh A t (Prod.fst (α:=t.T) (β:=Ty.Ts (b::a)) x)++AR A (b::a) (Prod.snd (α:=t.T) (β:=Ty.Ts (b::a)) x)
end
def UI(A:aU)(t:Ty)(x:t.T):AV:=
 match t.isAgg with
 | true=>.agg (lh A t x)
 | false=>(lh A t x).headD .undef
def De{α:Type}(f:List AV->Option (α×List AV)):Nat->List AV->Option (List α×List AV)
 | 0,cs=>some ([],cs)
 | n+1,cs=>match f cs with
   | none=>none
   | some (a,r)=>match De f n r with
     | none=>none
     | some (b,r')=>some (a::b,r')
mutual
def y8:(t:Ty)->List AV->Option (t.T×List AV)
 | .int k,cs=>match cs with
   | []=>none
   | v::r=>match v with
     | .int k' _ n=>match qC k' k with|true=>some (n,r)|false=>none
     | _=>none
 | .bool,cs=>match cs with
   | []=>none
   | v::r=>match v with
     | .bool _ b=>some (b,r)
     | _=>none
 | .str,cs=>match cs with
   | []=>none
   | v::r=>match v with
     | .str _ s=>some (s,r)
     | _=>none
 | .slice t,cs=>match cs with
   | []=>none
   | v::r=>match v with
     | .sl t' x=>if h:t'.beq t=true then some (Ty.eq_of_beq h▸x,r) else none
     | .gb _=>some ([],r)
     | _=>none
 | .arr n t,cs=>De (y8 t) n cs
 | .struct ts,cs=>qM ts cs
 | .any n,cs=>match Nat.ble n cs.length with
   | true=>some ((),cs.drop n)
   | false=>none
def qM:(c:List Ty)->List AV->Option (Ty.Ts c×List AV)
 | [],cs=>some ((),cs)
 | [t],cs=>y8 t cs
 | t::e::c,cs=>match y8 t cs with
   | none=>none
   | some (a,r)=>match qM (e::c) r with
     | none=>none
     | some (b,r')=>some ((a,b),r')
end
inductive PT (α:Type) where
 | leaf
 | node (l:PT α) (v:Option α) (r:PT α)
def PT.get{α:Type}:PT α->Nat->Option α
 | .leaf,_=>none
 | .node l v r,n=>match Nat.beq n 0 with
   | true=>v
   | false=>match Nat.beq (n%2) 1 with
     | true=>l.get (n/2)
     | false=>r.get (n/2-1)
def PT.put{α:Type}:Nat->PT α->Nat->α->PT α
 | 0,t,_,_=>t
 | f+1,.leaf,n,a=>match Nat.beq n 0 with
   | true=>.node .leaf (some a) .leaf
   | false=>match Nat.beq (n%2) 1 with
     | true=>.node (PT.put f .leaf (n/2) a) none .leaf
     | false=>.node .leaf none (PT.put f .leaf (n/2-1) a)
 | f+1,.node l v r,n,a=>match Nat.beq n 0 with
   | true=>.node l (some a) r
   | false=>match Nat.beq (n%2) 1 with
     | true=>.node (PT.put f l (n/2) a) v r
     | false=>.node l v (PT.put f r (n/2-1) a)
abbrev Env:=PT AV
def Env.at(e:Env)(n:Nat):AV:=match PT.get e n with|some v=>v|none=>.undef
def Env.put(e:Env)(n:Nat)(v:AV):Env:=PT.put 20 e n v
def Env.ov(e:Env)(d:Option Nat)(v:AV):Env:=match d with|some n=>e.put n v|none=>e
def Env.of:Nat->List AV->Env->Env
 | _, [],e=>e
 | n,v::vs,e=>Env.of (n+1) vs (e.put n v)
def akw:IntKind->Int
 | .i8=> -128 | .i16=> -32768 | .i32=> -2147483648 | .i64=> -9223372036854775808|_=>0
def akv:IntKind->Int
 | .i8=>127 | .i16=>32767 | .i32=>2147483647 | .i64=>9223372036854775807
 | .u8=>255 | .u16=>65535 | .u32=>4294967295 | .u64=>18446744073709551615
def Ly:Value->AV
 | .int k n=>match decide (akw k<=n)&&decide (n<=akv k) with|true=>.int k true n|false=>.undef
 | .bool b=>.bool true b
 | .string s=>match Nat.ble s.data.toList.length 140737488355328 with|true=>.str true s.data.toList|false=>.undef
 | .slice none 0 0=>.gb true
 | .pointer none=>.jB
 | .nilFunc=>.tg
 | _=>.undef
def mC(e:Env):Operand->AV
 | .tmp t=>e.at t
 | .const v=>Ly v
 | .global _=>.undef
 | .func f=>.fn f [] []
structure Nb where
 fn:FuncId
 n:Nat
 env:Env
 params:List Nat
 assign:Code
 body:Code
 state:Nat
 pending:Option Code
inductive iM where
 | bZ
 | a_
 | ay (fz:Bool) (cells:List AV)
 | arr (fz:Bool) (t:Ty) (x:List t.T)
 | loop (r:Nb)
 | Ie
 | UH
abbrev Mem:=List iM
def Mem.at(m:Mem)(i:Nat):iM:=m.getD i .bZ
inductive dR where
 | code (c:Code)
 | inBlock (id:Nat)
 | inLoop (body:Code)
 | inScope (body:Code)
 | ops (all:Array Oper) (rest:List Oper)
 | jI (all:Array Oper) (ms:List Nat) (rest bs:List Nat)
 | rS (all:Array Oper) (ms:List Nat) (i:Nat) (rest bs:List Nat)
 | oP (l:Nat)
 | o7 (l:Nat)
 | beginRound
structure dK where
 fn:FuncId
 n:Nat
 env:Env
 todo:List dR
 marks:List Nat
 gi:Option Nat
structure iB where
 bF:List dK
 mem:Mem
def iM.lD:iM->Bool
 | .a_=>true
 | _=>false
def AV.known(m:Mem):AV->Bool
 | .undef=>false
 | .own id=>!(m.at id).lD
 | .vL id _ _ _ _=>!(m.at id).lD
 | .ptr id _=>!(m.at id).lD
 | .kX id _ _=>!(m.at id).lD
 | .y_ id _ _ _ _=>!(m.at id).lD
 | .yield l=>!(m.at l).lD
 | _=>true
inductive TK where
 | bool|int (k:IntKind)|str|slice (e:Nat)|arr (n e:Nat)|struct (fs:List (Nat×Nat×Bool))|ptr (e:Nat)|func|other
structure TI where
 kind:TK
 size:Nat
 bytes:Nat
 agg:Bool
 zero:List AV
 ty:Option Ty
 eq:Bool
structure aK where
 args:List Ty
 res:List Ty
 pre:Ty.Ts args->Bool
 fn:Ty.Ts args->Ty.Ts res
 Na:Bool
structure qs where
 view:Ty
 args:List Ty
 res:List Ty
 pre:view.T×Ty.Ts args->Bool
 fn:view.T×Ty.Ts args->Ty.Ts res
inductive VF where
 | d (t:Ty)
 | own (t:Ty)
 | fix (k:Nat) (t:Ty)
 | ptr (fs:List VF)
 | nP (fs:List VF)
mutual
def VF.ty:VF->Ty
 | .d t=>t
 | .own t=>.slice t
 | .fix _ t=>.slice t
 | .ptr fs=>.struct (VF.iq fs)
 | .nP fs=>.struct (VF.iq fs)
def VF.iq:List VF->List Ty
 | []=>[]
 | f::fs=>f.ty::VF.iq fs
end
def VF.fz:VF->Bool
 | .nP _=>true
 | _=>false
def VF.sub:VF->List VF
 | .nP fs=>fs
 | .ptr fs=>fs
 | _=>[]
def VF.size:VF->Nat
 | .d t=>t.size
 | _=>1
def VF.mj:List VF->Nat
 | []=>0
 | f::fs=>f.size+VF.mj fs
structure bV where
 aM:List VF
 args:List Ty
 res:List Ty
 pre:Ty.Ts (VF.iq aM)×Ty.Ts args->Bool
 fn:Ty.Ts (VF.iq aM)×Ty.Ts args->Ty.Ts (VF.iq aM)×Ty.Ts res
 rp:Bool
 Na:Bool
structure gL where
 elem:Ty
 args:List Ty
 lL:List FuncId
 res:List Ty
 pre:List elem.T×Ty.Ts args->Bool
 fn:List elem.T×Ty.Ts args->List elem.T×Ty.Ts res
structure o4 where
 args:List Ty
 out:VF
 opt:Bool
 res:List Ty
 pre:Ty.Ts args->Bool
 fn:Ty.Ts args->Bool×out.ty.T×Ty.Ts res
structure Stop where
 fn:FuncId
 rid:Nat
 keep:List (List Nat)
structure kF(R:Type) where
 ti:PT TI
 lL:List (FuncId×Func)
 jZ:List (FuncId×aK)
 stops:List Stop
 qm:List Stop
 consts:List (FuncId×Nat)
 fin:AV->Mem->Option R
 uN:List (FuncId×qs):=[]
 uM:List (FuncId×bV):=[]
 keep:Nat:=0
 uL:List (FuncId×gL):=[]
 ops:List (FuncId×o4):=[]
def Lf:List Stop->FuncId->Option Nat->Bool
 | [],_,_=>false
 | _::_,_,none=>false
 | s::r,f,some d=>match Nat.beq s.fn f&&Nat.beq s.rid (d+1000000) with
   | true=>true
   | false=>Lf r f (some d)
def Fq:List (FuncId×Nat)->FuncId->Option Nat->Bool
 | [],_,_=>false
 | (f,i)::r,g,d=>match Nat.beq f g,d with
   | true,some j=>match Nat.beq i j with|true=>true|false=>Fq r g d
   | _,_=>Fq r g d
def look{α:Type}:List (Nat×α)->Nat->Option α
 | [],_=>none
 | (i,a)::r,n=>match Nat.beq i n with|true=>some a|false=>look r n
inductive TV (α:Type) where
 | leaf (a:α)
 | br (b:Bool) (t e:TV α)
 | ar (b:Bool) (t:TV α)
 | bZ (n:Nat)
inductive Tr (R:Type) where
 | ret (y:R)
 | ao (c:iB)
 | br (b:Bool) (t e:Tr R)
 | ar (b:Bool) (t:Tr R)
 | eqs (p:Prop) (t:Tr R)
 | same (l r:AV) (t:Tr R)
 | and (a b:Tr R)
 | bZ (n:Nat) (pos:String)
def TV.bind{α R:Type}(c:String):TV α->(α->Tr R)->Tr R
 | .leaf a,K=>K a
 | .br b t e,K=>.br b (TV.bind c t K) (TV.bind c e K)
 | .ar b t,K=>.ar b (TV.bind c t K)
 | .bZ n,_=>.bZ n c
def TV.map{α β:Type}(f:α->β):TV α->TV β
 | .leaf a=>.leaf (f a)
 | .br b t e=>.br b (t.map f) (e.map f)
 | .ar b t=>.ar b (t.map f)
 | .bZ n=>.bZ n
def Gr{α:Type}(n:Nat):Option α->TV α
 | some a=>.leaf a
 | none=>.bZ n
def N7{α:Type}(c:Bool)(b:Bool)(t:TV α):TV α:=
 match c with
 | true=>match b with|true=>t|false=>.bZ 2
 | false=>.ar b t
section
variable (A:aU)
def xH(k:IntKind)(c:Bool)(f:aU->Int):AV:=
 match c with
 | true=>.int k true (f af)
 | false=>.int k false (f A)
def Ac(c:Bool)(f:aU->Bool):AV:=
 match c with
 | true=>.bool true (f af)
 | false=>.bool false (f A)
def agD:BinOp->Bool
 | .eql=>true | .neq=>true | .lss=>true | .leq=>true | .gtr=>true | .geq=>true|_=>false
def fZ:List AV->List AV->Option (Bool×(aU->Bool))
 | [], []=>some (true,λ_=>true)
 | .int k c a::xs,.int k' c' b::ys=>match qC k k' with
   | false=>none
   | true=>match fZ xs ys with
     | none=>none
     | some (c2,g)=>some (c&&c'&&c2,λA=>A.and (A.c .eql a b) (g A))
 | .bool c a::xs,.bool c' b::ys=>match fZ xs ys with
   | none=>none
   | some (c2,g)=>some (c&&c'&&c2,λA=>A.and (A.q a b) (g A))
 | _,_=>none
def TO:AV->AV->Bool
 | .int k _ _,.int k' _ _=>qC k k'
 | .bool _ _,.bool _ _=>true
 | _,_=>false
def np:List AV->List AV->Bool
 | [], []=>true
 | a::as,b::bs=>TO a b&&np as bs
 | _,_=>false
def vJ(b:BinOp)(a:Bool):TV AV:=
 match b with
 | .eql=>.leaf (.bool true a)
 | .neq=>.leaf (.bool true (!a))
 | _=>.bZ 9
def PG(f:BinOp)(k:IntKind)(c:Bool)(a:Int)(g:IntKind)(e:Bool)(b:Int):TV AV:=
 match qC k g with
 | false=>.bZ 3
 | true=>match agD f with
   | true=>.leaf (Ac A (c&&e) λA=>A.c f a b)
   | false=>match f with
     | .quo=>N7 e (match e with|true=>af.c .neq b 0|false=>A.c .neq b 0) (.leaf (xH A k (c&&e) λA=>A.b .quo k a b))
     | .rem=>N7 e (match e with|true=>af.c .neq b 0|false=>A.c .neq b 0) (.leaf (xH A k (c&&e) λA=>A.b .rem k a b))
     | f=>.leaf (xH A k (c&&e) λA=>A.b f k a b)
def K3(f:BinOp)(k:IntKind)(c:Bool)(a:Int)(e:Bool)(b:Int):TV AV:=
 N7 e (match e with|true=>af.c .leq 0 b|false=>A.c .leq 0 b) (.leaf (xH A k (c&&e) λA=>A.b f k a b))
def XU(m:Mem)(e:Option TI)(f:BinOp)(x y:AV):TV AV:=
 match x with
 | .int k c a=>match y with
   | .int k' c' b=>match f with
     | .shl=>K3 A .shl k c a c' b
     | .shr=>K3 A .shr k c a c' b
     | f=>PG A f k c a k' c' b
   | _=>.bZ 10
 | .bool c a=>match y with
   | .bool c' b=>match e with
     | some e=>match e.kind with
       | .bool=>match f with
         | .eql=>.leaf (Ac A (c&&c') λA=>A.q a b)
         | .neq=>.leaf (Ac A (c&&c') λA=>A.not (A.q a b))
         | _=>.bZ 4
       | _=>.bZ 4
     | none=>.bZ 4
   | _=>.bZ 10
 | .agg xs=>match y with
   | .agg ys=>match e with
     | some e=>match e.eq&&(e.agg&&np xs e.zero) with
       | false=>.bZ 6
       | true=>match fZ xs ys with
         | none=>.bZ 7
         | some (c,g)=>match f with
           | .eql=>.leaf (Ac A c g)
           | .neq=>.leaf (Ac A c λA=>A.not (g A))
           | _=>.bZ 8
     | none=>.bZ 6
   | _=>.bZ 10
 | .fn _ _ _=>match y with
   | .tg=>match e with
     | some e=>match e.kind with | .func=>vJ f false|_=>.bZ 9
     | none=>.bZ 9
   | _=>.bZ 10
 | .tg=>match y with
   | .tg=>match e with
     | some e=>match e.kind with | .func=>vJ f true|_=>.bZ 9
     | none=>.bZ 9
   | _=>.bZ 10
 | .jB=>match y with
   | .jB=>match e with
     | some e=>match e.kind with | .ptr _=>vJ f true|_=>.bZ 9
     | none=>.bZ 9
   | _=>.bZ 10
 | .ptr id _=>match y,m.at id with
   | .jB,.ay _ _=>match e with
     | some e=>match e.kind with | .ptr _=>vJ f false|_=>.bZ 9
     | none=>.bZ 9
   | _,_=>.bZ 10
 | .gb true=>match y with
   | .gb true=>match e with
     | some e=>match e.kind with | .slice _=>vJ f true|_=>.bZ 9
     | none=>.bZ 9
   | _=>.bZ 10
 | .own id=>match y,m.at id with
   | .gb true,.arr _ _ l=>match e with
     | some e=>match e.kind with | .slice _=>.ar (A.c .neq (A.l l) 0) (vJ f false)|_=>.bZ 9
     | none=>.bZ 9
   | _,_=>.bZ 10
 | .sl _ l=>match y with
   | .gb true=>match e with
     | some e=>match e.kind with | .slice _=>.ar (A.c .neq (A.l l) 0) (vJ f false)|_=>.bZ 9
     | none=>.bZ 9
   | _=>.bZ 10
 | _=>.bZ 10
def aj1(a:UnOp)(x:AV):TV AV:=
 match a,x with
 | .neg,.int k c n=>.leaf (xH A k c λA=>A.u .neg k n)
 | .xor,.int k c n=>.leaf (xH A k c λA=>A.u .xor k n)
 | .not,.bool c b=>.leaf (Ac A c λA=>A.not b)
 | _,_=>.bZ 11
def eF(off n:Nat)(a:List AV):Option (List AV):=
 match Nat.ble (off+n) a.length with
 | true=>some ((a.drop off).take n)
 | false=>none
def Qd(m:Mem)(p:AV)(n:Nat):Option (List AV):=
 match p with
 | .ptr id off=>match m.at id with
   | .ay _ cs=>eF off n cs
   | _=>none
 | .kX id i off=>match m.at id with
   | .arr _ t x=>eF off n (lh A t (A.n t x i))
   | _=>none
 | .y_ id off k t i=>match m.at id with
   | .ay _ cs=>match Nat.beq t.size n,eF off (k*n) cs with
     | true,some l=>match De (y8 t) k l with
       | some (x,_)=>some (lh A t (A.n t x i))
       | none=>none
     | _,_=>none
   | _=>none
 | .pI t x off=>eF off n (lh A t x)
 | _=>none
def RZ(agg:Bool)(a:List AV):Option AV:=
 match agg with
 | true=>some (.agg a)
 | false=>match a with
   | [v]=>some v
   | _=>none
def Fy(a:Option TI)(m:Mem)(p:AV):TV AV:=
 match a with
 | none=>.bZ 20
 | some a=>match Qd A m p a.size with
   | none=>.bZ 21
   | some cs=>Gr 22 (RZ a.agg cs)
def Xa(m:Mem)(p:AV)(n:Nat):Option AV:=
 match p with
 | .ptr id off=>match m.at id with
   | .ay _ _=>some (.ptr id (off+n))
   | _=>none
 | .kX id i off=>match m.at id with
   | .arr _ _ _=>some (.kX id i (off+n))
   | _=>none
 | .pI t x off=>some (.pI t x (off+n))
 | _=>none
def xg(m:Mem)(a:Option TI)(p:AV)(i:Nat):TV AV:=
 match a with
 | some {kind:=.struct fs,.. }=>match fs[i]? with
   | some (off,size,_)=>match Nat.beq size 0 with
     | true=>.bZ 23
     | false=>Gr 24 (Xa m p off)
   | none=>.bZ 25
 | _=>.bZ 26
def mQ(c:Bool)(i:Int)(a:Bool)(n:Int)(t:TV AV):TV AV:=
 match c&&a with
 | true=>match af.and (af.c .leq 0 i) (af.c .lss i n) with|true=>t|false=>.bZ 31
 | false=>.ar (A.and (A.c .leq 0 i) (A.c .lss i n)) t
def xh(f:Option TI)(a:Nat->Option TI)(m:Mem)(x b:AV):TV AV:=
 match b with
 | .int _ c i=>
   match f with
   | some {kind:=.arr n e,.. }=>match a e,x with
     | some a,.ptr id off=>match m.at id with
       | .ay _ _=>match c with
         | true=>mQ A true i true n (.leaf (.ptr id (off+i.toNat*a.size)))
         | false=>match a.ty with
           | some t=>mQ A false i true n (.leaf (.y_ id off n t i))
           | none=>.bZ 32
       | _=>.bZ 32
     | _,_=>.bZ 33
   | some {kind:=.slice e,.. }=>match a e with
     | some a=>match x with
       | .sl t l=>match Nat.beq a.size t.size with
         | true=>mQ A false i false (A.l l) (.leaf (.pI t (A.n t l i) 0))
         | false=>.bZ 37
       | .own id=>match m.at id with
         | .arr _ t l=>match Nat.beq a.size t.size with
           | true=>mQ A false i false (A.l l) (.leaf (.kX id i 0))
           | false=>.bZ 37
         | _=>.bZ 34
       | .vL id sz c' lo len=>match m.at id with
         | .arr _ t _=>match Nat.beq a.size t.size with
           | true=>mQ A c i c' len (.leaf (.kX id (A.b .add .i64 lo i) 0))
           | false=>.bZ 37
         | .ay _ cs=>match c&&(c'&&Nat.beq sz a.size) with
           | true=>mQ A true i true len (.leaf (.ptr id ((lo+i).toNat*a.size)))
           | false=>match a.ty,c'&&Nat.beq sz a.size with
             | some t,true=>mQ A c i c' len (.leaf (.y_ id (lo.toNat*a.size) len.toNat t i))
             | some t,false=>match Nat.beq sz a.size&&Nat.blt 0 a.size with
               | true=>mQ A c i c' len (.leaf (.y_ id 0 (cs.length/a.size) t (A.b .add .i64 lo i)))
               | false=>.bZ 35
             | _,_=>.bZ 35
         | _=>.bZ 36
       | _=>.bZ 37
     | none=>.bZ 38
   | _=>.bZ 39
 | _=>.bZ 40
def K1(f:Option TI)(a:Nat->Option TI)(x b:AV):TV AV:=
 match b with
 | .int _ c i=>
   match f,x with
   | some {kind:=.arr n e,.. },.agg cs=>match a e with
     | some a=>match c with
       | true=>match eF (i.toNat*a.size) a.size cs with
         | some l=>match RZ a.agg l with
           | some v=>mQ A true i true n (.leaf v)
           | none=>.bZ 41
         | none=>.bZ 42
       | false=>match a.ty with
         | some t=>match De (y8 t) n cs with
           | some (l,_)=>mQ A false i true n (.leaf (UI A t (A.n t l i)))
           | none=>.bZ 43
         | none=>.bZ 44
     | none=>.bZ 45
   | some {kind:=.str,.. },.str c' s=>match c&&c' with
     | true=>mQ A true i true s.length (.leaf (.int .u8 true (af.byte s i)))
     | false=>mQ A false i false (A.l s) (.leaf (.int .u8 false (A.byte s i)))
   | _,_=>.bZ 46
 | _=>.bZ 47
def bound(c:Bool)(n:Int):Option AV->Option (Bool×Int)
 | none=>some (c,n)
 | some (.int _ c i)=>some (c,i)
 | _=>none
def J5(c:Bool)(l h n:Int)(t:TV AV):TV AV:=
 match c with
 | true=>match af.and (af.c .leq 0 l) (af.and (af.c .leq l h) (af.c .leq h n)) with|true=>t|false=>.bZ 48
 | false=>.ar (A.and (A.c .leq 0 l) (A.and (A.c .leq l h) (A.c .leq h n))) t
def zT(n:Nat)(a:TI)(m:Mem)(x:AV)(c b:Option AV):TV AV:=
 match x with
 | .ptr id off=>match m.at id with
   | .ay _ cs=>match Nat.beq a.size 0,Nat.beq (off%a.size) 0&&(Nat.ble (off+n*a.size) cs.length&&Nat.ble (off/a.size+n) 140737488355328) with
     | false,true=>match bound true 0 c,bound true n b with
       | some (c1,l),some (c2,h)=>match c1&&c2 with
         | true=>J5 A true l h n (.leaf (.vL id a.size true ((off/a.size:Nat)+l) (h-l)))
         | false=>J5 A false l h n (.leaf (.vL id a.size false (A.b .add .i64 (off/a.size:Nat) l) (A.b .sub .i64 h l)))
       | _,_=>.bZ 51
     | _,_=>.bZ 50
   | _=>.bZ 49
 | _=>.bZ 52
def uo:List AV->Bool
 | []=>true
 | v::vs=>match v with
   | .own _=>false
   | .vL _ _ _ _ _=>false
   | _=>uo vs
def FB(a:Nat)(m:Mem)(x:AV)(c b e:Option AV):TV AV:=
 match x with
 | .sl t s=>match Nat.beq t.size a with
   | false=>.bZ 53
   | true=>match e with
     | none=>match bound true 0 c,bound false (A.l s) b with
       | some (_,l),some (_,h)=>J5 A false l h (A.l s) (.leaf (.sl t (A.s s l h)))
       | _,_=>.bZ 53
     | some _=>.bZ 53
 | .own id=>match m.at id with
   | .arr _ t s=>match Nat.beq t.size a with
     | false=>.bZ 54
     | true=>match e with
       | none=>match bound true 0 c,bound false (A.l s) b with
         | some (_,l),some (_,h)=>J5 A false l h (A.l s) (.leaf (.vL id t.size false l (A.b .sub .i64 h l)))
         | _,_=>.bZ 54
       | some _=>.bZ 54
   | _=>.bZ 55
 | _=>.bZ 59
def K4(b:Option TI)(a:Nat->Option TI)(m:Mem)(x:AV)(f c g:Option AV):TV AV:=
 match b with
 | none=>.bZ 62
 | some b=>match b.kind with
   | .arr n e=>match a e,g with
     | some a,none=>zT A n a m x f c
     | _,_=>.bZ 52
   | .slice e=>match a e with
     | some a=>FB A a.size m x f c g
     | none=>.bZ 62
   | _=>.bZ 62
def iw(off:Nat)(a b:List AV):Option (List AV):=
 match Nat.ble (off+a.length) b.length with
 | true=>some (b.take off++a++b.drop (off+a.length))
 | false=>none
def Ny(m:Mem)(b:List (Nat×Nat×Bool)):List (Nat×AV)->List AV->Option (List AV)
 | [],cs=>some cs
 | (i,v)::ps,cs=>match b[i]? with
   | none=>none
   | some (off,size,_)=>match v.known m&&Nat.beq v.cells.length size with
     | false=>none
     | true=>match iw off v.cells cs with
       | none=>none
       | some a=>Ny m b ps a
def FF(m:Mem)(size:Nat):List (Nat×AV)->List AV->Option (List AV)
 | [],cs=>some cs
 | (i,v)::ps,cs=>match v.known m&&Nat.beq v.cells.length size with
   | false=>none
   | true=>match iw (i*size) v.cells cs with
     | none=>none
     | some a=>FF m size ps a
def KS(m:Mem)(c:Option TI)(a:Nat->Option TI)(b:List (Nat×AV)):TV AV:=
 match c with
 | some {kind:=.struct fs,zero:=z,.. }=>Gr 63 ((Ny m fs b z).map .agg)
 | some {kind:=.arr _ e,zero:=z,.. }=>match a e with
   | some a=>Gr 64 ((FF m a.size b z).map .agg)
   | none=>.bZ 65
 | _=>.bZ 66
def PD(src a:Option TI)(x:AV):TV AV:=
 match src,a,x with
 | some _,some {kind:=.int k,.. },.int _ c n=>.leaf (xH A k c λA=>A.v k n)
 | _,_,_=>.bZ 67
def XV(a:Option TI)(m:Mem)(x:AV):TV AV:=
 match a,x with
 | some {kind:=.arr n _,.. },_=>match Nat.ble n 140737488355328 with|true=>.leaf (.int .i64 true n)|false=>.bZ 68
 | some {kind:=.slice _,.. },.sl _ l=>.leaf (.int .i64 false (A.l l))
 | some {kind:=.slice _,.. },.gb _=>.leaf (.int .i64 true 0)
 | some {kind:=.slice _,.. },.vL id _ c _ n=>match (m.at id).lD with|true=>.bZ 68|false=>.leaf (.int .i64 c n)
 | some {kind:=.slice _,.. },.own id=>match m.at id with
   | .arr _ _ l=>.leaf (.int .i64 false (A.l l))
   | _=>.bZ 68
 | _,_=>.bZ 69
def XX:List AV->TV AV
 | [.int k c a,.int k' c' b]=>match qC k k' with|true=>.leaf (xH A k (c&&c') λA=>A.mn a b)|false=>.bZ 70
 | _=>.bZ 70
def XW:List AV->TV AV
 | [.int k c a,.int k' c' b]=>match qC k k' with|true=>.leaf (xH A k (c&&c') λA=>A.mx a b)|false=>.bZ 71
 | [.int k c a,.int k' c' b,.int k'' e d]=>match qC k k',qC k k'' with|true,true=>.leaf (xH A k (c&&(c'&&e)) λA=>A.mx (A.mx a b) d)|_,_=>.bZ 71
 | _=>.bZ 71
def tP{R:Type}(E:kF R)(ρ:Operand->AV)(m:Mem)(o:Oper):Option (TV AV):=
 match o.op with
 | .move x=>some (.leaf (ρ x))
 | .assign x=>some (.leaf (ρ x))
 | .pick c a b=>some (match ρ c with
   | .bool true v=>match v with|true=>.leaf (ρ a)|false=>.leaf (ρ b)
   | .bool false v=>.br v (.leaf (ρ a)) (.leaf (ρ b))
   | _=>.bZ 72)
 | .load t p=>some (Fy A (E.ti.get t) m (ρ p))
 | .nilCheck x=>some (match ρ x with
   | .ptr id off=>match m.at id with | .ay _ _=>.leaf (.ptr id off)|_=>.bZ 73
   | .kX id i off=>match m.at id with | .arr _ _ _=>.leaf (.kX id i off)|_=>.bZ 73
   | .pI t x off=>.leaf (.pI t x off)
   | .fn f a b=>.leaf (.fn f a b)
   | _=>.bZ 73)
 | .binOp op t x y _=>some (XU A m (E.ti.get t) op (ρ x) (ρ y))
 | .unOp op _ x=>some (aj1 A op (ρ x))
 | .convert s d x=>match ρ x with
   | .int k c n=>some (PD A (E.ti.get s) (E.ti.get d) (.int k c n))
   | _=>none
 | .makeFunc (.func f) first e=>some (.leaf (.fn f (first.toList.map ρ) (e.toList.map ρ)))
 | .slice t x lo hi mx=>some (K4 A (E.ti.get t) E.ti.get m (ρ x) (lo.map ρ) (hi.map ρ) (mx.map ρ))
 | .fieldAddr t x i=>some (xg m (E.ti.get t) (ρ x) i)
 | .field _ _ _=>some (.bZ 40)
 | .indexAddr t x i=>some (xh A (E.ti.get t) E.ti.get m (ρ x) (ρ i))
 | .index t x i=>some (K1 A (E.ti.get t) E.ti.get (ρ x) (ρ i))
 | .extract t i=>some (match ρ t with
   | .yM vs=>Gr 74 vs[i]?
   | _=>.bZ 75)
 | .build t ps=>some (KS m (E.ti.get t) E.ti.get (ps.toList.map λp=>(p.1,ρ p.2)))
 | .call {callee:=.builtin .len,args,argTypes}=>some (match args.toList,argTypes.toList with
   | [x],t::_=>XV A (E.ti.get t) m (ρ x)
   | _,_=>.bZ 76)
 | .call {callee:=.builtin .min,args,.. }=>some (XX A (args.toList.map ρ))
 | .call {callee:=.builtin .max,args,.. }=>some (XW A (args.toList.map ρ))
 | _=>none
def fU:Mem->List AV->Option (Mem×List AV)
 | m, []=>some (m, [])
 | m,v::vs=>
   match (match v with
    | .own id=>match m.at id with
      | .arr _ t x=>some (m.set id (.arr true t x),AV.sl t x)
      | _=>none
    | .vL id _ _ lo len=>match m.at id with
      | .arr _ t x=>some (m.set id (.arr true t x),AV.sl t (A.s x lo (A.b .add .i64 lo len)))
      | _=>none
    | v=>some (m,v)) with
   | none=>none
   | some (m,v)=>match fU m vs with
     | none=>none
     | some (m,vs)=>some (m,v::vs)
def pF(t:Ty)(m:Mem)(v:AV):Option (List t.T):=
 match v with
 | .sl t' x=>if h:t'.beq t=true then some (Ty.eq_of_beq h▸x) else none
 | .gb _=>some []
 | .own id=>match m.at id with
   | .arr _ t' x=>if h:t'.beq t=true then some (Ty.eq_of_beq h▸x) else none
   | _=>none
 | .vL id sz c lo len=>match m.at id with
   | .arr _ t' x=>if h:t'.beq t=true then some (A.s (Ty.eq_of_beq h▸x) lo (A.b .add .i64 lo len)) else none
   | .ay _ cs=>match c&&Nat.beq sz t.size with
     | true=>match eF (lo.toNat*t.size) (len.toNat*t.size) cs with
       | some l=>match fU A m l with
         | some (_,l)=>match De (y8 t) len.toNat l with
           | some (x,_)=>some x
           | none=>none
         | none=>none
       | none=>none
     | false=>none
   | _=>none
 | _=>none
def pG(t:Ty)(m:Mem)(v:AV):Option Mem:=
 match v with
 | .vL id _ _ lo len=>match m.at id with
   | .ay _ cs=>match eF (lo.toNat*t.size) (len.toNat*t.size) cs with
      | some l=>match fU A m l with
        | some (m',_)=>some m'
        | none=>none
      | none=>none
   | _=>some m
 | _=>some m
def Mx(m:Mem)(p:AV)(a:List AV):Option Mem:=
 match p with
 | .ptr id off=>match m.at id with
   | .ay false cs=>match iw off a cs with
     | some b=>some (m.set id (.ay false b))
     | none=>none
   | _=>none
 | .kX id i off=>match fU A m a with
   | none=>none
   | some (m,a)=>match m.at id with
     | .arr false t x=>match iw off a (lh A t (A.n t x i)) with
       | some b=>match y8 t b with
         | some (y, [])=>some (m.set id (.arr false t (A.set x i y)))
         | _=>none
       | none=>none
     | _=>none
 | .y_ id off k t i=>match fU A m a with
   | none=>none
   | some (m,a)=>match m.at id with
     | .ay false cs=>match eF off (k*t.size) cs with
       | some l=>match De (y8 t) k l,y8 t a with
         | some (x,_),some (y, [])=>match iw off (lh A (.arr k t) (A.set x i y)) cs with
           | some b=>some (m.set id (.ay false b))
           | none=>none
         | _,_=>none
       | none=>none
     | _=>none
 | _=>none
def AL(m:Mem):List AV->Bool
 | []=>true
 | v::vs=>v.known m&&(v.Zf&&AL m vs)
def K5(a:Option TI)(m:Mem)(p v:AV):TV Mem:=
 match a with
 | none=>.bZ 80
 | some a=>match v.known m&&(Nat.beq v.cells.length a.size&&AL m v.cells) with
   | false=>.bZ 81
   | true=>Gr 82 (Mx A m p v.cells)
def room(a:Nat)(n:Int):Bool:=A.c .leq (A.b .mul .i64 n a) 140737488355328
def BJ(t:Ty)(m:Mem)(v:AV):Option (AV×Mem):=
 match v with
 | .vL id sz true lo n=>match m.at id with
   | .ay false cs=>match decide (lo=0)&&(Nat.beq cs.length (n.toNat*t.size)&&(Nat.beq sz t.size && !Nat.beq t.size 0)) with
     | true=>match Nat.beq n.toNat 0 with
       | true=>some (.gb false,m)
       | false=>match fU A m cs with
         | some (m',a)=>match De (y8 t) n.toNat a with
           | some (x, [])=>some (.own m'.length,m'.set id .a_ ++ [.arr false t x])
           | _=>none
         | none=>none
     | false=>none
   | _=>none
 | v=>some (v,m)
def Cw(t:Ty)(m:Mem)(v:AV):Option (AV×Mem):=
 match v with
 | .vL id sz c lo n=>match m.at id with
   | .ay _ cs=>match Nat.beq sz t.size&&(!Nat.beq t.size 0&&Nat.beq cs.length (cs.length/t.size*t.size)) with
     | true=>match fU A m cs with
       | some (m',a)=>match De (y8 t) (cs.length/t.size) a with
         | some (x, [])=>some (.sl t (match c&&(decide (lo=0)&&decide (n=(cs.length/t.size:Nat))) with|true=>x|false=>A.s x lo (A.b .add .i64 lo n)),m'.set id (.ay true a))
         | _=>none
       | none=>none
     | false=>none
   | _=>none
 | _=>none
def Cv(t:Ty)(m:Mem)(v:AV):Option (AV×Mem):=
 match Cw A t m v with
 | some r=>some r
 | none=>none
def Gh:AV->Option Bool
 | .vL _ _ true _ n=>some (decide (n=0))
 | .gb _=>some true
 | _=>none
def CB(t:Ty)(a:Nat)(m:Mem)(c:AV)(y:List t.T)(e:Option Bool):TV (AV×Mem):=
  match BJ A t m c with
  | none=>.bZ 85
  | some (c,m)=>match c with
    | .gb b=>match e with
      | some true=>.leaf (.gb b,m)
      | some false=>.ar (A.c .leq (A.l y) (140737488355328/(a.max 1:Nat))) (.leaf (.own m.length,m ++ [.arr false t y]))
      | none=>.br (A.c .eql (A.l y) 0) (.leaf (.gb b,m)) (.ar (A.c .leq (A.l y) (140737488355328/(a.max 1:Nat))) (.leaf (.own m.length,m ++ [.arr false t y])))
    | .own id=>match m.at id with
      | .arr false t' x=>if h:t'.beq t=true then
         .ar (A.c .leq (A.l (A.p (Ty.eq_of_beq h▸x) y)) (140737488355328/(a.max 1:Nat)))
          (.leaf (.own m.length,m.set id .a_ ++ [.arr false t (A.p (Ty.eq_of_beq h▸x) y)]))
        else .bZ 83
      | _=>.bZ 84
    | _=>.bZ 85
def Fv(t:Ty)(a:Nat)(m:Mem)(b src:AV):TV (AV×Mem):=
 match pF A t m src,pG A t m src with
 | some y,some m=>CB A t a m b y (Gh src)
 | _,_=>.bZ 86
def PE(t:Ty)(m:Mem)(a src:AV):TV (AV×Mem):=
 match pF A t m src,pG A t m src with
 | some y,some m=>
   match a with
   | .own id=>match m.at id with
     | .arr false t' x=>if h:t'.beq t=true then
        let z:List t.T:=Ty.eq_of_beq h▸x
        let n:=A.mn (A.l y) (A.l z)
        .leaf (.int .i64 false n,m.set id (.arr false t (A.spl z 0 (A.s y 0 n))))
       else .bZ 87
     | _=>.bZ 88
   | .vL id _ false lo len=>match m.at id with
     | .arr false t' x=>if h:t'.beq t=true then
        let z:List t.T:=Ty.eq_of_beq h▸x
        let n:=A.mn (A.l y) len
        .leaf (.int .i64 false n,m.set id (.arr false t (A.spl z lo (A.s y 0 n))))
       else .bZ 89
     | _=>.bZ 90
   | _=>.bZ 91
 | _,_=>.bZ 92
def KY(t:Ty)(m:Mem)(a:AV):TV (AV×Mem):=
 match a with
 | .vL id _ false lo len=>match m.at id with
   | .arr false t' x=>if h:t'.beq t=true then
      .leaf (.yM [],m.set id (.arr false t (A.spl (Ty.eq_of_beq h▸x) lo (A.r len t.gw))))
     else .bZ 119
   | _=>.bZ 120
 | _=>.bZ 121
mutual
def Ty.leaves:Ty->List (Option Ty)
 | .slice t=>[some t]
 | .arr n t=>(List.replicate n t.leaves).flatten
 | .struct ts=>Ty.Ln ts
 | _=>[none]
def Ty.Ln:List Ty->List (Option Ty)
 | []=>[]
 | t::ts=>t.leaves++Ty.Ln ts
end
def aku:iM->Bool
 | .ay _ _=>true
 | _=>false
def BH(k:Option Ty)(m:Mem)(v:AV):Option (AV×Mem):=
 match k,v with
 | some t,.vL id sz c lo n=>match aku (m.at id) with
   | true=>Cv A t m (.vL id sz c lo n)
   | false=>some (.vL id sz c lo n,m)
 | _,v=>some (v,m)
def Gv:List (Option Ty)->Mem->List AV->Option (Mem×List AV)
 | [],m,cs=>some (m,cs)
 | _::_,m, []=>some (m, [])
 | k::ks,m,v::vs=>match BH A k m v with
   | none=>none
   | some (v,m)=>match Gv ks m vs with
     | none=>none
     | some (m,vs)=>some (m,v::vs)
def Qo(t:Option Ty)(n:Nat)(m:Mem)(a:List AV):Option (Mem×List AV):=
 match t with
 | none=>some (m,a)
 | some t=>Gv A (List.replicate n t.leaves).flatten m a
def agz(q:Bool)(a:TV (AV×Mem)):TV (AV×Mem):=
 match q with
 | false=>a
 | true=>match a with
   | .br b _ e=>.ar (A.not b) e
   | .leaf (.gb _,_)=>.bZ 118
   | a=>a
def K6(q:Bool)(m:Mem)(v:AV):AV×Mem:=
 match q with
 | false=>(v,m)
 | true=>match v with
   | .vL id _ _ lo n=>match m.at id with
     | .arr false t x=>match decide (lo=0) with
       | true=>(.own m.length,m.set id .a_ ++ [.arr false t (A.s x 0 n)])
       | false=>(v,m)
     | _=>(v,m)
   | v=>(v,m)
def xf{R:Type}(E:kF R)(fn:FuncId)(ρ:Operand->AV)(m:Mem)(o:Oper):TV (AV×Mem):=
 match o.op with
 | .alloc t=>match E.ti.get t with
   | some ti=>.leaf (.ptr m.length 0,m ++ [.ay false ti.zero])
   | none=>.bZ 100
 | .box _ x=>match (ρ x).known m with
   | true=>.leaf (.ptr m.length 0,m ++ [.ay (Fq E.consts fn o.dst) (ρ x).cells])
   | false=>.bZ 99
 | .buildSlice t n ps=>match E.ti.get t with
   | some {kind:=.slice e,.. }=>match E.ti.get e with
     | some te=>match FF m te.size (ps.toList.map λp=>(p.1,ρ p.2)) ((List.replicate n te.zero).flatten) with
       | some cs=>match Nat.ble (n*te.size) 16777216&&Nat.ble n 140737488355328 with
         | true=>match Qo A te.ty n m cs with
           | some (m,cs)=>.leaf (.vL m.length te.size true 0 n,m ++ [.ay false cs])
           | none=>.bZ 101
         | false=>.bZ 101
       | none=>.bZ 101
     | none=>.bZ 102
   | _=>.bZ 103
 | .makeSlice t l c=>match E.ti.get t with
   | some {kind:=.slice e,.. }=>match E.ti.get e with
     | some {ty:=some t,bytes,.. }=>match ρ l,ρ c with
       | .int _ _ n,.int _ _ n'=>.ar (match Lf E.stops fn (some 1000000) with
          | true=>A.and (A.c .leq n n') (A.and (A.c .leq 0 n) (A.c .leq n' (140737488355328/(bytes.max 1:Nat))))
          | false=>A.and (A.c .eql n n') (A.and (A.c .leq 0 n) (A.c .leq n (140737488355328/(bytes.max 1:Nat)))))
          (.leaf (.own m.length,m ++ [.arr false t (A.r n t.gw)]))
       | _,_=>.bZ 104
     | _=>.bZ 105
   | _=>.bZ 106
 | .store t p x=>match K6 A (Lf E.stops fn (some 1000000)) m (ρ x) with
   | (v,m)=>(K5 A (E.ti.get t) m (ρ p) v).map λm=>(.undef,m)
 | .call {callee:=.builtin .append,args,argTypes}=>match args.toList,argTypes.toList with
   | [d,s],t::t'::_=>match E.ti.get t,E.ti.get t' with
     | some {kind:=.slice e,.. },some {kind:=.slice _,.. }=>match E.ti.get e with
       | some {ty:=some t,bytes,.. }=>agz A (Lf E.stops fn o.dst) (Fv A t bytes m (ρ d) (ρ s))
       | _=>.bZ 107
     | _,_=>.bZ 109
   | _,_=>.bZ 110
 | .call {callee:=.builtin .copy,args,argTypes}=>match args.toList,argTypes.toList with
   | [d,s],t::t'::_=>match E.ti.get t,E.ti.get t' with
     | some {kind:=.slice e,.. },some {kind:=.slice _,.. }=>match E.ti.get e with
       | some {ty:=some t,.. }=>PE A t m (ρ d) (ρ s)
       | _=>.bZ 111
     | _,_=>.bZ 112
   | _,_=>.bZ 113
 | .call {callee:=.builtin .clear,args,argTypes}=>match args.toList,argTypes.toList with
   | [d],t::_=>match E.ti.get t with
     | some {kind:=.slice e,.. }=>match E.ti.get e with
       | some {ty:=some t,.. }=>KY A t m (ρ d)
       | _=>.bZ 122
     | _=>.bZ 123
   | _,_=>.bZ 124
 | _=>.bZ 117
end
mutual
def Za:AV->List Nat
 | .own id=>[id]
 | .vL id _ _ _ _=>[id]
 | .ptr id _=>[id]
 | .kX id _ _=>[id]
 | .y_ id _ _ _ _=>[id]
 | .yield l=>[l]
 | .fn _ a b=>CO a++CO b
 | .agg cs=>CO cs
 | .yM cs=>CO cs
 | _=>[]
def CO:List AV->List Nat
 | []=>[]
 | v::vs=>Za v++CO vs
end
def idxOf:List Nat->Nat->Nat->Nat
 | [],_,k=>k
 | i::r,n,k=>match Nat.beq i n with|true=>k|false=>idxOf r n (k+1)
mutual
def nj(l:List Nat):AV->AV
 | .own id=>.own (idxOf l id 0)
 | .vL id sz _ lo len=>.vL (idxOf l id 0) sz false lo len
 | .ptr id off=>.ptr (idxOf l id 0) off
 | .kX id i off=>.kX (idxOf l id 0) i off
 | .y_ id off n t i=>.y_ (idxOf l id 0) off n t i
 | .yield id=>.yield (idxOf l id 0)
 | .fn f a b=>.fn f (uP l a) (uP l b)
 | .agg cs=>.agg (uP l cs)
 | .yM cs=>.yM (uP l cs)
 | .int k _ n=>.int k false n
 | .bool _ b=>.bool false b
 | .str _ s=>.str false s
 | .undef=>.undef
 | .sl t x=>.sl t x
 | .gb b=>.gb b
 | .pI t x off=>.pI t x off
 | .jB=>.jB
 | .tg=>.tg
def uP(l:List Nat):List AV->List AV
 | []=>[]
 | v::vs=>nj l v::uP l vs
end
def Lk:PT AV->List Nat
 | .leaf=>[]
 | .node l v r=>(match v with|some a=>Za a|none=>[])++(Lk l++Lk r)
def Bl:iM->List Nat
 | .ay _ cs=>CO cs
 | .loop r=>Lk r.env
 | _=>[]
def tf:List Nat->Nat->Bool
 | [],_=>false
 | i::r,n=>match Nat.beq i n with|true=>true|false=>tf r n
def oJ:List Nat->List Nat->List Nat
 | acc, []=>acc
 | acc,i::r=>match tf acc i with
   | true=>oJ acc r
   | false=>oJ (acc ++ [i]) r
def ob:Nat->Mem->List Nat->Nat->List Nat
 | 0,_,acc,_=>acc
 | f+1,m,acc,p=>match acc[p]? with
   | none=>acc
   | some id=>ob f m (oJ acc (Bl (m.at id))) (p+1)
def qB:dR->List Nat
 | .oP l=>[l]
 | .o7 l=>[l]
 | _=>[]
def uq(l:List Nat):dR->dR
 | .oP id=>.oP (idxOf l id 0)
 | .o7 id=>.o7 (idxOf l id 0)
 | x=>x
def GM(l:List Nat):PT AV->PT AV
 | .leaf=>.leaf
 | .node a v b=>.node (GM l a) (match v with|some x=>some (nj l x)|none=>none) (GM l b)
def p8(l:List Nat):iM->iM
 | .bZ=>.a_
 | .a_=>.a_
 | .ay fz cs=>.ay fz (uP l cs)
 | .arr fz t x=>.arr fz t x
 | .loop r=>.loop {r with env:=GM l r.env}
 | .Ie=>.Ie
 | .UH=>.UH
def S_(e:Env):List Nat->List Nat
 | []=>[]
 | i::r=>Za (e.at i)++S_ e r
def agF(i:Nat):Nat:=i%65536
def S9(e:Env)(i:Nat)(r:Env):Env:=
 match Nat.ble i 65535,e.at i with
 | true,.int k c n=>r.put i (.int k c n)
 | _,_=>r
def uf(l:List Nat)(e:Env):List Nat->Env
 | []=>.leaf
 | i::r=>match Nat.ble i 65535 with
   | true=>(uf l e r).put i (nj l (e.at i))
   | false=>S9 e (agF i) (uf l e r)
def p9:List (List Nat)->List dK->List Nat
 | _, []=>[]
 | ks,f::fs=>S_ f.env (ks.headD [])++(f.marks++((match f.gi with|some l=>[l]|none=>[])++(f.todo.flatMap qB++p9 ks.tail fs)))
def sD(l:List Nat):List (List Nat)->List dK->List dK
 | _, []=>[]
 | ks,f::fs=>{f with env:=uf l f.env (ks.headD []),todo:=f.todo.map (uq l),marks:=f.marks.map (idxOf l · 0),gi:=f.gi.map (idxOf l · 0)}::sD l ks.tail fs
def canon(k:Nat)(a:List (List Nat))(c:iB):iB:=
 let l:=ob (c.mem.length+1) c.mem (oJ (List.range k) (p9 a c.bF)) 0
 {bF:=sD l a c.bF,mem:=(l.map λid=>p8 l (c.mem.at id)) ++ [.a_]}
def kH:Code->Option Nat
 | .region id _ _=>some id
 | .seq a b=>match kH a with|some i=>some i|none=>kH b
 | .block _ b=>kH b
 | .loop b=>kH b
 | .scope b=>kH b
 | .cond _ a b=>match kH a with|some i=>some i|none=>kH b
 | _=>none
def Da:List Stop->FuncId->Option Nat->Option (List (List Nat))
 | _,_,none=>none
 | [],_,_=>none
 | s::r,f,some i=>match Nat.beq s.fn f,Nat.beq s.rid i with
   | true,true=>some s.keep
   | _,_=>Da r f (some i)
def NV:Option Code->Bool
 | none=>true
 | some _=>false
def Ge:Option Code->Nat
 | none=>0
 | some _=>2
def mq(id:Nat):List dR->Option (List dR)
 | .inBlock a::k=>match Nat.beq a id with|true=>some k|false=>mq id k
 | _::k=>mq id k
 | []=>none
def mr(l:Nat):List dR->Option (List dR)
 | .inScope body::k=>match findLabel body l with
   | some rest=>some (.code rest :: .inScope body::k)
   | none=>mr l k
 | _::k=>mr l k
 | []=>none
def kQ:List Ty->List AV->Bool
 | [], []=>true
 | t::ts,v::vs=>(match t.isAgg,v with
   | true,.agg cs=>Nat.beq cs.length t.size
   | true,_=>false
   | false,.agg _=>false
   | false,_=>true)&&kQ ts vs
 | _,_=>false
def ib(A:aU):(a:List Ty)->Ty.Ts a->List AV
 | [],_=>[]
 | [t],x=>[UI A t x]
 | t::b::a,x=>UI A t (Prod.fst (α:=t.T) (β:=Ty.Ts (b::a)) x)::ib A (b::a) (Prod.snd (α:=t.T) (β:=Ty.Ts (b::a)) x)
def gQ:List AV->AV
 | [v]=>v
 | vs=>.yM vs
def fA(A:aU)(b:List Ty)(m:Mem)(a:List AV):Option (Mem×List AV):=
 match Gv A (Ty.Ln b) m a with
 | none=>none
 | some (m,a)=>fU A m a
def ZI{α:Type}(a b:Bool)(t:TV α):TV α:=
 match a with
 | true=>t
 | false=>.ar b t
def vB(A:aU)(s:aK)(m:Mem)(a:List AV):TV (AV×Mem):=
 match kQ s.args a with
 | false=>.bZ 120
 | true=>match fA A s.args m (a.flatMap AV.cells) with
   | none=>.bZ 121
   | some (m,cs)=>match qM s.args cs with
     | some (x, [])=>ZI s.Na (A.k s.pre x) (.leaf (gQ (ib A s.res (A.k s.fn x)),m))
     | _=>.bZ 122
def KW(A:aU)(s:qs)(m:Mem)(a:List AV):TV (AV×Mem):=
 match a with
 | .ptr id 0::rest=>match m.at id with
   | .ay _ cs=>match y8 s.view cs with
     | some (x, [])=>match kQ s.args rest with
       | false=>.bZ 123
       | true=>match fA A s.args m (rest.flatMap AV.cells) with
         | none=>.bZ 124
         | some (m,cs)=>match qM s.args cs,Ty.mV s.res with
           | some (y, []),true=>.ar (A.k s.pre (x,y)) (.leaf (gQ (ib A s.res (A.k s.fn (x,y))),m))
           | _,_=>.bZ 125
     | _=>.bZ 126
   | _=>.bZ 127
 | _=>.bZ 128
def nQ:List Nat->Bool
 | []=>true
 | i::is=>!tf is i&&nQ is
mutual
def VF.read(m:Mem):(f:VF)->List AV->Option (f.ty.T×List Nat×List AV)
 | .d t,cs=>match y8 t cs with
   | some (x,r)=>some (x, [],r)
   | none=>none
 | .own t,cs=>match cs with
   | []=>none
   | v::r=>match v with
     | .own id=>match m.at id with
       | .arr false t' x=>if h:t'.beq t=true then some ((Ty.eq_of_beq h▸x:List t.T), [id],r) else none
       | _=>none
     | .gb _=>some (([]:List t.T), [],r)
     | _=>none
 | .fix _ t,cs=>match cs with
   | []=>none
   | v::r=>match v with
     | .own id=>match m.at id with
       | .arr false t' x=>if h:t'.beq t=true then some ((Ty.eq_of_beq h▸x:List t.T), [id],r) else none
       | _=>none
     | _=>none
 | .ptr fs,cs=>match cs with
   | []=>none
   | v::r=>match v with
     | .ptr id off=>match off,m.at id with
       | 0,.ay false l=>match VF.reads m fs l with
         | some (x,ids, [])=>some (x,id::ids,r)
         | _=>none
       | _,_=>none
     | _=>none
 | .nP fs,cs=>match cs with
   | []=>none
   | v::r=>match v with
     | .ptr id off=>match off,m.at id with
       | 0,.ay true l=>match VF.reads m fs l with
         | some (x,ids, [])=>some (x,ids,r)
         | _=>none
       | _,_=>none
     | _=>none
def VF.reads(m:Mem):(c:List VF)->List AV->Option (Ty.Ts (VF.iq c)×List Nat×List AV)
 | [],cs=>some ((), [],cs)
 | [f],cs=>VF.read m f cs
 | f::g::c,cs=>match VF.read m f cs with
   | none=>none
   | some (x,a,r)=>match VF.reads m (g::c) r with
     | none=>none
     | some (y,b,r)=>some ((x,y),a++b,r)
end
mutual
def VF.fx(m:Mem):VF->List AV->List (Nat×Nat)
 | .fix k _,cs=>match cs with
   | .own id::_=>[(k,id)]
   | _=>[]
 | .ptr fs,cs=>match cs with
   | .ptr id _::_=>match m.at id with
     | .ay _ l=>VF.yp m fs l
     | _=>[]
   | _=>[]
 | .nP fs,cs=>match cs with
   | .ptr id _::_=>match m.at id with
     | .ay _ l=>VF.yp m fs l
     | _=>[]
   | _=>[]
 | _,_=>[]
def VF.yp(m:Mem):List VF->List AV->List (Nat×Nat)
 | [],_=>[]
 | f::fs,cs=>VF.fx m f cs++match VF.read m f cs with
   | some (_,_,r)=>VF.yp m fs r
   | none=>[]
end
mutual
def VF.Gf:VF->List Nat
 | .fix k _=>[k]
 | .ptr fs=>VF.iU fs
 | .nP fs=>VF.iU fs
 | _=>[]
def VF.iU:List VF->List Nat
 | []=>[]
 | f::fs=>f.Gf++VF.iU fs
end
mutual
def VF.rows:(f:VF)->f.ty.T->List (Nat×iM)
 | .fix k t,x=>[(k,.arr false t x)]
 | .ptr fs,x=>VF.gn fs x
 | .nP fs,x=>VF.gn fs x
 | _,_=>[]
def VF.gn:(a:List VF)->Ty.Ts (VF.iq a)->List (Nat×iM)
 | [],_=>[]
 | [f],x=>VF.rows f x
 | f::g::a,x=>VF.rows f (Prod.fst (α:=f.ty.T) (β:=Ty.Ts (VF.iq (g::a))) x)++VF.gn (g::a) (Prod.snd (α:=f.ty.T) (β:=Ty.Ts (VF.iq (g::a))) x)
end
mutual
def VF.neT(A:aU){α:Type}:(f:VF)->f.ty.T->TV α->TV α
 | .fix _ t,x,k=>.ar (A.c .neq (A.l (show List t.T from x)) 0) k
 | .ptr fs,x,k=>VF.ZH A fs x k
 | .nP fs,x,k=>VF.ZH A fs x k
 | _,_,k=>k
def VF.ZH(A:aU){α:Type}:(a:List VF)->Ty.Ts (VF.iq a)->TV α->TV α
 | [],_,k=>k
 | [f],x,k=>VF.neT A f x k
 | f::g::a,x,k=>VF.neT A f (Prod.fst (α:=f.ty.T) (β:=Ty.Ts (VF.iq (g::a))) x) (VF.ZH A (g::a) (Prod.snd (α:=f.ty.T) (β:=Ty.Ts (VF.iq (g::a))) x) k)
end
def ake(fx:List (Nat×Nat))(k:Nat):AV:=
 match look fx k with
 | some id=>.own id
 | none=>.undef
def F5(fx:List (Nat×Nat))(rows:List (Nat×iM))(i:Nat):Option iM:=
 match fx with
 | []=>none
 | (k,id)::fx=>match Nat.beq id i with
   | true=>look rows k
   | false=>F5 fx rows i
mutual
def VF.write(A:aU)(g:Nat->AV):(f:VF)->f.ty.T->Mem->Mem×List AV
 | .d t,x,m=>(m,lh A t x)
 | .own t,x,m=>(m ++ [.arr false t x], [.own m.length])
 | .fix k _,_,m=>(m, [g k])
 | .ptr fs,x,m=>match VF.writes A g fs x m with
   | (m',cs)=>(m' ++ [.ay false cs], [.ptr m'.length 0])
 | .nP _,_,m=>(m, [.undef])
def VF.writes(A:aU)(g:Nat->AV):(c:List VF)->Ty.Ts (VF.iq c)->Mem->Mem×List AV
 | [],_,m=>(m, [])
 | [f],x,m=>VF.write A g f x m
 | f::h::c,x,m=>match VF.write A g f (Prod.fst (α:=f.ty.T) (β:=Ty.Ts (VF.iq (h::c))) x) m with
   | (m1,a)=>match VF.writes A g (h::c) (Prod.snd (α:=f.ty.T) (β:=Ty.Ts (VF.iq (h::c))) x) m1 with
     | (m2,b)=>(m2,a++b)
end
def VF.back(A:aU)(g:Nat->AV):(f:VF)->AV->f.ty.T->Mem->Option Mem
 | .ptr fs,v,x,m=>match v with
   | .ptr id _=>match VF.writes A g fs x m with
     | (m',cs)=>some (m'.set id (.ay false cs))
   | _=>none
 | .nP fs,v,x,m=>match v with
   | .ptr id _=>match VF.writes A g fs x m with
     | (m',cs)=>some (m'.set id (.ay true cs))
   | _=>none
 | _,_,_,_=>none
def VF.Jz(A:aU)(g:Nat->AV):(a:List VF)->List AV->Ty.Ts (VF.iq a)->Mem->Option Mem
 | [],_,_,m=>some m
 | [f],vs,x,m=>match vs with
   | v::_=>VF.back A g f v x m
   | []=>none
 | f::h::a,vs,x,m=>match vs with
   | v::vs=>match VF.back A g f v (Prod.fst (α:=f.ty.T) (β:=Ty.Ts (VF.iq (h::a))) x) m with
     | some m=>VF.Jz A g (h::a) vs (Prod.snd (α:=f.ty.T) (β:=Ty.Ts (VF.iq (h::a))) x) m
     | none=>none
   | []=>none
def im:List VF->Bool
 | []=>true
 | f::fs=>match f with
   | .ptr _=>im fs
   | .nP _=>im fs
   | _=>false
def fP:List AV->List Nat
 | []=>[]
 | v::vs=>match v with
   | .ptr id _=>id::fP vs
   | _=>fP vs
def yd(rows:Nat->Option iM)(roots:List Nat)(i:Nat)(b:iM):iM:=
 match rows i with
 | some bx=>bx
 | none=>match tf roots i,b with
   | true,.ay _ cs=>.ay false (List.replicate cs.length .undef)
   | _,_=>.a_
def B_(rows:Nat->Option iM)(roots:List Nat):List Nat->Mem->Mem
 | [],m=>m
 | i::r,m=>B_ rows roots r (m.set i (yd rows roots i (m.at i)))
def P7:VF->AV->Mem->Mem
 | .nP _,v,m=>match v with
   | .ptr id _=>match m.at id with
     | .ay _ cs=>m.set id (.ay true cs)
     | _=>m
   | _=>m
 | _,_,m=>m
def yq:List VF->List AV->Mem->Mem
 | [],_,m=>m
 | f::fs,vs,m=>match vs with
   | v::vs=>yq fs vs (P7 f v m)
   | []=>m
def av9(c:Bool)(b:List AV)(v:AV):AV:=
 match c with
 | false=>v
 | true=>match b with
   | a::_=>a
   | []=>.undef
def Xn(A:aU)(s:bV)(fx:List (Nat×Nat))(a:List AV)(x:Ty.Ts (VF.iq s.aM))(ids:List Nat)(m:Mem):Option Mem:=
 VF.Jz A (ake fx) s.aM a x (B_ (F5 fx (VF.gn s.aM x)) (fP a) ids m)
def KU(A:aU)(s:bV)(m:Mem)(a:List AV):TV (AV×Mem):=
 match kQ s.args (a.drop s.aM.length) with
 | false=>.bZ 190
 | true=>match fA A s.args m ((a.drop s.aM.length).flatMap AV.cells) with
   | none=>.bZ 191
   | some (m,cs)=>match qM s.args cs with
     | some (y, [])=>match VF.reads (yq s.aM (a.take s.aM.length) m) s.aM (a.take s.aM.length) with
       | some (x,ids, [])=>match nQ ids&&(nQ (fP (a.take s.aM.length))&&(im s.aM&&nQ (VF.iU s.aM))) with
         | false=>.bZ 192
         | true=>match Xn A s (VF.yp (yq s.aM (a.take s.aM.length) m) s.aM (a.take s.aM.length)) (a.take s.aM.length) (A.k s.fn (x,y)).1 ids (yq s.aM (a.take s.aM.length) m) with
           | some m=>ZI s.Na (A.k s.pre (x,y)) (VF.ZH A s.aM x (.leaf (av9 s.rp a (gQ (ib A s.res (A.k s.fn (x,y)).2)),m)))
           | none=>.bZ 193
       | _=>.bZ 194
     | _=>.bZ 195
def Le:List FuncId->List AV->Bool
 | [],vs=>match vs with | []=>true|_=>false
 | f::fs,vs=>match vs with
   | []=>false
   | v::vs=>match v with
     | .fn g [] []=>Nat.beq g f&&Le fs vs
     | _=>false
def KT(A:aU)(s:gL)(m:Mem)(a:List AV):TV (AV×Mem):=
 match a with
 | []=>.bZ 200
 | v::rest=>match kQ s.args (rest.take s.args.length)&&Le s.lL (rest.drop s.args.length) with
   | false=>.bZ 201
   | true=>match fA A s.args m ((rest.take s.args.length).flatMap AV.cells) with
     | none=>.bZ 202
     | some (m,cs)=>match qM s.args cs with
       | some (y, [])=>match v with
         | .own id=>match m.at id with
           | .arr false t x=>if h:t.beq s.elem=true then
              .ar (A.k s.pre ((Ty.eq_of_beq h▸x:List s.elem.T),y)) (.leaf (gQ (ib A s.res (A.k s.fn ((Ty.eq_of_beq h▸x:List s.elem.T),y)).2),m.set id (.arr false s.elem (A.k s.fn ((Ty.eq_of_beq h▸x:List s.elem.T),y)).1)))
             else .bZ 203
           | _=>.bZ 204
         | .gb _=>.ar (A.k s.pre (([]:List s.elem.T),y)) (.leaf (gQ (ib A s.res (A.k s.fn (([]:List s.elem.T),y)).2),m))
         | _=>.bZ 205
       | _=>.bZ 206
def KV(A:aU)(s:o4)(m:Mem)(a:List AV):TV (AV×Mem):=
 match kQ s.args a with
 | false=>.bZ 210
 | true=>match fA A s.args m (a.flatMap AV.cells) with
   | none=>.bZ 211
   | some (m,cs)=>match qM s.args cs with
     | some (x, [])=>match VF.write A (λ_=>.undef) s.out (A.k s.fn x).2.1 m with
       | (m', [v])=>.ar (A.k s.pre x) (match s.opt with
         | false=>.leaf (gQ (v::ib A s.res (A.k s.fn x).2.2),m')
         | true=>.br (A.k s.fn x).1 (.leaf (gQ (v::ib A s.res (A.k s.fn x).2.2),m')) (.leaf (gQ (.jB::ib A s.res (A.k s.fn x).2.2),m)))
       | _=>.bZ 213
     | _=>.bZ 212
def sO(A:aU){R:Type}(E:kF R)(g:FuncId)(m:Mem)(a:List AV):Option (TV (AV×Mem)):=
 match look E.uN g with
 | some s=>some (KW A s m a)
 | none=>match look E.uM g with
   | some s=>some (KU A s m a)
   | none=>match look E.uL g with
     | some s=>some (KT A s m a)
     | none=>match look E.ops g with
       | some s=>some (KV A s m a)
       | none=>none
def acs{α:Type}:TV α->Option α
 | .leaf a=>some a
 | _=>none
def A1(A:aU){R:Type}(E:kF R)(b:Env)(m:Mem):ResultVar->Option AV
 | .tmp t=>some (b.at t)
 | .cell a t=>acs (Fy A (E.ti.get t) m (b.at a))
def qz(A:aU){R:Type}(E:kF R)(a:Env)(m:Mem):List ResultVar->Option (List AV)
 | []=>some []
 | r::rs=>match A1 A E a m r with
   | none=>none
   | some v=>match qz A E a m rs with
     | none=>none
     | some vs=>some (v::vs)
def su:List Nat->Mem->Option Mem
 | [],m=>some m
 | d::ds,m=>match m.at d with
   | .Ie=>su ds (m.set d .UH)
   | _=>none
def sN(n:Nat):Option Nat->Bool
 | none=>true
 | some d=>Nat.blt d n
def finish(g:dK)(v:AV):Option dK:=
 match g.todo with
 | .ops all (o::rest)::k=>match sN g.n o.dst with
   | true=>some {g with env:=g.env.ov o.dst v,todo:=.ops all rest::k}
   | false=>none
 | .rS all ms i rest bs::k=>match all[i]? with
   | some o=>match sN g.n o.dst with
     | true=>some {g with env:=g.env.ov o.dst v,todo:=.jI all ms rest bs::k}
     | false=>none
   | none=>none
 | .oP l::k=>some {g with todo:=.o7 l::k}
 | _=>none
def jh(f:FuncId)(F:Func)(a:List AV):Option dK:=
 match F.body with
 | none=>none
 | some b=>match Nat.ble a.length F.ntmps,Nat.ble F.ntmps 65535 with
   | true,true=>some {fn:=f,n:=F.ntmps,env:=Env.of 0 a .leaf,todo:=[.code b],marks:=[],gi:=none}
   | _,_=>none
def Ak:List Nat->List AV->Env->Env
 | [],_,e=>e
 | _, [],e=>e
 | i::is,v::vs,e=>Ak is vs (e.put i v)
def uF(e:Edge):Bool:=
 match e.ground with
 | .textOnly _=>false
 | .gcOnly _=>false
 | _=>true
def pU(a:List Nat):List Edge->Nat
 | []=>0
 | e::es=>match uF e with
   | true=>(2^e.on ||| a.getD e.on 0) ||| pU a es
   | false=>pU a es
def oB:List Oper->List Nat->List Nat
 | [],ms=>ms
 | o::os,ms=>oB os (ms ++ [pU ms o.after.toList])
def pO:Nat->List Oper->Bool
 | _, []=>true
 | i,o::os=>o.after.toList.all (λe=>!uF e||Nat.blt e.on i)&&pO (i+1) os
def tmpsOf:List Operand->List Nat
 | []=>[]
 | x::r=>match x with
   | .tmp t=>t::tmpsOf r
   | _=>tmpsOf r
def iv(all:Array Oper)(o:Oper):List Nat:=
 match o.guard with
 | none=>[]
 | some (j,_)=>match all[j]? with
   | none=>[]
   | some p=>match p.dst with
     | some d=>[d]
     | none=>[]
def kL(all:Array Oper)(o:Oper):List Nat:=tmpsOf o.op.operands.toList++iv all o
def isDst(d:Nat):Option Nat->Bool
 | some x=>Nat.beq x d
 | none=>false
def Bz(all:Array Oper)(bs:List Nat)(d:Nat):Bool:=
 bs.all λb=>match all[b]? with
  | some o=>!tf (kL all o) d
  | none=>false
def Qg(all:Array Oper)(bs:List Nat)(d:Nat):Bool:=
 bs.all λb=>match all[b]? with
  | some o=>!isDst d o.dst
  | none=>false
def uJ(all:Array Oper)(bs:List Nat):Option Nat->Bool
 | none=>true
 | some d=>Bz all bs d&&Qg all bs d
def Z3(all:Array Oper)(m:Nat)(bs:List Nat)(o:Oper):Bool:=
 bs.all λb=>match all[b]? with
  | some p=>match p.dst with
    | some d=>!tf (kL all o) d||m.testBit b
    | none=>true
  | none=>false
def Gw(all:Array Oper)(o:Oper):Bool:=
 match o.dst with
 | none=>true
 | some d=>!tf (kL all o) d
def yr(m:Nat)(o:Oper):Bool:=
 match o.guard with
 | none=>true
 | some (j,_)=>m.testBit j
def oX:AV->AV->Prop
 | .bool _ a,.bool _ b=>a=b
 | .int k _ a,.int k' _ b=>k=k'/\a=b
 | x,y=>x=y
def vV(a:Env):Option Nat->AV->Prop
 | none,_=>True
 | some d,v=>oX v (a.at d)
def aoy(a:List (FuncId×aK)):Op->Bool
 | .move _=>true | .assign _=>true | .pick _ _ _=>true | .load _ _=>true | .nilCheck _=>true | .binOp _ _ _ _ _=>true | .unOp _ _ _=>true
 | .convert _ _ _=>true | .makeFunc _ _ _=>true | .slice _ _ _ _ _=>true | .fieldAddr _ _ _=>true | .field _ _ _=>true | .indexAddr _ _ _=>true | .index _ _ _=>true
 | .extract _ _=>true | .build _ _=>true
 | .call c=>match c.callee with
   | .builtin b=>match b with | .len=>true | .min=>true | .max=>true|_=>false
   | .value x=>match x with | .func f=>(match look a f with|some _=>true|none=>false)|_=>false
   | _=>false
 | _=>false
def Z9(a:List (FuncId×aK))(all:Array Oper)(b:List Nat)(left:Nat):List Nat->Option Nat
 | []=>none
 | i::is=>match Nat.beq (b.getD i 0 &&& left) 0,all[i]? with
   | true,some o=>match aoy a o.op with|true=>some i|false=>Z9 a all b left is
   | _,_=>Z9 a all b left is
def uY:List Nat->Nat->List Nat
 | [],_=>[]
 | i::is,n=>match Nat.beq i n with|true=>is|false=>i::uY is n
def eager(a:List (FuncId×aK))(all:Array Oper)(b:List Nat):Nat->Nat->List Nat->List Nat
 | 0,_,_=>[]
 | f+1,left,is=>match Z9 a all b left is with
   | some i=>i::eager a all b f (left-2^i) (uY is i)
   | none=>match is with
     | []=>[]
     | i::is=>i::eager a all b f (left-2^i) is
def qy(e:List (FuncId×aK))(a:Array Oper):Option (List Nat×List Nat):=
 let c:=oB a.toList []
 let b:=eager e a c a.size (2^a.size-1) (List.range a.size)
 match pO 0 a.toList&&(nQ b&&(b.all (λi=>Nat.blt i a.size)&&(List.range a.size).all (λi=>tf b i))) with
 | true=>some (c,b)
 | false=>none
def uE(j:Nat)(a:List Nat):Nat->List Nat->List Nat
 | _, []=>[]
 | k,m::ms=>(match tf a k && !Nat.beq k j with|true=>m ||| 2^j|false=>m)::uE j a (k+1) ms
def R3:List Nat->Nat
 | []=>0
 | i::r=>2^i ||| R3 r
def QU(c a:List Nat)(j:Nat):Bool:=a.all λb=>!(c.getD j 0).testBit b
def Tj(e:List (FuncId×aK))(all:Array Oper)(f a:List Nat)(j:Nat):Option (List Nat×List Nat):=
 let r:=uY a j
 let b:=uE j a 0 f
 let c:=eager e all b r.length (R3 r) r
 match nQ (j::c)&&(c.all (λi=>tf r i)&&r.all (λi=>tf c i)) with
 | true=>some (b,j::c)
 | false=>none
def Nj{R:Type}(K:Nat->Tr R):List Nat->Tr R
 | []=>.bZ 181 ""
 | j::js=>match js with
   | []=>K j
   | _::_=>.and (K j) (Nj K js)
def sL(m:Nat)(bs:List Nat):List Nat:=bs.filter λb=>!m.testBit b
def qA(all:Array Oper)(a:Env)(o:Oper):Option Bool:=
 match o.guard with
 | none=>some true
 | some (j,want)=>match all[j]? with
   | none=>none
   | some p=>match p.dst with
     | none=>none
     | some d=>match a.at d with
       | .bool c v=>match c with
         | true=>match v,want with
           | true,true=>some true
           | false,false=>some true
           | _,_=>some false
         | false=>none
       | .yM []=>some false
       | _=>none
section
variable (A:aU) {R:Type} (E:kF R)
def EL(all:Array Oper)(a:Env)(o:Oper)(b e:Env->Tr R):Tr R:=
 match o.guard with
 | none=>b a
 | some (j,want)=>match all[j]? with
   | none=>.bZ 130 o.pos
   | some p=>match p.dst with
     | none=>.bZ 131 o.pos
     | some d=>match a.at d with
       | .bool c v=>match c with
         | true=>match v,want with
           | true,true=>b a
           | false,false=>b a
           | _,_=>e a
         | false=>match want with
           | true=>.br v (b (a.put d (.bool true true))) (e (a.put d (.bool true false)))
           | false=>.br v (e (a.put d (.bool true true))) (b (a.put d (.bool true false)))
       | .yM []=>e a
       | _=>.bZ 132 o.pos
def AT(m:Mem)(ρ:Operand->AV)(o:Oper):Option (TV AV):=
 match o.op with
 | .call c=>match c.callee with
   | .value x=>match ρ x with
     | .fn g first a=>match look E.jZ g with
       | some s=>match uo ((first++(c.args.toList.map ρ++a)).flatMap AV.cells) with
         | true=>some ((vB A s m (first++(c.args.toList.map ρ++a))).map Prod.fst)
         | false=>none
       | none=>none
     | _=>none
   | _=>none
 | _=>none
def evV(m:Mem)(ρ:Operand->AV)(o:Oper):Option (TV AV):=
 match tP A E ρ m o with
 | some a=>some a
 | none=>AT A E m ρ o
def aaI(a:Env):Option Nat->AV->Tr R->Tr R
 | none,_,t=>t
 | some d,v,t=>.same v (a.at d) t
def xU(a:Env)(m:Mem)(all:Array Oper):List Nat->Tr R->Tr R
 | [],t=>t
 | b::bs,t=>match all[b]? with
   | none=>.bZ 170 ""
   | some o=>match qA all a o with
     | none=>.bZ 171 o.pos
     | some false=>aaI a o.dst (.yM []) (xU a m all bs t)
     | some true=>match evV A E m (mC a) o with
       | none=>.bZ 172 o.pos
       | some c=>c.bind o.pos λv=>aaI a o.dst v (xU a m all bs t)
def vZ(f:dK)(m:Mem)(t:Tr R):Tr R:=
 match f.todo with
 | .jI all _ _ bs::_=>xU A E f.env m all bs t
 | _=>t
def P8(all:Array Oper)(bs:List Nat)(a:Env)(o:Oper)(b c:Env->Tr R):Tr R:=
 match qA all a o with
 | some true=>b a
 | some false=>c a
 | none=>match iv all o with
   | [d]=>match Bz all bs d with
     | true=>EL all a o b c
     | false=>.bZ 173 o.pos
   | _=>.bZ 174 o.pos
def run:Nat->iB->Tr R
 | 0,c=>.ao c
 | n+1,c=>
   match c.bF with
   | []=>.bZ 140 ""
   | f::fs=>
     let back (g:dK) (D:List dK) (m:Mem):Tr R:=vZ A E g m (run n {bF:=g::D,mem:=m})
     let u (z:Option Code):Tr R:=
      match f.gi with
      | none=>match su f.marks c.mem with
        | none=>.bZ 139 ""
        | some m=>match look E.lL f.fn with
          | none=>.bZ 141 ""
          | some F=>match qz A E f.env m F.results.toList with
            | none=>.bZ 142 ""
            | some vs=>match fs with
              | []=>match E.fin (gQ vs) m with
                | some y=>.ret y
                | none=>.bZ 143 ""
              | g::D=>match finish g (gQ vs) with
                | some g=>back g D m
                | none=>.bZ 144 ""
      | some l=>match c.mem.at l with
        | .loop r=>match fs with
          | g::D=>match finish g (.bool true (NV z)) with
            | some g=>back g D (c.mem.set l (.loop {r with state:=Ge z,pending:=z}))
            | none=>.bZ 145 ""
          | []=>.bZ 146 ""
        | _=>.bZ 147 ""
     let enter (g:FuncId) (B:String) (H:List AV) (t:dK):Tr R:=
      match look E.lL g with
      | none=>.bZ 163 B
      | some G=>match jh g G H with
        | none=>.bZ 164 B
        | some h=>run n {bF:=h::t::fs,mem:=c.mem}
     let yield (l:Nat) (B:String) (H:List AV) (t:dK):Tr R:=
      match c.mem.at l with
      | .loop r=>match Nat.beq r.params.length H.length&&r.params.all (λp=>Nat.blt p r.n) with
        | true=>run n {bF:={fn:=r.fn,n:=r.n,env:=Ak r.params H r.env,todo:=[.code r.assign,.beginRound,.code r.body],marks:=[],gi:=some l}::t::fs,mem:=c.mem}
        | false=>.bZ 165 B
      | _=>.bZ 166 B
     match f.todo with
     | []=>u none
     | i::k=>match i with
       | .inBlock _=>run n {c with bF:={f with todo:=k}::fs}
       | .inScope _=>run n {c with bF:={f with todo:=k}::fs}
       | .inLoop body=>match Da E.stops f.fn (kH body) with
         | some ks=>.ao (canon E.keep ks c)
         | none=>run n {c with bF:={f with todo:=.code body :: .inLoop body::k}::fs}
       | .oP _=>.bZ 148 ""
       | .rS _ _ _ _ _=>.bZ 148 ""
       | .o7 l=>match c.mem.at l with
         | .loop r=>match Nat.beq r.state 1 with
           | true=>.bZ 149 ""
           | false=>run n {bF:={f with todo:=(match r.pending with|some j=>.code j::k|none=>k)}::fs,mem:=c.mem.set l (.loop {r with state:=3})}
         | _=>.bZ 150 ""
       | .beginRound=>match f.gi with
         | some l=>match c.mem.at l with
           | .loop r=>match Nat.beq r.state 0 with
             | true=>run n {bF:={f with todo:=k}::fs,mem:=c.mem.set l (.loop {r with state:=1})}
             | false=>.bZ 151 ""
           | _=>.bZ 152 ""
         | none=>.bZ 153 ""
       | .code x=>match x with
         | .skip=>run n {c with bF:={f with todo:=k}::fs}
         | .label _=>run n {c with bF:={f with todo:=k}::fs}
         | .ret=>u (some .ret)
         | .seq a b=>run n {c with bF:={f with todo:=.code a :: .code b::k}::fs}
         | .cond x a b=>match mC f.env x with
           | .bool c1 v=>match c1 with
             | true=>match v with
               | true=>run n {c with bF:={f with todo:=.code a::k}::fs}
               | false=>run n {c with bF:={f with todo:=.code b::k}::fs}
             | false=>.br v (run n {c with bF:={f with todo:=.code a::k}::fs}) (run n {c with bF:={f with todo:=.code b::k}::fs})
           | _=>.bZ 154 ""
         | .block id b=>run n {c with bF:={f with todo:=.code b :: .inBlock id::k}::fs}
         | .loop b=>run n {c with bF:={f with todo:=.inLoop b::k}::fs}
         | .scope b=>run n {c with bF:={f with todo:=.code b :: .inScope b::k}::fs}
         | .exit id=>match mq id k with
           | some k=>run n {c with bF:={f with todo:=k}::fs}
           | none=>match f.gi with
             | some _=>u (some (.exit id))
             | none=>.bZ 155 ""
         | .goto l=>match mr l k with
           | some k=>run n {c with bF:={f with todo:=k}::fs}
           | none=>match f.gi with
             | some _=>u (some (.goto l))
             | none=>.bZ 156 ""
         | .refuse _=>.bZ 157 ""
         | .rangeFunc x ps a b=>match mC f.env x with
           | .fn g [] q=>
             let J:Option (List Nat×Mem):=match f.gi with
              | none=>some (c.mem.length::f.marks,c.mem ++ [.Ie])
              | some l0=>match c.mem.at l0 with
                | .loop _=>some (f.marks,c.mem)
                | _=>none
             match J with
             | none=>.bZ 158 ""
             | some (marks,m)=>match look E.lL g with
               | none=>.bZ 159 ""
               | some G=>match jh g G (.yield m.length::q) with
                 | none=>.bZ 160 ""
                 | some h=>run n {bF:=h :: {f with todo:=.oP m.length::k,marks:=marks}::fs,mem:=m ++ [.loop {fn:=f.fn,n:=f.n,env:=f.env,params:=ps.toList,assign:=a,body:=b,state:=0,pending:=none}]}
           | _=>.bZ 161 ""
         | .region id os draw=>match Da E.qm f.fn (some id) with
           | some ks=>.ao (canon E.keep ks c)
           | none=>match draw with
             | false=>run n {c with bF:={f with todo:=.ops os os.toList::k}::fs}
             | true=>match qy E.jZ os with
               | some (ms,is)=>run n {c with bF:={f with todo:=.jI os ms is []::k}::fs}
               | none=>.bZ 175 ""
       | .ops all rest=>match rest with
         | []=>run n {c with bF:={f with todo:=k}::fs}
         | o::rest=>match sN f.n o.dst with
           | false=>.bZ 162 o.pos
           | true=>EL all f.env o
             (λe=>
               let next (v:AV) (m:Mem):Tr R:=run n {bF:={f with env:=e.ov o.dst v,todo:=.ops all rest::k}::fs,mem:=m}
               match tP A E (mC e) c.mem o with
               | some C=>C.bind o.pos λv=>next v c.mem
               | none=>match o.op with
                 | .call {callee:=.value x,args,.. }=>match mC e x with
                   | .fn g first q=>match look E.jZ g with
                     | some s=>(vB A s c.mem (first++(args.toList.map (mC e)++q))).bind o.pos λp=>next p.1 p.2
                     | none=>match sO A E g c.mem (first++(args.toList.map (mC e)++q)) with
                       | some C=>C.bind o.pos λp=>next p.1 p.2
                       | none=>enter g o.pos (first++(args.toList.map (mC e)++q)) {f with env:=e}
                   | .yield l=>yield l o.pos (args.toList.map (mC e)) {f with env:=e}
                   | _=>.bZ 167 o.pos
                 | _=>(xf A E f.fn (mC e) c.mem o).bind o.pos λp=>next p.1 p.2)
             (λe=>run n {c with bF:={f with env:=e.ov o.dst (.yM []),todo:=.ops all rest::k}::fs})
       | .jI all ms rest bs=>match rest with
         | []=>run n {c with bF:={f with todo:=k}::fs}
         | i::rest=>match all[i]? with
           | none=>.bZ 176 ""
           | some o=>match sN f.n o.dst&&(Z3 all (ms.getD i 0) bs o&&yr (ms.getD i 0) o) with
             | false=>.bZ 177 o.pos
             | true=>P8 all bs f.env o
               (λe=>match evV A E c.mem (mC e) o,uJ all bs o.dst&&Gw all o with
                 | some C,true=>C.bind o.pos λv=>run n {c with bF:={f with env:=e.ov o.dst v,todo:=.jI all ms rest (i::bs)::k}::fs}
                 | _,_=>match rest.all (λj=>(ms.getD j 0).testBit i) with
                  | false=>Nj (λj=>match Tj E.jZ all ms (i::rest) j with
                     | some (I,is)=>run n {bF:={f with env:=e,todo:=.jI all I is bs::k}::fs,mem:=c.mem}
                     | none=>.bZ 180 o.pos) ((i::rest).filter (QU ms (i::rest)))
                  | true=>match uJ all (sL (ms.getD i 0) bs) o.dst with
                   | false=>.bZ 178 o.pos
                   | true=>
                     let next (v:AV) (m:Mem):Tr R:=xU A E (e.ov o.dst v) m all (sL (ms.getD i 0) bs) (run n {bF:={f with env:=e.ov o.dst v,todo:=.jI all ms rest (sL (ms.getD i 0) bs)::k}::fs,mem:=m})
                     let t:dK:={f with env:=e,todo:=.rS all ms i rest (sL (ms.getD i 0) bs)::k}
                     match tP A E (mC e) c.mem o with
                     | some C=>C.bind o.pos λv=>next v c.mem
                     | none=>match o.op with
                       | .call {callee:=.value x,args,.. }=>match mC e x with
                         | .fn g first q=>match look E.jZ g with
                           | some s=>(vB A s c.mem (first++(args.toList.map (mC e)++q))).bind o.pos λp=>next p.1 p.2
                           | none=>match sO A E g c.mem (first++(args.toList.map (mC e)++q)) with
                             | some C=>C.bind o.pos λp=>next p.1 p.2
                             | none=>enter g o.pos (first++(args.toList.map (mC e)++q)) t
                         | .yield l=>yield l o.pos (args.toList.map (mC e)) t
                         | _=>.bZ 167 o.pos
                       | _=>(xf A E f.fn (mC e) c.mem o).bind o.pos λp=>next p.1 p.2)
               (λe=>match uJ all bs o.dst&&Gw all o with
                 | true=>run n {c with bF:={f with env:=e.ov o.dst (.yM []),todo:=.jI all ms rest (i::bs)::k}::fs}
                 | false=>.bZ 179 o.pos)
def Tr.Ok(Q:R->Prop)(G:iB->Prop):Tr R->Prop
 | .ret y=>Q y
 | .ao c=>G c
 | .br b t e=>(b=true->Tr.Ok Q G t)/\(b=false->Tr.Ok Q G e)
 | .ar b t=>b=true/\Tr.Ok Q G t
 | .eqs p t=>p/\Tr.Ok Q G t
 | .same l r t=>oX l r/\Tr.Ok Q G t
 | .and a b=>Tr.Ok Q G a/\Tr.Ok Q G b
 | .bZ _ _=>False
end
def CJ(A:aU)(a:List Ty)(v:AV)(m:Mem):Option (Ty.Ts a):=
 match (match a with | [_]=>some [v]|_=>match v with | .yM b=>some b|_=>none:Option (List AV)) with
 | none=>none
 | some b=>match kQ a b with
   | false=>none
   | true=>match fA A a m (b.flatMap AV.cells) with
     | none=>none
     | some (_,cs)=>match qM a cs with
       | some (y, [])=>some y
       | _=>none
def XZ(A:aU)(t:Ty)(a:List Ty)(v:AV)(m:Mem):Option (List t.T×Ty.Ts a):=
 match (match a with | [_]=>some [v]|_=>match v with | .yM b=>some b|_=>none:Option (List AV)) with
 | none=>none
 | some b=>match kQ a b with
   | false=>none
   | true=>match fA A a m (b.flatMap AV.cells) with
     | none=>none
     | some (m,cs)=>match qM a cs with
       | some (y, [])=>match m.at 0 with
         | .arr false t' x=>if h:t'.beq t=true then some ((Ty.eq_of_beq h▸x:List t.T),y) else none
         | _=>none
       | _=>none
def X0(A:aU)(f:VF)(c:Bool)(a:List Ty)(v:AV)(m:Mem):Option (Bool×f.ty.T×Ty.Ts a):=
 match (match a with | []=>some [v]|_=>match v with | .yM b=>some b|_=>none:Option (List AV)) with
 | none=>none
 | some []=>none
 | some (v::b)=>match kQ a b with
   | false=>none
   | true=>match fA A a m (b.flatMap AV.cells) with
     | none=>none
     | some (m,cs)=>match qM a cs with
       | some (y, [])=>match c,v with
         | true,.jB=>some (false,Ty.gw f.ty,y)
         | _,v=>match VF.read m f [v] with
           | some (x,ids, [])=>match nQ ids&&f.Gf.isEmpty with
             | true=>some (true,x,y)
             | false=>none
           | _=>none
       | _=>none
def jl(k:Nat):List AV:=(List.range k).map λi=>.ptr i 0
def ap2(m:Mem)(k:Nat)(v:AV):Option (List AV):=
 match v with
 | .ptr i d=>match Nat.beq i 0&&(Nat.beq d 0&&Nat.ble 1 k) with
   | true=>match m.at 0 with
     | .ay _ _=>some []
     | _=>none
   | false=>none
 | _=>none
def F6:List (Nat×Nat)->Bool
 | []=>true
 | (k,id)::r=>Nat.beq id k&&F6 r
def PL(A:aU)(e:Bool)(b:List VF)(a:List Ty)(v:AV)(m:Mem):Option (Ty.Ts (VF.iq b)×Ty.Ts a):=
 match (match e with|true=>ap2 m b.length v|false=>match a with | [_]=>some [v]|_=>match v with | .yM c=>some c|_=>none:Option (List AV)) with
 | none=>none
 | some c=>match kQ a c with
   | false=>none
   | true=>match fA A a m (c.flatMap AV.cells) with
     | none=>none
     | some (m,cs)=>match qM a cs with
       | some (y, [])=>match VF.reads m b (jl b.length) with
         | some (x,ids, [])=>match nQ ids&&(im b&&F6 (VF.yp m b (jl b.length))) with
           | true=>some (x,y)
           | false=>none
         | _=>none
       | _=>none
def Ga:VF->iM
 | .ptr fs=>.ay false (List.replicate (VF.mj fs) .undef)
 | .nP fs=>.ay true (List.replicate (VF.mj fs) .undef)
 | _=>.ay false []
def holds:List VF->Mem
 | []=>[]
 | f::fs=>Ga f::holds fs
def G6(A:aU)(a:List VF)(x:Ty.Ts (VF.iq a)):Mem:=(VF.Jz A .own a (jl a.length) x (holds a++(VF.gn a x).map Prod.snd)).getD []
def tu(g:FuncId)(F:Func)(a:List AV)(m:Mem:=[]):iB:=
 match jh g F a with
 | some h=>{bF:=[h],mem:=m}
 | none=>{bF:=[],mem:=[]}
def Code.way:Code->List Nat->Code
 | c, []=>c
 | .seq a b,i::r=>match i with|0=>Code.way a r|_=>Code.way b r
 | .cond _ a b,i::r=>match i with|0=>Code.way a r|_=>Code.way b r
 | .block _ b,_::r=>Code.way b r
 | .loop b,_::r=>Code.way b r
 | .scope b,_::r=>Code.way b r
 | .rangeFunc _ _ a b,i::r=>match i with|0=>Code.way a r|_=>Code.way b r
 | _,_::_=>.skip
def stk:Code->List Nat->List dR->List dR
 | .seq a b,i::r,k=>match i with|0=>stk a r (.code b::k)|_=>stk b r k
 | .cond _ a b,i::r,k=>match i with|0=>stk a r k|_=>stk b r k
 | .block n b,_::r,k=>stk b r (.inBlock n::k)
 | .loop b,_::r,k=>stk b r (.inLoop b::k)
 | .scope b,_::r,k=>stk b r (.inScope b::k)
 | _,_,k=>k
def Ps(F:Func):Code:=match F.body with|some b=>b|none=>.skip
def opsOf:Code->Array Oper
 | .region _ os _=>os
 | _=>#[]
def advance(a:List (FuncId×aK))(c:iB):iB:=
 match c.bF with
 | []=>c
 | f::fs=>match f.todo with
   | .inLoop b::k=>{c with bF:={f with todo:=.code b :: .inLoop b::k}::fs}
   | .code (.region _ os false)::k=>{c with bF:={f with todo:=.ops os os.toList::k}::fs}
   | .code (.region _ os true)::k=>match qy a os with
     | some (ms,is)=>{c with bF:={f with todo:=.jI os ms is []::k}::fs}
     | none=>c
   | _=>c
end Go.Ev
namespace Go.Ev
def gy:Nat:=140737488355328
theorem i7:gy=140737488355328:=rfl
structure St where
 σ:Nat->Nat
 δ:Nat->Nat
 vd:Nat->Bool
 I:Nat->Prop
def lJ(w:World)(b off:Nat)(a:List Value):Prop:=
 ∀(j:Nat) (u:Value),a[j]? = some u->w.cell? ⟨b,off+j,none⟩=some u
mutual
def bW(w:World)(I:Nat->Prop):(t:Ty)->List Value->t.T->Prop
 | .int k,cs,x=>cs=[.int k x]/\k.has x
 | .bool,cs,x=>cs=[.bool x]
 | .str,cs,x=>cs=[.string ⟨(show List UInt8 from x).toArray⟩]/\(show List UInt8 from x).length<=gy
 | .slice t,cs,x=>∃(a:Option Addr) (c:Nat),cs=[.slice a (show List t.T from x).length c]/\(show List t.T from x).length<=c/\(show List t.T from x).length<=gy/\
    (a=none->c=0)/\
    ∀(i:Nat) (y:t.T),(show List t.T from x)[i]? = some y->∃b off e,a=some ⟨b,off,none⟩/\I b/\e.length=t.size/\lJ w b (off+i*t.size) e/\bW w I t e y
 | .arr n t,cs,x=>(show List t.T from x).length=n/\cs.length=n*t.size/\
    ∀(i:Nat) (y:t.T),(show List t.T from x)[i]? = some y->bW w I t ((cs.drop (i*t.size)).take t.size) y
 | .struct ts,cs,x=>fY w I ts cs x
 | .any n,cs,_=>cs.length=n
def fY(w:World)(I:Nat->Prop):(a:List Ty)->List Value->Ty.Ts a->Prop
 | [],cs,_=>cs=[]
 | [t],cs,x=>bW w I t cs x
 | t::b::a,cs,x=>∃c e,cs=c++e/\bW w I t c (Prod.fst (α:=t.T) (β:=Ty.Ts (b::a)) x)/\fY w I (b::a) e (Prod.snd (α:=t.T) (β:=Ty.Ts (b::a)) x)
end
mutual
theorem bW.length{w:World}{I:Nat->Prop}:∀(t:Ty) {b:List Value} {x:t.T},bW w I t b x->b.length=t.size
 | .int k,b,x,h=>by rw[bW] at h;rw[h.1];rfl
 | .bool,b,x,h=>by rw[bW] at h;rw[h];rfl
 | .str,b,x,h=>by rw[bW] at h;rw[h.1];rfl
 | .slice t,b,x,h=>by rw[bW] at h;obtain⟨a,c,h,_⟩:=h;rw[h];rfl
 | .arr n t,b,x,h=>by grind [bW,Ty.size]
 | .struct ts,b,x,h=>by rw[bW] at h;rw[Ty.size];exact fY.length ts h
 | .any n,b,x,h=>by rw[bW] at h;rw[h];rfl
theorem fY.length{w:World}{I:Nat->Prop}:∀(b:List Ty) {a:List Value} {x:Ty.Ts b},fY w I b a x->a.length=Ty.mj b
 | [],a,x,h=>by rw[fY] at h;rw[h];rfl
 | [t],a,x,h=>by rw[fY] at h;simp only[Ty.mj];exact bW.length t h
 | t::f::b,a,x,h=>by
   obtain⟨g,i,rfl,c,e⟩:=h;rw[qS,bW.length t c,fY.length (f::b) e];rfl
end
variable{c:List Value}
theorem lJ.mono{w w':World}{b off:Nat}(h:lJ w b off c)(e:w'.heap[b]? = w.heap[b]?):lJ w' b off c:=
 λj u f=>(World.cell?_of_block (w:=w) (a:=⟨b,off+j,none⟩) e).trans (h j u f)
mutual
theorem bW.mono{w w':World}{I j:Nat->Prop}(e:∀b,I b->j b/\w'.heap[b]? = w.heap[b]?):∀(t:Ty) {c:List Value} {x:t.T},bW w I t c x->bW w' j t c x
 | .int k,c,x,h=>by grind [bW]
 | .bool,c,x,h=>by grind [bW]
 | .str,c,x,h=>by grind [bW]
 | .slice t,c,x,h=>by
   obtain⟨a,f,o,p,q,r,s⟩:=h;refine⟨a,f,o,p,q,r,λi y g=>?_⟩;obtain⟨b,off,D,u,l,B,C,z⟩:=s i y g;exact⟨b,off,D,u,(e b l).1,B,C.mono (e b l).2,bW.mono e t z⟩
 | .arr n t,c,x,h=>by
   exact⟨h.1,h.2.1,λi y g=>bW.mono e t (h.2.2 i y g)⟩
 | .struct ts,c,x,h=>by rw[bW] at h ⊢;exact fY.mono e ts h
 | .any n,c,x,h=>by grind [bW]
theorem fY.mono{w w':World}{I f:Nat->Prop}(e:∀b,I b->f b/\w'.heap[b]? = w.heap[b]?):∀(c:List Ty) {a:List Value} {x:Ty.Ts c},fY w I c a x->fY w' f c a x
 | [],a,x,h=>by grind [fY]
 | [t],a,x,h=>by rw[fY] at h ⊢;exact bW.mono e t h
 | t::l::c,a,x,h=>by
   obtain⟨n,o,g,i,j⟩:=h;exact⟨n,o,g,bW.mono e t i,fY.mono e (l::c) j⟩
end
def mB(w:World)(I:Nat->Prop)(t:Ty)(v:Value)(x:t.T):Prop:=
 if t.isAgg=true then ∃a:Array Value,v=.agg a/\bW w I t a.toList x else bW w I t [v] x
def kU(w:World)(I:Nat->Prop):(a:List Ty)->List Value->Ty.Ts a->Prop
 | [],vs,_=>vs=[]
 | [t],vs,x=>∃v,vs=[v]/\mB w I t v x
 | t::b::a,vs,x=>∃v r,vs=v::r/\mB w I t v (Prod.fst (α:=t.T) (β:=Ty.Ts (b::a)) x)/\kU w I (b::a) r (Prod.snd (α:=t.T) (β:=Ty.Ts (b::a)) x)
mutual
def CR(w:World)(S:St)(m:Mem):AV->Value->Prop
 | .undef,_=>True
 | .int k _ n,v=>v=.int k n/\k.has n
 | .bool _ b,v=>v=.bool b
 | .str _ s,v=>v=.string ⟨s.toArray⟩/\s.length<=gy
 | .sl t x,v=>bW w S.I (.slice t) [v] x
 | .gb b,v=>∃a,v=.slice a 0 0/\(b=true->a=none)
 | .own id,v=>match m.at id with
   | .arr _ t x=>(S.vd id=true/\x=[]/\∃a,v=.slice a 0 0)\/S.vd id=false/\∃e,v=.slice (some ⟨S.σ id,S.δ id,none⟩) x.length e/\x.length<=e/\(∃g T h,w.heap[S.σ id]? = some (.cells g T h)/\S.δ id+e*t.size<=g.size)
   | .a_=>True
   | _=>False
 | .vL id sz _ lo len,v=>match m.at id with
   | .arr _ t x=>∃(l n e:Nat) (a:Option Addr),lo=l/\len=n/\sz=t.size/\l+n<=x.length/\n<=e/\(a=none->e=0)/\v=.slice a n e/\(n≠0->a=some ⟨S.σ id,S.δ id+l*sz,none⟩)/\
      (l=0->(S.vd id=true->e=0)/\(S.vd id=false->a=some ⟨S.σ id,S.δ id,none⟩/\∃g T h,w.heap[S.σ id]? = some (.cells g T h)/\S.δ id+e*t.size<=g.size))
   | .ay _ cs=>∃(l n e:Nat) (a:Option Addr),lo=l/\len=n/\l+n<=gy/\(l+e)*sz<=cs.length/\n<=e/\(a=none->e=0)/\v=.slice a n e/\(n≠0->a=some ⟨S.σ id,l*sz,none⟩)
   | .a_=>True
   | _=>False
 | .ptr id off,v=>match m.at id with
   | .ay _ _=>v=.pointer (some ⟨S.σ id,off,none⟩)
   | .a_=>True
   | _=>False
 | .kX id i off,v=>match m.at id with
   | .arr _ t x=>∃k:Nat,i=k/\k<x.length/\v=.pointer (some ⟨S.σ id,S.δ id+k*t.size+off,none⟩)
   | .a_=>True
   | _=>False
 | .y_ id off n t i,v=>match m.at id with
   | .ay _ _=>∃k:Nat,i=k/\k<n/\v=.pointer (some ⟨S.σ id,off+k*t.size,none⟩)
   | .a_=>True
   | _=>False
 | .pI t x off,v=>∃b o g,v=.pointer (some ⟨b,o+off,none⟩)/\S.I b/\g.length=t.size/\lJ w b o g/\bW w S.I t g x
 | .jB,v=>v=.pointer none
 | .fn f a c,v=>∃g j:Array Value,v=.func (.func f) g j/\dZ w S m a g.toList/\dZ w S m c j.toList
 | .yield l,v=>match m.at l with
   | .loop _=>v=.func (.yield (S.σ l)) #[] #[]
   | .a_=>True
   | _=>False
 | .tg,v=>v=.nilFunc
 | .agg cs,v=>∃g:Array Value,v=.agg g/\dZ w S m cs g.toList
 | .yM cs,v=>∃g:Array Value,v=.tuple g/\dZ w S m cs g.toList
def dZ(w:World)(S:St)(m:Mem):List AV->List Value->Prop
 | [],vs=>vs=[]
 | a::as',vs=>∃v r,vs=v::r/\CR w S m a v/\dZ w S m as' r
end
variable{I:Nat->Prop}{a:List Value}{b:Bool}{t:Ty}{x:List t.T}
section
variable {w:World} {S:St} {m:Mem} {v:Value}
theorem gK:CR w S m .undef v:=by rw[CR];trivial
theorem fo{k:IntKind}{c:Bool}{n:Int}:CR w S m (.int k c n) v↔v=.int k n/\k.has n:=by rw[CR]
theorem ij{c:Bool}:CR w S m (.bool c b) v↔v=.bool b:=by rw[CR]
theorem vo{c:Bool}{s:List UInt8}:CR w S m (.str c s) v↔v=.string ⟨s.toArray⟩/\s.length<=gy:=by rw[CR]
theorem sI:CR w S m (.sl t x) v↔bW w S.I (.slice t) [v] x:=by rw[CR]
theorem mX:CR w S m (.gb b) v↔∃a,v=.slice a 0 0/\(b=true->a=none):=by rw[CR]
theorem tK{x:t.T}{off:Nat}:CR w S m (.pI t x off) v↔∃b o a,v=.pointer (some ⟨b,o+off,none⟩)/\S.I b/\a.length=t.size/\lJ w b o a/\bW w S.I t a x:=by rw[CR]
theorem qw:CR w S m .jB v↔v=.pointer none:=by rw[CR]
theorem uU{f:FuncId}{a c:List AV}:CR w S m (.fn f a c) v↔∃b e:Array Value,v=.func (.func f) b e/\dZ w S m a b.toList/\dZ w S m c e.toList:=by rw[CR]
theorem sH:CR w S m .tg v↔v=.nilFunc:=by rw[CR]
theorem uC{a:List AV}:CR w S m (.agg a) v↔∃b:Array Value,v=.agg b/\dZ w S m a b.toList:=by rw[CR]
theorem kl{a:List AV}:CR w S m (.yM a) v↔∃b:Array Value,v=.tuple b/\dZ w S m a b.toList:=by rw[CR]
theorem bC:dZ w S m [] a↔a=[]:=by rfl
theorem bQ{a:AV}{b:List AV}:dZ w S m (a::b) c↔∃v r,c=v::r/\CR w S m a v/\dZ w S m b r:=by rfl
theorem uV{k:IntKind}{x:Int}:bW w I (.int k) a x↔a=[.int k x]/\k.has x:=fF
theorem Cn{x:Bool}:bW w I .bool a x↔a=[.bool x]:=fF
theorem AA{x:List UInt8}:bW w I .str a x↔a=[.string ⟨x.toArray⟩]/\x.length<=gy:=fF
theorem d_{f:List Value}:bW w I (.slice t) f x↔∃(a:Option Addr) (c:Nat),f=[.slice a x.length c]/\x.length<=c/\x.length<=gy/\
   (a=none->c=0)/\
   ∀(i:Nat) (y:t.T),x[i]? = some y->∃b off e,a=some ⟨b,off,none⟩/\I b/\e.length=t.size/\lJ w b (off+i*t.size) e/\bW w I t e y:=fF
theorem Az{n:Nat}:bW w I (.arr n t) a x↔x.length=n/\a.length=n*t.size/\
   ∀(i:Nat) (y:t.T),x[i]? = some y->bW w I t ((a.drop (i*t.size)).take t.size) y:=fF
theorem wX{a:List Ty}{b:List Value}{x:Ty.Ts a}:bW w I (.struct a) b x↔fY w I a b x:=fF
theorem yh{x:Ty.Ts []}:fY w I [] a x↔a=[]:=fF
theorem Co{x:t.T}:fY w I [t] a x↔bW w I t a x:=fF
theorem zK{a:Ty}{b:List Ty}{x:t.T}{y:Ty.Ts (a::b)}:fY w I (t::a::b) c (x,y)↔∃e f,c=e++f/\bW w I t e x/\fY w I (a::b) f y:=fF
end
theorem dZ.length{w:World}{S:St}{m:Mem}:∀{c:List AV} {b:List Value},dZ w S m c b->b.length=c.length
 | [],b,h=>by grind [dZ]
 | a::c,b,h=>by
   obtain⟨v,r,rfl,_,e⟩:=h;simp[dZ.length e]
def iR:iM->iM->Prop
 | .bZ,_=>False
 | _,.a_=>True
 | .ay _ cs,.ay _ a=>a.length=cs.length
 | .arr _ t x,.arr _ t' x'=>∃h:t=t',x'.length=x.length/\h=h
 | .loop _,.loop _=>True
 | .Ie,.Ie=>True
 | .Ie,.UH=>True
 | .UH,.UH=>True
 | _,_=>False
def iM.kj:iM->Bool
 | .loop _=>true
 | .Ie=>true
 | .UH=>true
 | _=>false
def St.fl(S:St)(id:Nat):iM->Bool
 | .ay _ _=>true
 | .arr _ _ _=>!S.vd id
 | _=>false
structure dI(w:World)(S:St)(m:Mem)(w':World)(S':St)(m':Mem):Prop where
 nC:∀b,S.I b->S'.I b/\w'.heap[b]? = w.heap[b]?
 box:∀id,m.at id≠.bZ->iR (m.at id) (m'.at id)/\(m'.at id≠.a_->S'.σ id=S.σ id/\S'.δ id=S.δ id/\S'.vd id=S.vd id/\
  (S.fl id (m.at id)=true->∀us T fr,w.heap[S.σ id]? = some (.cells us T fr)->∃ir T' iH,w'.heap[S.σ id]? = some (.cells ir T' iH)/\ir.size=us.size))
 ctl:∀id,(m.at id).kj=true->(m'.at id).kj=true
variable{S:St}{m:Mem}
theorem dI.inv{w:World}{i:World}{b:St}{a:Mem}(h:dI w S m i b a){id:Nat}(o:m.at id≠.bZ):a.at id=.a_\/
  (iR (m.at id) (a.at id)/\a.at id≠.bZ/\b.σ id=S.σ id/\b.δ id=S.δ id/\b.vd id=S.vd id/\
  (S.fl id (m.at id)=true->∀g T l,w.heap[S.σ id]? = some (.cells g T l)->∃f j q,i.heap[S.σ id]? = some (.cells f j q)/\f.size=g.size)):=by
 obtain⟨c,n⟩:=h.box id o;by_cases p:a.at id=.a_
 ·grind
 ·refine .inr ⟨c,λe=>?_,n p⟩
  rw[e] at c;cases hm:m.at id<;>rw[hm] at c<;>exact c.elim
mutual
theorem CR.mono{w:World}{S:St}{m:Mem}{w':World}{S':St}{m':Mem}(h:dI w S m w' S' m'):∀{a:AV} {v:Value},CR w S m a v->CR w' S' m' a v
 | .undef,v,_=>by rw[CR];trivial
 | .int k c n,v,g=>by rw[CR] at g ⊢;omega
 | .bool c b,v,g=>by rw[CR] at g ⊢;omega
 | .str c s,v,g=>by rw[CR] at g ⊢;omega
 | .sl t x,v,g=>by rw[CR] at g ⊢;exact bW.mono h.nC _ g
 | .gb b,v,g=>by rw[CR] at g ⊢;omega
 | .own id,v,g=>by
   rw[CR] at g ⊢;rcases h.inv (id:=id) (λe=>by grind) with D|⟨j,_,z,F,y,u⟩
   ·grind
   ·cases hm:m.at id<;>rw[hm] at g j<;>simp only at g<;>cases hm':m'.at id<;>rw[hm'] at j<;>try (first|trivial|exact j.elim)
    obtain⟨rfl,J,_⟩:=j;rcases g with ⟨hz,rfl,g⟩|⟨K,C,rfl,r,q,T,H,p,B⟩
    ·simp_all
    ·obtain⟨X,O,W,I,G⟩:=u (by rw[hm];simp[St.fl,K]) q T H p
     simp_all
 | .vL id sz c lo len,v,g=>by
   rw[CR] at g ⊢;rcases h.inv (id:=id) (λe=>by grind) with D|⟨j,_,z,F,y,u⟩
   ·simp_all
   ·cases hm:m.at id<;>rw[hm] at g j<;>simp only at g<;>cases hm':m'.at id<;>rw[hm'] at j<;>try (first|trivial|exact j.elim)
    ·have J:_=_:=j
     grind
    ·obtain⟨rfl,J,_⟩:=j
     obtain⟨l,n,C,a,r,p,B,I,G,Q,V,h8,N⟩:=g;refine⟨l,n,C,a,r,p,B,by omega,G,Q,V,by simp_all,λe=>⟨λk=>(N e).1 (y▸k),λk=>?_⟩⟩;rw[y] at k;obtain⟨k1,q,T,H,Y,k3⟩:=(N e).2 k;obtain⟨X,O,W,k4,k5⟩:=u (by rw[hm];simp[St.fl,k]) q T H Y
     simp_all
 | .ptr id off,v,g=>by
   rw[CR] at g ⊢;rcases h.inv (id:=id) (λe=>by simp_all) with D|⟨j,_,z,F,y,u⟩
   ·simp_all
   ·cases hm:m.at id<;>rw[hm] at g j<;>simp only at g<;>cases hm':m'.at id<;>rw[hm'] at j<;>try (first|trivial|exact j.elim)
    simp_all
 | .kX id i off,v,g=>by
   rw[CR] at g ⊢;rcases h.inv (id:=id) (λe=>by simp_all) with D|⟨j,_,z,F,y,u⟩
   ·simp_all
   ·cases hm:m.at id<;>rw[hm] at g j<;>simp only at g<;>cases hm':m'.at id<;>rw[hm'] at j<;>try (first|trivial|exact j.elim)
    obtain⟨rfl,J,_⟩:=j
    simp_all
 | .y_ id off n t i,v,g=>by
   rw[CR] at g ⊢;rcases h.inv (id:=id) (λe=>by simp_all) with D|⟨j,_,z,F,y,u⟩
   ·simp_all
   ·cases hm:m.at id<;>rw[hm] at g j<;>simp only at g<;>cases hm':m'.at id<;>rw[hm'] at j<;>try (first|trivial|exact j.elim)
    rw[z];exact g
 | .pI t x off,v,g=>by
   obtain⟨b,o,q,r,p,B,I,G⟩:=g;exact⟨b,o,q,r,(h.nC b p).1,B,I.mono (h.nC b p).2,bW.mono h.nC _ G⟩
 | .jB,v,g=>by rw[CR] at g ⊢;omega
 | .fn f a c,v,g=>by
   obtain⟨q,Z,r,p,B⟩:=g;exact⟨q,Z,r,dZ.mono h p,dZ.mono h B⟩
 | .yield l,v,g=>by
   rw[CR] at g ⊢;rcases h.inv (id:=l) (λe=>by simp_all) with D|⟨j,_,z,F,y,u⟩
   ·simp_all
   ·cases hm:m.at l<;>rw[hm] at g j<;>simp only at g<;>cases hm':m'.at l<;>rw[hm'] at j<;>try (first|trivial|exact j.elim)
    rw[z];exact g
 | .tg,v,g=>by rw[CR] at g ⊢;omega
 | .agg cs,v,g=>by
   obtain⟨q,r,p⟩:=g;exact⟨q,r,dZ.mono h p⟩
 | .yM cs,v,g=>by
   rw[CR] at g ⊢;obtain⟨q,r,p⟩:=g;exact⟨q,r,dZ.mono h p⟩
theorem dZ.mono{w:World}{S:St}{m:Mem}{w':World}{S':St}{m':Mem}(h:dI w S m w' S' m'):∀{c:List AV} {b:List Value},dZ w S m c b->dZ w' S' m' c b
 | [],b,hc=>by rw[dZ] at hc ⊢;omega
 | a::c,b,hc=>by
   rw[dZ] at hc ⊢;obtain⟨v,r,e,f,g⟩:=hc;exact⟨v,r,e,CR.mono h f,dZ.mono h g⟩
end
def gM(a:Nat×Nat)(b:Nat):Prop:=a=(0,0)
def r7:Nat->LoopState
 | 0=>.ready
 | 1=>.busy
 | 2=>.done
 | _=>.exhausted
def Ng(w:World)(S:St)(m:Mem)(r:Nb)(l:Loop):Prop:=
 l.state=r7 r.state/\l.pending=r.pending/\l.fn=r.fn/\l.params=r.params.toArray/\l.assign=r.assign/\l.body=r.body/\(l.tmps.size=r.n/\r.n<=65535)/\
 ∀i,CR w S m (r.env.at i) (l.tmps.getD i undef)
def St.lv(S:St)(id:Nat):iM->Bool
 | .bZ=>false
 | .a_=>false
 | .UH=>false
 | .arr _ _ _=>!S.vd id
 | _=>true
def rQ(w:World)(S:St)(m:Mem)(id:Nat):iM->Prop
 | .bZ=>True
 | .a_=>True
 | .UH=>True
 | .ay _ cs=>∃(a:Array Value) (T:TypeId) (b:Nat×Nat),w.heap[S.σ id]? = some (.cells a T b)/\gM b a.size/\dZ w S m cs a.toList
 | .arr _ t x=>x.length<=gy/\(S.vd id=true->x=[])/\(S.vd id=false->∃(a:Array Value) (T:TypeId) (b:Nat×Nat),w.heap[S.σ id]? = some (.cells a T b)/\gM b a.size/\S.δ id+x.length*t.size<=a.size/\
    ∀(i:Nat) (y:t.T),x[i]? = some y->bW w S.I t ((a.toList.drop (S.δ id+i*t.size)).take t.size) y)
 | .loop r=>∃l,w.heap[S.σ id]? = some (.loop l)/\Ng w S m r l
 | .Ie=>w.heap[S.σ id]? = some (.deferred (some []))
def St.fz(S:St)(id:Nat):iM->Bool
 | .ay fz _=>fz
 | .arr fz _ _=>fz && !S.vd id
 | _=>false
def iM.SO:iM->Bool
 | .ay fz _=>fz
 | .arr fz _ _=>fz
 | _=>false
theorem agA{id:Nat}{b:iM}(h:b.SO=false):S.fz id b=false:=by
 cases b<;>first|rfl|exact h|(simp only[iM.SO] at h;simp[St.fz,h])
theorem Zt{a:St}{j:Nat}{b:iM}(h:a.vd j=S.vd j):a.lv j b=S.lv j b:=by simp_all [St.lv]
variable{α:Type}
theorem ne_of_lt{x:List α}{k:Nat}(h:k<x.length):x≠ []:=λe=>by grind
theorem ahA{w:World}{id:Nat}{fz:Bool}(h:rQ w S m id (.arr fz t x))(a:x≠ []):S.vd id=false:=by
 cases e:S.vd id with
 | false=>rfl
 | true=>exact absurd (h.2.1 e) a
theorem rQ.blk{w:World}{id:Nat}{fz:Bool}(h:rQ w S m id (.arr fz t x))(c:x≠ []):∃(a:Array Value) (T:TypeId) (b:Nat×Nat),w.heap[S.σ id]? = some (.cells a T b)/\gM b a.size/\S.δ id+x.length*t.size<=a.size/\
  ∀(i:Nat) (y:t.T),x[i]? = some y->bW w S.I t ((a.toList.drop (S.δ id+i*t.size)).take t.size) y:=h.2.2 (ahA h c)
theorem own_ne{p q:Prop}(h:(b=true/\p)\/b=false/\q)(a:b=false):q:=h.elim (λh=>by grind) (·.2)
theorem rF{id:Nat}{fz:Bool}:S.lv id (.arr fz t x)=!S.vd id:=rfl
theorem vD{id:Nat}:S.fz id (.arr false t x)=false:=rfl
theorem CU{x:List α}{v:Value}{b:Addr}{z:Bool}{q:Nat->Prop}(h:(z=true/\x=[]/\∃a,v=.slice a 0 0)\/z=false/\∃c,v=.slice (some b) x.length c/\x.length<=c/\q c):
  ∃a c,v=.slice a x.length c/\x.length<=c/\(a=none->c=0)/\(x.length≠0->a=some b):=by grind
structure nu extends World where
 X:Nat->Prop
 R:List (Nat×Option Nat):=[]
 D:Prop:=False
def nu.free(o:nu)(b:Nat):Prop:=o.heap.size<=b\/o.X b
theorem nu.old{o:nu}{b:Nat}(h:¬o.free b):b<o.heap.size:=Nat.lt_of_not_le λk=>h (.inl k)
def World.whole(w:World):nu:={w with X:=λ_=>False}
def World.M5(w:World):nu:={w with X:=λ_=>False,D:=True}
def RR(w0:nu)(w:World):Prop:=w.tape=w0.tape/\(w0.D->w0.drawn<=w.drawn)
variable{w0:nu}
theorem RR.on{w a:World}(h:RR w0 w)(e:a.tape=w.tape)(d:w0.D->w.drawn<=a.drawn):RR w0 a:=⟨e.trans h.1,λk=>aW (h.2 k) (d k)⟩
structure WR(w0:nu)(w:World)(S:St)(m:Mem):Prop where
 os:w.os=w0.os
 tape:RR w0 w
 output:w.output=w0.output
 size:w0.heap.size<=w.heap.size
 base:∀b,¬w0.free b->w.heap[b]? = w0.heap[b]?
 nC:∀b,S.I b->b<w.heap.size
 box:∀id,rQ w S m id (m.at id)
 inj:∀id id',S.lv id (m.at id)=true->S.lv id' (m.at id')=true->S.σ id=S.σ id'->id=id'
 lo:∀id,S.lv id (m.at id)=true->(S.I (S.σ id)\/w0.free (S.σ id))/\S.σ id<w.heap.size
 qE:∀id,S.lv id (m.at id)=true->S.fz id (m.at id)=false->¬S.I (S.σ id)
 IZ:∀id,S.fz id (m.at id)=true->S.I (S.σ id)
 root:∀i b,w0.R[i]? = some b->i<m.length/\S.σ i=b.1/\∀d,b.2=some d->S.δ i=d/\S.vd i=false
 cells:∀(b:Nat) (us:Array Value) (T:TypeId) (fr:Nat×Nat),w0.heap[b]? = some (.cells us T fr)->∃(ir:Array Value) (T':TypeId) (iH:Nat×Nat),w.heap[b]? = some (.cells ir T' iH)/\ir.size=us.size
theorem WR.vd{w:World}(h:WR w0 w S m){id:Nat}{fz:Bool}(a:m.at id=.arr fz t x)(b:x≠ []):S.vd id=false:=ahA (by have:=h.box id;rwa [a] at this) b
theorem WR.lof{w:World}(h:WR w0 w S m){id:Nat}(a:S.lv id (m.at id)=true)(b:S.fz id (m.at id)=false):w0.free (S.σ id):=(h.lo id a).1.resolve_left (h.qE id a b)
def oE(all:Array Oper)(i:Nat):List Nat:=
 match all[i]? with
 | some o=>(o.after.toList.filter uF).map (·.on)
 | none=>[]
structure V7(all:Array Oper)(l:List Nat):Prop where
 nodup:l.Nodup
 lt:∀i∈l,i<all.size
 pw:l.Pairwise λi j=>j ∉ oE all i
 self:∀i∈l,i ∉ oE all i
 closed:∀k,k<all.size->k ∉ l->∀j∈oE all k,j ∉ l
def E5(a l:List Nat):Prop:=∀l1 i l2,l=l1++i::l2->∀b,(a.getD i 0).testBit b=true->b ∉ i::l2
structure iP(n:Nat)(all:Array Oper)(ms rest bs l:List Nat):Prop where
 msk:E5 ms l
 lnd:l.Nodup
 nodup:(rest++bs).Nodup
 sub:∀i∈rest,i∈l
 cov:∀i∈l,i∈rest\/i∈bs
 lt:∀i∈bs,i<all.size
 read:∀i∈bs,∀b∈bs,i≠b->∀o p d,all[i]? = some o->all[b]? = some p->p.dst=some d->d∈kL all o->(ms.getD i 0).testBit b=true
 dst:∀i∈bs,∀b∈bs,i≠b->∀o p d,all[i]? = some o->all[b]? = some p->p.dst=some d->o.dst≠some d
 own:∀i∈bs,∀o d,all[i]? = some o->o.dst=some d->d ∉ kL all o
 V0:∀i∈bs,∀o,all[i]? = some o->yr (ms.getD i 0) o=true
 dok:∀i∈bs,∀o,all[i]? = some o->sN n o.dst=true
def E4(n:Nat)(S:St):dR->Item->Prop
 | .code c,it=>it=.code c
 | .inBlock id,it=>it=.inBlock id
 | .inLoop b,it=>it=.inLoop b\/it=.code (.loop b)
 | .inScope b,it=>it=.inScope b
 | .ops all rest,it=>∃l:List Nat,it=.inRegion all l/\l.map (λi=>all[i]?)=rest.map some
 | .jI all ms rest bs,it=>∃l:List Nat,it=.inRegion all l/\iP n all ms rest bs l
 | .rS all ms i rest bs,it=>∃l:List Nat,it=.inRegion all (i::l)/\iP n all ms (i::rest) bs (i::l)
 | .oP l,it=>it=.inRangeFunc (S.σ l)
 | .o7 l,it=>it=.endRangeFunc (S.σ l)
 | .beginRound,it=>it=.beginRound
def fL(n:Nat)(S:St):List dR->List Item->Prop
 | [],l=>l=[]
 | a::r,l=>∃b k,l=b::k/\E4 n S a b/\fL n S r k
def dR.drawn:dR->Option (Array Oper×List Nat)
 | .jI all _ _ bs=>some (all,bs)
 | .rS all _ _ _ bs=>some (all,bs)
 | _=>none
def dR.Gd(a:dR):Bool:=a.drawn.isSome
def Hid(f:dK)(a:Frame)(x:Nat):Prop:=
 ∃all bs l c b p,f.todo.head?.bind dR.drawn=some (all,bs)/\a.todo=.inRegion all l::c/\b∈bs/\b∈l/\all[b]? = some p/\p.dst=some x
def dU(m:Mem)(l:List dR):Prop:=∀a∈l,match a with | .oP id=>(m.at id).kj=true | .o7 id=>(m.at id).kj=true|_=>True
structure FR(w:World)(S:St)(m:Mem)(f:dK)(fr:Frame):Prop where
 fn:fr.fn=f.fn
 n:fr.tmps.size=f.n
 small:f.n<=65535
 env:∀i,¬Hid f fr i->CR w S m (f.env.at i) (fr.tmps.getD i undef)
 todo:fL f.n S f.todo fr.todo
 live:dU m f.todo
 ay:∀a∈f.todo.tail,a.Gd=false
 defers:fr.defers=f.marks.map λd=>{target:=.collected (S.σ d),args:=#[]}
 marks:∀d∈f.marks,(m.at d).kj=true
 mode:fr.mode=.run
 kind:fr.kind=.normal
 gi:fr.roundOf=f.gi.map S.σ
 uu:∀l,f.gi=some l->(m.at l).kj=true
def E3(w:World)(S:St)(m:Mem):List dK->List Frame->Prop
 | [],l=>l=[]
 | f::fs,l=>∃a r,l=a::r/\FR w S m f a/\E3 w S m fs r
end Go.Ev
namespace Go.Ev
theorem dZ.append{w:World}{S:St}{m:Mem}:∀{a b:List AV} {e c:List Value},dZ w S m a e->dZ w S m b c->dZ w S m (a++b) (e++c)
 | [],b,e,c,h1,h2=>by simp_all;rw[h1];grind
 | x::a,b,e,c,h1,h2=>by
   obtain⟨v,r,rfl,f,g⟩:=h1;exact⟨v,r++c,rfl,f,dZ.append g h2⟩
theorem dZ.split{w:World}{S:St}{m:Mem}:∀{a b:List AV} {c:List Value},dZ w S m (a++b) c->∃e f,c=e++f/\dZ w S m a e/\dZ w S m b f
 | [],b,c,h=>⟨[],c,rfl,by rfl,h⟩
 | x::a,b,c,h=>by
   obtain⟨v,r,rfl,j,g⟩:=h;obtain⟨e,f,rfl,l,i⟩:=dZ.split g;exact⟨v::e,f,rfl,by rw[dZ];grind,i⟩
theorem dZ.drop{w:World}{S:St}{m:Mem}:∀{a:List AV} {b:List Value} (n:Nat),dZ w S m a b->dZ w S m (a.drop n) (b.drop n)
 | [],b,n,h=>by simp_all [dZ]
 | x::a,b,0,h=>h
 | x::a,b,n+1,h=>by
   obtain⟨v,r,rfl,e,c⟩:=h;exact dZ.drop n c
theorem dZ.take{w:World}{S:St}{m:Mem}:∀{a:List AV} {b:List Value} (n:Nat),dZ w S m a b->dZ w S m (a.take n) (b.take n)
 | [],b,n,h=>by simp_all [dZ]
 | x::a,b,0,h=>by rfl
 | x::a,b,n+1,h=>by
   obtain⟨v,r,rfl,c,e⟩:=h;exact⟨v,_,rfl,c,dZ.take n e⟩
theorem dZ.get{w:World}{S:St}{m:Mem}:∀{a:List AV} {b:List Value} {i:Nat} {x:AV},dZ w S m a b->a[i]? = some x->∃v,b[i]? = some v/\CR w S m x v
 | [],b,i,x,_,h=>by grind
 | y::a,b,0,x,h,hx=>by grind [dZ]
 | y::a,b,i+1,x,h,hx=>by
   obtain⟨v,r,rfl,e,c⟩:=h;simp at hx ⊢;exact dZ.get c hx
theorem dZ.map{w:World}{S:St}{m:Mem}{α:Type}{f:α->AV}{g:α->Value}(h:∀x,CR w S m (f x) (g x)):∀l:List α,dZ w S m (l.map f) (l.map g)
 | []=>by rfl
 | x::l=>by simp;rw[dZ];exact⟨_,_,rfl,h x,dZ.map h l⟩
theorem dZ.zh{w:World}{S:St}{m:Mem}(f:Nat->List AV)(sz:Nat):∀(n:Nat) (a:List Value),a.length=n*sz->
  (∀i,i<n->dZ w S m (f i) ((a.drop (i*sz)).take sz))->dZ w S m ((List.range n).flatMap f) a
 | 0,a,h,_=>by
   have:a=[]:=by grind
   rw[this];rfl
 | n+1,a,h,hf=>by
   rw[List.range_succ,lT];have e:a=a.take (n*sz)++a.drop (n*sz):=(eX _ _).symm;rw[e];refine dZ.append ?_ ?_
   ·refine dZ.zh f sz n _ (by grind) λi c=>?_
    have:=hf i (by omega);have b:(i+1)*sz<=n*sz:=aH _ c;rw[kE] at b;rw[kJ,kK,iF (by omega)];omega
   ·have:=hf n (by omega)
    simp;rw[cK (by rw[cO,h,kE];omega)] at this;omega
variable{t:Ty}
theorem qL{x:List t.T}{i:Nat}(h:i<x.length):x[i]? = some (af.n t x (i:Int)):=by
 show x[i]? = some (x.getD (i:Int).toNat t.gw)
 grind
mutual
theorem ll{w:World}{S:St}{m:Mem}:∀(t:Ty) {b:List Value} {x:t.T},bW w S.I t b x->dZ w S m (lh af t x) b
 | .int k,b,x,h=>by
   rw[bW] at h;rw[lh,h.1];simp only[dZ];exact⟨_,_,rfl,fo.2 ⟨rfl,h.2⟩,rfl⟩
 | .bool,b,x,h=>by
   rw[bW] at h;rw[lh,h];simp only[dZ];exact⟨_,_,rfl,ij.2 rfl,rfl⟩
 | .str,b,x,h=>by
   rw[bW] at h;rw[lh,h.1];simp only[dZ];exact⟨_,_,rfl,vo.2 ⟨rfl,h.2⟩,rfl⟩
 | .slice t,b,x,h=>by
   have f:=h;obtain⟨a,c,e,_⟩:=f;exact⟨_, [],e,sI.2 (by simp_all),rfl⟩
 | .arr n t,b,x,h=>by
   rw[bW] at h;refine dZ.zh _ t.size n b h.2.1 λi g=>?_;exact ll t (h.2.2 i _ (qL (by omega)))
 | .struct ts,b,x,h=>by rw[bW] at h;rw[lh];exact Fs ts h
 | .any n,b,x,h=>by
   rw[bW] at h;subst h;rw[lh];clear x
   induction b with
   | nil=>rfl
   | cons u b ih=>exact bQ.2 ⟨u,b,rfl,gK,ih⟩
theorem Fs{w:World}{S:St}{m:Mem}:∀(a:List Ty) {b:List Value} {x:Ty.Ts a},fY w S.I a b x->dZ w S m (AR af a x) b
 | [],b,x,h=>by grind [fY,AR,dZ]
 | [t],b,x,h=>by rw[fY] at h;rw[AR];exact ll t h
 | t::f::a,b,x,h=>by
   obtain⟨g,i,rfl,c,e⟩:=h;exact dZ.append (ll t c) (Fs (f::a) e)
end
variable{S:St}{m:Mem}
theorem AS{w:World}{v:Value}{x:t.T}(h:mB w S.I t v x):CR w S m (UI af t x) v:=by
 unfold mB at h;unfold UI;cases ht:t.isAgg with
 | true=>
   rw[ht,if_pos rfl] at h;obtain⟨b,rfl,h⟩:=h;exact⟨b,rfl,ll t h⟩
 | false=>
   rw[ht,if_neg (by simp)] at h;have:=ll (m:=m) t h;cases hd:lh af t x with
   | nil=>simp_all;cases this
   | cons a r=>
     grind [dZ]
theorem ry{α:Type}{w:World}{S:St}{m:Mem}(f:List AV->Option (α×List AV))(sz:Nat)(l:List Value->α->Prop)
  (o:∀c x r g,f c=some (x,r)->dZ w S m c g->∃e j,g=e++j/\e.length=sz/\l e x/\dZ w S m r j) :
  ∀(n:Nat) (c:List AV) (x:List α) (r:List AV) (g:List Value),De f n c=some (x,r)->dZ w S m c g->
   ∃e j,g=e++j/\e.length=n*sz/\x.length=n/\(∀(i:Nat) (y:α),x[i]? = some y->l ((e.drop (i*sz)).take sz) y)/\dZ w S m r j
 | 0,c,x,r,g,h,hc=>by
   cases h;exact⟨[],g,rfl,by simp,rfl,λi y q=>by grind,hc⟩
 | n+1,c,x,r,g,h,hc=>by
   simp only[De] at h;cases h1:f c with
   | none=>grind
   | some p=>
     obtain⟨a,s⟩:=p;rw[h1] at h;simp only at h;split at h;cases h;rename_i b u t;simp at h;obtain⟨rfl,rfl⟩:=h;obtain⟨e,j,rfl,l1,p1,c1⟩:=o c a s g h1 hc;obtain⟨z,B,rfl,l2,l3,p2,c2⟩:=ry f sz l o n s b u j t c1;refine⟨e++z,B,by simp,by grind,by grind,λi y q=>?_,c2⟩;cases i with
     | zero=>
       grind
     | succ i=>
       have:=p2 i y q;rw[show(i+1)*sz=sz+i*sz from by rw[kE,mg],<-eP,oT l1];omega
theorem dZ.cons_inv{w:World}{a:AV}{b:List AV}{c:List Value}(h:dZ w S m (a::b) c):∃v r,c=v::r/\CR w S m a v/\dZ w S m b r:=by grind [dZ]
mutual
theorem nG{w:World}{S:St}{m:Mem}:∀(t:Ty) {f:List AV} {x:t.T} {r:List AV} {l:List Value},y8 t f=some (x,r)->dZ w S m f l->
  ∃z B,l=z++B/\bW w S.I t z x/\dZ w S m r B
 | .int k,f,x,r,l,h,j=>by
   simp only[y8] at h;cases f with
   | nil=>grind
   | cons a f=>
     obtain⟨v,q,rfl,g,o⟩:=j.cons_inv;cases a<;>simp_all
     case int k' c n=>
      split at h
      rotate_left
      cases h;rename_i D;cases h;have g:=fo.1 g;have:=lF D;subst this;exact⟨[v],q,rfl,uV.2 ⟨by grind,g.2⟩,o⟩
 | .bool,f,x,r,l,h,j=>by
   simp only[y8] at h;cases f with
   | nil=>grind
   | cons a f=>
     obtain⟨v,q,rfl,g,o⟩:=j.cons_inv;cases a<;>simp_all
     case bool c b=>
      cases h;exact⟨[v],q,rfl,Cn.2 (by rw[ij.1 g]),o⟩
 | .str,f,x,r,l,h,j=>by
   simp only[y8] at h;cases f with
   | nil=>grind
   | cons a f=>
     obtain⟨v,q,rfl,g,o⟩:=j.cons_inv;cases a<;>simp_all
     case str c s=>
      cases h;have g:=vo.1 g;exact⟨[v],q,rfl,AA.2 ⟨by grind,g.2⟩,o⟩
 | .slice t,f,x,r,l,h,j=>by
   simp only[y8] at h;cases f with
   | nil=>grind
   | cons a f=>
     obtain⟨v,q,rfl,g,o⟩:=j.cons_inv;cases a<;>simp only[reduceCtorEq] at h
     case sl t' x'=>
      by_cases C:t'.beq t=true
      ·rw[dif_pos C] at h
       have:=Ty.eq_of_beq C;subst this;cases h;exact⟨[v],q,rfl,sI.1 g,o⟩
      simp_all
     case gb b=>
      cases h;obtain⟨a,rfl,_⟩:=g;exact⟨[_],q,rfl,d_.2 ⟨a,0,rfl,aj _,aX _,λ_=>rfl,λi y G=>by simp_all⟩,o⟩
 | .arr n t,f,x,r,l,h,j=>by
   obtain⟨z,B,rfl,l1,l2,p,c⟩:=ry (y8 t) t.size (λu y=>bW w S.I t u y) (λf x r l h j=>by
    obtain⟨z,B,e,g,o⟩:=nG t h j;exact⟨z,B,e,g.length,g,o⟩) n f x r l h j
   exact⟨z,B,rfl,Az.2 ⟨l2,l1,p⟩,c⟩
 | .struct ts,f,x,r,l,h,j=>by
   obtain⟨z,B,e,g,o⟩:=nq ts h j
   grind [bW]
 | .any n,f,x,r,l,h,j=>by
   simp only[y8] at h;split at h
   rotate_left
   cases h;obtain⟨_,rfl⟩:=h;have F:=j.length;exact⟨l.take n,l.drop n,(eX n l).symm,(show(l.take n).length=n by simp_all),j.drop n⟩
theorem nq{w:World}{S:St}{m:Mem}:∀(g:List Ty) {a:List AV} {x:Ty.Ts g} {r:List AV} {f:List Value},qM g a=some (x,r)->dZ w S m a f->
  ∃c i,f=c++i/\fY w S.I g c x/\dZ w S m r i
 | [],a,x,r,f,h,hc=>by
   cases h;exact⟨[],f,rfl,yh.2 rfl,hc⟩
 | [t],a,x,r,f,h,hc=>by
   obtain⟨c,i,e,j,l⟩:=nG t h hc
   grind [fY]
 | t::o::g,a,x,r,f,h,hc=>by
   simp only[qM] at h;cases j:y8 t a with
   | none=>simp_all
   | some p=>
     rw[j] at h;simp only at h;split at h;cases h;rename_i b s l;cases h;obtain⟨c,i,rfl,p1,c1⟩:=nG t j hc;obtain⟨n,q,rfl,p2,c2⟩:=nq (o::g) l c1;exact⟨c++n,q,by simp,zK.2 ⟨c,n,rfl,p1,p2⟩,c2⟩
end
end Go.Ev
namespace Go.Ev
theorem lu(k:IntKind)(n:Int):k.has (k.wrap n):=wrap_within k n
theorem aex(k:IntKind):akw k=k.min:=by cases k<;>decide
theorem aew(k:IntKind):akv k=k.max:=by cases k<;>decide
def kindOk(P:Program)(T:TypeId):TK->Prop
 | .bool=>P.underlying T=some .bool
 | .int k=>P.underlying T=some (.int k)
 | .str=>P.underlying T=some .string
 | .slice e=>P.underlying T=some (.slice e)
 | .arr n e=>P.underlying T=some (.array n e)
 | .ptr e=>P.underlying T=some (.pointer e)
 | .func=>∃b c v,P.underlying T=some (.func b c v)
 | .struct fs=>∃F,P.underlying T=some (.struct F)/\F.size=fs.length/\∀(i off sz:Nat) (a:Bool),fs[i]? = some (off,sz,a)->
    ∃f j,F[i]? = some f/\f.offset=off/\P.info? f.type=some j/\j.size=sz/\∀w,(isAgg f.type).run P w=.ok a w
 | .other=>True
def anD(P:Program)(T:TypeId)(zero:List AV):Prop:=
 ∀(w:World) (S:St) (m:Mem) (e f:List AV) (a b:Array Value) (c:Bool) (g:aU->Bool),np e zero=true->fZ e f=some (c,g)->dZ w S m e a.toList->dZ w S m f b.toList->
  (Op.equal T (.agg a) (.agg b)).run P w=.ok (g af) w/\∀h x y,(eqGuard h T x y (.agg a) (.agg b)).run P w=.ok () w
structure Cp(P:Program)(T:TypeId)(ti:TI):Prop where
 info:∃i z,P.info? T=some i/\i.size=ti.size/\i.bytes=ti.bytes/\i.zero=some z/\(∀w S m,dZ w S m ti.zero z.cells.toList)/\
  (∀t,ti.ty=some t->∀w I,bW w I t z.cells.toList t.gw)
 kind:kindOk P T ti.kind
 agg:∀w,(isAgg T).run P w=.ok ti.agg w
 axA:ti.zero.length=ti.size
 ty:∀t,ti.ty=some t->t.size=ti.size/\t.isAgg=ti.agg
 eq:ti.eq=true->ti.agg=true->anD P T ti.zero
 rP:∀t,ti.ty=some t->t.rP=true
def nZ(P:Program)(a:PT TI):Prop:=∀T b,a.get T=some b->Cp P T b
theorem Cp.ru{P:Program}{T:TypeId}{a:TI}(h:Cp P T a)(w:World):(sizeOf T).run P w=.ok a.size w:=by
 obtain⟨i,z,b,c,_⟩:=h.info
 simp_all [sizeOf,typeInfo]
def TV.Is{α:Type}:TV α->α->Prop
 | .leaf a,x=>x=a
 | .br b t e,x=>(b=true/\t.Is x)\/(b=false/\e.Is x)
 | .ar b t,x=>b=true/\t.Is x
 | .bZ _,_=>False
theorem TV.bind_ok{α:Type}{R:Type}{Q:R->Prop}{G:iB->Prop}{g:String}{K:α->Tr R}:∀{i:TV α},Tr.Ok Q G (i.bind g K)->∃x,i.Is x/\Tr.Ok Q G (K x)
 | .leaf a,h=>⟨a,rfl,h⟩
 | .br b t e,h=>by
   cases b with
   | true=>obtain⟨x,c,f⟩:=TV.bind_ok (h.1 rfl);exact⟨x,.inl ⟨rfl,c⟩,f⟩
   | false=>obtain⟨x,c,f⟩:=TV.bind_ok (h.2 rfl);exact⟨x,.inr ⟨rfl,c⟩,f⟩
 | .ar b t,h=>by
   obtain⟨x,c,f⟩:=TV.bind_ok h.2;exact⟨x,⟨h.1,c⟩,f⟩
 | .bZ n,h=>by grind [TV.bind,Tr.Ok]
theorem TV.Gk{α β:Type}{f:α->β}{y:β}:∀{i:TV α},(i.map f).Is y->∃x,i.Is x/\y=f x
 | .leaf a,h=>⟨a,rfl,h⟩
 | .br b t e,h=>by
   rcases h with h|h
   ·obtain⟨x,c,g⟩:=TV.Gk h.2;exact⟨x,.inl ⟨h.1,c⟩,g⟩
   ·obtain⟨x,c,g⟩:=TV.Gk h.2;exact⟨x,.inr ⟨h.1,c⟩,g⟩
 | .ar b t,h=>by
   obtain⟨x,c,g⟩:=TV.Gk h.2;exact⟨x,⟨h.1,c⟩,g⟩
 | .bZ n,h=>h.elim
variable{α:Type}{x:α}
theorem xJ{n:Nat}{o:Option α}(h:(Gr n o).Is x):o=some x:=by
 cases o with
 | none=>exact h.elim
 | some a=>exact congrArg some (Eq.symm h)
variable{c:Bool}
theorem Gm{b:Bool}{t:TV α}(h:(N7 c b t).Is x):b=true/\t.Is x:=by
 unfold N7 at h;cases c with
 | true=>cases b with
   | true=>grind
   | false=>exact h.elim
 | false=>exact h
variable{S:St}{m:Mem}
theorem gP(k:IntKind)(c:Bool)(f:aU->Int){w:World}(h:k.has (f af)):CR w S m (xH af k c f) (.int k (f af)):=by
 cases c<;>exact fo.2 ⟨rfl,h⟩
theorem jQ(c:Bool)(f:aU->Bool){w:World}:CR w S m (Ac af c f) (.bool (f af)):=by
 cases c<;>rfl
variable{a:Int}{d:Nat}{e:TypeId}{v:AV}
section
variable {P:Program} {w:World} {S:St} {m:Mem}
theorem aek{k:IntKind}(h:k.has a)(n:Nat):k.has (a.fdiv (2^n)):=by
 have b:(0:Int)<2^n:=Int.pow_pos (by decide);rw[Int.fdiv_eq_ediv_of_nonneg _ (Int.le_of_lt b)];obtain⟨g,i⟩:=h;have f:k.min<=0:=by cases k<;>decide
 have l:(0:Int)<=k.max:=by cases k<;>decide
 have e:(1:Int)<=2^n:=b;constructor
 ·by_cases c:0<=a
  ·exact bX f (Int.ediv_nonneg c (Int.le_of_lt b))
  ·have:a<=a/2^n:=by
    have j:a*2^n<=a:=by
     have:=Int.mul_le_mul_of_nonpos_left (a:=a) (by omega) e;omega
    simp_all [Int.le_ediv_iff_mul_le]
   omega
 ·by_cases c:0<=a
  ·have:a/2^n<=a:=Int.ediv_le_self _ c
   omega
  ·have:a/2^n<=0:=by
    have:=Int.ediv_lt_of_lt_mul b (show a<1*2^n by omega);omega
   omega
theorem Y4{k:IntKind}{b:Int}(h:k.has a):k.has (a.tmod b):=by
 obtain⟨f,g⟩:=h;have o:k.min<=0:=by cases k<;>decide
 have n:(0:Int)<=k.max:=by cases k<;>decide
 by_cases c:0<=a
 ·have i:=Int.tmod_nonneg b c
  have j:a.tmod b<=a:=by
   have e:(a.tmod b).natAbs<=a.natAbs:=by simp_all [Nat.mod_le]
   omega
  exact⟨by omega,by omega⟩
 ·have e:(a.tmod b).natAbs<=a.natAbs:=by simp_all [Nat.mod_le]
  have l:a.tmod b<=0:=by
   have:=Int.tmod_nonneg b (show 0<= -a by omega)
   simp_all
  exact⟨by omega,by omega⟩
theorem K2{e:BinOp}{T:TypeId}{k j:IntKind}{f:Bool}{b:Int}(l:k.has a)(q:j.has b)(o:e≠.shl)(p:e≠.shr)
  (h:(PG af e k c a j f b).Is v):∃u,(binOp e T (.int k a) (.int j b)).run P w=.ok u w/\CR w S m v u:=by
 unfold PG at h;split at h;exact h.elim;rename_i n;have:=lF n;subst this;cases e<;>simp only[agD] at h<;>try contradiction
 case quo=>
  obtain⟨g,i⟩:=Gm h;have g:b≠0:=by cases f<;>simp_all [af,w9]
  cases i;refine⟨_,?_,gP k _ _ (lu _ _)⟩
  simp_all [binOp_quo,Op.intDiv,af,En]
 case rem=>
  obtain⟨g,i⟩:=Gm h;have g:b≠0:=by cases f<;>simp_all [af,w9]
  cases i;refine⟨_,?_,gP k _ _ (Y4 l)⟩
  simp_all [binOp_rem,Op.intDiv,af,En]
 case add=>cases h;exact⟨_,by simp[binOp_add,Op.intArith,af,En],gP k _ _ (lu _ _)⟩
 case sub=>cases h;exact⟨_,by simp[binOp_sub,Op.intArith,af,En],gP k _ _ (lu _ _)⟩
 case mul=>cases h;exact⟨_,by simp[binOp_mul,Op.intArith,af,En],gP k _ _ (lu _ _)⟩
 case and=>cases h;exact⟨_,by simp[binOp_and,Op.intBits,af,En],gP k _ _ (lu _ _)⟩
 case or=>cases h;exact⟨_,by simp[binOp_or,Op.intBits,af,En],gP k _ _ (lu _ _)⟩
 case xor=>cases h;exact⟨_,by simp[binOp_xor,Op.intBits,af,En],gP k _ _ (lu _ _)⟩
 case andNot=>cases h;exact⟨_,by simp[binOp_andNot,Op.intBits,af,En],gP k _ _ (lu _ _)⟩
 case eql=>cases h;exact⟨_,by simp[binOp_eql,af,w9],jQ _ _⟩
 case neq=>cases h;exact⟨_,by simp[binOp_neq,af,w9],jQ _ _⟩
 case lss=>cases h;exact⟨_,by simp[binOp_lss,af,w9],jQ _ _⟩
 case leq=>cases h;exact⟨_,by simp[binOp_leq,af,w9],jQ _ _⟩
 case gtr=>cases h;exact⟨_,by simp[binOp_gtr,af,w9],jQ _ _⟩
 case geq=>cases h;exact⟨_,by simp[binOp_geq,af,w9],jQ _ _⟩
theorem zg{e:BinOp}{T:TypeId}{k n:IntKind}{g:Bool}{b:Int}(l:k.has a)(i:e=.shl\/e=.shr)
  (h:(K3 af e k c a g b).Is v):∃u,(binOp e T (.int k a) (.int n b)).run P w=.ok u w/\CR w S m v u:=by
 obtain⟨f,j⟩:=Gm h;have f:0<=b:=by cases g<;>simp_all [af,w9]
 cases j;rcases i with rfl|rfl
 ·exact⟨_,by simp[binOp_shl,Op.shift,mA.2 f,af,En],gP k _ _ (lu _ _)⟩
 ·exact⟨_,by simp[binOp_shr,Op.shift,mA.2 f,af,En],gP k _ _ (aek l _)⟩
theorem lS{a:BinOp}{b:Bool}{T:TypeId}{x y:Value}(f:(Op.equal T x y).run P w=.ok b w)
  (c:binOp .eql T x y=(do pure (.bool (<-Op.equal T x y)))) (e:binOp .neq T x y=(do pure (.bool (!(<-Op.equal T x y)))))
  (h:(vJ a b).Is v):∃u,(binOp a T x y).run P w=.ok u w/\CR w S m v u:=by
 cases a<;>simp only[vJ] at h<;>try exact h.elim
 ·cases h;exact⟨_,by simp_all,ij.2 rfl⟩
 ·cases h;exact⟨_,by simp_all,ij.2 rfl⟩
theorem Cy{T:TypeId}{b e:Array TypeId}{g:Bool}{f:Fn}{a c:Array Value}(h:P.underlying T=some (.func b e g)):
  (Op.equalIn (d+1) T (.func f a c) .nilFunc).run P w=.ok false w:=by simp[Op.equalIn,run_underlying h]
theorem Es{T:TypeId}{a b:Array TypeId}(h:P.underlying T=some (.func a b c)):
  (Op.equalIn (d+1) T .nilFunc .nilFunc).run P w=.ok true w:=by simp[Op.equalIn,run_underlying h]
theorem Et{T:TypeId}{a:Addr}(h:P.underlying T=some (.pointer e)):
  (Op.equalIn (d+1) T (.pointer (some a)) (.pointer none)).run P w=.ok false w:=by simp[Op.equalIn,run_underlying h]
theorem Fu{T:TypeId}(h:P.underlying T=some (.pointer e)):
  (Op.equalIn (d+1) T (.pointer none) (.pointer none)).run P w=.ok true w:=by simp[Op.equalIn,run_underlying h]
theorem tO{T:TypeId}{a:Addr}{n c:Nat}(h:P.underlying T=some (.slice e)):
  (Op.equalIn (d+1) T (.slice (some a) n c) (.slice none 0 0)).run P w=.ok false w:=by simp[Op.equalIn,run_underlying h]
theorem Cz{T:TypeId}(h:P.underlying T=some (.slice e)):
  (Op.equalIn (d+1) T (.slice none 0 0) (.slice none 0 0)).run P w=.ok true w:=by simp[Op.equalIn,run_underlying h]
theorem Cp.iT{T:TypeId}{a:TI}{k:TK}(h:Cp P T a)(b:a.kind=k):kindOk P T k:=b▸h.kind
theorem Nr{E:PT TI}(C:nZ P E){G:BinOp}{T:TypeId}{x y:AV}{u v:Value}{r:AV}(xo yo:Operand)(j:CR w S m x u)(i:CR w S m y v)
  (h:(XU af m (E.get T) G x y).Is r):∃z,(do eqGuard G T xo yo u v;binOp G T u v:Sem Value).run P w=.ok z w/\CR w S m r z:=by
 unfold XU at h;cases x<;>simp only at h<;>try exact h.elim
 case int k c a=>
  obtain⟨rfl,J⟩:=fo.1 j;cases y<;>simp only at h<;>try exact h.elim
  case int k' c' b=>
   obtain⟨rfl,K⟩:=fo.1 i;rw[eqGuard_at_int,pure_bind]
   cases G<;>simp only at h<;>first
    | exact zg J (.inl rfl) h
    | exact zg J (.inr rfl) h
    | exact K2 J K (by simp) (by simp) h
 case bool c a=>
  have j:=ij.1 j;subst j;cases y<;>simp only at h<;>try exact h.elim
  case bool c' b=>
   have i:=ij.1 i;subst i;cases ht:E.get T with
   | none=>rw[ht] at h;exact h.elim
   | some ti=>
     rw[ht] at h;simp only at h;cases hk:ti.kind<;>rw[hk] at h<;>simp only at h<;>try exact h.elim
     have o:P.underlying T=some .bool:=(C T ti ht).iT hk;cases G<;>simp only at h<;>try exact h.elim
     ·cases h;exact⟨_,run_eql_bool w T a b o,jQ _ _⟩
     ·cases h;exact⟨_,run_neq_bool w T a b o,jQ _ _⟩
 case agg xs=>
  obtain⟨W,rfl,Q⟩:=uC.1 j;cases y<;>simp only at h<;>try exact h.elim
  case agg ys=>
   obtain⟨X,rfl,V⟩:=uC.1 i;cases ht:E.get T with
   | none=>rw[ht] at h;exact h.elim
   | some ti=>
     rw[ht] at h;simp only at h;cases hea:ti.eq&&(ti.agg&&np xs ti.zero) with
     | false=>rw[hea] at h;exact h.elim
     | true=>
       rw[hea] at h;obtain⟨Z,q⟩:=Bool.and_eq_true_iff.1 hea;obtain⟨q,F⟩:=Bool.and_eq_true_iff.1 q;cases hc:fZ xs ys with
       | none=>rw[hc] at h;exact h.elim
       | some p=>
         obtain⟨c,g⟩:=p;rw[hc] at h;obtain⟨I,D⟩:=(C T ti ht).eq Z q w S m xs ys W X c g F hc Q V;cases G<;>simp only at h<;>try exact h.elim
         ·cases h
          refine⟨_,?_,jQ _ _⟩;simp[dN,D];simp[binOp,I]
         ·cases h
          refine⟨_,?_,jQ _ _⟩;simp[dN,D];simp[binOp,I,af]
 case fn f a c=>
  obtain⟨W,X,rfl,_,_⟩:=uU.1 j;cases y<;>simp only at h<;>try exact h.elim
  have i:=sH.1 i;subst i;rw[eqGuard_at_func,pure_bind];cases ht:E.get T with
  | none=>rw[ht] at h;exact h.elim
  | some ti=>
    rw[ht] at h;simp only at h;cases hk:ti.kind<;>rw[hk] at h<;>simp only at h<;>try exact h.elim
    obtain⟨ps,rs,v,o⟩:=(C T ti ht).iT hk;exact lS (b:=false) (Cy (d:=9999) o) rfl rfl h
 case tg=>
  have j:=sH.1 j;subst j;cases y<;>simp only at h<;>try exact h.elim
  have i:=sH.1 i;subst i;rw[eqGuard_at_nilFunc,pure_bind];cases ht:E.get T with
  | none=>rw[ht] at h;exact h.elim
  | some ti=>
    rw[ht] at h;simp only at h;cases hk:ti.kind<;>rw[hk] at h<;>simp only at h<;>try exact h.elim
    obtain⟨ps,rs,v,o⟩:=(C T ti ht).iT hk;exact lS (b:=true) (Es (d:=9999) o) rfl rfl h
 case jB=>
  have j:=qw.1 j;subst j;cases y<;>simp only at h<;>try exact h.elim
  have i:=qw.1 i;subst i;rw[eqGuard_at_pointer,pure_bind];cases ht:E.get T with
  | none=>rw[ht] at h;exact h.elim
  | some ti=>
    rw[ht] at h;simp only at h;cases hk:ti.kind<;>rw[hk] at h<;>simp only at h<;>try exact h.elim
    have o:P.underlying T=some (.pointer _):=(C T ti ht).iT hk;exact lS (b:=true) (Fu (d:=9999) o) rfl rfl h
 case ptr id off=>
  rw[CR] at j;cases hm:m.at id<;>rw[hm] at h j<;>cases y<;>simp only at h<;>try exact h.elim
  subst j;have i:=qw.1 i;subst i;rw[eqGuard_at_pointer,pure_bind];cases ht:E.get T with
  | none=>rw[ht] at h;exact h.elim
  | some ti=>
    rw[ht] at h;simp only at h;cases hk:ti.kind<;>rw[hk] at h<;>simp only at h<;>try exact h.elim
    have o:P.underlying T=some (.pointer _):=(C T ti ht).iT hk;exact lS (b:=false) (Et (d:=9999) o) rfl rfl h
 case gb b=>
  obtain⟨a,rfl,K⟩:=mX.1 j;cases b<;>(try simp only at h)<;>try exact h.elim
  cases y<;>(try simp only at h)<;>try exact h.elim
  rename_i H;obtain⟨a2,rfl,s⟩:=mX.1 i;cases H<;>(try simp only at h)<;>try exact h.elim
  have I:=K rfl;have D:=s rfl;subst I;subst D;rw[eqGuard_at_slice,pure_bind];cases ht:E.get T with
  | none=>rw[ht] at h;exact h.elim
  | some ti=>
    rw[ht] at h;simp only at h;cases hk:ti.kind<;>rw[hk] at h<;>simp only at h<;>try exact h.elim
    have o:P.underlying T=some (.slice _):=(C T ti ht).iT hk;exact lS (b:=true) (Cz (d:=9999) o) rfl rfl h
 case own id=>
  rw[CR] at j;cases hm:m.at id<;>rw[hm] at h j<;>cases y<;>(try simp only at h)<;>try exact h.elim
  rename_i H;obtain⟨a2,rfl,s⟩:=mX.1 i;cases H<;>(try simp only at h)<;>try exact h.elim
  have D:=s rfl;subst D;rename_i fz t l;have O:∃a n B,u=.slice a n B/\(l≠ []->∃b,a=some b):=by grind
  obtain⟨a,n,B,rfl,N⟩:=O;rw[eqGuard_at_slice,pure_bind];cases ht:E.get T with
  | none=>rw[ht] at h;exact h.elim
  | some ti=>
    rw[ht] at h;simp only at h;cases hk:ti.kind<;>rw[hk] at h<;>simp only at h<;>try exact h.elim
    have o:P.underlying T=some (.slice _):=(C T ti ht).iT hk;have hl:l≠ []:=λe=>by
     subst e;exact absurd (show af.c .neq (af.l ([]:List t.T)) 0=true from h.1) (by simp[af,w9])
    obtain⟨b,rfl⟩:=N hl;exact lS (b:=false) (tO (d:=9999) o) rfl rfl h.2
 case sl t l=>
  cases y<;>(try simp only at h)<;>try exact h.elim
  rename_i H;obtain⟨a2,rfl,s⟩:=mX.1 i;cases H<;>(try simp only at h)<;>try exact h.elim
  have D:=s rfl;subst D;obtain⟨a,B,e,h3,h4,h5,_⟩:=d_.1 (sI.1 j);have e:u=.slice a l.length B:=by simp_all
  subst e;rw[eqGuard_at_slice,pure_bind];cases ht:E.get T with
  | none=>rw[ht] at h;exact h.elim
  | some ti=>
    rw[ht] at h;simp only at h;cases hk:ti.kind<;>rw[hk] at h<;>simp only at h<;>try exact h.elim
    have o:P.underlying T=some (.slice _):=(C T ti ht).iT hk;cases a with
    | none=>
      have Y:l=[]:=bA (by simp_all);subst Y;exact absurd (show af.c .neq (af.l ([]:List t.T)) 0=true from h.1) (by simp[af,w9])
    | some a=>exact lS (b:=false) (tO (d:=9999) o) rfl rfl h.2
end
end Go.Ev
namespace Go.Ev
variable{E:PT TI}{a c:List Value}{n off:Nat}{p r:AV}{u v:Value}
section
variable {P:Program} {w0:nu} {w:World} {S:St} {m:Mem}
theorem Hl{a l:List AV}(h:eF off n a=some l):off+n<=a.length/\l=(a.drop off).take n:=by
 unfold eF at h;split at h
 all_goals simp_all
theorem dZ.eF{b l:List AV}(h:eF off n b=some l)(c:dZ w S m b a):
  ((a.drop off).take n).length=n/\dZ w S m l ((a.drop off).take n):=by
 obtain⟨e,rfl⟩:=Hl h;have:=c.length;exact⟨by grind,(c.drop off).take n⟩
theorem lJ.sub{b o:Nat}(h:lJ w b o c)(off n:Nat):lJ w b (o+off) ((c.drop off).take n):=by
 intro j u a;rw[cJ] at a;split at a
 ·rw[cm] at a
  have:=h (off+j) u a
  grind
 grind
theorem jm{g:Nat}{a:Array Value}{T:TypeId}{b:Nat×Nat}(c:w.heap[g]? = some (.cells a T b))(off n:Nat):lJ w g off ((a.toList.drop off).take n):=by
 intro j u e
 grind [cell_of_row]
theorem Lr(G:WR w0 w S m){D:List AV}(a:CR w S m p v)(h:Qd af m p n=some D):
  ∃b off f,v=.pointer (some ⟨b,off,none⟩)/\f.length=n/\dZ w S m D f/\lJ w b off f:=by
 unfold Qd at h;cases p<;>simp only at h<;>try cases h
 case ptr id off=>
  rw[CR] at a;have c:=G.box id;cases hm:m.at id<;>rw[hm] at h a c<;>simp only at h<;>try cases h
  obtain⟨f,T,I,g,_,z⟩:=c;obtain⟨s,q⟩:=dZ.eF h z
  grind [jm]
 case kX id i off=>
  rw[CR] at a;have c:=G.box id;cases hm:m.at id<;>rw[hm] at h a c<;>simp only at h<;>try cases h
  rename_i fz t x;obtain⟨k,rfl,K,rfl⟩:=a;obtain⟨f,T,I,g,_,z,s⟩:=rQ.blk c (ne_of_lt K);have q:=s k _ (qL K);have B:=ll (m:=m) t q;obtain⟨J,V⟩:=dZ.eF h B;refine⟨_,_,_,rfl,J,V,?_⟩;exact(jm g _ _).sub off n
 case y_ id off k t i=>
  rw[CR] at a;have c:=G.box id;cases hm:m.at id<;>rw[hm] at h a c<;>simp only at h<;>try cases h
  rename_i fz F;obtain⟨j,rfl,hj,rfl⟩:=a;obtain⟨f,T,I,g,_,z⟩:=c;cases C:Nat.beq t.size n<;>rw[C] at h<;>(try simp only at h)<;>try (cases h;done)
  have C:=vH C;subst C;cases ht:eF off (k*t.size) F with
  | none=>simp_all
  | some l=>
    rw[ht] at h;simp only at h;obtain⟨s,q⟩:=dZ.eF ht z;split at h
    rotate_left
    cases h;rename_i x r W;cases h;obtain⟨N,O,e,l1,l2,Y,_⟩:=ry (y8 t) t.size (λu y=>bW w S.I t u y) (λD x r f h H=>by
     obtain⟨N,O,e,g,Q⟩:=nG t h H;exact⟨N,O,e,g.length,g,Q⟩) k l x r _ W q
    have B:=Y j _ (qL (by omega));refine⟨_,_,_,rfl,B.length,ll t B,?_⟩;have J:=(jm g off (k*t.size)).sub (j*t.size) t.size
    simp_all
 case pI t x off=>
  obtain⟨b,o,f,rfl,Z,hl,X,H⟩:=tK.1 a;obtain⟨s,q⟩:=dZ.eF h (ll (m:=m) t H);exact⟨_,_,_,rfl,s,q,X.sub off n⟩
theorem BO{b:Nat}(h:lJ w b off a):(loadCells ⟨b,off,none⟩ a.length).run P w=.ok a.toArray w:=
 run_loadCells_list w ⟨b,off,none⟩ a λj v c=>by
  have:=h j v c
  grind [Addr.add]
theorem L_{b:Nat}(h:lJ w b off [u]):(load ⟨b,off,none⟩).run P w=.ok u w:=by
 have:=h 0 u rfl
 simp_all
theorem Dx{agg:Bool}{b:List AV}{v:AV}(h:RZ agg b=some v)(e:dZ w S m b c):
  (agg=true/\CR w S m v (.agg c.toArray))\/(agg=false/\∃u,c=[u]/\CR w S m v u):=by
 cases agg with
 | true=>cases h;exact .inl ⟨rfl,uC.2 ⟨_,rfl,by omega⟩⟩
 | false=>
   cases b with
   | nil=>cases h
   | cons a r=>
     cases r with
     | cons _ _=>cases h
     | nil=>
       cases h
       simp_all [dZ]
theorem AZ(j:nZ P E)(l:WR w0 w S m){T:TypeId}(o:CR w S m p v)(h:(Fy af (E.get T) m p).Is r):
  ∃b off u,v=.pointer (some ⟨b,off,none⟩)/\(loadVar T ⟨b,off,none⟩).run P w=.ok u w/\CR w S m r u:=by
 unfold Fy at h;cases ht:E.get T with
 | none=>rw[ht] at h;exact h.elim
 | some ti=>
   rw[ht] at h;simp only at h;have a:=j T ti ht;split at h;exact h.elim;rename_i q n;replace h:=xJ h;obtain⟨b,off,s,rfl,g,i,f⟩:=Lr l o n;refine⟨b,off,?_⟩;rcases Dx h i with ⟨c,e⟩|⟨c,u,rfl,e⟩
   ·refine⟨_,rfl,?_,e⟩
    simp[loadVar,dN,a.agg,dz,c,if_true,a.ru];rw[<-g,BO f];rfl
   ·refine⟨u,rfl,?_,e⟩
    simp only[loadVar,dN,a.agg,c];exact L_ f
theorem PH{e:UnOp}{x:AV}(a:CR w S m x u)(h:(aj1 af e x).Is r):∃z,(Op.unary e u).run P w=.ok z w/\CR w S m r z:=by
 unfold aj1 at h;cases e<;>cases x<;>simp only at h<;>try exact h.elim
 case neg.int k c n=>
  obtain⟨rfl,f⟩:=fo.1 a;cases h;exact⟨_,by rfl,gP k _ _ (lu _ _)⟩
 case xor.int k c n=>
  obtain⟨rfl,f⟩:=fo.1 a;cases h;exact⟨_,by rfl,gP k _ _ (lu _ _)⟩
 case not.bool c b=>
  have a:=ij.1 a;subst a;cases h;exact⟨_,by rfl,jQ _ _⟩
theorem sG{b:Nat}:(⟨b,off,none⟩:Addr).add n=⟨b,off+n,none⟩:=lZ b off n
theorem AX(n:nZ P E){T:TypeId}{i:Nat}(a:CR w S m p v)(h:(xg m (E.get T) p i).Is r):
  ∃z,(Instr.fieldAt T v i).run P w=.ok z w/\CR w S m r z:=by
 unfold xg at h;cases ht:E.get T with
 | none=>rw[ht] at h;exact h.elim
 | some ti=>
   rw[ht] at h;obtain⟨k,size,c,agg,zero,ty,K⟩:=ti;cases k<;>simp only at h<;>try exact h.elim
   rename_i l;obtain⟨F,Q,s,B⟩:=(n T _ ht).iT (k:=.struct l) rfl;cases hi:l[i]? with
   | none=>rw[hi] at h;exact h.elim
   | some q=>
     obtain⟨off,sz,J⟩:=q;rw[hi] at h;simp only at h;split at h;exact h.elim;obtain⟨f,j,N,rfl,O,rfl,_⟩:=B i _ _ _ hi;replace hz:j.size≠0:=λe=>by simp_all
     have g:∀b o:Nat,v=.pointer (some ⟨b,o,none⟩)->(Instr.fieldAt T v i).run P w=.ok (.pointer (some ⟨b,o+f.offset,none⟩)) w:=by simp_all [run_underlying,sG,Instr.fieldAt,Instr.sureAddr,fieldPlace,sizeOf,typeInfo]
     unfold Xa at h;cases p<;>simp only at h<;>try (cases h;done)
     case ptr id o=>
      rw[CR] at a;cases hm:m.at id<;>rw[hm] at a h<;>simp only at a h<;>try (cases h;done)
      cases h
      grind [CR]
     case kX id i o=>
      rw[CR] at a;cases hm:m.at id<;>rw[hm] at a h<;>simp only at a h<;>try (cases h;done)
      cases h
      grind [CR]
     case pI t x o=>
      cases h;obtain⟨b,H,I,G,u,C,D,y⟩:=tK.1 a;exact⟨_,g _ _ G,tK.2 ⟨b,H,I,by grind,u,C,D,y⟩⟩
theorem Qp{T:TypeId}{e:Bool}{c:Array Value}{sz:Nat}{f l:List AV}{v:AV}(a:(isAgg T).run P w=.ok e w)(b:(sizeOf T).run P w=.ok sz w)
  (j:dZ w S m f c.toList) (n:eF off sz f=some l) (q:RZ e l=some v):∃z,(part T c off).run P w=.ok z w/\CR w S m v z:=by
 obtain⟨r,i⟩:=dZ.eF n j;rcases Dx q i with ⟨g,h⟩|⟨g,u,o,h⟩
 ·refine⟨_,?_,h⟩
  simp[part,dN,a,g,dz,if_true,b,ig]
  grind
 ·refine⟨u,?_,h⟩
  have p:c.toList[off]? = some u:=by
   have:=congrArg (λl:List Value=>l[0]?) o
   grind
  simp_all [part]
theorem jk{c a:Bool}{i n:Int}{t:TV AV}(h:(mQ af c i a n t).Is r):0<=i/\i<n/\t.Is r:=by
 unfold mQ at h;cases hc:c&&a with
 | true=>
   rw[hc] at h;cases b:af.and (af.c .leq 0 i) (af.c .lss i n) with
   | false=>rw[b] at h;exact h.elim
   | true=>
     simp_all [af,w9]
 | false=>
   rw[hc] at h;obtain⟨b,h⟩:=h
   simp_all [af,w9]
theorem wrap_small{n:Int}(a:0<=n)(b:n<=4611686018427387904):IntKind.i64.wrap n=n:=by grind [IntKind.wrap,IntKind.bits]
theorem AY(D:nZ P E)(hW:WR w0 w S m){T:TypeId}{x Y:AV}{vi:Value}(C:CR w S m x v)(hi:CR w S m Y vi)
  (h:(xh af (E.get T) E.get m x Y).Is r):∃z,(Instr.indexAt T v vi).run P w=.ok z w/\CR w S m r z:=by
 unfold xh at h;cases Y<;>simp only at h<;>try exact h.elim
 rename_i k c i;obtain⟨rfl,hk⟩:=fo.1 hi;cases ht:E.get T with
 | none=>rw[ht] at h;exact h.elim
 | some ti=>
   rw[ht] at h;obtain⟨kd,size,N,agg,zero,ty,eq⟩:=ti;cases kd<;>simp only at h<;>try exact h.elim
   case arr n e=>
    have W:P.underlying T=some (.array n e):=(D T _ ht).iT (k:=.arr n e) rfl;cases p:E.get e with
    | none=>rw[p] at h;cases x<;>exact h.elim
    | some y=>
      rw[p] at h;cases x<;>simp only at h<;>try exact h.elim
      rename_i id off;rw[CR] at C;cases hm:m.at id<;>rw[hm] at C h<;>simp_all<;>try exact h.elim
      have H:=(D e y p).ru w;have j:∀(_:0<=i) (_:i<n),(Instr.indexAt T (.pointer (some ⟨S.σ id,off,none⟩)) (.int k i)).run P w=.ok (.pointer (some ⟨S.σ id,off+i.toNat*y.size,none⟩)) w:=by
       intro g f;simp[Instr.indexAt,asIntOf,run_underlying W,Instr.sureAddr,g,f,H,sG]
      cases c with
      | true=>
        obtain⟨g,f,q⟩:=jk h;cases q;exact⟨_,j g f,by rw[CR,hm]⟩
      | false=>
        simp only at h;split at h
        rotate_left
        exact h.elim;rename_i t u;obtain⟨g,f,q⟩:=jk h;cases q;exact⟨_,j g f,by rw[CR,hm];exact⟨i.toNat,by omega,by omega,by rw[((D e y p).ty t u).1]⟩⟩
   case slice e=>
    have W:P.underlying T=some (.slice e):=(D T _ ht).iT (k:=.slice e) rfl;split at h
    rotate_left
    exact h.elim;rename_i y p;have H:=(D e y p).ru w;have j:∀(b o len s:Nat) (_:0<=i) (_:i<len),(Instr.indexAt T (.slice (some ⟨b,o,none⟩) len s) (.int k i)).run P w=.ok (.pointer (some ⟨b,o+i.toNat*y.size,none⟩)) w:=by
     intro b o len s g f;simp[Instr.indexAt,asIntOf,run_underlying W,g,f,H,sG]
    cases x<;>simp only at h<;>try exact h.elim
    case sl t l=>
     split at h
     rotate_left
     exact h.elim;obtain⟨g,f,q⟩:=jk h;cases q;obtain⟨a,s,e1,h3,Z,O,Q⟩:=d_.1 (sI.1 C);replace f:i<(l.length:Int):=f;have h7:=qL (t:=t) (x:=l) (i:=i.toNat) (by omega);obtain⟨b,off,us,rfl,hI,X,hr,hc⟩:=Q _ _ h7;cases e1;exact⟨_,j _ _ _ _ g f,tK.2 ⟨b,off+i.toNat*t.size,us,by simp_all,hI,X,hr,hc⟩⟩
    case own id=>
     rw[CR] at C;cases hm:m.at id<;>rw[hm] at C h<;>simp_all<;>try exact h.elim
     rename_i fz t l;split at h
     rotate_left
     exact h.elim;rename_i B;replace B:=vH B;obtain⟨g,f,q⟩:=jk h;cases q;replace f:i<(l.length:Int):=f;obtain⟨s,rfl,h3,_⟩:=own_ne C (hW.vd hm (ne_of_lt (k:=i.toNat) (by omega)));exact⟨_,j _ _ _ _ g f,by rw[CR,hm];grind⟩
    case vL id sz c' lo len=>
     have hb:=hW.box id;rw[CR] at C;cases hm:m.at id<;>rw[hm] at C h hb<;>simp only at C h<;>try exact h.elim
     case arr fz t l=>
      split at h
      rotate_left
      exact h.elim;rename_i B;replace B:=vH B;obtain⟨g,f,q⟩:=jk h;cases q;obtain⟨I,n0,s,a,rfl,rfl,rfl,O,Q,V,rfl,J,_⟩:=C;have F:=J (by omega);subst F;obtain⟨X,_⟩:=hb;rw[i7] at X;refine⟨_,j _ _ _ _ g f,?_⟩;rw[CR,hm];refine⟨I+i.toNat,?_,by omega,?_⟩
      ·show IntKind.i64.wrap _=_
       rw[wrap_small (by omega) (by omega)];omega
      grind
     case ay fz cs=>
      obtain⟨I,n0,s,a,rfl,rfl,Z,O,Q,V,rfl,J⟩:=C;cases hcc:c&&(c'&&Nat.beq sz y.size) with
      | true=>
        rw[hcc] at h;simp only[fv] at hcc;have B:=vH hcc.2.2;obtain⟨g,f,q⟩:=jk h;cases q;have F:=J (by omega);subst F;refine⟨_,j _ _ _ _ g f,?_⟩;rw[CR,hm];rw[show((I:Int)+i).toNat=I+i.toNat from by omega,fj,B]
      | false=>
        rw[hcc] at h;simp only at h;cases u:y.ty with
        | none=>rw[u] at h;exact h.elim
        | some t=>
          rw[u] at h;cases hc2:c'&&Nat.beq sz y.size with
          | false=>
            rw[hc2] at h;simp only at h;split at h
            rotate_left
            exact h.elim;rename_i G;rw[fv] at G;have B:=vH G.1;have K:0<y.size:=Lu G.2;obtain⟨g,f,q⟩:=jk h;cases q;have F:=J (by omega);subst F;refine⟨_,j _ _ _ _ g f,?_⟩;rw[i7] at Z;rw[CR,hm];refine⟨I+i.toNat,?_,?_,?_⟩
            ·show IntKind.i64.wrap _=_
             rw[wrap_small (by omega) (by omega)];omega
            ·have h9:(I+i.toNat+1)*y.size<=cs.length:=aW (Nat.mul_le_mul (by omega) (kC B.symm)) O
             exact(iK K).2 h9
            ·rw[((D e y p).ty t u).1,B,fj];simp
          | true=>
            rw[hc2] at h;simp only[fv] at hc2;have B:=vH hc2.2;obtain⟨g,f,q⟩:=jk h;cases q;have F:=J (by omega);subst F;refine⟨_,j _ _ _ _ g f,?_⟩;rw[CR,hm];exact⟨i.toNat,by omega,by omega,by rw[((D e y p).ty t u).1];grind⟩
end
end Go.Ev
namespace Go.Ev
variable{r:AV}{t:Ty}
section
variable {P:Program} {w0:nu} {w:World} {S:St} {m:Mem}
theorem Pz{T:TypeId}{a:Array Value}{off:Nat}{x:t.T}(b:(isAgg T).run P w=.ok t.isAgg w)(g:(sizeOf T).run P w=.ok t.size w)
  (h:bW w S.I t ((a.toList.drop off).take t.size) x) (e:off+t.size<=a.size):∃z,(part T a off).run P w=.ok z w/\CR w S m (UI af t x) z:=by
 cases ht:t.isAgg with
 | true=>
   refine⟨.agg (a.extract off (off+t.size)),?_,AS ?_⟩
   all_goals simp_all [part,mB]
 | false=>
   have f:t.size=1:=by cases t<;>first|rfl|grind [Ty.isAgg]
   have c:off<a.size:=by omega
   refine⟨a[off],?_,AS ?_⟩
   all_goals simp_all [Cg,part,mB]
theorem IS{E:PT TI}(G:nZ P E){T:TypeId}{x J:AV}{v vi:Value}(W:CR w S m x v)(hi:CR w S m J vi)
  (h:(K1 af (E.get T) E.get x J).Is r):∃z,(Instr.index T v vi).run P w=.ok z w/\CR w S m r z:=by
 unfold K1 at h;cases J<;>simp only at h<;>try exact h.elim
 rename_i k c i;obtain⟨rfl,hk⟩:=fo.1 hi;cases ht:E.get T with
 | none=>rw[ht] at h;exact h.elim
 | some ti=>
   rw[ht] at h;obtain⟨kd,size,D,agg,zero,ty,eq⟩:=ti;cases kd<;>(try simp only at h)<;>try exact h.elim
   case arr n e=>
    have hT:P.underlying T=some (.array n e):=(G T _ ht).iT (k:=.arr n e) rfl;cases x<;>(try simp only at h)<;>try exact h.elim
    rename_i F;obtain⟨N,rfl,j⟩:=uC.1 W;cases hte:E.get e with
    | none=>rw[hte] at h;exact h.elim
    | some te=>
      rw[hte] at h;have B:=G e te hte;have f:=B.ru w;cases c with
      | true=>
        simp only at h;cases hl:eF (i.toNat*te.size) te.size F with
        | none=>rw[hl] at h;exact h.elim
        | some l=>
          rw[hl] at h;simp only at h;split at h
          rotate_left
          exact h.elim;rename_i v hv;obtain⟨g,a,b⟩:=jk h;cases b;obtain⟨z,p,q⟩:=Qp (T:=e) (B.agg w) f j hl hv
          simp_all [run_underlying,Instr.index,asIntOf]
      | false=>
        simp only at h;cases hty:te.ty with
        | none=>rw[hty] at h;exact h.elim
        | some t=>
          rw[hty] at h;simp only at h;split at h
          rotate_left
          exact h.elim;rename_i l rr hd;obtain⟨g,a,b⟩:=jk h;cases b;obtain⟨a8,I⟩:=B.ty t hty;obtain⟨C,K,O,l1,l2,pr,_⟩:=ry (y8 t) t.size (λu y=>bW w S.I t u y) (λF x r N h hc=>by
           obtain⟨C,K,e,a,b⟩:=nG t h hc;exact⟨C,K,e,a.length,a,b⟩) n F l rr _ hd j
          have Q:=pr i.toNat _ (qL (by omega));have a7:i.toNat*t.size+t.size<=n*t.size:=by
           have:=aH t.size (show i.toNat+1<=n by omega)
           grind
          have V:N.size=C.length+K.length:=by
           have:=congrArg List.length O
           grind
          have Y:(C.drop (i.toNat*t.size)).take t.size=(N.toList.drop (i.toNat*t.size)).take t.size:=by grind
          rw[Y] at Q;obtain⟨z,h8,Z⟩:=Pz (m:=m) (T:=e) (by rw[I];exact B.agg w) (by simp_all) Q (by omega);refine⟨z,?_,Z⟩
          simp_all [run_underlying,Instr.index,asIntOf]
   case str=>
    have hT:P.underlying T=some .string:=(G T _ ht).iT (k:=.str) rfl;cases x<;>(try simp only at h)<;>try exact h.elim
    rename_i X s;obtain⟨rfl,hs⟩:=vo.1 W;have o:∀(_:0<=i) (_:i<(s.length:Int)),(Instr.index T (.string ⟨s.toArray⟩) (.int k i)).run P w=.ok (.int .u8 (af.byte s i)) w/\IntKind.u8.has (af.byte s i):=by
     intro g a;have H:i.toNat<s.length:=by omega
     have hg:(ByteArray.mk s.toArray)[i.toNat]? = some s[i.toNat]:=by
      have f:i.toNat<(ByteArray.mk s.toArray).size:=H;rw[getElem?_pos (ByteArray.mk s.toArray) i.toNat f];rfl
     have hb:af.byte s i=(s[i.toNat].toNat:Int):=by
      show((s.getD i.toNat 0).toNat:Int)=_
      simp_all
     refine⟨?_,?_⟩
     ·simp_all [run_underlying,Instr.index,asIntOf]
     ·rw[hb]
      have:=s[i.toNat].toNat_lt;have O:IntKind.u8.min=0:=by decide
      have e2:IntKind.u8.max=255:=by decide
      constructor<;>omega
    cases hcc:c&&X with
    | true=>
      rw[hcc] at h;obtain⟨g,a,b⟩:=jk h;cases b;obtain⟨p,q⟩:=o g a;exact⟨_,p,fo.2 ⟨rfl,q⟩⟩
    | false=>
      rw[hcc] at h;obtain⟨g,a,b⟩:=jk h;cases b;obtain⟨p,q⟩:=o g a;exact⟨_,p,fo.2 ⟨rfl,q⟩⟩
def E0(d:Int)(o:Option Value)(l:Int):Prop:=(o=none/\l=d)\/∃k,o=some (.int k l)
theorem o5{a:Operand->AV}{e:Operand->Value}(f:∀x,CR w S m (a x) (e x)){c c1:Bool}{d l:Int}{o:Option Operand}(h:bound c d (o.map a)=some (c1,l)):E0 d (o.map e) l:=by
 cases o with
 | none=>cases h;exact .inl ⟨rfl,rfl⟩
 | some x=>
   refine .inr ?_;have b:=f x;simp only[oV] at h ⊢;cases ha:a x<;>rw[ha] at h b<;>simp_all<;>try (cases h;done)
   cases h;exact⟨_,by rw[(fo.1 b).1]⟩
theorem Bw{c:Bool}{l h n:Int}{t:TV AV}(a:(J5 af c l h n t).Is r):0<=l/\l<=h/\h<=n/\t.Is r:=by
 unfold J5 at a;cases c with
 | true=>
   cases b:af.and (af.c .leq 0 l) (af.and (af.c .leq l h) (af.c .leq h n)) with
   | false=>rw[b] at a;exact a.elim
   | true=>
     simp_all [af,w9]
 | false=>
   obtain⟨b,a⟩:=a
   simp_all [af,w9]
theorem wN{e:Bool}{len a:Nat}{g f:Option Value}{l h:Int}(o:E0 0 g l)(j:E0 len f h)(i:0<=l)(p:l<=h)(q:h<=a):
  (Instr.sliceBounds e len a g f none).run P w=.ok (l.toNat,h.toNat,a) w:=by
 have a1:∀k (y:Nat) c,l<=y->(Instr.sliceBound (.int k l) y c).run P w=.ok l.toNat w:=λk y c b=>run_sliceBound w k l y c i b;have a2:∀k (y:Nat) c,h<=y->(Instr.sliceBound (.int k h) y c).run P w=.ok h.toNat w:=λk y c b=>run_sliceBound w k h y c (by omega) b;have n:l<=(h.toNat:Int):=by omega
 rcases o with ⟨rfl,rfl⟩|⟨k,rfl⟩<;>rcases j with ⟨rfl,rfl⟩|⟨r,rfl⟩
 all_goals simp_all [Instr.sliceBounds]
theorem bW.sub{I:Nat->Prop}{a:Option Addr}{c:Nat}{x:List t.T}(h:bW w I (.slice t) [.slice a x.length c] x){l hh:Nat}(B:l<=hh)(C:hh<=x.length):
  bW w I (.slice t) [.slice (if c=l then a else a.map (·.add (l*t.size))) (hh-l) (c-l)] ((x.take hh).drop l):=by
 obtain⟨z,j,e,D,F,G,n⟩:=d_.1 h;cases e;have f:((x.take hh).drop l).length=hh-l:=by grind
 refine d_.2 ⟨_,c-l,by rw[f],by omega,by omega,?_,λi y g=>?_⟩
 ·intro s
  split at s
  all_goals simp_all
 ·rw[cm,cJ] at g
  split at g
  ·rename_i r
   obtain⟨b,off,u,rfl,o,q,H,p⟩:=n _ _ g;refine⟨b,off+l*t.size,u,?_,o,q,?_,p⟩
   ·rw[if_neg (by omega)]
    simp[sG]
   grind
  grind
end
end Go.Ev
namespace Go.Ev
variable{c:Operand->AV}{g:Operand->Value}
section
variable {P:Program} {w0:nu} {w:World} {S:St} {m:Mem}
theorem GU{T e:TypeId}(o:P.underlying T=some (.slice e)){sz:Nat}(c:(sizeOf e).run P w=.ok sz w){a:Option Addr}{len b:Nat}{g f:Option Value}{l h:Int}
  (q:E0 0 g l) (p:E0 len f h) (i:0<=l) (j:l<=h) (n:h<=b) :
  (Instr.sliceAt T (.slice a len b) g f none).run P w=.ok (.slice (if b=l.toNat then a else a.map (·.add (l.toNat*sz))) (h.toNat-l.toNat) (b-l.toNat)) w:=by
 simp[Instr.sliceAt,dN,run_underlying o,dz,Instr.slice,wN q p i j n,c,ig]
theorem FC(Y:WR w0 w S m)(u:∀x,CR w S m (c x) (g x)){T e:TypeId}(J:P.underlying T=some (.slice e)){sz:Nat}(q:(sizeOf e).run P w=.ok sz w)
  {n:Operand} {C B j:Option Operand} {r:AV} (h:(FB af sz m (c n) (C.map c) (B.map c) (j.map c)).Is r) :
  ∃z,(Instr.sliceAt T (g n) (C.map g) (B.map g) (j.map g)).run P w=.ok z w/\CR w S m r z:=by
 have i:=u n;unfold FB at h;cases ha:c n<;>rw[ha] at h i<;>(try simp only at h)<;>try exact h.elim
 case sl t s=>
  split at h;exact h.elim;rename_i f;replace f:=vH f;obtain⟨a,b,e1,Q,h4,h5,h6⟩:=d_.1 (sI.1 i);have y:g n=.slice a s.length b:=by grind
  rw[y];cases j with
  | none=>
    cases hb1:bound true 0 (C.map c) with
    | none=>rw[hb1] at h;exact h.elim
    | some p1=>
      obtain⟨c1,l⟩:=p1;rw[hb1] at h;cases hb2:bound false (af.l s) (B.map c) with
      | none=>rw[hb2] at h;exact h.elim
      | some p2=>
        obtain⟨c2,p⟩:=p2;rw[hb2] at h;obtain⟨D,F,o,G⟩:=Bw h;cases G;have o:p<=(s.length:Int):=o;refine⟨_,GU J q (o5 u hb1) (o5 (d:=(s.length:Int)) u hb2) D F (by omega),sI.2 ?_⟩;have:=bW.sub (by rw[y] at i;exact sI.1 i) (l:=l.toNat) (hh:=p.toNat) (by omega) (by omega);rw[f] at this;exact this
  | some j=>exact h.elim
 case own id=>
  rw[CR] at i;cases hm:m.at id<;>simp_all<;>(try simp only at i h)<;>try exact h.elim
  rename_i fz t s;split at h;exact h.elim;rename_i f;replace f:=vH f;have I:∃a b,g n=.slice a s.length b/\s.length<=b/\(a=none->b=0)/\(s≠ []->a=some ⟨S.σ id,S.δ id,none⟩)/\(S.vd id=true->b=0)/\(S.vd id=false->a=some ⟨S.σ id,S.δ id,none⟩/\∃N T O,w.heap[S.σ id]? = some (.cells N T O)/\S.δ id+b*t.size<=N.size):=by grind
  obtain⟨a,b,y,Q,V,W,X⟩:=I;have K:=Y.box id;rw[hm] at K;obtain⟨H,_⟩:=K;rw[i7] at H;rw[y];cases j with
  | none=>
    cases hb1:bound true 0 (C.map c) with
    | none=>rw[hb1] at h;exact h.elim
    | some p1=>
      obtain⟨c1,l⟩:=p1;rw[hb1] at h;cases hb2:bound false (af.l s) (B.map c) with
      | none=>rw[hb2] at h;exact h.elim
      | some p2=>
        obtain⟨c2,p⟩:=p2;rw[hb2] at h;obtain⟨D,F,o,G⟩:=Bw h;cases G;have o:p<=(s.length:Int):=o;refine⟨_,GU J q (o5 u hb1) (o5 (d:=(s.length:Int)) u hb2) D F (by omega),?_⟩;rw[CR,hm];refine⟨l.toNat,p.toNat-l.toNat,b-l.toNat,_,by omega,?_,rfl,by omega,by omega,?_,rfl,λZ=>?_,λe=>⟨λk=>?_,λk=>?_⟩⟩
        ·show IntKind.i64.wrap _=_
         rw[wrap_small (by omega) (by omega)];omega
        ·grind
        ·rw[if_neg (by omega),W (ne_of_lt (k:=l.toNat) (by omega))];simp[sG,f]
        ·simp_all
        ·obtain⟨rfl,k2⟩:=X.2 k
         rw[e];exact⟨by simp[sG],k2⟩
  | some j=>exact h.elim
theorem CF(G:∀x,CR w S m (c x) (g x)){T e:TypeId}{n:Nat}(K:P.underlying T=some (.array n e)){a:TI}(F:(sizeOf e).run P w=.ok a.size w)
  {C:Operand} {B y:Option Operand} {r:AV} (h:(zT af n a m (c C) (B.map c) (y.map c)).Is r) :
  ∃z,(Instr.sliceAt T (g C) (B.map g) (y.map g) none).run P w=.ok z w/\CR w S m r z:=by
 have q:=G C;unfold zT at h;cases ha:c C<;>rw[ha] at h q<;>(try simp only at h)<;>try exact h.elim
 rename_i id off;rw[CR] at q;cases hm:m.at id<;>rw[hm] at q h<;>(try simp only at q h)<;>try exact h.elim
 rename_i fz J;rw[q];cases hz:Nat.beq a.size 0 with
 | true=>rw[hz] at h;exact h.elim
 | false=>
   split at h
   rotate_left
   exact h.elim;rename_i I;simp only[fv] at I;obtain⟨i,j,o⟩:=I;replace i:=vH i;replace j:=Lu j;replace o:=Lu o;have p:off=off/a.size*a.size:=by grind [Nat.div_add_mod]
   cases hb1:bound true 0 (B.map c) with
   | none=>rw[hb1] at h;exact h.elim
   | some p1=>
     obtain⟨c1,l⟩:=p1;rw[hb1] at h;cases hb2:bound true (n:Int) (y.map c) with
     | none=>rw[hb2] at h;exact h.elim
     | some p2=>
       obtain⟨c2,f⟩:=p2;rw[hb2] at h;simp only at h
       have H:∀(_:0<=l) (_:l<=f) (_:f<=n),∃z,(Instr.sliceAt T (.pointer (some ⟨S.σ id,off,none⟩)) (B.map g) (y.map g) none).run P w=.ok z w/\
         ∃(l1 n1 b:Nat) (a1:Option Addr),((off/a.size:Nat):Int)+l=l1/\f-l=n1/\l1+n1<=gy/\(l1+b)*a.size<=J.length/\n1<=b/\(a1=none->b=0)/\z=.slice a1 n1 b/\(n1≠0->a1=some ⟨S.σ id,l1*a.size,none⟩):=by
        intro s t u
        refine⟨_,by simp[Instr.sliceAt,dN,run_underlying K,dz,Instr.sureAddr,ig,wN (o5 G hb1) (o5 G hb2) s t u,F];rfl,
         off/a.size+l.toNat,f.toNat-l.toNat,n-l.toNat,_,by omega,by omega,by grind [i7],?_,by omega,?_,rfl,λN=>?_⟩
        ·have Q:(off/a.size+l.toNat+(n-l.toNat))*a.size<=(off/a.size+n)*a.size:=aH _ (by omega)
         grind
        ·grind
        ·rw[if_neg (by omega),sG,fj,<-p]
       cases hcc:c1&&c2 with
       | true=>
         rw[hcc] at h;obtain⟨s,t,u,D⟩:=Bw h;cases D
         grind [CR]
       | false=>
         rw[hcc] at h;obtain⟨s,t,u,D⟩:=Bw h;cases D;obtain⟨z,O,V⟩:=H s t u;refine⟨z,O,?_⟩;rw[CR,hm];have W:af.b .add .i64 ((off/a.size:Nat):Int) l=(off/a.size:Nat)+l:=by show IntKind.i64.wrap _=_;grind [wrap_small]
         have X:af.b .sub .i64 f l=f-l:=by show IntKind.i64.wrap _=_;grind [wrap_small]
         grind
theorem IT{E:PT TI}(f:nZ P E)(s:WR w0 w S m){b:Operand->AV}{c:Operand->Value}(o:∀x,CR w S m (b x) (c x)){T:TypeId}
  {q:Operand} {p l i:Option Operand} {r:AV} (h:(K4 af (E.get T) E.get m (b q) (p.map b) (l.map b) (i.map b)).Is r) :
  ∃z,(Instr.sliceAt T (c q) (p.map c) (l.map c) (i.map c)).run P w=.ok z w/\CR w S m r z:=by
 unfold K4 at h;cases ht:E.get T with
 | none=>rw[ht] at h;exact h.elim
 | some ti=>
   rw[ht] at h;simp only at h;cases hk:ti.kind<;>rw[hk] at h<;>(try simp only at h)<;>try exact h.elim
   case arr n e=>
    have g:P.underlying T=some (.array n e):=(f T _ ht).iT hk;cases a:E.get e with
    | none=>rw[a] at h;exact h.elim
    | some j=>
      rw[a] at h;cases i with
      | some _=>exact h.elim
      | none=>
        exact CF o g ((f e j a).ru w) h
   case slice e=>
    have g:P.underlying T=some (.slice e):=(f T _ ht).iT hk;split at h
    rotate_left
    exact h.elim;rename_i j a;exact FC s o g ((f e j a).ru w) h
end
end Go.Ev
namespace Go.Ev
variable{u:Value}{v:AV}
section
variable {P:Program} {w0:nu} {w:World} {S:St} {m:Mem}
theorem Ct(p:v.known m=true)(h:CR w S m v u):dZ w S m v.cells u.cells.toList:=by
 have one:∀{v:AV} {u:Value},CR w S m v u->v.cells=[v]->u.cells=#[u]->dZ w S m v.cells u.cells.toList:=by
  intro v u h j n;rw[j,n];exact bQ.2 ⟨u, [],rfl,h,bC.2 rfl⟩
 cases v
 case undef=>cases p
 case agg cs=>obtain⟨i,rfl,c⟩:=uC.1 h;exact c
 case int=>have f:=(fo.1 h).1;exact one h rfl (by rw[f];rfl)
 case bool=>have f:=(ij.1 h);exact one h rfl (by rw[f];rfl)
 case str=>have f:=(vo.1 h).1;exact one h rfl (by rw[f];rfl)
 case sl=>obtain⟨a,g,e,_⟩:=d_.1 (sI.1 h);obtain rfl:=List.head_eq_of_cons_eq e;exact one h rfl rfl
 case gb=>obtain⟨a,f,_⟩:=mX.1 h;exact one h rfl (by rw[f];rfl)
 case pI=>obtain⟨b,o,i,f,_⟩:=tK.1 h;exact one h rfl (by rw[f];rfl)
 case jB=>have f:=qw.1 h;exact one h rfl (by rw[f];rfl)
 case fn=>obtain⟨i,q,f,_⟩:=uU.1 h;exact one h rfl (by rw[f];rfl)
 case tg=>have f:=sH.1 h;exact one h rfl (by rw[f];rfl)
 case yM=>obtain⟨i,f,_⟩:=kl.1 h;exact one h rfl (by rw[f];rfl)
 case own id=>
  have c:=h;rw[CR] at c;cases hm:m.at id<;>rw[hm] at c<;>simp only at c
  case a_=>grind [AV.known,iM.lD]
  case arr=>rcases c with ⟨_,_,a,f⟩|⟨_,g,f,_⟩<;>exact one h rfl (by rw[f];rfl)
 case vL id _ _ _ _=>
  have c:=h;rw[CR] at c;cases hm:m.at id<;>rw[hm] at c<;>simp only at c
  case a_=>grind [AV.known,iM.lD]
  case arr=>obtain⟨_,_,g,a,_,_,_,_,_,_,f,_⟩:=c;exact one h rfl (by rw[f];rfl)
  case ay=>obtain⟨_,_,g,a,_,_,_,_,_,_,f,_⟩:=c;exact one h rfl (by rw[f];rfl)
 case ptr id _=>
  have c:=h;rw[CR] at c;cases hm:m.at id<;>rw[hm] at c<;>simp only at c
  case a_=>grind [AV.known,iM.lD]
  case ay=>exact one h rfl (by rw[c];rfl)
 case kX id _ _=>
  have c:=h;rw[CR] at c;cases hm:m.at id<;>rw[hm] at c<;>simp only at c
  case a_=>grind [AV.known,iM.lD]
  case arr=>obtain⟨_,_,_,f⟩:=c;exact one h rfl (by rw[f];rfl)
 case y_ id _ _ _ _=>
  have c:=h;rw[CR] at c;cases hm:m.at id<;>rw[hm] at c<;>simp only at c
  case a_=>grind [AV.known,iM.lD]
  case ay=>obtain⟨_,_,_,f⟩:=c;exact one h rfl (by rw[f];rfl)
 case yield l=>
  have c:=h;rw[CR] at c;cases hm:m.at l<;>rw[hm] at c<;>simp only at c
  case a_=>grind [AV.known,iM.lD]
  case loop=>exact one h rfl (by rw[c];rfl)
theorem foldl_set(a:List Value):∀(off:Nat) (b:Array Value),off+a.length<=b.size->
  ((a.zipIdx 0).foldl (λ(c:Array Value) (p:Value×Nat)=>c.setIfInBounds (off+p.2) p.1) b).toList=b.toList.take off++a++b.toList.drop (off+a.length):=by
 suffices h:∀(a:List Value) (k off:Nat) (b:Array Value),off+k+a.length<=b.size->
   ((a.zipIdx k).foldl (λ(c:Array Value) (p:Value×Nat)=>c.setIfInBounds (off+p.2) p.1) b).toList=b.toList.take (off+k)++a++b.toList.drop (off+k+a.length) by simp_all
 intro a
 induction a with
 | nil=>simp_all
 | cons v a ih=>
   intro k off b h;simp only[List.zipIdx_cons,jT];rw[ih (k+1) off _ (by grind)];simp only[Array.toList_setIfInBounds,List.length_cons];apply dH;intro i;rw[b_,b_];have f:((b.toList.set (off+k) v).take (off+(k+1))).length=off+k+1:=by grind
   have g:(b.toList.take (off+k)).length=off+k:=by grind
   rcases Nat.lt_trichotomy i (off+k) with e|e|e
   ·rw[bR (by omega),bR (by omega),cJ,cJ,if_pos (by omega),if_pos e,List.getElem?_set_ne (by omega)]
   ·simp_all [bR]
   ·rw[cn (l₁:=(b.toList.set (off+k) v).take (off+(k+1))) (by omega),cn (l₁:=b.toList.take (off+k)) (by omega),f,g,show i-(off+k)=(i-(off+k+1))+1 from by omega,nR,List.getElem?_cons_succ]
    all_goals grind
theorem pW{off:Nat}{c g b:List AV}{a e:List Value}(h:iw off c g=some b)(i:dZ w S m c a)(f:dZ w S m g e):
  off+a.length<=e.length/\dZ w S m b (e.take off++a++e.drop (off+a.length)):=by
 unfold iw at h;split at h
 rotate_left
 cases h;rename_i l;cases h;have n:=Lu l;have j:=i.length;have o:=f.length;refine⟨by omega,?_⟩;rw[j];exact((f.take off).append i).append (f.drop _)
theorem zv{place:Nat->Option (Nat×Nat)}{i off size:Nat}{b e:List AV}{a:Array Value}{rest:List (Nat×Value)}
  (x:place i=some (off,size)) (g:(v.known m&&Nat.beq v.cells.length size)=true) (p:CR w S m v u) (f:iw off v.cells b=some e) (o:dZ w S m b a.toList) :
  ∃h,Instr.fill place a ((i,u)::rest)=Instr.fill place h rest/\dZ w S m e h.toList/\h.size=a.size:=by
 simp only[fv] at g;have l:=Ct g.1 p;have q:=vH g.2;have r:=l.length;obtain⟨s,t⟩:=pW f l o;have n:(u.cells.zipIdx.foldl (λb (c,j)=>b.setIfInBounds (off+j) c) a).toList=a.toList.take off++u.cells.toList++a.toList.drop (off+u.cells.size):=by
  have:=foldl_set u.cells.toList off a (by omega);rw[<-Array.foldl_toList]
  simp_all
 refine⟨u.cells.zipIdx.foldl (λb (c,j)=>b.setIfInBounds (off+j) c) a,?_,?_,?_⟩
 ·grind [Instr.fill]
 ·simp_all
 ·have:=congrArg List.length n
  grind
end
end Go.Ev
namespace Go.Ev
variable{E:PT TI}{I:Nat->Prop}{a:Option Addr}{e:Operand->AV}{r:AV}{rt:TypeId}{ts:Array TypeId}{v:Value}{x:AV}
section
variable {P:Program} {w0:nu} {w:World} {S:St} {m:Mem}
theorem xk{size:Nat}{f:Operand->AV}{n:Operand->Value}(o:∀x,CR w S m (f x) (n x)):∀(c:List (Nat×Operand)) (e a:List AV) (b:Array Value),
  FF m size (c.map λp=>(p.1,f p.2)) e=some a->dZ w S m e b.toList->
  ∃j,Instr.fill (λi=>some (i*size,size)) b (c.map λp=>(p.1,n p.2))=some j/\dZ w S m a j.toList/\j.size=b.size
 | [],e,a,b,h,hc=>by cases h;exact⟨b,rfl,hc,rfl⟩
 | (i,x)::c,e,a,b,h,hc=>by
   simp[eB,FF] at h;cases hk:((f x).known m&&Nat.beq (f x).cells.length size) with
   | false=>grind
   | true=>
     rw[hk] at h;simp only at h;split at h;cases h;rename_i g r;obtain⟨l,t,q,u⟩:=zv (rest:=c.map λp=>(p.1,n p.2)) (place:=λi=>some (i*size,size)) rfl hk (o x) r hc;obtain⟨s,y,z,B⟩:=xk o c g a l h q
     grind
theorem DJ{n:List (Nat×Nat×Bool)}{place:Nat->Option (Nat×Nat)}(c:∀i off sz j,n[i]? = some (off,sz,j)->place i=some (off,sz))
  {g:Operand->AV} {s:Operand->Value} (t:∀x,CR w S m (g x) (s x)):∀(e:List (Nat×Operand)) (f a:List AV) (b:Array Value),
  Ny m n (e.map λp=>(p.1,g p.2)) f=some a->dZ w S m f b.toList->
  ∃o,Instr.fill place b (e.map λp=>(p.1,s p.2))=some o/\dZ w S m a o.toList/\o.size=b.size
 | [],f,a,b,h,hc=>by cases h;exact⟨b,rfl,hc,rfl⟩
 | (i,x)::e,f,a,b,h,hc=>by
   simp[eB,Ny] at h;cases hi:n[i]? with
   | none=>grind
   | some q=>
     obtain⟨off,sz,j⟩:=q;rw[hi] at h;simp only at h;cases hk:((g x).known m&&Nat.beq (g x).cells.length sz) with
     | false=>grind
     | true=>
       rw[hk] at h;simp only at h;split at h;cases h;rename_i l y;obtain⟨r,B,u,C⟩:=zv (rest:=e.map λp=>(p.1,s p.2)) (place:=place) (c i off sz j hi) hk (t x) y hc;obtain⟨z,D,F,G⟩:=DJ c t e l a r h u
       grind
theorem Ew{F:Array Field}{b:List (Nat×Nat×Bool)}(x:F.size=b.length)
  (u:∀(i off sz:Nat) (a:Bool),b[i]? = some (off,sz,a)->∃f j,F[i]? = some f/\f.offset=off/\P.info? f.type=some j/\j.size=sz/\∀w,(isAgg f.type).run P w=.ok a w) :
  (F.mapM λf=>(do pure (f.offset,<-sizeOf f.type):Sem (Nat×Nat))).run P w=.ok ((b.map λp=>(p.1,p.2.1)).toArray) w:=by
 rw[l_]
 have n:∀(l:List Field) (fl:List (Nat×Nat×Bool)),l.length=fl.length->
   (∀(i off sz:Nat) (a:Bool),fl[i]? = some (off,sz,a)->∃f j,l[i]? = some f/\f.offset=off/\P.info? f.type=some j/\j.size=sz)->
   (l.mapM λf=>(do pure (f.offset,<-sizeOf f.type):Sem (Nat×Nat))).run P w=.ok (fl.map λp=>(p.1,p.2.1)) w:=by
  intro l
  induction l with
  | nil=>intro fl c _;cases fl with
    | nil=>simp
    | cons _ _=>simp_all
  | cons f l ih=>
    intro fl c e;cases fl with
    | nil=>simp at c
    | cons q fl=>
      obtain⟨off,sz,a⟩:=q;obtain⟨o,j,g,r,s,t⟩:=e 0 off sz a rfl;simp at g;have:=ih fl (by simpa using c) (λi off sz a h=>by simpa using e (i+1) off sz a (by simpa using h))
      simp_all [sizeOf,typeInfo]
 grind [Sem.run_map,Result.andThen_ok]
theorem IK(B:nZ P E){f:Operand->AV}{H:Operand->Value}(D:∀x,CR w S m (f x) (H x)){T:TypeId}{a:List (Nat×Operand)}
  (h:(KS m (E.get T) E.get (a.map λp=>(p.1,f p.2))).Is r) :
  ∃z,(Instr.build T (a.map λp=>(p.1,H p.2)).toArray).run P w=.ok z w/\CR w S m r z:=by
 unfold KS at h;cases ht:E.get T with
 | none=>rw[ht] at h;exact h.elim
 | some ti=>
   rw[ht] at h;have o:=B T ti ht;obtain⟨i,z,q,N,O,s,u,Q⟩:=o.info;have C:=u w S m;obtain⟨V,size,g,agg,zero,ty,X⟩:=ti;cases V<;>(try simp only at h)<;>try exact h.elim
   case arr n e=>
    have K:P.underlying T=some (.array n e):=o.iT (k:=.arr n e) rfl;split at h
    rotate_left
    exact h.elim;rename_i G t;replace h:=xJ h;cases c:FF m G.size (a.map λp=>(p.1,f p.2)) zero with
    | none=>grind
    | some cs=>
      rw[c] at h;cases h;obtain⟨b,y,j,I⟩:=xk D a zero cs z.cells c C;exact⟨.agg b,by simp[Instr.build,zeroValue,typeInfo,q,s,run_underlying K,(B e G t).ru w,y],uC.2 ⟨b,rfl,j⟩⟩
   case struct fs=>
    obtain⟨F,J,l,c⟩:=o.iT (k:=.struct fs) rfl;replace h:=xJ h;cases hfl:Ny m fs (a.map λp=>(p.1,f p.2)) zero with
    | none=>grind
    | some cs=>
      rw[hfl] at h;cases h;obtain⟨b,y,j,I⟩:=DJ (place:=λi=>((fs.map λp=>(p.1,p.2.1)).toArray)[i]?) (λi off sz W Y=>by grind) D a zero cs z.cells hfl C;refine⟨.agg b,?_,uC.2 ⟨b,rfl,j⟩⟩;simp only[Instr.build,dN,zeroValue,typeInfo,dz,run_underlying J,Ew l c]
      simp_all
theorem KZ(g:nZ P E){s d:TypeId}(l:CR w S m x v)(h:(PD af (E.get s) (E.get d) x).Is r):
  ∃z,(convert s d v).run P w=.ok z w/\CR w S m r z:=by
 cases hs:E.get s with
 | none=>rw[hs] at h;exact h.elim
 | some o=>
   cases hd:E.get d with
   | none=>rw[hs,hd] at h;exact h.elim
   | some e=>
     rw[hs,hd] at h;have b:=g d e hd;have c:∃td,P.underlying s=some td:=by
      have f:=(g s o hs).agg w;unfold isAgg at f;simp[underlying] at f;cases i:P.underlying s with
      | none=>simp_all
      | some td=>simp_all
     obtain⟨td,i⟩:=c;obtain⟨n,size,a,agg,zero,ty,p⟩:=e;cases n<;>cases x<;>(try simp only at h)<;>try exact h.elim
     ·obtain⟨rfl,q⟩:=fo.1 l
      cases h;have j:P.underlying d=some (.int _):=b.iT rfl;refine⟨_,?_,gP _ _ _ (lu _ _)⟩;simp[convert,run_underlying i,run_underlying j,Conv.intToInt,af]
theorem mP{n:Nat}(h:n<=gy):IntKind.i64.has (n:Int):=by
 rw[i7] at h;have a:IntKind.i64.min = -9223372036854775808:=by decide
 have b:IntKind.i64.max=9223372036854775807:=by decide
 constructor<;>omega
theorem Nu(H:nZ P E)(B:WR w0 w S m){T:TypeId}(o:ts[0]? = some T)(g:CR w S m x v)(h:(XV af (E.get T) m x).Is r):
  ∃z,(Builtin.len_ ts rt #[v]).run P w=.ok z w/\CR w S m r z:=by
 unfold XV at h;cases ht:E.get T with
 | none=>rw[ht] at h;exact h.elim
 | some ti=>
   rw[ht] at h;have y:=H T ti ht;obtain⟨J,size,p,agg,zero,ty,Q⟩:=ti;cases J<;>(try simp only at h)<;>try exact h.elim
   case arr n e=>
    have s:P.underlying T=some (.array n e):=y.iT (k:=.arr n e) rfl;split at h
    rotate_left
    exact h.elim;rename_i j;cases h;exact⟨.int .i64 n,by simp[Builtin.len_,o,run_underlying s,goInt],fo.2 ⟨rfl,mP (Lu j)⟩⟩
   case slice e=>
    have s:P.underlying T=some (.slice e):=y.iT (k:=.slice e) rfl;have f:∀(a:Option Addr) (n c:Nat),(Builtin.len_ ts rt #[.slice a n c]).run P w=.ok (.int .i64 n) w:=by
     intro a n c;simp[Builtin.len_,o,run_underlying s,goInt]
    cases x<;>(try simp only at h)<;>try exact h.elim
    case sl t l=>
     obtain⟨a,i,O,V,u,_⟩:=d_.1 (sI.1 g);have C:v=.slice a l.length i:=by simp_all
     cases h;subst C;exact⟨_,f _ _ _,fo.2 ⟨rfl,mP u⟩⟩
    case gb b=>
     obtain⟨a,rfl,_⟩:=mX.1 g;cases h;exact⟨_,f _ _ _,fo.2 ⟨rfl,mP (aX _)⟩⟩
    case own id=>
     have j:=B.box id;rw[CR] at g;cases hm:m.at id<;>simp_all<;>(try simp only at g h)<;>try exact h.elim
     cases h;rcases g with ⟨_,rfl,a,rfl⟩|⟨_,i,rfl,_⟩<;>exact⟨_,f _ _ _,fo.2 ⟨rfl,mP j.1⟩⟩
    case vL id sz c lo n=>
     have j:=B.box id;rw[CR] at g;cases hm:m.at id<;>rw[hm] at g j h<;>(try simp only[iM.lD] at g h)
     case a_=>exact h.elim
     case arr=>
      obtain⟨K,N,i,a,rfl,rfl,I,D,F,q,rfl,G⟩:=g;cases h;exact⟨_,f _ _ _,fo.2 ⟨rfl,mP (by have:=j.1;omega)⟩⟩
     case ay=>
      obtain⟨K,N,i,a,rfl,rfl,u,D,F,q,rfl,G⟩:=g;cases h;exact⟨_,f _ _ _,fo.2 ⟨rfl,mP (by omega)⟩⟩
theorem Nw{n:Operand->Value}(j:∀x,CR w S m (e x) (n x)){f:Array Operand}(h:(XX af (f.toList.map e)).Is r):
  ∃z,(Builtin.min_ ts rt (f.map n)).run P w=.ok z w/\CR w S m r z:=by
 obtain⟨l⟩:=f;unfold XX at h
 match l,h with
 | [x,y],h=>
   have g:=j x;have i:=j y;simp at h;cases ha:e x<;>cases hb:e y<;>rw[ha,hb] at h<;>(try simp only at h)<;>try exact h.elim
   rw[ha] at g;rw[hb] at i;rename_i k c a B s b;obtain⟨o,t⟩:=fo.1 g;obtain⟨p,u⟩:=fo.1 i;split at h
   rotate_left
   exact h.elim;rename_i q;have:=lF q;subst this;cases h;refine⟨.int k (af.mn a b),?_,gP k _ (λA=>A.mn a b) ?_⟩
   ·simp[nS,eB,o,p]
    rfl
   ·show k.has (if _ then _ else _)
    grind
 | [],h=>exact h.elim
 | [x],h=>revert h;simp;cases e x<;>exact λh=>h.elim
 | x::y::z::l,h=>revert h;simp;cases e x<;>cases e y<;>exact λh=>h.elim
theorem Nv{t:Operand->Value}(i:∀x,CR w S m (e x) (t x)){q:Array Operand}(h:(XW af (q.toList.map e)).Is r):
  ∃z,(Builtin.max_ ts rt (q.map t)).run P w=.ok z w/\CR w S m r z:=by
 obtain⟨l⟩:=q;unfold XW at h
 match l,h with
 | [x,y],h=>
   have f:=i x;have g:=i y;simp at h;cases ha:e x<;>cases hb:e y<;>rw[ha,hb] at h<;>(try simp only at h)<;>try exact h.elim
   rw[ha] at f;rw[hb] at g;rename_i k c a H B b;obtain⟨j,F⟩:=fo.1 f;obtain⟨n,G⟩:=fo.1 g;split at h
   rotate_left
   exact h.elim;rename_i o;have:=lF o;subst this;cases h;refine⟨.int k (af.mx a b),?_,gP k _ (λA=>A.mx a b) ?_⟩
   ·simp[nS,eB,j,n]
    rfl
   ·show k.has (if _ then _ else _)
    grind
 | [],h=>exact h.elim
 | [x],h=>revert h;simp;cases e x<;>exact λh=>h.elim
 | [x,y,z],h=>
   have f:=i x;have g:=i y;have s:=i z;simp at h;cases ha:e x<;>cases hb:e y<;>rw[ha,hb] at h<;>(try simp only at h)<;>try exact h.elim
   cases hd:e z<;>rw[hd] at h<;>(try simp only at h)<;>try exact h.elim
   rw[ha] at f;rw[hb] at g;rw[hd] at s;rename_i k c a H B b I C d;obtain⟨j,F⟩:=fo.1 f;obtain⟨n,G⟩:=fo.1 g;obtain⟨D,J⟩:=fo.1 s;split at h
   rotate_left
   exact h.elim;rename_i o p;have:=lF o;subst this;have:=lF p;subst this;cases h;refine⟨.int k (af.mx (af.mx a b) d),?_,gP k _ (λA=>A.mx (A.mx a b) d) ?_⟩
   ·simp[nS,eB,j,n,D]
    rfl
   ·show k.has (if _ then _ else if _ then _ else _)
    grind
 | x::y::z::u::l,h=>revert h;simp;cases e x<;>cases e y<;>cases e z<;>exact λh=>h.elim
theorem Qh(v:Value):CR w S m (Ly v) v:=by
 unfold Ly;cases v<;>(try simp only)<;>try exact gK
 case int k n=>
  cases h:(decide (akw k<=n)&&decide (n<=akv k)) with
  | false=>exact gK
  | true=>
    exact fo.2 ⟨rfl,by grind [aex],by grind [aew]⟩
 case bool b=>rfl
 case string s=>
  cases h:Nat.ble s.data.toList.length 140737488355328 with
  | false=>exact gK
  | true=>exact vo.2 ⟨by simp,Lu h⟩
 case pointer a=>cases a with
  | none=>rfl
  | some a=>exact gK
 case slice a n c=>
  cases a with
  | some a=>exact gK
  | none=>
    cases n with
    | succ n=>exact gK
    | zero=>cases c with
      | succ c=>exact gK
      | zero=>exact mX.2 ⟨none,rfl,λ_=>rfl⟩
 rfl
theorem EF{b:Operand->AV}{c:Operand->Value}(a:∀x,CR w S m (b x) (c x)):∀l:List Operand,dZ w S m (l.map b) (l.map c)
 | []=>bC.2 rfl
 | x::l=>bQ.2 ⟨_,_,rfl,a x,EF a l⟩
theorem UB{t:Ty}{b off:Nat}:∀{x:List t.T},(∀(i:Nat) (y:t.T),x[i]? = some y->∃a,a.length=t.size/\lJ w b (off+i*t.size) a/\bW w I t a y)->
  ∃a:List Value,a.length=x.length*t.size/\lJ w b off a/\∀(i:Nat) (y:t.T),x[i]? = some y->bW w I t ((a.drop (i*t.size)).take t.size) y:=by
 intro x
 induction x generalizing off with
 | nil=>intro _;exact⟨[],by simp,λj u c=>by grind,λi y g=>by grind⟩
 | cons y x ih=>
   intro h;obtain⟨f,n,o,c0⟩:=h 0 y rfl;obtain⟨q,l1,p,c1⟩:=ih (off:=off+t.size) λi y g=>by
    obtain⟨a,a1,a2,r⟩:=h (i+1) y (by grind)
    grind
   refine⟨f++q,by grind,λj u c=>?_,λi z l=>?_⟩
   ·by_cases e:j<f.length
    ·rw[bR e] at c
     have:=o j u c
     grind
    ·rw[cn (by omega)] at c
     have:=p _ u c
     grind
   ·cases i with
    | zero=>
      grind
    | succ i=>
      have:=c1 i z l;rw[show(i+1)*t.size=t.size+i*t.size from by rw[kE,mg],<-eP,oT n];omega
def Ij(w:World)(I:Nat->Prop)(t:Ty)(v:Value)(y:List t.T):Prop:=
 ∃(a:Option Addr) (c:Nat) (e:List Value),v=.slice a y.length c/\y.length<=gy/\e.length=y.length*t.size/\(y.length≠0->∃b off,a=some ⟨b,off,none⟩/\lJ w b off e)/\
  (a=none->c=0)/\y.length<=c/\∀(i:Nat) (z:t.T),y[i]? = some z->bW w I t ((e.drop (i*t.size)).take t.size) z
theorem Ij.none{t:Ty}{b:Nat}(h:a=none->b=0):Ij w I t (.slice a 0 b) []:=
 ⟨a,b, [],rfl,aX _,by simp,λh=>absurd rfl h,h,aX _,λi z c=>by grind⟩
theorem Ij.Qi{t:Ty}{y:List t.T}(h:bW w I (.slice t) [v] y):Ij w I t v y:=by
 obtain⟨a,g,e,n,o,p,q⟩:=d_.1 h;have e:v=.slice a y.length g:=by grind
 by_cases u:y.length=0
 ·have:y=[]:=bA u
  subst this;exact⟨a,g, [],e,o,by simp,λh=>absurd rfl h,p,n,λi z B=>by grind⟩
 ·obtain⟨j,f,D,s,_⟩:=q 0 _ (EK (by omega))
  obtain⟨C,l,r,c⟩:=UB (w:=w) (t:=t) (I:=I) (b:=j) (off:=f) (x:=y) λi z B=>by grind
  exact⟨a,g,C,e,o,l,λ_=>⟨j,f,s,r⟩,p,n,c⟩
theorem lJ.heap{c:World}{b off:Nat}{a:List Value}(h:lJ w b off a)(e:c.heap=w.heap):lJ c b off a:=h.mono (by rw[e])
theorem sP{sz n:Nat}{len c:Nat}{g:List Value}(p:g.length=n*sz)(h:n≠0->∃b off,a=some ⟨b,off,none⟩/\lJ w b off g)(i:World)(l:i.heap=w.heap):
  (Builtin.firstCells sz n (.slice a len c)).run P i=.ok g.toArray i:=by
 cases a with
 | none=>
   have f:n=0:=Decidable.byContradiction λf=>by grind
   subst f;have:g=[]:=bA (by omega);subst this;rfl
 | some a=>
   refine run_firstCells_some i sz n a len c g p λj v o=>?_;have f:n≠0:=λf=>by grind
   obtain⟨b,off,e,q⟩:=h f;cases e;have:=q.heap l j v o
   rwa [lZ]
theorem DI{R:Type}{E:kF R}(D:nZ P E.ti)(O:WR w0 w S m){I:Operand->AV}{J:Operand->Value}(q:∀x,CR w S m (I x) (J x)){o:Oper}{K:TV AV}(h:tP af E I m o=some K){v:AV}(g:K.Is v):
  ∃z,(execOp J o).run P w=.ok (.value z) w/\CR w S m v z:=by
 obtain⟨Q,W,ty,X,G,H⟩:=o;unfold tP at h;cases W<;>simp only at h<;>try (cases h;done)
 case move x=>cases h;cases g;exact⟨_,rfl,q x⟩
 case assign x=>cases h;cases g;exact⟨_,rfl,q x⟩
 case pick c a b=>
  cases h;have B:=q c;cases ha:I c<;>rw[ha] at g B<;>(try simp only at g)<;>try exact g.elim
  rename_i kn vb;have e:=ij.1 B;cases kn with
  | true=>
    cases vb with
    | true=>cases g;exact⟨_,by simp[execOp,e,asBool],q a⟩
    | false=>cases g;exact⟨_,by simp[execOp,e,asBool],q b⟩
  | false=>
    rcases g with ⟨V,g⟩|⟨V,g⟩
    ·subst V;cases g;exact⟨_,by simp[execOp,e,asBool],q a⟩
    ·subst V;cases g;exact⟨_,by simp[execOp,e,asBool],q b⟩
 case load t p=>
  cases h;obtain⟨b,off,u,e,n,r⟩:=AZ D O (q p) g;exact⟨u,by simp[execOp,Instr.loadAt,e,Instr.sureAddr,n],r⟩
 case nilCheck x=>
  cases h;have F:=q x;cases ha:I x<;>rw[ha] at g F<;>(try simp only at g)<;>try exact g.elim
  case ptr id off=>
   have B:=F;rw[CR] at B;cases hm:m.at id<;>rw[hm] at g B<;>(try simp only at g B)<;>try exact g.elim
   cases g;exact⟨_,by simp[execOp,B];rfl,by simp_all⟩
  case kX id i off=>
   have B:=F;rw[CR] at B;cases hm:m.at id<;>simp_all<;>(try simp only at g B)<;>try exact g.elim
   cases g;obtain⟨k,_,_,B⟩:=B;exact⟨_,by simp[execOp,B];rfl,by simp_all⟩
  case pI t x' off=>
   obtain⟨b,o,Y,B,_⟩:=tK.1 F;cases g;exact⟨_,by simp[execOp,B];rfl,by simp_all⟩
  case fn f a b=>
   obtain⟨Y,vs,B,_⟩:=uU.1 F;cases g;exact⟨_,by simp[execOp,B];rfl,by simp_all⟩
 case binOp W t x y t2=>
  cases h;obtain⟨z,n,r⟩:=Nr (w:=w) D x y (q x) (q y) g;exact⟨z,by simp only[execOp,dN,n,dz,ig],r⟩
 case unOp W t x=>
  cases h;obtain⟨z,n,r⟩:=PH (P:=P) (q x) g;exact⟨z,by simp[execOp,n],r⟩
 case convert s d x=>
  have a0:∀{K:TV AV} {v:AV},K=PD af (E.ti.get s) (E.ti.get d) (I x)->K.Is v->∃z,(execOp J {dst:=Q,op:=.convert s d x,type:=ty,pos:=X,after:=G,guard:=H}).run P w=.ok (.value z) w/\CR w S m v z:=by
   intro K v Z g;subst Z;obtain⟨z,n,r⟩:=KZ D (q x) g;exact⟨z,by simp[execOp,n],r⟩
  cases ha:I x<;>rw[ha] at h<;>(try simp only at h)<;>try (cases h;done)
  ·simp_all
 case makeFunc fn a c=>
  cases fn<;>simp only at h<;>try (cases h;done)
  cases h;cases g;refine⟨.func (.func _) (a.map J) (c.map J),rfl,uU.2 ⟨_,_,rfl,?_,?_⟩⟩
  ·have:=EF q a.toList;simp_all
  ·have:=EF q c.toList;simp_all
 case slice t x lo hi mx=>
  cases h;obtain⟨z,n,r⟩:=IT D O q g;exact⟨z,by simp[execOp,n],r⟩
 case fieldAddr t x i=>
  cases h;obtain⟨z,n,r⟩:=AX D (q x) g;exact⟨z,by simp[execOp,n],r⟩
 case field t x i=>cases h;exact g.elim
 case indexAddr t x i=>
  cases h;obtain⟨z,n,r⟩:=AY D O (q x) (q i) g;exact⟨z,by simp[execOp,n],r⟩
 case index t x i=>
  cases h;obtain⟨z,n,r⟩:=IS D (q x) (q i) g;exact⟨z,by simp[execOp,n],r⟩
 case extract t i=>
  cases h;have F:=q t;cases ha:I t<;>rw[ha] at g F<;>(try simp only at g)<;>try exact g.elim
  obtain⟨Y,e,B⟩:=kl.1 F;replace g:=xJ g;obtain⟨z,n,r⟩:=B.get g;have n:Y[i]? = some z:=by simp_all
  exact⟨z,by simp[execOp,Instr.extract,e,n],r⟩
 case build t ps=>
  cases h;obtain⟨z,n,r⟩:=IK D q g;have e:(ps.map λ(i,x)=>(i,J x))=(ps.toList.map λp=>(p.1,J p.2)).toArray:=by grind
  exact⟨z,by simp[execOp,e,dN,n,dz,ig],r⟩
 case call c=>
  obtain⟨C,N,j⟩:=c;cases C<;>(try simp only at h)<;>try (cases h;done)
  rename_i b;cases b<;>simp_all<;>try (cases h;done)
  case len=>
   cases h;obtain⟨l⟩:=N;obtain⟨tl⟩:=j
   match l,tl,g with
   | [x],t::ts,g=>
     obtain⟨z,n,r⟩:=Nu (rt:=ty) (ts:=(t::ts).toArray) D O (by simp) (q x) g;exact⟨z,by simp[execOp,resolve,invoke,builtin,n],r⟩
   | [x], [],g=>exact g.elim
   | [],_,g=>exact g.elim
   | _::_::_,_,g=>exact g.elim
  case max=>
   cases h;obtain⟨z,n,r⟩:=Nv (P:=P) (rt:=ty) (ts:=j) q g;exact⟨z,by simp[execOp,resolve,invoke,builtin,n],r⟩
  case min=>
   cases h;obtain⟨z,n,r⟩:=Nw (P:=P) (rt:=ty) (ts:=j) q g;exact⟨z,by simp[execOp,resolve,invoke,builtin,n],r⟩
end
abbrev aU.c_ (A:aU) (x y:Int):Int:=A.b .add .i64 x y
abbrev aU.lI (A:aU) (x y:Int):Int:=A.b .sub .i64 x y
abbrev aU.bG (A:aU) (x y:Int):Bool:=A.c .lss x y
abbrev aU.bU (A:aU) (x y:Int):Bool:=A.c .leq x y
abbrev aU.bK (A:aU) (x y:Int):Bool:=A.c .eql x y
abbrev aU.cu (A:aU) (x y:Int):Bool:=A.c .neq x y
abbrev aU.ji (A:aU) (x y:Int):Bool:=A.c .gtr x y
abbrev aU.nM (A:aU) (x y:Int):Bool:=A.c .geq x y
end Go.Ev
