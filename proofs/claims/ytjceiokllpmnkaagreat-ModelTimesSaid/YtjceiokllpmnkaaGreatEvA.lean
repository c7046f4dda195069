/-
  PROVED: a symbolic evaluator over the model (a plain Lean function), and that each of its operations that leave memory alone says what the model does. Conditions: the type table fits the program.
-/
import GoSem.Claims
import Derived.Calls
import Derived.Laws.Sem
import Derived.Laws.World
import Derived.Laws.Cells
import Derived.Laws.AppendOwn
import Derived.Laws.Entries
import Derived.Laws.StructEq
import Derived.Laws.Slices
import Derived.Laws.Small
import Derived.Laws.Closers25b
import Derived.Laws.Strings
import Derived.Laws.Append
import Derived.Laws.BytesString
set_option linter.unusedVariables false
set_option linter.unusedSimpArgs false
set_option linter.unusedSectionVars false
namespace Go.Ev
theorem aK{p:Prop}[Decidable p](h:p):decide p=true:=decide_eq_true h
theorem aX{p:Prop}[Decidable p](h:¬p):decide p=false:=decide_eq_false h
theorem cd(a b:Bool):((a&&b)=true)=(a=true∧b=true):=Bool.and_eq_true a b
theorem gm{α:Type}{as bs:List α}:(as++bs).length=as.length+bs.length:=List.length_append
theorem gS(n:Nat):(n:Int).toNat=n:=Int.toNat_natCast n
theorem jV{p:Prop}[Decidable p]:(decide p=true)=p:=decide_eq_true_eq
theorem nE{α:Type}{l:List α}{i:Nat}{a:α}:l.getD i a=l[i]?.getD a:=List.getD_eq_getElem?_getD
theorem mI{n m:Nat}(h:n.beq m=true):n=m:=Nat.eq_of_beq_eq_true h
theorem pV{α:Type}{i:Nat}{l:List α}(h:i<l.length):List.drop i l=l[i]::List.drop (i+1) l:=List.drop_eq_getElem_cons h
theorem uX{α:Type}{l:List α}{i:Nat}(h:i<l.length):l[i]?=some l[i]:=List.getElem?_eq_getElem h
theorem pQ{α:Type}{n:Nat}{a:α}:(List.replicate n a).length=n:=List.length_replicate
theorem oX{n m:Nat}(h:n.ble m=true):n≤m:=Nat.le_of_ble_eq_true h
theorem ku{α:Type}{a:α}{s t:List α}:a∈s++t↔a∈s∨a∈t:=List.mem_append
inductive Ty where
 | int (k:IntKind)
 | bool
 | str
 | slice (t:Ty)
 | arr (n:Nat) (t:Ty)
 | struct (ts:List Ty)
 | any (n:Nat)
mutual
def Ty.T:Ty→Type
 | .int _=>Int
 | .bool=>Bool
 | .str=>List UInt8
 | .slice t=>List t.T
 | .arr _ t=>List t.T
 | .struct ts=>Ty.Ts ts
 | .any _=>Unit
def Ty.Ts:List Ty→Type
 | []=>Unit
 | [t]=>t.T
 | t::t2::ts=>t.T×Ty.Ts (t2::ts)
end
mutual
def Ty.size:Ty→Nat
 | .arr n t=>n*t.size
 | .struct ts=>Ty.gk ts
 | .any n=>n
 | _=>1
def Ty.gk:List Ty→Nat
 | []=>0
 | t::ts=>t.size+Ty.gk ts
end
def Ty.isAgg:Ty→Bool
 | .arr _ _=>true
 | .struct _=>true
 | .any _=>true
 | _=>false
def iy:IntKind→IntKind→Bool
 | .i8,.i8=>true | .i16,.i16=>true | .i32,.i32=>true | .i64,.i64=>true
 | .u8,.u8=>true | .u16,.u16=>true | .u32,.u32=>true | .u64,.u64=>true
 | _,_=>false
theorem iI{a b:IntKind}(h:iy a b=true):a=b:=by cases a<;>cases b<;>first|rfl|cases h
mutual
def Ty.beq:Ty→Ty→Bool
 | .int a,.int b=>iy a b
 | .bool,.bool=>true
 | .str,.str=>true
 | .slice a,.slice b=>a.beq b
 | .arr n a,.arr m b=>Nat.beq n m&&a.beq b
 | .struct aa,.struct bs=>Ty.LJ aa bs
 | .any n,.any m=>Nat.beq n m
 | _,_=>false
def Ty.LJ:List Ty→List Ty→Bool
 | [], []=>true
 | a::aa,b::bs=>a.beq b&&Ty.LJ aa bs
 | _,_=>false
end
mutual
theorem Ty.eq_of_beq:∀{a b:Ty},a.beq b=true→a=b
 | .int a,.int b,h=>by rw[Ty.beq] at h;rw[iI h]
 | .bool,.bool,_=>rfl
 | .str,.str,_=>rfl
 | .slice a,.slice b,h=>by rw[Ty.beq] at h;rw[Ty.eq_of_beq h]
 | .arr n a,.arr m b,h=>by
   rw[Ty.beq,cd] at h
   rw[mI h.1,Ty.eq_of_beq h.2]
 | .struct aa,.struct bs,h=>by rw[Ty.beq] at h;rw[Ty.xF h]
 | .any n,.any m,h=>by rw[Ty.beq] at h;rw[mI h]
 | .any _,.int _,h | .any _,.bool,h | .any _,.str,h | .any _,.slice _,h | .any _,.arr _ _,h | .any _,.struct _,h=>by simp[Ty.beq] at h
 | .int _,.any _,h | .bool,.any _,h | .str,.any _,h | .slice _,.any _,h | .arr _ _,.any _,h | .struct _,.any _,h=>by simp[Ty.beq] at h
 | .int _,.bool,h | .int _,.str,h | .int _,.slice _,h | .int _,.arr _ _,h | .int _,.struct _,h=>by simp[Ty.beq] at h
 | .bool,.int _,h | .bool,.str,h | .bool,.slice _,h | .bool,.arr _ _,h | .bool,.struct _,h=>by simp[Ty.beq] at h
 | .str,.int _,h | .str,.bool,h | .str,.slice _,h | .str,.arr _ _,h | .str,.struct _,h=>by simp[Ty.beq] at h
 | .slice _,.int _,h | .slice _,.bool,h | .slice _,.str,h | .slice _,.arr _ _,h | .slice _,.struct _,h=>by simp[Ty.beq] at h
 | .arr _ _,.int _,h | .arr _ _,.bool,h | .arr _ _,.str,h | .arr _ _,.slice _,h | .arr _ _,.struct _,h=>by simp[Ty.beq] at h
 | .struct _,.int _,h | .struct _,.bool,h | .struct _,.str,h | .struct _,.slice _,h | .struct _,.arr _ _,h=>by simp[Ty.beq] at h
theorem Ty.xF:∀{aa bs:List Ty},Ty.LJ aa bs=true→aa=bs
 | [], [],_=>rfl
 | a::aa,b::bs,h=>by
   rw[Ty.LJ,cd] at h
   rw[Ty.eq_of_beq h.1,Ty.xF h.2]
 | [],_::_,h=>by simp[Ty.LJ] at h
 | _::_, [],h=>by simp[Ty.LJ] at h
end
mutual
def Ty.dZ:(t:Ty)→t.T
 | .int _=>(0:Int)
 | .bool=>false
 | .str=>([]:List UInt8)
 | .slice t=>([]:List t.T)
 | .arr n t=>List.replicate n (Ty.dZ t)
 | .struct ts=>Ty.bi ts
 | .any _=>()
def Ty.bi:(ts:List Ty)→Ty.Ts ts
 | []=>()
 | [t]=>Ty.dZ t
 | t::t2::ts=>(Ty.dZ t,Ty.bi (t2::ts))
end
mutual
def Ty.mg:Ty→Bool
 | .slice t=>t.mg
 | .arr _ t=>t.mg
 | .struct ts=>Ty.zw ts
 | .any _=>false
 | _=>true
def Ty.zw:List Ty→Bool
 | []=>true
 | t::ts=>t.mg&&Ty.zw ts
end
mutual
def Ty.scalar:Ty→Bool
 | .int _=>true
 | .bool=>true
 | .str=>true
 | .arr _ t=>t.scalar
 | .struct ts=>Ty.scalars ts
 | _=>false
def Ty.scalars:List Ty→Bool
 | []=>true
 | t::ts=>t.scalar&&Ty.scalars ts
end
structure aI where
 b:BinOp→IntKind→Int→Int→Int
 c:BinOp→Int→Int→Bool
 u:UnOp→IntKind→Int→Int
 v:IntKind→Int→Int
 mn:Int→Int→Int
 mx:Int→Int→Int
 and:Bool→Bool→Bool
 not:Bool→Bool
 q:Bool→Bool→Bool
 l:{α:Type}→List α→Int
 n:(t:Ty)→List t.T→Int→t.T
 set:{α:Type}→List α→Int→α→List α
 s:{α:Type}→List α→Int→Int→List α
 p:{α:Type}→List α→List α→List α
 r:{α:Type}→Int→α→List α
 spl:{α:Type}→List α→Int→List α→List α
 z:BinOp→List UInt8→List UInt8→Bool
 byte:List UInt8→Int→Int
 bytes:List Int→List UInt8
 ints:List UInt8→List Int
 k:{α β:Type}→(α→β)→α→β
def x9(op:BinOp)(k:IntKind)(a b:Int):Int:=
 match op with
 | .add=>k.wrap (a+b)
 | .sub=>k.wrap (a-b)
 | .mul=>k.wrap (a*b)
 | .quo=>k.wrap (a.tdiv b)
 | .rem=>a.tmod b
 | .and=>k.wrap (BitVec.ofInt k.bits a &&& BitVec.ofInt k.bits b).toNat
 | .or=>k.wrap (BitVec.ofInt k.bits a ||| BitVec.ofInt k.bits b).toNat
 | .xor=>k.wrap (BitVec.ofInt k.bits a ^^^ BitVec.ofInt k.bits b).toNat
 | .andNot=>k.wrap (BitVec.ofInt k.bits a &&& ~~~ BitVec.ofInt k.bits b).toNat
 | .shl=>k.wrap (a*2^min b.toNat k.bits)
 | .shr=>a.fdiv (2^min b.toNat k.bits)
 | _=>0
def qc(op:BinOp)(x y:Int):Bool:=
 match op with
 | .eql=>x==y
 | .neq=>x != y
 | .lss=>decide (x<y)
 | .leq=>decide (x≤y)
 | .gtr=>decide (x > y)
 | .geq=>decide (x ≥ y)
 | _=>false
def ZA(op:UnOp)(k:IntKind)(n:Int):Int:=
 match op with
 | .neg=>k.wrap (0-n)
 | .xor=>k.wrap (BitVec.ofInt k.bits (if k.signed then -1 else k.max) ^^^ BitVec.ofInt k.bits n).toNat
 | _=>0
def QK(op:BinOp)(x y:List UInt8):Bool:=
 match op with
 | .eql=>x==y
 | .neq=>!(x==y)
 | .lss=>Op.bytesLess x y
 | .leq=>Op.bytesLess x y||x==y
 | .gtr=>!(Op.bytesLess x y||x==y)
 | .geq=>!Op.bytesLess x y
 | _=>false
def ah:aI where
 b:=x9
 c:=qc
 u:=ZA
 v k n:=k.wrap n
 mn x y:=if y<x then y else x
 mx x y:=if y > x then y else x
 and a b:=a&&b
 not a:=!a
 q a b:=a==b
 l x:=x.length
 n t x i:=x.getD i.toNat t.dZ
 set x i v:=x.set i.toNat v
 s x lo hi:=(x.take hi.toNat).drop lo.toNat
 p x y:=x++y
 r n v:=List.replicate n.toNat v
 spl x i y:=x.take i.toNat++y++x.drop (i.toNat+y.length)
 z:=QK
 byte s i:=((s.getD i.toNat 0).toNat:Int)
 bytes x:=x.map fun n=>UInt8.ofNat n.toNat
 ints s:=s.map fun b=>(b.toNat:Int)
 k f x:=f x
inductive AV where
 | undef
 | int (k:IntKind) (c:Bool) (n:Int)
 | bool (c:Bool) (b:Bool)
 | str (c:Bool) (s:List UInt8)
 | sl (t:Ty) (x:List t.T)
 | dp (isNil:Bool)
 | own (id:Nat)
 | nD (id sz:Nat) (c:Bool) (lo len:Int)
 | ptr (id off:Nat)
 | nF (id:Nat) (i:Int) (off:Nat)
 | rV (id off n:Nat) (t:Ty) (i:Int)
 | jA (t:Ty) (x:t.T) (off:Nat)
 | fS
 | fn (f:FuncId) (first caps:List AV)
 | yield (l:Nat)
 | kz
 | agg (cells:List AV)
 | qS (vs:List AV)
def AV.Q6:AV→Bool
 | .agg _=>false
 | .qS _=>false
 | _=>true
def AV.cells:AV→List AV
 | .agg cs=>cs
 | v=>[v]
mutual
def fx(A:aI):(t:Ty)→t.T→List AV
 | .int k,x=>[.int k false x]
 | .bool,x=>[.bool false x]
 | .str,x=>[.str false x]
 | .slice t,x=>[.sl t x]
 | .arr n t,x=>(List.range n).flatMap fun(i:Nat)=>fx A t (A.n t x (i:Int))
 | .struct ts,x=>rI A ts x
 | .any n,_=>List.replicate n .undef
def rI(A:aI):(ts:List Ty)→Ty.Ts ts→List AV
 | [],_=>[]
 | [t],x=>fx A t x
 | t::t2::ts,x=>fx A t (Prod.fst (α:=t.T) (β:=Ty.Ts (t2::ts)) x)++rI A (t2::ts) (Prod.snd (α:=t.T) (β:=Ty.Ts (t2::ts)) x)
end
def LX(A:aI)(t:Ty)(x:t.T):AV:=
 match t.isAgg with
 | true=>.agg (fx A t x)
 | false=>(fx A t x).headD .undef
def pO{α:Type}(f:List AV→Option (α×List AV)):Nat→List AV→Option (List α×List AV)
 | 0,cs=>some ([],cs)
 | n+1,cs=>match f cs with
   | none=>none
   | some (a,r)=>match pO f n r with
     | none=>none
     | some (b,r')=>some (a::b,r')
mutual
def oA:(t:Ty)→List AV→Option (t.T×List AV)
 | .int k,cs=>match cs with
   | []=>none
   | v::r=>match v with
     | .int k' _ n=>match iy k' k with|true=>some (n,r)|false=>none
     | _=>none
 | .bool,cs=>match cs with
   | []=>none
   | v::r=>match v with
     | .bool _ b=>some (b,r)
     | _=>none
 | .str,cs=>match cs with
   | []=>none
   | v::r=>match v with
     | .str _ s=>some (s,r)
     | _=>none
 | .slice t,cs=>match cs with
   | []=>none
   | v::r=>match v with
     | .sl t' x=>if h:t'.beq t=true then some (Ty.eq_of_beq h▸x,r) else none
     | .dp _=>some ([],r)
     | _=>none
 | .arr n t,cs=>pO (oA t) n cs
 | .struct ts,cs=>jT ts cs
 | .any n,cs=>match Nat.ble n cs.length with
   | true=>some ((),cs.drop n)
   | false=>none
def jT:(ts:List Ty)→List AV→Option (Ty.Ts ts×List AV)
 | [],cs=>some ((),cs)
 | [t],cs=>oA t cs
 | t::t2::ts,cs=>match oA t cs with
   | none=>none
   | some (a,r)=>match jT (t2::ts) r with
     | none=>none
     | some (b,r')=>some ((a,b),r')
end
inductive PT (α:Type) where
 | leaf
 | node (l:PT α) (v:Option α) (r:PT α)
def PT.get{α:Type}:PT α→Nat→Option α
 | .leaf,_=>none
 | .node l v r,n=>match Nat.beq n 0 with
   | true=>v
   | false=>match Nat.beq (n%2) 1 with
     | true=>l.get (n/2)
     | false=>r.get (n/2-1)
def PT.put{α:Type}:Nat→PT α→Nat→α→PT α
 | 0,t,_,_=>t
 | f+1,.leaf,n,a=>match Nat.beq n 0 with
   | true=>.node .leaf (some a) .leaf
   | false=>match Nat.beq (n%2) 1 with
     | true=>.node (PT.put f .leaf (n/2) a) none .leaf
     | false=>.node .leaf none (PT.put f .leaf (n/2-1) a)
 | f+1,.node l v r,n,a=>match Nat.beq n 0 with
   | true=>.node l (some a) r
   | false=>match Nat.beq (n%2) 1 with
     | true=>.node (PT.put f l (n/2) a) v r
     | false=>.node l v (PT.put f r (n/2-1) a)
abbrev Env:=PT AV
def Env.at(e:Env)(n:Nat):AV:=match PT.get e n with|some v=>v|none=>.undef
def Env.put(e:Env)(n:Nat)(v:AV):Env:=PT.put 20 e n v
def Env.iK(e:Env)(d:Option Nat)(v:AV):Env:=match d with|some n=>e.put n v|none=>e
def Env.of:Nat→List AV→Env→Env
 | _, [],e=>e
 | n,v::vs,e=>Env.of (n+1) vs (e.put n v)
def abf:IntKind→Int
 | .i8=> -128 | .i16=> -32768 | .i32=> -2147483648 | .i64=> -9223372036854775808|_=>0
def ZV:IntKind→Int
 | .i8=>127 | .i16=>32767 | .i32=>2147483647 | .i64=>9223372036854775807
 | .u8=>255 | .u16=>65535 | .u32=>4294967295 | .u64=>18446744073709551615
def D5:Value→AV
 | .int k n=>match decide (abf k≤n)&&decide (n≤ZV k) with|true=>.int k true n|false=>.undef
 | .bool b=>.bool true b
 | .string s=>match Nat.ble s.data.toList.length 140737488355328 with|true=>.str true s.data.toList|false=>.undef
 | .slice none 0 0=>.dp true
 | .pointer none=>.fS
 | .nilFunc=>.kz
 | _=>.undef
def gU(e:Env):Operand→AV
 | .tmp t=>e.at t
 | .const v=>D5 v
 | .global _=>.undef
 | .func f=>.fn f [] []
structure Gx where
 fn:FuncId
 n:Nat
 env:Env
 params:List Nat
 assign:Code
 body:Code
 state:Nat
 pending:Option Code
inductive il where
 | bad
 | dead
 | flat (fz:Bool) (cells:List AV)
 | arr (fz:Bool) (t:Ty) (x:List t.T)
 | loop (r:Gx)
 | BZ
 | Mg
abbrev Mem:=List il
def Mem.at(m:Mem)(i:Nat):il:=m.getD i .bad
inductive bH where
 | code (c:Code)
 | inBlock (id:Nat)
 | inLoop (body:Code)
 | inScope (body:Code)
 | ops (all:Array Oper) (rest:List Oper)
 | fA (all:Array Oper) (ms:List Nat) (rest bs:List Nat)
 | qh (all:Array Oper) (ms:List Nat) (i:Nat) (rest bs:List Nat)
 | kw (l:Nat)
 | kI (l:Nat)
 | beginRound
structure bu where
 fn:FuncId
 n:Nat
 env:Env
 todo:List bH
 marks:List Nat
 cK:Option Nat
structure eD where
 frames:List bu
 mem:Mem
def il.gh:il→Bool
 | .dead=>true
 | _=>false
def AV.known(m:Mem):AV→Bool
 | .undef=>false
 | .own id=>!(m.at id).gh
 | .nD id _ _ _ _=>!(m.at id).gh
 | .ptr id _=>!(m.at id).gh
 | .nF id _ _=>!(m.at id).gh
 | .rV id _ _ _ _=>!(m.at id).gh
 | .yield l=>!(m.at l).gh
 | _=>true
inductive TK where
 | bool|int (k:IntKind)|str|slice (e:Nat)|arr (n e:Nat)|struct (fs:List (Nat×Nat×Bool))|ptr (e:Nat)|func|other
structure TI where
 kind:TK
 size:Nat
 bytes:Nat
 agg:Bool
 zero:List AV
 ty:Option Ty
 eq:Bool
structure ax where
 args:List Ty
 res:List Ty
 pre:Ty.Ts args→Bool
 fn:Ty.Ts args→Ty.Ts res
structure gy where
 view:Ty
 args:List Ty
 res:List Ty
 pre:view.T×Ty.Ts args→Bool
 fn:view.T×Ty.Ts args→Ty.Ts res
inductive VF where
 | d (t:Ty)
 | own (t:Ty)
 | ptr (fs:List VF)
 | kv (fs:List VF)
mutual
def VF.ty:VF→Ty
 | .d t=>t
 | .own t=>.slice t
 | .ptr fs=>.struct (VF.fQ fs)
 | .kv fs=>.struct (VF.fQ fs)
def VF.fQ:List VF→List Ty
 | []=>[]
 | f::fs=>f.ty::VF.fQ fs
end
def VF.fz:VF→Bool
 | .kv _=>true
 | _=>false
def VF.sub:VF→List VF
 | .kv fs=>fs
 | .ptr fs=>fs
 | _=>[]
def VF.size:VF→Nat
 | .d t=>t.size
 | _=>1
def VF.gk:List VF→Nat
 | []=>0
 | f::fs=>f.size+VF.gk fs
structure bL where
 ptrs:List VF
 args:List Ty
 res:List Ty
 pre:Ty.Ts (VF.fQ ptrs)×Ty.Ts args→Bool
 fn:Ty.Ts (VF.fQ ptrs)×Ty.Ts args→Ty.Ts (VF.fQ ptrs)×Ty.Ts res
 rp:Bool
structure dG where
 elem:Ty
 args:List Ty
 dx:List FuncId
 res:List Ty
 pre:List elem.T×Ty.Ts args→Bool
 fn:List elem.T×Ty.Ts args→List elem.T×Ty.Ts res
structure kl where
 args:List Ty
 out:VF
 opt:Bool
 res:List Ty
 pre:Ty.Ts args→Bool
 fn:Ty.Ts args→Bool×out.ty.T×Ty.Ts res
structure Stop where
 fn:FuncId
 rid:Nat
 keep:List (List Nat)
structure eB(R:Type) where
 ti:PT TI
 dx:List (FuncId×Func)
 cZ:List (FuncId×ax)
 stops:List Stop
 dd:List Stop
 consts:List (FuncId×Nat)
 fin:AV→Mem→Option R
 jH:List (FuncId×gy):=[]
 kR:List (FuncId×bL):=[]
 keep:Nat:=0
 jP:List (FuncId×dG):=[]
 ops:List (FuncId×kl):=[]
def Re:List Stop→FuncId→Option Nat→Bool
 | [],_,_=>false
 | _::_,_,none=>false
 | s::r,f,some d=>match Nat.beq s.fn f&&Nat.beq s.rid (d+1000000) with
   | true=>true
   | false=>Re r f (some d)
def yW:List (FuncId×Nat)→FuncId→Option Nat→Bool
 | [],_,_=>false
 | (f,i)::r,g,d=>match Nat.beq f g,d with
   | true,some j=>match Nat.beq i j with|true=>true|false=>yW r g d
   | _,_=>yW r g d
def look{α:Type}:List (Nat×α)→Nat→Option α
 | [],_=>none
 | (i,a)::r,n=>match Nat.beq i n with|true=>some a|false=>look r n
inductive TV (α:Type) where
 | leaf (a:α)
 | br (b:Bool) (t e:TV α)
 | need (b:Bool) (t:TV α)
 | bad (n:Nat)
inductive Tr (R:Type) where
 | ret (y:R)
 | more (c:eD)
 | br (b:Bool) (t e:Tr R)
 | need (b:Bool) (t:Tr R)
 | eqs (p:Prop) (t:Tr R)
 | same (l r:AV) (t:Tr R)
 | and (a b:Tr R)
 | bad (n:Nat) (pos:String)
def TV.bind{α R:Type}(pos:String):TV α→(α→Tr R)→Tr R
 | .leaf a,K=>K a
 | .br b t e,K=>.br b (TV.bind pos t K) (TV.bind pos e K)
 | .need b t,K=>.need b (TV.bind pos t K)
 | .bad n,_=>.bad n pos
def TV.map{α β:Type}(f:α→β):TV α→TV β
 | .leaf a=>.leaf (f a)
 | .br b t e=>.br b (t.map f) (e.map f)
 | .need b t=>.need b (t.map f)
 | .bad n=>.bad n
def zW{α:Type}(n:Nat):Option α→TV α
 | some a=>.leaf a
 | none=>.bad n
def GD{α:Type}(c:Bool)(b:Bool)(t:TV α):TV α:=
 match c with
 | true=>match b with|true=>t|false=>.bad 2
 | false=>.need b t
section
variable (A:aI)
def qq(k:IntKind)(c:Bool)(f:aI→Int):AV:=
 match c with
 | true=>.int k true (f ah)
 | false=>.int k false (f A)
def o_(c:Bool)(f:aI→Bool):AV:=
 match c with
 | true=>.bool true (f ah)
 | false=>.bool false (f A)
def Dz:BinOp→Bool
 | .eql=>true | .neq=>true | .lss=>true | .leq=>true | .gtr=>true | .geq=>true|_=>false
def bJ:List AV→List AV→Option (Bool×(aI→Bool))
 | [], []=>some (true,fun _=>true)
 | .int k c a::xs,.int k' c' b::ys=>match iy k k' with
   | false=>none
   | true=>match bJ xs ys with
     | none=>none
     | some (c2,g)=>some (c&&c'&&c2,fun A=>A.and (A.c .eql a b) (g A))
 | .bool c a::xs,.bool c' b::ys=>match bJ xs ys with
   | none=>none
   | some (c2,g)=>some (c&&c'&&c2,fun A=>A.and (A.q a b) (g A))
 | .str c a::xs,.str c' b::ys=>match bJ xs ys with
   | none=>none
   | some (c2,g)=>some (c&&c'&&c2,fun A=>A.and (A.z .eql a b) (g A))
 | _,_=>none
def K3:AV→AV→Bool
 | .int k _ _,.int k' _ _=>iy k k'
 | .bool _ _,.bool _ _=>true
 | .str _ _,.str _ _=>true
 | _,_=>false
def ir:List AV→List AV→Bool
 | [], []=>true
 | a::as,b::bs=>K3 a b&&ir as bs
 | _,_=>false
def o5(op:BinOp)(isNil:Bool):TV AV:=
 match op with
 | .eql=>.leaf (.bool true isNil)
 | .neq=>.leaf (.bool true (!isNil))
 | _=>.bad 9
def IB(op:BinOp)(k:IntKind)(c:Bool)(a:Int)(k':IntKind)(c':Bool)(b:Int):TV AV:=
 match iy k k' with
 | false=>.bad 3
 | true=>match Dz op with
   | true=>.leaf (o_ A (c&&c') fun A=>A.c op a b)
   | false=>match op with
     | .quo=>GD c' (match c' with|true=>ah.c .neq b 0|false=>A.c .neq b 0) (.leaf (qq A k (c&&c') fun A=>A.b .quo k a b))
     | .rem=>GD c' (match c' with|true=>ah.c .neq b 0|false=>A.c .neq b 0) (.leaf (qq A k (c&&c') fun A=>A.b .rem k a b))
     | op=>.leaf (qq A k (c&&c') fun A=>A.b op k a b)
def yD(op:BinOp)(k:IntKind)(c:Bool)(a:Int)(c':Bool)(b:Int):TV AV:=
 GD c' (match c' with|true=>ah.c .leq 0 b|false=>A.c .leq 0 b) (.leaf (qq A k (c&&c') fun A=>A.b op k a b))
def OM(m:Mem)(ti:Option TI)(op:BinOp)(x y:AV):TV AV:=
 match x with
 | .int k c a=>match y with
   | .int k' c' b=>match op with
     | .shl=>yD A .shl k c a c' b
     | .shr=>yD A .shr k c a c' b
     | op=>IB A op k c a k' c' b
   | _=>.bad 10
 | .bool c a=>match y with
   | .bool c' b=>match ti with
     | some ti=>match ti.kind with
       | .bool=>match op with
         | .eql=>.leaf (o_ A (c&&c') fun A=>A.q a b)
         | .neq=>.leaf (o_ A (c&&c') fun A=>A.not (A.q a b))
         | _=>.bad 4
       | _=>.bad 4
     | none=>.bad 4
   | _=>.bad 10
 | .str c a=>match y with
   | .str c' b=>match Dz op with
     | true=>.leaf (o_ A (c&&c') fun A=>A.z op a b)
     | false=>match op with
       | .add=>.need (A.c .leq (A.l (A.p a b)) 140737488355328) (.leaf (.str false (A.p a b)))
       | _=>.bad 5
   | _=>.bad 10
 | .agg xs=>match y with
   | .agg ys=>match ti with
     | some ti=>match ti.eq&&(ti.agg&&ir xs ti.zero) with
       | false=>.bad 6
       | true=>match bJ xs ys with
         | none=>.bad 7
         | some (c,g)=>match op with
           | .eql=>.leaf (o_ A c g)
           | .neq=>.leaf (o_ A c fun A=>A.not (g A))
           | _=>.bad 8
     | none=>.bad 6
   | _=>.bad 10
 | .fn _ _ _=>match y with
   | .kz=>match ti with
     | some ti=>match ti.kind with | .func=>o5 op false|_=>.bad 9
     | none=>.bad 9
   | _=>.bad 10
 | .kz=>match y with
   | .kz=>match ti with
     | some ti=>match ti.kind with | .func=>o5 op true|_=>.bad 9
     | none=>.bad 9
   | _=>.bad 10
 | .fS=>match y with
   | .fS=>match ti with
     | some ti=>match ti.kind with | .ptr _=>o5 op true|_=>.bad 9
     | none=>.bad 9
   | _=>.bad 10
 | .ptr id _=>match y,m.at id with
   | .fS,.flat _ _=>match ti with
     | some ti=>match ti.kind with | .ptr _=>o5 op false|_=>.bad 9
     | none=>.bad 9
   | _,_=>.bad 10
 | .dp true=>match y with
   | .dp true=>match ti with
     | some ti=>match ti.kind with | .slice _=>o5 op true|_=>.bad 9
     | none=>.bad 9
   | _=>.bad 10
 | .own id=>match y,m.at id with
   | .dp true,.arr _ _ l=>match ti with
     | some ti=>match ti.kind with | .slice _=>.need (A.c .neq (A.l l) 0) (o5 op false)|_=>.bad 9
     | none=>.bad 9
   | _,_=>.bad 10
 | .sl _ l=>match y with
   | .dp true=>match ti with
     | some ti=>match ti.kind with | .slice _=>.need (A.c .neq (A.l l) 0) (o5 op false)|_=>.bad 9
     | none=>.bad 9
   | _=>.bad 10
 | _=>.bad 10
def aai(op:UnOp)(x:AV):TV AV:=
 match op,x with
 | .neg,.int k c n=>.leaf (qq A k c fun A=>A.u .neg k n)
 | .xor,.int k c n=>.leaf (qq A k c fun A=>A.u .xor k n)
 | .not,.bool c b=>.leaf (o_ A c fun A=>A.not b)
 | _,_=>.bad 11
def bD(off n:Nat)(cs:List AV):Option (List AV):=
 match Nat.ble (off+n) cs.length with
 | true=>some ((cs.drop off).take n)
 | false=>none
def E4(m:Mem)(p:AV)(n:Nat):Option (List AV):=
 match p with
 | .ptr id off=>match m.at id with
   | .flat _ cs=>bD off n cs
   | _=>none
 | .nF id i off=>match m.at id with
   | .arr _ t x=>bD off n (fx A t (A.n t x i))
   | _=>none
 | .rV id off k t i=>match m.at id with
   | .flat _ cs=>match Nat.beq t.size n,bD off (k*n) cs with
     | true,some l=>match pO (oA t) k l with
       | some (x,_)=>some (fx A t (A.n t x i))
       | none=>none
     | _,_=>none
   | _=>none
 | .jA t x off=>bD off n (fx A t x)
 | _=>none
def CO(agg:Bool)(cs:List AV):Option AV:=
 match agg with
 | true=>some (.agg cs)
 | false=>match cs with
   | [v]=>some v
   | _=>none
def zu(ti:Option TI)(m:Mem)(p:AV):TV AV:=
 match ti with
 | none=>.bad 20
 | some ti=>match E4 A m p ti.size with
   | none=>.bad 21
   | some cs=>zW 22 (CO ti.agg cs)
def QN(m:Mem)(p:AV)(n:Nat):Option AV:=
 match p with
 | .ptr id off=>match m.at id with
   | .flat _ _=>some (.ptr id (off+n))
   | _=>none
 | .nF id i off=>match m.at id with
   | .arr _ _ _=>some (.nF id i (off+n))
   | _=>none
 | .jA t x off=>some (.jA t x (off+n))
 | _=>none
def qX(m:Mem)(ti:Option TI)(p:AV)(i:Nat):TV AV:=
 match ti with
 | some {kind:=.struct fs,.. }=>match fs[i]? with
   | some (off,size,_)=>match Nat.beq size 0 with
     | true=>.bad 23
     | false=>zW 24 (QN m p off)
   | none=>.bad 25
 | _=>.bad 26
def ik(c:Bool)(i:Int)(c':Bool)(n:Int)(t:TV AV):TV AV:=
 match c&&c' with
 | true=>match ah.and (ah.c .leq 0 i) (ah.c .lss i n) with|true=>t|false=>.bad 31
 | false=>.need (A.and (A.c .leq 0 i) (A.c .lss i n)) t
def qH(ti:Option TI)(te:Nat→Option TI)(m:Mem)(x ix:AV):TV AV:=
 match ix with
 | .int _ c i=>
   match ti with
   | some {kind:=.arr n e,.. }=>match te e,x with
     | some te,.ptr id off=>match m.at id with
       | .flat _ _=>match c with
         | true=>ik A true i true n (.leaf (.ptr id (off+i.toNat*te.size)))
         | false=>match te.ty with
           | some t=>ik A false i true n (.leaf (.rV id off n t i))
           | none=>.bad 32
       | _=>.bad 32
     | _,_=>.bad 33
   | some {kind:=.slice e,.. }=>match te e with
     | some te=>match x with
       | .sl t l=>match Nat.beq te.size t.size with
         | true=>ik A false i false (A.l l) (.leaf (.jA t (A.n t l i) 0))
         | false=>.bad 37
       | .own id=>match m.at id with
         | .arr _ t l=>match Nat.beq te.size t.size with
           | true=>ik A false i false (A.l l) (.leaf (.nF id i 0))
           | false=>.bad 37
         | _=>.bad 34
       | .nD id sz c' lo len=>match m.at id with
         | .arr _ t _=>match Nat.beq te.size t.size with
           | true=>ik A c i c' len (.leaf (.nF id (A.b .add .i64 lo i) 0))
           | false=>.bad 37
         | .flat _ cs=>match c&&(c'&&Nat.beq sz te.size) with
           | true=>ik A true i true len (.leaf (.ptr id ((lo+i).toNat*te.size)))
           | false=>match te.ty,c'&&Nat.beq sz te.size with
             | some t,true=>ik A c i c' len (.leaf (.rV id (lo.toNat*te.size) len.toNat t i))
             | some t,false=>match Nat.beq sz te.size&&Nat.blt 0 te.size with
               | true=>ik A c i c' len (.leaf (.rV id 0 (cs.length/te.size) t (A.b .add .i64 lo i)))
               | false=>.bad 35
             | _,_=>.bad 35
         | _=>.bad 36
       | _=>.bad 37
     | none=>.bad 38
   | _=>.bad 39
 | _=>.bad 40
def D6(ti:Option TI)(te:Nat→Option TI)(x ix:AV):TV AV:=
 match ix with
 | .int _ c i=>
   match ti,x with
   | some {kind:=.arr n e,.. },.agg cs=>match te e with
     | some te=>match c with
       | true=>match bD (i.toNat*te.size) te.size cs with
         | some l=>match CO te.agg l with
           | some v=>ik A true i true n (.leaf v)
           | none=>.bad 41
         | none=>.bad 42
       | false=>match te.ty with
         | some t=>match pO (oA t) n cs with
           | some (l,_)=>ik A false i true n (.leaf (LX A t (A.n t l i)))
           | none=>.bad 43
         | none=>.bad 44
     | none=>.bad 45
   | some {kind:=.str,.. },.str c' s=>match c&&c' with
     | true=>ik A true i true s.length (.leaf (.int .u8 true (ah.byte s i)))
     | false=>ik A false i false (A.l s) (.leaf (.int .u8 false (A.byte s i)))
   | _,_=>.bad 46
 | _=>.bad 47
def bound(c:Bool)(n:Int):Option AV→Option (Bool×Int)
 | none=>some (c,n)
 | some (.int _ c i)=>some (c,i)
 | _=>none
def AO(c:Bool)(l h n:Int)(t:TV AV):TV AV:=
 match c with
 | true=>match ah.and (ah.c .leq 0 l) (ah.and (ah.c .leq l h) (ah.c .leq h n)) with|true=>t|false=>.bad 48
 | false=>.need (A.and (A.c .leq 0 l) (A.and (A.c .leq l h) (A.c .leq h n))) t
def tF(n:Nat)(te:TI)(m:Mem)(x:AV)(lo hi:Option AV):TV AV:=
 match x with
 | .ptr id off=>match m.at id with
   | .flat _ cs=>match Nat.beq te.size 0,Nat.beq (off%te.size) 0&&(Nat.ble (off+n*te.size) cs.length&&Nat.ble (off/te.size+n) 140737488355328) with
     | false,true=>match bound true 0 lo,bound true n hi with
       | some (c1,l),some (c2,h)=>match c1&&c2 with
         | true=>AO A true l h n (.leaf (.nD id te.size true ((off/te.size:Nat)+l) (h-l)))
         | false=>AO A false l h n (.leaf (.nD id te.size false (A.b .add .i64 (off/te.size:Nat) l) (A.b .sub .i64 h l)))
       | _,_=>.bad 51
     | _,_=>.bad 50
   | _=>.bad 49
 | _=>.bad 52
def lk:List AV→Bool
 | []=>true
 | v::vs=>match v with
   | .own _=>false
   | .nD _ _ _ _ _=>false
   | _=>lk vs
def O2(m:Mem)(te:TI)(v:AV):AV:=
 match v with
 | .nD id sz true lo n=>match m.at id,te.ty with
   | .flat true cs,some t=>match bD (lo.toNat*t.size) (n.toNat*t.size) cs with
     | some l=>match Nat.beq sz t.size&&lk l with
       | true=>match pO (oA t) n.toNat l with
         | some (x, [])=>.sl t x
         | _=>.nD id sz true lo n
       | false=>.nD id sz true lo n
     | none=>.nD id sz true lo n
   | _,_=>.nD id sz true lo n
 | v=>v
def zQ(esz:Nat)(m:Mem)(x:AV)(lo hi mx:Option AV):TV AV:=
 match x with
 | .sl t s=>match Nat.beq t.size esz with
   | false=>.bad 53
   | true=>match mx with
     | none=>match bound true 0 lo,bound false (A.l s) hi with
       | some (_,l),some (_,h)=>AO A false l h (A.l s) (.leaf (.sl t (A.s s l h)))
       | _,_=>.bad 53
     | some _=>.bad 53
 | .own id=>match m.at id with
   | .arr _ t s=>match Nat.beq t.size esz with
     | false=>.bad 54
     | true=>match mx with
       | none=>match bound true 0 lo,bound false (A.l s) hi with
         | some (_,l),some (_,h)=>AO A false l h (A.l s) (.leaf (.nD id t.size false l (A.b .sub .i64 h l)))
         | _,_=>.bad 54
       | some _=>.bad 54
   | _=>.bad 55
 | _=>.bad 59
def DK(ti:Option TI)(te:Nat→Option TI)(m:Mem)(x:AV)(lo hi mx:Option AV):TV AV:=
 match ti with
 | none=>.bad 62
 | some ti=>match ti.kind with
   | .arr n e=>match te e,mx with
     | some te,none=>(tF A n te m x lo hi).map (O2 m te)
     | _,_=>.bad 52
   | .slice e=>match te e with
     | some te=>zQ A te.size m x lo hi mx
     | none=>.bad 62
   | .str=>match x,mx with
     | .str _ s,none=>match bound true 0 lo,bound false (A.l s) hi with
       | some (_,l),some (_,h)=>AO A false l h (A.l s) (.leaf (.str false (A.s s l h)))
       | _,_=>.bad 60
     | _,_=>.bad 61
   | _=>.bad 62
def putCells(off:Nat)(new cs:List AV):Option (List AV):=
 match Nat.ble (off+new.length) cs.length with
 | true=>some (cs.take off++new++cs.drop (off+new.length))
 | false=>none
def FF(m:Mem)(fs:List (Nat×Nat×Bool)):List (Nat×AV)→List AV→Option (List AV)
 | [],cs=>some cs
 | (i,v)::ps,cs=>match fs[i]? with
   | none=>none
   | some (off,size,_)=>match v.known m&&Nat.beq v.cells.length size with
     | false=>none
     | true=>match putCells off v.cells cs with
       | none=>none
       | some cs'=>FF m fs ps cs'
def zm(m:Mem)(size:Nat):List (Nat×AV)→List AV→Option (List AV)
 | [],cs=>some cs
 | (i,v)::ps,cs=>match v.known m&&Nat.beq v.cells.length size with
   | false=>none
   | true=>match putCells (i*size) v.cells cs with
     | none=>none
     | some cs'=>zm m size ps cs'
def Em(m:Mem)(ti:Option TI)(te:Nat→Option TI)(ps:List (Nat×AV)):TV AV:=
 match ti with
 | some {kind:=.struct fs,zero:=z,.. }=>zW 63 ((FF m fs ps z).map .agg)
 | some {kind:=.arr _ e,zero:=z,.. }=>match te e with
   | some te=>zW 64 ((zm m te.size ps z).map .agg)
   | none=>.bad 65
 | _=>.bad 66
def yQ(src dst:Option TI)(x:AV):TV AV:=
 match src,dst,x with
 | some _,some {kind:=.int k,.. },.int _ c n=>.leaf (qq A k c fun A=>A.v k n)
 | some _,some {kind:=.str,.. },.str c s=>.leaf (.str c s)
 | _,_,_=>.bad 67
def QA(ti:Option TI)(m:Mem)(x:AV):TV AV:=
 match ti,x with
 | some {kind:=.str,.. },.str c s=>match c with
   | true=>.leaf (.int .i64 true s.length)
   | false=>.leaf (.int .i64 false (A.l s))
 | some {kind:=.arr n _,.. },_=>match Nat.ble n 140737488355328 with|true=>.leaf (.int .i64 true n)|false=>.bad 68
 | some {kind:=.slice _,.. },.sl _ l=>.leaf (.int .i64 false (A.l l))
 | some {kind:=.slice _,.. },.dp _=>.leaf (.int .i64 true 0)
 | some {kind:=.slice _,.. },.nD id _ c _ n=>match (m.at id).gh with|true=>.bad 68|false=>.leaf (.int .i64 c n)
 | some {kind:=.slice _,.. },.own id=>match m.at id with
   | .arr _ _ l=>.leaf (.int .i64 false (A.l l))
   | _=>.bad 68
 | _,_=>.bad 69
def Qg:List AV→TV AV
 | [.int k c a,.int k' c' b]=>match iy k k' with|true=>.leaf (qq A k (c&&c') fun A=>A.mn a b)|false=>.bad 70
 | _=>.bad 70
def OH:List AV→TV AV
 | [.int k c a,.int k' c' b]=>match iy k k' with|true=>.leaf (qq A k (c&&c') fun A=>A.mx a b)|false=>.bad 71
 | _=>.bad 71
def Io(s d:Option TI)(te:Nat→Option TI)(t:Ty)(l:List t.T):Option (TV AV):=
 match s,d with
 | some {kind:=.slice e,.. },some {kind:=.str,.. }=>match te e with
   | some {kind:=.int .u8,.. }=>if h:t.beq (.int .u8)=true then some (.leaf (.str false (A.bytes (Ty.eq_of_beq h▸l:List (Ty.T (.int .u8)))))) else none
   | _=>none
 | _,_=>none
def nW{R:Type}(E:eB R)(ρ:Operand→AV)(m:Mem)(o:Oper):Option (TV AV):=
 match o.op with
 | .move x=>some (.leaf (ρ x))
 | .assign x=>some (.leaf (ρ x))
 | .pick c a b=>some (match ρ c with
   | .bool true v=>match v with|true=>.leaf (ρ a)|false=>.leaf (ρ b)
   | .bool false v=>.br v (.leaf (ρ a)) (.leaf (ρ b))
   | _=>.bad 72)
 | .load t p=>some (zu A (E.ti.get t) m (ρ p))
 | .nilCheck x=>some (match ρ x with
   | .ptr id off=>match m.at id with | .flat _ _=>.leaf (.ptr id off)|_=>.bad 73
   | .nF id i off=>match m.at id with | .arr _ _ _=>.leaf (.nF id i off)|_=>.bad 73
   | .jA t x off=>.leaf (.jA t x off)
   | .fn f a b=>.leaf (.fn f a b)
   | _=>.bad 73)
 | .binOp op t x y _=>some (OM A m (E.ti.get t) op (ρ x) (ρ y))
 | .unOp op _ x=>some (aai A op (ρ x))
 | .convert s d x=>match ρ x with
   | .int k c n=>some (yQ A (E.ti.get s) (E.ti.get d) (.int k c n))
   | .str c n=>match E.ti.get d with
     | some {kind:=.str,.. }=>some (yQ A (E.ti.get s) (E.ti.get d) (.str c n))
     | _=>none
   | .sl t l=>Io A (E.ti.get s) (E.ti.get d) E.ti.get t l
   | _=>none
 | .makeFunc (.func f) first caps=>some (.leaf (.fn f (first.toList.map ρ) (caps.toList.map ρ)))
 | .slice t x lo hi mx=>some (DK A (E.ti.get t) E.ti.get m (ρ x) (lo.map ρ) (hi.map ρ) (mx.map ρ))
 | .fieldAddr t x i=>some (qX m (E.ti.get t) (ρ x) i)
 | .field _ _ _=>some (.bad 40)
 | .indexAddr t x i=>some (qH A (E.ti.get t) E.ti.get m (ρ x) (ρ i))
 | .index t x i=>some (D6 A (E.ti.get t) E.ti.get (ρ x) (ρ i))
 | .extract t i=>some (match ρ t with
   | .qS vs=>zW 74 vs[i]?
   | _=>.bad 75)
 | .build t ps=>some (Em m (E.ti.get t) E.ti.get (ps.toList.map fun p=>(p.1,ρ p.2)))
 | .call {callee:=.builtin .len,args,argTypes}=>some (match args.toList,argTypes.toList with
   | [x],t::_=>QA A (E.ti.get t) m (ρ x)
   | _,_=>.bad 76)
 | .call {callee:=.builtin .min,args,.. }=>some (Qg A (args.toList.map ρ))
 | .call {callee:=.builtin .max,args,.. }=>some (OH A (args.toList.map ρ))
 | _=>none
def bS:Mem→List AV→Option (Mem×List AV)
 | m, []=>some (m, [])
 | m,v::vs=>
   match (match v with
    | .own id=>match m.at id with
      | .arr _ t x=>some (m.set id (.arr true t x),AV.sl t x)
      | _=>none
    | .nD id _ _ lo len=>match m.at id with
      | .arr _ t x=>some (m.set id (.arr true t x),AV.sl t (A.s x lo (A.b .add .i64 lo len)))
      | _=>none
    | v=>some (m,v)) with
   | none=>none
   | some (m,v)=>match bS m vs with
     | none=>none
     | some (m,vs)=>some (m,v::vs)
def sliceData(t:Ty)(m:Mem)(v:AV):Option (List t.T):=
 match v with
 | .sl t' x=>if h:t'.beq t=true then some (Ty.eq_of_beq h▸x) else none
 | .dp _=>some []
 | .own id=>match m.at id with
   | .arr _ t' x=>if h:t'.beq t=true then some (Ty.eq_of_beq h▸x) else none
   | _=>none
 | .nD id sz c lo len=>match m.at id with
   | .arr _ t' x=>if h:t'.beq t=true then some (A.s (Ty.eq_of_beq h▸x) lo (A.b .add .i64 lo len)) else none
   | .flat _ cs=>match c&&Nat.beq sz t.size with
     | true=>match bD (lo.toNat*t.size) (len.toNat*t.size) cs with
       | some l=>match bS A m l with
         | some (_,l)=>match pO (oA t) len.toNat l with
           | some (x,_)=>some x
           | none=>none
         | none=>none
       | none=>none
     | false=>none
   | _=>none
 | _=>none
def gw(t:Ty)(m:Mem)(v:AV):Option Mem:=
 match v with
 | .nD id _ _ lo len=>match m.at id with
   | .flat _ cs=>match bD (lo.toNat*t.size) (len.toNat*t.size) cs with
      | some l=>match bS A m l with
        | some (m',_)=>some m'
        | none=>none
      | none=>none
   | _=>some m
 | _=>some m
def Ed(m:Mem)(p:AV)(new:List AV):Option Mem:=
 match p with
 | .ptr id off=>match m.at id with
   | .flat false cs=>match putCells off new cs with
     | some cs'=>some (m.set id (.flat false cs'))
     | none=>none
   | _=>none
 | .nF id i off=>match bS A m new with
   | none=>none
   | some (m,new)=>match m.at id with
     | .arr false t x=>match putCells off new (fx A t (A.n t x i)) with
       | some cs'=>match oA t cs' with
         | some (y, [])=>some (m.set id (.arr false t (A.set x i y)))
         | _=>none
       | none=>none
     | _=>none
 | .rV id off k t i=>match bS A m new with
   | none=>none
   | some (m,new)=>match m.at id with
     | .flat false cs=>match bD off (k*t.size) cs with
       | some l=>match pO (oA t) k l,oA t new with
         | some (x,_),some (y, [])=>match putCells off (fx A (.arr k t) (A.set x i y)) cs with
           | some cs'=>some (m.set id (.flat false cs'))
           | none=>none
         | _,_=>none
       | none=>none
     | _=>none
 | _=>none
def rG(m:Mem):List AV→Bool
 | []=>true
 | v::vs=>v.known m&&(v.Q6&&rG m vs)
def DI(ti:Option TI)(m:Mem)(p v:AV):TV Mem:=
 match ti with
 | none=>.bad 80
 | some ti=>match v.known m&&(Nat.beq v.cells.length ti.size&&rG m v.cells) with
   | false=>.bad 81
   | true=>zW 82 (Ed A m p v.cells)
def room(bytes:Nat)(n:Int):Bool:=A.c .leq (A.b .mul .i64 n bytes) 140737488355328
def vv(t:Ty)(m:Mem)(v:AV):Option (AV×Mem):=
 match v with
 | .nD id sz true lo n=>match m.at id with
   | .flat false cs=>match decide (lo=0)&&(Nat.beq cs.length (n.toNat*t.size)&&(Nat.beq sz t.size && !Nat.beq t.size 0)) with
     | true=>match Nat.beq n.toNat 0 with
       | true=>some (.dp false,m)
       | false=>match bS A m cs with
         | some (m',cs')=>match pO (oA t) n.toNat cs' with
           | some (x, [])=>some (.own m'.length,m'.set id .dead ++ [.arr false t x])
           | _=>none
         | none=>none
     | false=>none
   | _=>none
 | v=>some (v,m)
def rO(t:Ty)(m:Mem)(v:AV):Option (AV×Mem):=
 match v with
 | .nD id sz c lo n=>match m.at id with
   | .flat _ cs=>match Nat.beq sz t.size&&(!Nat.beq t.size 0&&Nat.beq cs.length (cs.length/t.size*t.size)) with
     | true=>match bS A m cs with
       | some (m',cs')=>match pO (oA t) (cs.length/t.size) cs' with
         | some (x, [])=>some (.sl t (match c&&(decide (lo=0)&&decide (n=(cs.length/t.size:Nat))) with|true=>x|false=>A.s x lo (A.b .add .i64 lo n)),m'.set id (.flat true cs'))
         | _=>none
       | none=>none
     | false=>none
   | _=>none
 | _=>none
def wi(t:Ty)(m:Mem)(v:AV):Option (AV×Mem):=
 match rO A t m v with
 | some r=>some r
 | none=>none
def zk:AV→Option Bool
 | .nD _ _ true _ n=>some (decide (n=0))
 | .dp _=>some true
 | _=>none
def wF(t:Ty)(bytes:Nat)(m:Mem)(dst:AV)(y:List t.T)(lit:Option Bool):TV (AV×Mem):=
  match vv A t m dst with
  | none=>.bad 85
  | some (dst,m)=>match dst with
    | .dp b=>match lit with
      | some true=>.leaf (.dp b,m)
      | some false=>.need (A.c .leq (A.l y) (140737488355328/(bytes.max 1:Nat))) (.leaf (.own m.length,m ++ [.arr false t y]))
      | none=>.br (A.c .eql (A.l y) 0) (.leaf (.dp b,m)) (.need (A.c .leq (A.l y) (140737488355328/(bytes.max 1:Nat))) (.leaf (.own m.length,m ++ [.arr false t y])))
    | .own id=>match m.at id with
      | .arr false t' x=>if h:t'.beq t=true then
         .need (A.c .leq (A.l (A.p (Ty.eq_of_beq h▸x) y)) (140737488355328/(bytes.max 1:Nat)))
          (.leaf (.own m.length,m.set id .dead ++ [.arr false t (A.p (Ty.eq_of_beq h▸x) y)]))
        else .bad 83
      | _=>.bad 84
    | _=>.bad 85
def Aw(t:Ty)(bytes:Nat)(m:Mem)(dst src:AV):TV (AV×Mem):=
 match sliceData A t m src,gw A t m src with
 | some y,some m=>wF A t bytes m dst y (zk src)
 | _,_=>.bad 86
def Jf(t:Ty)(m:Mem)(dst src:AV):TV (AV×Mem):=
 match sliceData A t m src,gw A t m src with
 | some y,some m=>
   match dst with
   | .own id=>match m.at id with
     | .arr false t' x=>if h:t'.beq t=true then
        let z:List t.T:=Ty.eq_of_beq h▸x
        let n:=A.mn (A.l y) (A.l z)
        .leaf (.int .i64 false n,m.set id (.arr false t (A.spl z 0 (A.s y 0 n))))
       else .bad 87
     | _=>.bad 88
   | .nD id _ false lo len=>match m.at id with
     | .arr false t' x=>if h:t'.beq t=true then
        let z:List t.T:=Ty.eq_of_beq h▸x
        let n:=A.mn (A.l y) len
        .leaf (.int .i64 false n,m.set id (.arr false t (A.spl z lo (A.s y 0 n))))
       else .bad 89
     | _=>.bad 90
   | _=>.bad 91
 | _,_=>.bad 92
def EV(t:Ty)(m:Mem)(dst:AV):TV (AV×Mem):=
 match dst with
 | .nD id _ false lo len=>match m.at id with
   | .arr false t' x=>if h:t'.beq t=true then
      .leaf (.qS [],m.set id (.arr false t (A.spl (Ty.eq_of_beq h▸x) lo (A.r len t.dZ))))
     else .bad 119
   | _=>.bad 120
 | _=>.bad 121
mutual
def Ty.leaves:Ty→List (Option Ty)
 | .slice t=>[some t]
 | .arr n t=>(List.replicate n t.leaves).flatten
 | .struct ts=>Ty.ym ts
 | _=>[none]
def Ty.ym:List Ty→List (Option Ty)
 | []=>[]
 | t::ts=>t.leaves++Ty.ym ts
end
def aaL:il→Bool
 | .flat _ _=>true
 | _=>false
def uz(k:Option Ty)(m:Mem)(v:AV):Option (AV×Mem):=
 match k,v with
 | some t,.nD id sz c lo n=>match aaL (m.at id) with
   | true=>wi A t m (.nD id sz c lo n)
   | false=>some (.nD id sz c lo n,m)
 | _,v=>some (v,m)
def vJ:List (Option Ty)→Mem→List AV→Option (Mem×List AV)
 | [],m,cs=>some (m,cs)
 | _::_,m, []=>some (m, [])
 | k::ks,m,v::vs=>match uz A k m v with
   | none=>none
   | some (v,m)=>match vJ ks m vs with
     | none=>none
     | some (m,vs)=>some (m,v::vs)
def I5(t:Option Ty)(n:Nat)(m:Mem)(cs:List AV):Option (Mem×List AV):=
 match t with
 | none=>some (m,cs)
 | some t=>vJ A (List.replicate n t.leaves).flatten m cs
def mo(q:Bool)(tv:TV (AV×Mem)):TV (AV×Mem):=
 match q with
 | false=>tv
 | true=>match tv with
   | .br b _ e=>.need (A.not b) e
   | .leaf (.dp _,_)=>.bad 118
   | tv=>tv
def qI{R:Type}(E:eB R)(fn:FuncId)(ρ:Operand→AV)(m:Mem)(o:Oper):TV (AV×Mem):=
 match o.op with
 | .alloc t=>match E.ti.get t with
   | some ti=>.leaf (.ptr m.length 0,m ++ [.flat false ti.zero])
   | none=>.bad 100
 | .box _ x=>match (ρ x).known m with
   | true=>.leaf (.ptr m.length 0,m ++ [.flat (yW E.consts fn o.dst) (ρ x).cells])
   | false=>.bad 99
 | .buildSlice t n ps=>match E.ti.get t with
   | some {kind:=.slice e,.. }=>match E.ti.get e with
     | some te=>match zm m te.size (ps.toList.map fun p=>(p.1,ρ p.2)) ((List.replicate n te.zero).flatten) with
       | some cs=>match Nat.ble (n*te.size) 16777216&&Nat.ble n 140737488355328 with
         | true=>match I5 A te.ty n m cs with
           | some (m,cs)=>.leaf (.nD m.length te.size true 0 n,m ++ [.flat false cs])
           | none=>.bad 101
         | false=>.bad 101
       | none=>.bad 101
     | none=>.bad 102
   | _=>.bad 103
 | .makeSlice t l c=>match E.ti.get t with
   | some {kind:=.slice e,.. }=>match E.ti.get e with
     | some {ty:=some t,bytes,.. }=>match ρ l,ρ c with
       | .int _ _ n,.int _ _ n'=>.need (A.and (A.c .eql n n') (A.and (A.c .leq 0 n) (A.c .leq n (140737488355328/(bytes.max 1:Nat)))))
          (.leaf (.own m.length,m ++ [.arr false t (A.r n t.dZ)]))
       | _,_=>.bad 104
     | _=>.bad 105
   | _=>.bad 106
 | .store t p x=>(DI A (E.ti.get t) m (ρ p) (ρ x)).map fun m=>(.undef,m)
 | .call {callee:=.builtin .append,args,argTypes}=>match args.toList,argTypes.toList with
   | [d,s],t::t'::_=>match E.ti.get t,E.ti.get t' with
     | some {kind:=.slice e,.. },some {kind:=.slice _,.. }=>match E.ti.get e with
       | some {ty:=some t,bytes,.. }=>mo A (Re E.stops fn o.dst) (Aw A t bytes m (ρ d) (ρ s))
       | _=>.bad 107
     | _,_=>.bad 109
   | _,_=>.bad 110
 | .call {callee:=.builtin .copy,args,argTypes}=>match args.toList,argTypes.toList with
   | [d,s],t::t'::_=>match E.ti.get t,E.ti.get t' with
     | some {kind:=.slice e,.. },some {kind:=.slice _,.. }=>match E.ti.get e with
       | some {ty:=some t,.. }=>Jf A t m (ρ d) (ρ s)
       | _=>.bad 111
     | _,_=>.bad 112
   | _,_=>.bad 113
 | .call {callee:=.builtin .clear,args,argTypes}=>match args.toList,argTypes.toList with
   | [d],t::_=>match E.ti.get t with
     | some {kind:=.slice e,.. }=>match E.ti.get e with
       | some {ty:=some t,.. }=>EV A t m (ρ d)
       | _=>.bad 122
     | _=>.bad 123
   | _,_=>.bad 124
 | .convert s d x=>match E.ti.get s,E.ti.get d with
   | some {kind:=.slice e,.. },some {kind:=.str,.. }=>match E.ti.get e with
     | some {kind:=.int .u8,.. }=>match sliceData A (.int .u8) m (ρ x),gw A (.int .u8) m (ρ x) with
       | some l,some m=>.leaf (.str false (A.bytes l),m)
       | _,_=>.bad 114
     | _=>.bad 114
   | _,_=>.bad 116
 | _=>.bad 117
end
mutual
def OB:AV→List Nat
 | .own id=>[id]
 | .nD id _ _ _ _=>[id]
 | .ptr id _=>[id]
 | .nF id _ _=>[id]
 | .rV id _ _ _ _=>[id]
 | .yield l=>[l]
 | .fn _ a b=>wq a++wq b
 | .agg cs=>wq cs
 | .qS cs=>wq cs
 | _=>[]
def wq:List AV→List Nat
 | []=>[]
 | v::vs=>OB v++wq vs
end
def idxOf:List Nat→Nat→Nat→Nat
 | [],_,k=>k
 | i::r,n,k=>match Nat.beq i n with|true=>k|false=>idxOf r n (k+1)
mutual
def gv(l:List Nat):AV→AV
 | .own id=>.own (idxOf l id 0)
 | .nD id sz _ lo len=>.nD (idxOf l id 0) sz false lo len
 | .ptr id off=>.ptr (idxOf l id 0) off
 | .nF id i off=>.nF (idxOf l id 0) i off
 | .rV id off n t i=>.rV (idxOf l id 0) off n t i
 | .yield id=>.yield (idxOf l id 0)
 | .fn f a b=>.fn f (lS l a) (lS l b)
 | .agg cs=>.agg (lS l cs)
 | .qS cs=>.qS (lS l cs)
 | .int k _ n=>.int k false n
 | .bool _ b=>.bool false b
 | .str _ s=>.str false s
 | .undef=>.undef
 | .sl t x=>.sl t x
 | .dp b=>.dp b
 | .jA t x off=>.jA t x off
 | .fS=>.fS
 | .kz=>.kz
def lS(l:List Nat):List AV→List AV
 | []=>[]
 | v::vs=>gv l v::lS l vs
end
def DR:PT AV→List Nat
 | .leaf=>[]
 | .node l v r=>(match v with|some a=>OB a|none=>[])++(DR l++DR r)
def u7:il→List Nat
 | .flat _ cs=>wq cs
 | .loop r=>DR r.env
 | _=>[]
def nv:List Nat→Nat→Bool
 | [],_=>false
 | i::r,n=>match Nat.beq i n with|true=>true|false=>nv r n
def jE:List Nat→List Nat→List Nat
 | acc, []=>acc
 | acc,i::r=>match nv acc i with
   | true=>jE acc r
   | false=>jE (acc ++ [i]) r
def je:Nat→Mem→List Nat→Nat→List Nat
 | 0,_,acc,_=>acc
 | f+1,m,acc,p=>match acc[p]? with
   | none=>acc
   | some id=>je f m (jE acc (u7 (m.at id))) (p+1)
def kW:bH→List Nat
 | .kw l=>[l]
 | .kI l=>[l]
 | _=>[]
def nZ(l:List Nat):bH→bH
 | .kw id=>.kw (idxOf l id 0)
 | .kI id=>.kI (idxOf l id 0)
 | x=>x
def uF(l:List Nat):PT AV→PT AV
 | .leaf=>.leaf
 | .node a v b=>.node (uF l a) (match v with|some x=>some (gv l x)|none=>none) (uF l b)
def lY(l:List Nat):il→il
 | .bad=>.dead
 | .dead=>.dead
 | .flat fz cs=>.flat fz (lS l cs)
 | .arr fz t x=>.arr fz t x
 | .loop r=>.loop {r with env:=uF l r.env}
 | .BZ=>.BZ
 | .Mg=>.Mg
def Ko(e:Env):List Nat→List Nat
 | []=>[]
 | i::r=>OB (e.at i)++Ko e r
def Ka(i:Nat):Nat:=i%65536
def Km(e:Env)(i:Nat)(r:Env):Env:=
 match Nat.ble i 65535,e.at i with
 | true,.int k c n=>r.put i (.int k c n)
 | _,_=>r
def nM(l:List Nat)(e:Env):List Nat→Env
 | []=>.leaf
 | i::r=>match Nat.ble i 65535 with
   | true=>(nM l e r).put i (gv l (e.at i))
   | false=>Km e (Ka i) (nM l e r)
def j3:List (List Nat)→List bu→List Nat
 | _, []=>[]
 | ks,f::fs=>Ko f.env (ks.headD [])++(f.marks++((match f.cK with|some l=>[l]|none=>[])++(f.todo.flatMap kW++j3 ks.tail fs)))
def gQ(l:List Nat):List (List Nat)→List bu→List bu
 | _, []=>[]
 | ks,f::fs=>{f with env:=nM l f.env (ks.headD []),todo:=f.todo.map (nZ l),marks:=f.marks.map (idxOf l · 0),cK:=f.cK.map (idxOf l · 0)}::gQ l ks.tail fs
def canon(k:Nat)(ks:List (List Nat))(c:eD):eD:=
 let l:=je (c.mem.length+1) c.mem (jE (List.range k) (j3 ks c.frames)) 0
 {frames:=gQ l ks c.frames,mem:=(l.map fun id=>lY l (c.mem.at id)) ++ [.dead]}
def fH:Code→Option Nat
 | .region id _ _=>some id
 | .seq a b=>match fH a with|some i=>some i|none=>fH b
 | .block _ b=>fH b
 | .loop b=>fH b
 | .scope b=>fH b
 | .cond _ a b=>match fH a with|some i=>some i|none=>fH b
 | _=>none
def wP:List Stop→FuncId→Option Nat→Option (List (List Nat))
 | _,_,none=>none
 | [],_,_=>none
 | s::r,f,some i=>match Nat.beq s.fn f,Nat.beq s.rid i with
   | true,true=>some s.keep
   | _,_=>wP r f (some i)
def CY:Option Code→Bool
 | none=>true
 | some _=>false
def zC:Option Code→Nat
 | none=>0
 | some _=>2
def gP(id:Nat):List bH→Option (List bH)
 | .inBlock id'::k=>match Nat.beq id' id with|true=>some k|false=>gP id k
 | _::k=>gP id k
 | []=>none
def cn:List Ty→List AV→Bool
 | [], []=>true
 | t::ts,v::vs=>(match t.isAgg,v with
   | true,.agg cs=>Nat.beq cs.length t.size
   | true,_=>false
   | false,.agg _=>false
   | false,_=>true)&&cn ts vs
 | _,_=>false
def cq(A:aI):(ts:List Ty)→Ty.Ts ts→List AV
 | [],_=>[]
 | [t],x=>[LX A t x]
 | t::t2::ts,x=>LX A t (Prod.fst (α:=t.T) (β:=Ty.Ts (t2::ts)) x)::cq A (t2::ts) (Prod.snd (α:=t.T) (β:=Ty.Ts (t2::ts)) x)
def cO:List AV→AV
 | [v]=>v
 | vs=>.qS vs
def bO(A:aI)(ts:List Ty)(m:Mem)(cs:List AV):Option (Mem×List AV):=
 match vJ A (Ty.ym ts) m cs with
 | none=>none
 | some (m,cs)=>bS A m cs
def pn(A:aI)(s:ax)(m:Mem)(aa:List AV):TV (AV×Mem):=
 match cn s.args aa with
 | false=>.bad 120
 | true=>match bO A s.args m (aa.flatMap AV.cells) with
   | none=>.bad 121
   | some (m,cs)=>match jT s.args cs with
     | some (x, [])=>.need (A.k s.pre x) (.leaf (cO (cq A s.res (A.k s.fn x)),m))
     | _=>.bad 122
def Ez(A:aI)(s:gy)(m:Mem)(aa:List AV):TV (AV×Mem):=
 match aa with
 | .ptr id 0::rest=>match m.at id with
   | .flat _ cs=>match oA s.view cs with
     | some (x, [])=>match cn s.args rest with
       | false=>.bad 123
       | true=>match bO A s.args m (rest.flatMap AV.cells) with
         | none=>.bad 124
         | some (m,cs)=>match jT s.args cs,Ty.scalars s.res with
           | some (y, []),true=>.need (A.k s.pre (x,y)) (.leaf (cO (cq A s.res (A.k s.fn (x,y))),m))
           | _,_=>.bad 125
     | _=>.bad 126
   | _=>.bad 127
 | _=>.bad 128
def nodupB:List Nat→Bool
 | []=>true
 | i::is=>!nv is i&&nodupB is
mutual
def VF.read(m:Mem):(f:VF)→List AV→Option (f.ty.T×List Nat×List AV)
 | .d t,cs=>match oA t cs with
   | some (x,r)=>some (x, [],r)
   | none=>none
 | .own t,cs=>match cs with
   | []=>none
   | v::r=>match v with
     | .own id=>match m.at id with
       | .arr false t' x=>if h:t'.beq t=true then some ((Ty.eq_of_beq h▸x:List t.T), [id],r) else none
       | _=>none
     | .dp _=>some (([]:List t.T), [],r)
     | _=>none
 | .ptr fs,cs=>match cs with
   | []=>none
   | v::r=>match v with
     | .ptr id off=>match off,m.at id with
       | 0,.flat false l=>match VF.reads m fs l with
         | some (x,ids, [])=>some (x,id::ids,r)
         | _=>none
       | _,_=>none
     | _=>none
 | .kv fs,cs=>match cs with
   | []=>none
   | v::r=>match v with
     | .ptr id off=>match off,m.at id with
       | 0,.flat true l=>match VF.reads m fs l with
         | some (x,ids, [])=>some (x,ids,r)
         | _=>none
       | _,_=>none
     | _=>none
def VF.reads(m:Mem):(fs:List VF)→List AV→Option (Ty.Ts (VF.fQ fs)×List Nat×List AV)
 | [],cs=>some ((), [],cs)
 | [f],cs=>VF.read m f cs
 | f::g::fs,cs=>match VF.read m f cs with
   | none=>none
   | some (x,a,r)=>match VF.reads m (g::fs) r with
     | none=>none
     | some (y,b,r)=>some ((x,y),a++b,r)
end
mutual
def VF.write(A:aI):(f:VF)→f.ty.T→Mem→Mem×List AV
 | .d t,x,m=>(m,fx A t x)
 | .own t,x,m=>(m ++ [.arr false t x], [.own m.length])
 | .ptr fs,x,m=>match VF.writes A fs x m with
   | (m',cs)=>(m' ++ [.flat false cs], [.ptr m'.length 0])
 | .kv _,_,m=>(m, [.undef])
def VF.writes(A:aI):(fs:List VF)→Ty.Ts (VF.fQ fs)→Mem→Mem×List AV
 | [],_,m=>(m, [])
 | [f],x,m=>VF.write A f x m
 | f::g::fs,x,m=>match VF.write A f (Prod.fst (α:=f.ty.T) (β:=Ty.Ts (VF.fQ (g::fs))) x) m with
   | (m1,a)=>match VF.writes A (g::fs) (Prod.snd (α:=f.ty.T) (β:=Ty.Ts (VF.fQ (g::fs))) x) m1 with
     | (m2,b)=>(m2,a++b)
end
def VF.back(A:aI):(f:VF)→AV→f.ty.T→Mem→Option Mem
 | .ptr fs,v,x,m=>match v with
   | .ptr id _=>match VF.writes A fs x m with
     | (m',cs)=>some (m'.set id (.flat false cs))
   | _=>none
 | .kv fs,v,x,m=>match v with
   | .ptr id _=>match VF.writes A fs x m with
     | (m',cs)=>some (m'.set id (.flat true cs))
   | _=>none
 | _,_,_,_=>none
def VF.pR(A:aI):(fs:List VF)→List AV→Ty.Ts (VF.fQ fs)→Mem→Option Mem
 | [],_,_,m=>some m
 | [f],vs,x,m=>match vs with
   | v::_=>VF.back A f v x m
   | []=>none
 | f::g::fs,vs,x,m=>match vs with
   | v::vs=>match VF.back A f v (Prod.fst (α:=f.ty.T) (β:=Ty.Ts (VF.fQ (g::fs))) x) m with
     | some m=>VF.pR A (g::fs) vs (Prod.snd (α:=f.ty.T) (β:=Ty.Ts (VF.fQ (g::fs))) x) m
     | none=>none
   | []=>none
def dB:List VF→Bool
 | []=>true
 | f::fs=>match f with
   | .ptr _=>dB fs
   | .kv _=>dB fs
   | _=>false
def b_:List AV→List Nat
 | []=>[]
 | v::vs=>match v with
   | .ptr id _=>id::b_ vs
   | _=>b_ vs
def u6(roots:List Nat)(i:Nat)(b:il):il:=
 match nv roots i,b with
 | true,.flat _ cs=>.flat false (List.replicate cs.length .undef)
 | _,_=>.dead
def s7(roots:List Nat):List Nat→Mem→Mem
 | [],m=>m
 | i::r,m=>s7 roots r (m.set i (u6 roots i (m.at i)))
def I8:VF→AV→Mem→Mem
 | .kv _,v,m=>match v with
   | .ptr id _=>match m.at id with
     | .flat _ cs=>m.set id (.flat true cs)
     | _=>m
   | _=>m
 | _,_,m=>m
def ua:List VF→List AV→Mem→Mem
 | [],_,m=>m
 | f::fs,vs,m=>match vs with
   | v::vs=>ua fs vs (I8 f v m)
   | []=>m
def aiW(rp:Bool)(aa:List AV)(v:AV):AV:=
 match rp with
 | false=>v
 | true=>match aa with
   | a::_=>a
   | []=>.undef
def Ek(A:aI)(s:bL)(m:Mem)(aa:List AV):TV (AV×Mem):=
 match cn s.args (aa.drop s.ptrs.length) with
 | false=>.bad 190
 | true=>match bO A s.args m ((aa.drop s.ptrs.length).flatMap AV.cells) with
   | none=>.bad 191
   | some (m,cs)=>match jT s.args cs with
     | some (y, [])=>match VF.reads (ua s.ptrs (aa.take s.ptrs.length) m) s.ptrs (aa.take s.ptrs.length) with
       | some (x,ids, [])=>match nodupB ids&&(nodupB (b_ (aa.take s.ptrs.length))&&dB s.ptrs) with
         | false=>.bad 192
         | true=>match VF.pR A s.ptrs (aa.take s.ptrs.length) (A.k s.fn (x,y)).1 (s7 (b_ (aa.take s.ptrs.length)) ids (ua s.ptrs (aa.take s.ptrs.length) m)) with
           | some m=>.need (A.k s.pre (x,y)) (.leaf (aiW s.rp aa (cO (cq A s.res (A.k s.fn (x,y)).2)),m))
           | none=>.bad 193
       | _=>.bad 194
     | _=>.bad 195
def Bf:List FuncId→List AV→Bool
 | [],vs=>match vs with | []=>true|_=>false
 | f::fs,vs=>match vs with
   | []=>false
   | v::vs=>match v with
     | .fn g [] []=>Nat.beq g f&&Bf fs vs
     | _=>false
def E3(A:aI)(s:dG)(m:Mem)(aa:List AV):TV (AV×Mem):=
 match aa with
 | []=>.bad 200
 | v::rest=>match cn s.args (rest.take s.args.length)&&Bf s.dx (rest.drop s.args.length) with
   | false=>.bad 201
   | true=>match bO A s.args m ((rest.take s.args.length).flatMap AV.cells) with
     | none=>.bad 202
     | some (m,cs)=>match jT s.args cs with
       | some (y, [])=>match v with
         | .own id=>match m.at id with
           | .arr false t x=>if h:t.beq s.elem=true then
              .need (A.k s.pre ((Ty.eq_of_beq h▸x:List s.elem.T),y)) (.leaf (cO (cq A s.res (A.k s.fn ((Ty.eq_of_beq h▸x:List s.elem.T),y)).2),m.set id (.arr false s.elem (A.k s.fn ((Ty.eq_of_beq h▸x:List s.elem.T),y)).1)))
             else .bad 203
           | _=>.bad 204
         | .dp _=>.need (A.k s.pre (([]:List s.elem.T),y)) (.leaf (cO (cq A s.res (A.k s.fn (([]:List s.elem.T),y)).2),m))
         | _=>.bad 205
       | _=>.bad 206
def DO(A:aI)(s:kl)(m:Mem)(aa:List AV):TV (AV×Mem):=
 match cn s.args aa with
 | false=>.bad 210
 | true=>match bO A s.args m (aa.flatMap AV.cells) with
   | none=>.bad 211
   | some (m,cs)=>match jT s.args cs with
     | some (x, [])=>match VF.write A s.out (A.k s.fn x).2.1 m with
       | (m', [v])=>.need (A.k s.pre x) (match s.opt with
         | false=>.leaf (cO (v::cq A s.res (A.k s.fn x).2.2),m')
         | true=>.br (A.k s.fn x).1 (.leaf (cO (v::cq A s.res (A.k s.fn x).2.2),m')) (.leaf (cO (.fS::cq A s.res (A.k s.fn x).2.2),m)))
       | _=>.bad 213
     | _=>.bad 212
def mR(A:aI){R:Type}(E:eB R)(g:FuncId)(m:Mem)(aa:List AV):Option (TV (AV×Mem)):=
 match look E.jH g with
 | some s=>some (Ez A s m aa)
 | none=>match look E.kR g with
   | some s=>some (Ek A s m aa)
   | none=>match look E.jP g with
     | some s=>some (E3 A s m aa)
     | none=>match look E.ops g with
       | some s=>some (DO A s m aa)
       | none=>none
def NZ{α:Type}:TV α→Option α
 | .leaf a=>some a
 | _=>none
def rf(A:aI){R:Type}(E:eB R)(env:Env)(m:Mem):ResultVar→Option AV
 | .tmp t=>some (env.at t)
 | .cell a t=>NZ (zu A (E.ti.get t) m (env.at a))
def iM(A:aI){R:Type}(E:eB R)(env:Env)(m:Mem):List ResultVar→Option (List AV)
 | []=>some []
 | r::rs=>match rf A E env m r with
   | none=>none
   | some v=>match iM A E env m rs with
     | none=>none
     | some vs=>some (v::vs)
def kM:List Nat→Mem→Option Mem
 | [],m=>some m
 | d::ds,m=>match m.at d with
   | .BZ=>kM ds (m.set d .Mg)
   | _=>none
def kG(n:Nat):Option Nat→Bool
 | none=>true
 | some d=>Nat.blt d n
def finish(g:bu)(v:AV):Option bu:=
 match g.todo with
 | .ops all (o::rest)::k=>match kG g.n o.dst with
   | true=>some {g with env:=g.env.iK o.dst v,todo:=.ops all rest::k}
   | false=>none
 | .qh all ms i rest bs::k=>match all[i]? with
   | some o=>match kG g.n o.dst with
     | true=>some {g with env:=g.env.iK o.dst v,todo:=.fA all ms rest bs::k}
     | false=>none
   | none=>none
 | .kw l::k=>some {g with todo:=.kI l::k}
 | _=>none
def dV(f:FuncId)(F:Func)(aa:List AV):Option bu:=
 match F.body with
 | none=>none
 | some b=>match Nat.ble aa.length F.ntmps,Nat.ble F.ntmps 65535 with
   | true,true=>some {fn:=f,n:=F.ntmps,env:=Env.of 0 aa .leaf,todo:=[.code b],marks:=[],cK:=none}
   | _,_=>none
def tq:List Nat→List AV→Env→Env
 | [],_,e=>e
 | _, [],e=>e
 | i::is,v::vs,e=>tq is vs (e.put i v)
def ng(e:Edge):Bool:=
 match e.ground with
 | .textOnly _=>false
 | .gcOnly _=>false
 | _=>true
def iX(ms:List Nat):List Edge→Nat
 | []=>0
 | e::es=>match ng e with
   | true=>(2^e.on ||| ms.getD e.on 0) ||| iX ms es
   | false=>iX ms es
def iN:List Oper→List Nat→List Nat
 | [],ms=>ms
 | o::os,ms=>iN os (ms ++ [iX ms o.after.toList])
def jX:Nat→List Oper→Bool
 | _, []=>true
 | i,o::os=>o.after.toList.all (fun e=>!ng e||Nat.blt e.on i)&&jX (i+1) os
def tmpsOf:List Operand→List Nat
 | []=>[]
 | x::r=>match x with
   | .tmp t=>t::tmpsOf r
   | _=>tmpsOf r
def dO(all:Array Oper)(o:Oper):List Nat:=
 match o.guard with
 | none=>[]
 | some (j,_)=>match all[j]? with
   | none=>[]
   | some p=>match p.dst with
     | some d=>[d]
     | none=>[]
def readsOf(all:Array Oper)(o:Oper):List Nat:=tmpsOf o.op.operands.toList++dO all o
def isDst(d:Nat):Option Nat→Bool
 | some x=>Nat.beq x d
 | none=>false
def rv(all:Array Oper)(bs:List Nat)(d:Nat):Bool:=
 bs.all fun b=>match all[b]? with
  | some o=>!nv (readsOf all o) d
  | none=>false
def Hz(all:Array Oper)(bs:List Nat)(d:Nat):Bool:=
 bs.all fun b=>match all[b]? with
  | some o=>!isDst d o.dst
  | none=>false
def oi(all:Array Oper)(bs:List Nat):Option Nat→Bool
 | none=>true
 | some d=>rv all bs d&&Hz all bs d
def Rt(all:Array Oper)(m:Nat)(bs:List Nat)(o:Oper):Bool:=
 bs.all fun b=>match all[b]? with
  | some p=>match p.dst with
    | some d=>!nv (readsOf all o) d||m.testBit b
    | none=>true
  | none=>false
def yY(all:Array Oper)(o:Oper):Bool:=
 match o.dst with
 | none=>true
 | some d=>!nv (readsOf all o) d
def rF(m:Nat)(o:Oper):Bool:=
 match o.guard with
 | none=>true
 | some (j,_)=>m.testBit j
def i7:AV→AV→Prop
 | .bool _ a,.bool _ b=>a=b
 | .int k _ a,.int k' _ b=>k=k'∧a=b
 | x,y=>x=y
def o9(env:Env):Option Nat→AV→Prop
 | none,_=>True
 | some d,v=>i7 v (env.at d)
def agP(cZ:List (FuncId×ax)):Op→Bool
 | .move _=>true | .assign _=>true | .pick _ _ _=>true | .load _ _=>true | .nilCheck _=>true | .binOp _ _ _ _ _=>true | .unOp _ _ _=>true
 | .convert _ _ _=>true | .makeFunc _ _ _=>true | .slice _ _ _ _ _=>true | .fieldAddr _ _ _=>true | .field _ _ _=>true | .indexAddr _ _ _=>true | .index _ _ _=>true
 | .extract _ _=>true | .build _ _=>true
 | .call c=>match c.callee with
   | .builtin b=>match b with | .len=>true | .min=>true | .max=>true|_=>false
   | .value x=>match x with | .func f=>(match look cZ f with|some _=>true|none=>false)|_=>false
   | _=>false
 | _=>false
def OF(cZ:List (FuncId×ax))(all:Array Oper)(ms:List Nat)(left:Nat):List Nat→Option Nat
 | []=>none
 | i::is=>match Nat.beq (ms.getD i 0 &&& left) 0,all[i]? with
   | true,some o=>match agP cZ o.op with|true=>some i|false=>OF cZ all ms left is
   | _,_=>OF cZ all ms left is
def oK:List Nat→Nat→List Nat
 | [],_=>[]
 | i::is,n=>match Nat.beq i n with|true=>is|false=>i::oK is n
def eager(cZ:List (FuncId×ax))(all:Array Oper)(ms:List Nat):Nat→Nat→List Nat→List Nat
 | 0,_,_=>[]
 | f+1,left,is=>match OF cZ all ms left is with
   | some i=>i::eager cZ all ms f (left-2^i) (oK is i)
   | none=>match is with
     | []=>[]
     | i::is=>i::eager cZ all ms f (left-2^i) is
def kQ(cZ:List (FuncId×ax))(os:Array Oper):Option (List Nat×List Nat):=
 let ms:=iN os.toList []
 let is:=eager cZ os ms os.size (2^os.size-1) (List.range os.size)
 match jX 0 os.toList&&(nodupB is&&(is.all (fun i=>Nat.blt i os.size)&&(List.range os.size).all (fun i=>nv is i))) with
 | true=>some (ms,is)
 | false=>none
def oo(j:Nat)(rest:List Nat):Nat→List Nat→List Nat
 | _, []=>[]
 | k,m::ms=>(match nv rest k && !Nat.beq k j with|true=>m ||| 2^j|false=>m)::oo j rest (k+1) ms
def Kk:List Nat→Nat
 | []=>0
 | i::r=>2^i ||| Kk r
def Iq(ms rest:List Nat)(j:Nat):Bool:=rest.all fun b=>!(ms.getD j 0).testBit b
def FP(cZ:List (FuncId×ax))(all:Array Oper)(ms rest:List Nat)(j:Nat):Option (List Nat×List Nat):=
 let r:=oK rest j
 let ms':=oo j rest 0 ms
 let is:=eager cZ all ms' r.length (Kk r) r
 match nodupB (j::is)&&(is.all (fun i=>nv r i)&&r.all (fun i=>nv is i)) with
 | true=>some (ms',j::is)
 | false=>none
def Gh{R:Type}(K:Nat→Tr R):List Nat→Tr R
 | []=>.bad 181 ""
 | j::js=>match js with
   | []=>K j
   | _::_=>.and (K j) (Gh K js)
def mT(m:Nat)(bs:List Nat):List Nat:=bs.filter fun b=>!m.testBit b
def kZ(all:Array Oper)(env:Env)(o:Oper):Option Bool:=
 match o.guard with
 | none=>some true
 | some (j,want)=>match all[j]? with
   | none=>none
   | some p=>match p.dst with
     | none=>none
     | some d=>match env.at d with
       | .bool c v=>match c with
         | true=>match v,want with
           | true,true=>some true
           | false,false=>some true
           | _,_=>some false
         | false=>none
       | .qS []=>some false
       | _=>none
section
variable (A:aI) {R:Type} (E:eB R)
def yF(all:Array Oper)(env:Env)(o:Oper)(yes no:Env→Tr R):Tr R:=
 match o.guard with
 | none=>yes env
 | some (j,want)=>match all[j]? with
   | none=>.bad 130 o.pos
   | some p=>match p.dst with
     | none=>.bad 131 o.pos
     | some d=>match env.at d with
       | .bool c v=>match c with
         | true=>match v,want with
           | true,true=>yes env
           | false,false=>yes env
           | _,_=>no env
         | false=>match want with
           | true=>.br v (yes (env.put d (.bool true true))) (no (env.put d (.bool true false)))
           | false=>.br v (no (env.put d (.bool true true))) (yes (env.put d (.bool true false)))
       | .qS []=>no env
       | _=>.bad 132 o.pos
def vn(m:Mem)(ρ:Operand→AV)(o:Oper):Option (TV AV):=
 match o.op with
 | .call c=>match c.callee with
   | .value x=>match ρ x with
     | .fn g first caps=>match look E.cZ g with
       | some s=>match lk ((first++(c.args.toList.map ρ++caps)).flatMap AV.cells) with
         | true=>some ((pn A s m (first++(c.args.toList.map ρ++caps))).map Prod.fst)
         | false=>none
       | none=>none
     | _=>none
   | _=>none
 | _=>none
def SF(m:Mem)(ρ:Operand→AV)(o:Oper):Option (TV AV):=
 match nW A E ρ m o with
 | some tv=>some tv
 | none=>vn A E m ρ o
def QO(env:Env):Option Nat→AV→Tr R→Tr R
 | none,_,t=>t
 | some d,v,t=>.same v (env.at d) t
def re(env:Env)(m:Mem)(all:Array Oper):List Nat→Tr R→Tr R
 | [],t=>t
 | b::bs,t=>match all[b]? with
   | none=>.bad 170 ""
   | some o=>match kZ all env o with
     | none=>.bad 171 o.pos
     | some false=>QO env o.dst (.qS []) (re env m all bs t)
     | some true=>match SF A E m (gU env) o with
       | none=>.bad 172 o.pos
       | some tv=>tv.bind o.pos fun v=>QO env o.dst v (re env m all bs t)
def pE(f:bu)(m:Mem)(t:Tr R):Tr R:=
 match f.todo with
 | .fA all _ _ bs::_=>re A E f.env m all bs t
 | _=>t
def IJ(all:Array Oper)(bs:List Nat)(env:Env)(o:Oper)(yes no:Env→Tr R):Tr R:=
 match kZ all env o with
 | some true=>yes env
 | some false=>no env
 | none=>match dO all o with
   | [d]=>match rv all bs d with
     | true=>yF all env o yes no
     | false=>.bad 173 o.pos
   | _=>.bad 174 o.pos
def run:Nat→eD→Tr R
 | 0,c=>.more c
 | n+1,c=>
   match c.frames with
   | []=>.bad 140 ""
   | f::fs=>
     let back (g:bu) (gs:List bu) (m:Mem):Tr R:=pE A E g m (run n {frames:=g::gs,mem:=m})
     let leave (jump:Option Code):Tr R:=
      match f.cK with
      | none=>match kM f.marks c.mem with
        | none=>.bad 139 ""
        | some m=>match look E.dx f.fn with
          | none=>.bad 141 ""
          | some F=>match iM A E f.env m F.results.toList with
            | none=>.bad 142 ""
            | some vs=>match fs with
              | []=>match E.fin (cO vs) m with
                | some y=>.ret y
                | none=>.bad 143 ""
              | g::gs=>match finish g (cO vs) with
                | some g=>back g gs m
                | none=>.bad 144 ""
      | some l=>match c.mem.at l with
        | .loop r=>match fs with
          | g::gs=>match finish g (.bool true (CY jump)) with
            | some g=>back g gs (c.mem.set l (.loop {r with state:=zC jump,pending:=jump}))
            | none=>.bad 145 ""
          | []=>.bad 146 ""
        | _=>.bad 147 ""
     let enter (g:FuncId) (pos:String) (aa:List AV) (below:bu):Tr R:=
      match look E.dx g with
      | none=>.bad 163 pos
      | some G=>match dV g G aa with
        | none=>.bad 164 pos
        | some h=>run n {frames:=h::below::fs,mem:=c.mem}
     let yield (l:Nat) (pos:String) (aa:List AV) (below:bu):Tr R:=
      match c.mem.at l with
      | .loop r=>match Nat.beq r.params.length aa.length&&r.params.all (fun p=>Nat.blt p r.n) with
        | true=>run n {frames:={fn:=r.fn,n:=r.n,env:=tq r.params aa r.env,todo:=[.code r.assign,.beginRound,.code r.body],marks:=[],cK:=some l}::below::fs,mem:=c.mem}
        | false=>.bad 165 pos
      | _=>.bad 166 pos
     match f.todo with
     | []=>leave none
     | i::k=>match i with
       | .inBlock _=>run n {c with frames:={f with todo:=k}::fs}
       | .inScope _=>run n {c with frames:={f with todo:=k}::fs}
       | .inLoop body=>match wP E.stops f.fn (fH body) with
         | some ks=>.more (canon E.keep ks c)
         | none=>run n {c with frames:={f with todo:=.code body :: .inLoop body::k}::fs}
       | .kw _=>.bad 148 ""
       | .qh _ _ _ _ _=>.bad 148 ""
       | .kI l=>match c.mem.at l with
         | .loop r=>match Nat.beq r.state 1 with
           | true=>.bad 149 ""
           | false=>run n {frames:={f with todo:=(match r.pending with|some j=>.code j::k|none=>k)}::fs,mem:=c.mem.set l (.loop {r with state:=3})}
         | _=>.bad 150 ""
       | .beginRound=>match f.cK with
         | some l=>match c.mem.at l with
           | .loop r=>match Nat.beq r.state 0 with
             | true=>run n {frames:={f with todo:=k}::fs,mem:=c.mem.set l (.loop {r with state:=1})}
             | false=>.bad 151 ""
           | _=>.bad 152 ""
         | none=>.bad 153 ""
       | .code x=>match x with
         | .skip=>run n {c with frames:={f with todo:=k}::fs}
         | .label _=>run n {c with frames:={f with todo:=k}::fs}
         | .ret=>leave (some .ret)
         | .seq a b=>run n {c with frames:={f with todo:=.code a :: .code b::k}::fs}
         | .cond x a b=>match gU f.env x with
           | .bool c1 v=>match c1 with
             | true=>match v with
               | true=>run n {c with frames:={f with todo:=.code a::k}::fs}
               | false=>run n {c with frames:={f with todo:=.code b::k}::fs}
             | false=>.br v (run n {c with frames:={f with todo:=.code a::k}::fs}) (run n {c with frames:={f with todo:=.code b::k}::fs})
           | _=>.bad 154 ""
         | .block id b=>run n {c with frames:={f with todo:=.code b :: .inBlock id::k}::fs}
         | .loop b=>run n {c with frames:={f with todo:=.inLoop b::k}::fs}
         | .scope b=>run n {c with frames:={f with todo:=.code b :: .inScope b::k}::fs}
         | .exit id=>match gP id k with
           | some k=>run n {c with frames:={f with todo:=k}::fs}
           | none=>match f.cK with
             | some _=>leave (some (.exit id))
             | none=>.bad 155 ""
         | .goto _=>.bad 156 ""
         | .refuse _=>.bad 157 ""
         | .rangeFunc x ps a b=>match gU f.env x with
           | .fn g [] caps=>
             let dm:Option (List Nat×Mem):=match f.cK with
              | none=>some (c.mem.length::f.marks,c.mem ++ [.BZ])
              | some l0=>match c.mem.at l0 with
                | .loop _=>some (f.marks,c.mem)
                | _=>none
             match dm with
             | none=>.bad 158 ""
             | some (marks,m)=>match look E.dx g with
               | none=>.bad 159 ""
               | some G=>match dV g G (.yield m.length::caps) with
                 | none=>.bad 160 ""
                 | some h=>run n {frames:=h :: {f with todo:=.kw m.length::k,marks:=marks}::fs,mem:=m ++ [.loop {fn:=f.fn,n:=f.n,env:=f.env,params:=ps.toList,assign:=a,body:=b,state:=0,pending:=none}]}
           | _=>.bad 161 ""
         | .region id os draw=>match wP E.dd f.fn (some id) with
           | some ks=>.more (canon E.keep ks c)
           | none=>match draw with
             | false=>run n {c with frames:={f with todo:=.ops os os.toList::k}::fs}
             | true=>match kQ E.cZ os with
               | some (ms,is)=>run n {c with frames:={f with todo:=.fA os ms is []::k}::fs}
               | none=>.bad 175 ""
       | .ops all rest=>match rest with
         | []=>run n {c with frames:={f with todo:=k}::fs}
         | o::rest=>match kG f.n o.dst with
           | false=>.bad 162 o.pos
           | true=>yF all f.env o
             (fun env=>
               let next (v:AV) (m:Mem):Tr R:=run n {frames:={f with env:=env.iK o.dst v,todo:=.ops all rest::k}::fs,mem:=m}
               match nW A E (gU env) c.mem o with
               | some tv=>tv.bind o.pos fun v=>next v c.mem
               | none=>match o.op with
                 | .call {callee:=.value x,args,.. }=>match gU env x with
                   | .fn g first caps=>match look E.cZ g with
                     | some s=>(pn A s c.mem (first++(args.toList.map (gU env)++caps))).bind o.pos fun p=>next p.1 p.2
                     | none=>match mR A E g c.mem (first++(args.toList.map (gU env)++caps)) with
                       | some tv=>tv.bind o.pos fun p=>next p.1 p.2
                       | none=>enter g o.pos (first++(args.toList.map (gU env)++caps)) {f with env:=env}
                   | .yield l=>yield l o.pos (args.toList.map (gU env)) {f with env:=env}
                   | _=>.bad 167 o.pos
                 | _=>(qI A E f.fn (gU env) c.mem o).bind o.pos fun p=>next p.1 p.2)
             (fun env=>run n {c with frames:={f with env:=env.iK o.dst (.qS []),todo:=.ops all rest::k}::fs})
       | .fA all ms rest bs=>match rest with
         | []=>run n {c with frames:={f with todo:=k}::fs}
         | i::rest=>match all[i]? with
           | none=>.bad 176 ""
           | some o=>match kG f.n o.dst&&(Rt all (ms.getD i 0) bs o&&rF (ms.getD i 0) o) with
             | false=>.bad 177 o.pos
             | true=>IJ all bs f.env o
               (fun env=>match SF A E c.mem (gU env) o,oi all bs o.dst&&yY all o with
                 | some tv,true=>tv.bind o.pos fun v=>run n {c with frames:={f with env:=env.iK o.dst v,todo:=.fA all ms rest (i::bs)::k}::fs}
                 | _,_=>match rest.all (fun j=>(ms.getD j 0).testBit i) with
                  | false=>Gh (fun j=>match FP E.cZ all ms (i::rest) j with
                     | some (ms',is)=>run n {frames:={f with env:=env,todo:=.fA all ms' is bs::k}::fs,mem:=c.mem}
                     | none=>.bad 180 o.pos) ((i::rest).filter (Iq ms (i::rest)))
                  | true=>match oi all (mT (ms.getD i 0) bs) o.dst with
                   | false=>.bad 178 o.pos
                   | true=>
                     let next (v:AV) (m:Mem):Tr R:=re A E (env.iK o.dst v) m all (mT (ms.getD i 0) bs) (run n {frames:={f with env:=env.iK o.dst v,todo:=.fA all ms rest (mT (ms.getD i 0) bs)::k}::fs,mem:=m})
                     let below:bu:={f with env:=env,todo:=.qh all ms i rest (mT (ms.getD i 0) bs)::k}
                     match nW A E (gU env) c.mem o with
                     | some tv=>tv.bind o.pos fun v=>next v c.mem
                     | none=>match o.op with
                       | .call {callee:=.value x,args,.. }=>match gU env x with
                         | .fn g first caps=>match look E.cZ g with
                           | some s=>(pn A s c.mem (first++(args.toList.map (gU env)++caps))).bind o.pos fun p=>next p.1 p.2
                           | none=>match mR A E g c.mem (first++(args.toList.map (gU env)++caps)) with
                             | some tv=>tv.bind o.pos fun p=>next p.1 p.2
                             | none=>enter g o.pos (first++(args.toList.map (gU env)++caps)) below
                         | .yield l=>yield l o.pos (args.toList.map (gU env)) below
                         | _=>.bad 167 o.pos
                       | _=>(qI A E f.fn (gU env) c.mem o).bind o.pos fun p=>next p.1 p.2)
               (fun env=>match oi all bs o.dst&&yY all o with
                 | true=>run n {c with frames:={f with env:=env.iK o.dst (.qS []),todo:=.fA all ms rest (i::bs)::k}::fs}
                 | false=>.bad 179 o.pos)
def Tr.Ok(Q:R→Prop)(G:eD→Prop):Tr R→Prop
 | .ret y=>Q y
 | .more c=>G c
 | .br b t e=>(b=true→Tr.Ok Q G t)∧(b=false→Tr.Ok Q G e)
 | .need b t=>b=true∧Tr.Ok Q G t
 | .eqs p t=>p∧Tr.Ok Q G t
 | .same l r t=>i7 l r∧Tr.Ok Q G t
 | .and a b=>Tr.Ok Q G a∧Tr.Ok Q G b
 | .bad _ _=>False
end
def Bt(A:aI)(res:List Ty)(v:AV)(m:Mem):Option (Ty.Ts res):=
 match (match res with | [_]=>some [v]|_=>match v with | .qS vs=>some vs|_=>none:Option (List AV)) with
 | none=>none
 | some vs=>match cn res vs with
   | false=>none
   | true=>match bO A res m (vs.flatMap AV.cells) with
     | none=>none
     | some (_,cs)=>match jT res cs with
       | some (y, [])=>some y
       | _=>none
def VN(A:aI)(t:Ty)(res:List Ty)(v:AV)(m:Mem):Option (List t.T×Ty.Ts res):=
 match (match res with | [_]=>some [v]|_=>match v with | .qS vs=>some vs|_=>none:Option (List AV)) with
 | none=>none
 | some vs=>match cn res vs with
   | false=>none
   | true=>match bO A res m (vs.flatMap AV.cells) with
     | none=>none
     | some (m,cs)=>match jT res cs with
       | some (y, [])=>match m.at 0 with
         | .arr false t' x=>if h:t'.beq t=true then some ((Ty.eq_of_beq h▸x:List t.T),y) else none
         | _=>none
       | _=>none
def JR(A:aI)(g:FuncId)(F:Func)(t:Ty)(x:List t.T)(aa:List AV)(dx:List FuncId):eD:=
 match dV g F (.own 0::(aa++dx.map fun f=>.fn f [] [])) with
 | some h=>{frames:=[h],mem:=[.arr false t x]}
 | none=>{frames:=[],mem:=[]}
def Tt(A:aI)(f:VF)(opt:Bool)(res:List Ty)(v:AV)(m:Mem):Option (Bool×f.ty.T×Ty.Ts res):=
 match (match res with | []=>some [v]|_=>match v with | .qS vs=>some vs|_=>none:Option (List AV)) with
 | none=>none
 | some []=>none
 | some (v::vs)=>match cn res vs with
   | false=>none
   | true=>match bO A res m (vs.flatMap AV.cells) with
     | none=>none
     | some (m,cs)=>match jT res cs with
       | some (y, [])=>match opt,v with
         | true,.fS=>some (false,Ty.dZ f.ty,y)
         | _,v=>match VF.read m f [v] with
           | some (x,ids, [])=>match nodupB ids with
             | true=>some (true,x,y)
             | false=>none
           | _=>none
       | _=>none
def fE(k:Nat):List AV:=(List.range k).map fun i=>.ptr i 0
def afA(m:Mem)(k:Nat)(v:AV):Option (List AV):=
 match v with
 | .ptr i d=>match Nat.beq i 0&&(Nat.beq d 0&&Nat.ble 1 k) with
   | true=>match m.at 0 with
     | .flat _ _=>some []
     | _=>none
   | false=>none
 | _=>none
def Tq(A:aI)(rp:Bool)(ptrs:List VF)(res:List Ty)(v:AV)(m:Mem):Option (Ty.Ts (VF.fQ ptrs)×Ty.Ts res):=
 match (match rp with|true=>afA m ptrs.length v|false=>match res with | [_]=>some [v]|_=>match v with | .qS vs=>some vs|_=>none:Option (List AV)) with
 | none=>none
 | some vs=>match cn res vs with
   | false=>none
   | true=>match bO A res m (vs.flatMap AV.cells) with
     | none=>none
     | some (m,cs)=>match jT res cs with
       | some (y, [])=>match VF.reads m ptrs (fE ptrs.length) with
         | some (x,ids, [])=>match nodupB ids&&dB ptrs with
           | true=>some (x,y)
           | false=>none
         | _=>none
       | _=>none
def Aq:VF→il
 | .ptr fs=>.flat false (List.replicate (VF.gk fs) .undef)
 | .kv fs=>.flat true (List.replicate (VF.gk fs) .undef)
 | _=>.flat false []
def holds:List VF→Mem
 | []=>[]
 | f::fs=>Aq f::holds fs
def D2(A:aI)(ptrs:List VF)(x:Ty.Ts (VF.fQ ptrs)):Mem:=(VF.pR A ptrs (fE ptrs.length) x (holds ptrs)).getD []
def yy(A:aI)(g:FuncId)(F:Func)(ptrs:List VF)(x:Ty.Ts (VF.fQ ptrs))(aa:List AV):eD:=
 match dV g F (fE ptrs.length++aa) with
 | some h=>{frames:=[h],mem:=D2 A ptrs x}
 | none=>{frames:=[],mem:=[]}
def i6(g:FuncId)(F:Func)(aa:List AV):eD:=
 match dV g F aa with
 | some h=>{frames:=[h],mem:=[]}
 | none=>{frames:=[],mem:=[]}
def Code.Sv:Code→List Nat→Code
 | c, []=>c
 | .seq a b,i::r=>match i with|0=>Code.Sv a r|_=>Code.Sv b r
 | .cond _ a b,i::r=>match i with|0=>Code.Sv a r|_=>Code.Sv b r
 | .block _ b,_::r=>Code.Sv b r
 | .loop b,_::r=>Code.Sv b r
 | .scope b,_::r=>Code.Sv b r
 | .rangeFunc _ _ a b,i::r=>match i with|0=>Code.Sv a r|_=>Code.Sv b r
 | _,_::_=>.skip
def Nl(F:Func):Code:=match F.body with|some b=>b|none=>.skip
def opsOf:Code→Array Oper
 | .region _ os _=>os
 | _=>#[]
def advance(cZ:List (FuncId×ax))(c:eD):eD:=
 match c.frames with
 | []=>c
 | f::fs=>match f.todo with
   | .inLoop b::k=>{c with frames:={f with todo:=.code b :: .inLoop b::k}::fs}
   | .code (.region _ os false)::k=>{c with frames:={f with todo:=.ops os os.toList::k}::fs}
   | .code (.region _ os true)::k=>match kQ cZ os with
     | some (ms,is)=>{c with frames:={f with todo:=.fA os ms is []::k}::fs}
     | none=>c
   | _=>c
end Go.Ev
namespace Go.Ev
def dD:Nat:=140737488355328
theorem dI:dD=140737488355328:=rfl
structure St where
 σ:Nat→Nat
 δ:Nat→Nat
 I:Nat→Prop
def gp(w:World)(b off:Nat)(us:List Value):Prop:=
 ∀(j:Nat) (u:Value),us[j]? = some u→w.cell? ⟨b,off+j,none⟩=some u
mutual
def aS(w:World)(I:Nat→Prop):(t:Ty)→List Value→t.T→Prop
 | .int k,cs,x=>cs=[.int k x]∧k.has x
 | .bool,cs,x=>cs=[.bool x]
 | .str,cs,x=>cs=[.string ⟨(show List UInt8 from x).toArray⟩]∧(show List UInt8 from x).length≤dD
 | .slice t,cs,x=>∃(a:Option Addr) (cap:Nat),cs=[.slice a (show List t.T from x).length cap]∧(show List t.T from x).length≤cap∧(show List t.T from x).length≤dD∧
    (a=none→cap=0)∧
    ∀(i:Nat) (y:t.T),(show List t.T from x)[i]? = some y→∃b off us,a=some ⟨b,off,none⟩∧I b∧us.length=t.size∧gp w b (off+i*t.size) us∧aS w I t us y
 | .arr n t,cs,x=>(show List t.T from x).length=n∧cs.length=n*t.size∧
    ∀(i:Nat) (y:t.T),(show List t.T from x)[i]? = some y→aS w I t ((cs.drop (i*t.size)).take t.size) y
 | .struct ts,cs,x=>bM w I ts cs x
 | .any n,cs,_=>cs.length=n
def bM(w:World)(I:Nat→Prop):(ts:List Ty)→List Value→Ty.Ts ts→Prop
 | [],cs,_=>cs=[]
 | [t],cs,x=>aS w I t cs x
 | t::t2::ts,cs,x=>∃us vs,cs=us++vs∧aS w I t us (Prod.fst (α:=t.T) (β:=Ty.Ts (t2::ts)) x)∧bM w I (t2::ts) vs (Prod.snd (α:=t.T) (β:=Ty.Ts (t2::ts)) x)
end
mutual
theorem aS.length{w:World}{I:Nat→Prop}:∀(t:Ty) {cs:List Value} {x:t.T},aS w I t cs x→cs.length=t.size
 | .int k,cs,x,h=>by rw[aS] at h;rw[h.1];rfl
 | .bool,cs,x,h=>by rw[aS] at h;rw[h];rfl
 | .str,cs,x,h=>by rw[aS] at h;rw[h.1];rfl
 | .slice t,cs,x,h=>by rw[aS] at h;obtain⟨a,cap,h,_⟩:=h;rw[h];rfl
 | .arr n t,cs,x,h=>by rw[aS] at h;rw[h.2.1,Ty.size]
 | .struct ts,cs,x,h=>by rw[aS] at h;rw[Ty.size];exact bM.length ts h
 | .any n,cs,x,h=>by rw[aS] at h;rw[h];rfl
theorem bM.length{w:World}{I:Nat→Prop}:∀(ts:List Ty) {cs:List Value} {x:Ty.Ts ts},bM w I ts cs x→cs.length=Ty.gk ts
 | [],cs,x,h=>by rw[bM] at h;rw[h];rfl
 | [t],cs,x,h=>by rw[bM] at h;simp only[Ty.gk,Nat.add_zero];exact aS.length t h
 | t::t2::ts,cs,x,h=>by
   rw[bM] at h
   obtain⟨us,vs,rfl,h1,h2⟩:=h
   rw[gm,aS.length t h1,bM.length (t2::ts) h2]
   simp only[Ty.gk]
end
theorem gp.mono{w w':World}{b off:Nat}{us:List Value}(h:gp w b off us)(hb:w'.heap[b]? = w.heap[b]?):gp w' b off us:=
 fun j u hj=>(World.cell?_of_block (w:=w) (a:=⟨b,off+j,none⟩) hb).trans (h j u hj)
mutual
theorem aS.mono{w w':World}{I I':Nat→Prop}(hI:∀b,I b→I' b∧w'.heap[b]? = w.heap[b]?):∀(t:Ty) {cs:List Value} {x:t.T},aS w I t cs x→aS w' I' t cs x
 | .int k,cs,x,h=>by rw[aS] at h ⊢;exact h
 | .bool,cs,x,h=>by rw[aS] at h ⊢;exact h
 | .str,cs,x,h=>by rw[aS] at h ⊢;exact h
 | .slice t,cs,x,h=>by
   rw[aS] at h ⊢
   obtain⟨a,cap,h1,h2,h3,h4,h5⟩:=h
   refine⟨a,cap,h1,h2,h3,h4,fun i y hy=>?_⟩
   obtain⟨b,off,us,ha,hb,hl,hr,hc⟩:=h5 i y hy
   exact⟨b,off,us,ha,(hI b hb).1,hl,hr.mono (hI b hb).2,aS.mono hI t hc⟩
 | .arr n t,cs,x,h=>by
   rw[aS] at h ⊢
   exact⟨h.1,h.2.1,fun i y hy=>aS.mono hI t (h.2.2 i y hy)⟩
 | .struct ts,cs,x,h=>by rw[aS] at h ⊢;exact bM.mono hI ts h
 | .any n,cs,x,h=>by rw[aS] at h ⊢;exact h
theorem bM.mono{w w':World}{I I':Nat→Prop}(hI:∀b,I b→I' b∧w'.heap[b]? = w.heap[b]?):∀(ts:List Ty) {cs:List Value} {x:Ty.Ts ts},bM w I ts cs x→bM w' I' ts cs x
 | [],cs,x,h=>by rw[bM] at h ⊢;exact h
 | [t],cs,x,h=>by rw[bM] at h ⊢;exact aS.mono hI t h
 | t::t2::ts,cs,x,h=>by
   rw[bM] at h ⊢
   obtain⟨us,vs,h0,h1,h2⟩:=h
   exact⟨us,vs,h0,aS.mono hI t h1,bM.mono hI (t2::ts) h2⟩
end
def gJ(w:World)(I:Nat→Prop)(t:Ty)(v:Value)(x:t.T):Prop:=
 if t.isAgg=true then ∃us:Array Value,v=.agg us∧aS w I t us.toList x else aS w I t [v] x
def dF(w:World)(I:Nat→Prop):(ts:List Ty)→List Value→Ty.Ts ts→Prop
 | [],vs,_=>vs=[]
 | [t],vs,x=>∃v,vs=[v]∧gJ w I t v x
 | t::t2::ts,vs,x=>∃v r,vs=v::r∧gJ w I t v (Prod.fst (α:=t.T) (β:=Ty.Ts (t2::ts)) x)∧dF w I (t2::ts) r (Prod.snd (α:=t.T) (β:=Ty.Ts (t2::ts)) x)
mutual
def CR(w:World)(S:St)(m:Mem):AV→Value→Prop
 | .undef,_=>True
 | .int k _ n,v=>v=.int k n∧k.has n
 | .bool _ b,v=>v=.bool b
 | .str _ s,v=>v=.string ⟨s.toArray⟩∧s.length≤dD
 | .sl t x,v=>aS w S.I (.slice t) [v] x
 | .dp b,v=>∃a,v=.slice a 0 0∧(b=true→a=none)
 | .own id,v=>match m.at id with
   | .arr _ t x=>(x=[]∧∃a,v=.slice a 0 0)∨x≠ []∧∃cap,v=.slice (some ⟨S.σ id,S.δ id,none⟩) x.length cap∧x.length≤cap∧(∃us T fr,w.heap[S.σ id]? = some (.cells us T fr)∧S.δ id+cap*t.size≤us.size)
   | .dead=>True
   | _=>False
 | .nD id sz _ lo len,v=>match m.at id with
   | .arr _ t x=>∃(l n cap:Nat) (a:Option Addr),lo=l∧len=n∧sz=t.size∧l+n≤x.length∧n≤cap∧(a=none→cap=0)∧v=.slice a n cap∧(n≠0→a=some ⟨S.σ id,S.δ id+l*sz,none⟩)
   | .flat _ cs=>∃(l n cap:Nat) (a:Option Addr),lo=l∧len=n∧l+n≤dD∧(l+cap)*sz≤cs.length∧n≤cap∧(a=none→cap=0)∧v=.slice a n cap∧(n≠0→a=some ⟨S.σ id,l*sz,none⟩)
   | .dead=>True
   | _=>False
 | .ptr id off,v=>match m.at id with
   | .flat _ _=>v=.pointer (some ⟨S.σ id,off,none⟩)
   | .dead=>True
   | _=>False
 | .nF id i off,v=>match m.at id with
   | .arr _ t x=>∃k:Nat,i=k∧k<x.length∧v=.pointer (some ⟨S.σ id,S.δ id+k*t.size+off,none⟩)
   | .dead=>True
   | _=>False
 | .rV id off n t i,v=>match m.at id with
   | .flat _ _=>∃k:Nat,i=k∧k<n∧v=.pointer (some ⟨S.σ id,off+k*t.size,none⟩)
   | .dead=>True
   | _=>False
 | .jA t x off,v=>∃b o us,v=.pointer (some ⟨b,o+off,none⟩)∧S.I b∧us.length=t.size∧gp w b o us∧aS w S.I t us x
 | .fS,v=>v=.pointer none
 | .fn f a c,v=>∃us vs:Array Value,v=.func (.func f) us vs∧bC w S m a us.toList∧bC w S m c vs.toList
 | .yield l,v=>match m.at l with
   | .loop _=>v=.func (.yield (S.σ l)) #[] #[]
   | .dead=>True
   | _=>False
 | .kz,v=>v=.nilFunc
 | .agg cs,v=>∃us:Array Value,v=.agg us∧bC w S m cs us.toList
 | .qS cs,v=>∃us:Array Value,v=.tuple us∧bC w S m cs us.toList
def bC(w:World)(S:St)(m:Mem):List AV→List Value→Prop
 | [],vs=>vs=[]
 | a::as',vs=>∃v r,vs=v::r∧CR w S m a v∧bC w S m as' r
end
section
variable {w:World} {S:St} {m:Mem} {v:Value}
theorem dC:CR w S m .undef v:=by rw[CR];trivial
theorem bK{k:IntKind}{c:Bool}{n:Int}:CR w S m (.int k c n) v↔v=.int k n∧k.has n:=by rw[CR]
theorem c_{c b:Bool}:CR w S m (.bool c b) v↔v=.bool b:=by rw[CR]
theorem gi{c:Bool}{s:List UInt8}:CR w S m (.str c s) v↔v=.string ⟨s.toArray⟩∧s.length≤dD:=by rw[CR]
theorem lz{t:Ty}{x:List t.T}:CR w S m (.sl t x) v↔aS w S.I (.slice t) [v] x:=by rw[CR]
theorem iB{b:Bool}:CR w S m (.dp b) v↔∃a,v=.slice a 0 0∧(b=true→a=none):=by rw[CR]
theorem nK{t:Ty}{x:t.T}{off:Nat}:CR w S m (.jA t x off) v↔∃b o us,v=.pointer (some ⟨b,o+off,none⟩)∧S.I b∧us.length=t.size∧gp w b o us∧aS w S.I t us x:=by rw[CR]
theorem iE:CR w S m .fS v↔v=.pointer none:=by rw[CR]
theorem oT{f:FuncId}{a c:List AV}:CR w S m (.fn f a c) v↔∃us vs:Array Value,v=.func (.func f) us vs∧bC w S m a us.toList∧bC w S m c vs.toList:=by rw[CR]
theorem jW:CR w S m .kz v↔v=.nilFunc:=by rw[CR]
theorem ou{cs:List AV}:CR w S m (.agg cs) v↔∃us:Array Value,v=.agg us∧bC w S m cs us.toList:=by rw[CR]
theorem fC{cs:List AV}:CR w S m (.qS cs) v↔∃us:Array Value,v=.tuple us∧bC w S m cs us.toList:=by rw[CR]
theorem aL{vs:List Value}:bC w S m [] vs↔vs=[]:=by rw[bC]
theorem aV{a:AV}{cs:List AV}{vs:List Value}:bC w S m (a::cs) vs↔∃v r,vs=v::r∧CR w S m a v∧bC w S m cs r:=by rw[bC]
theorem nz{I:Nat→Prop}{k:IntKind}{cs:List Value}{x:Int}:aS w I (.int k) cs x↔cs=[.int k x]∧k.has x:=Iff.rfl
theorem wy{I:Nat→Prop}{cs:List Value}{x:Bool}:aS w I .bool cs x↔cs=[.bool x]:=Iff.rfl
theorem uZ{I:Nat→Prop}{cs:List Value}{x:List UInt8}:aS w I .str cs x↔cs=[.string ⟨x.toArray⟩]∧x.length≤dD:=Iff.rfl
theorem bE{I:Nat→Prop}{t:Ty}{cs:List Value}{x:List t.T}:aS w I (.slice t) cs x↔∃(a:Option Addr) (cap:Nat),cs=[.slice a x.length cap]∧x.length≤cap∧x.length≤dD∧
   (a=none→cap=0)∧
   ∀(i:Nat) (y:t.T),x[i]? = some y→∃b off us,a=some ⟨b,off,none⟩∧I b∧us.length=t.size∧gp w b (off+i*t.size) us∧aS w I t us y:=Iff.rfl
theorem uD{I:Nat→Prop}{n:Nat}{t:Ty}{cs:List Value}{x:List t.T}:aS w I (.arr n t) cs x↔x.length=n∧cs.length=n*t.size∧
   ∀(i:Nat) (y:t.T),x[i]? = some y→aS w I t ((cs.drop (i*t.size)).take t.size) y:=Iff.rfl
theorem qT{I:Nat→Prop}{ts:List Ty}{cs:List Value}{x:Ty.Ts ts}:aS w I (.struct ts) cs x↔bM w I ts cs x:=Iff.rfl
theorem rT{I:Nat→Prop}{cs:List Value}{x:Ty.Ts []}:bM w I [] cs x↔cs=[]:=Iff.rfl
theorem vZ{I:Nat→Prop}{t:Ty}{cs:List Value}{x:t.T}:bM w I [t] cs x↔aS w I t cs x:=Iff.rfl
theorem tx{I:Nat→Prop}{t t2:Ty}{ts:List Ty}{cs:List Value}{x:t.T}{y:Ty.Ts (t2::ts)}:bM w I (t::t2::ts) cs (x,y)↔∃us vs,cs=us++vs∧aS w I t us x∧bM w I (t2::ts) vs y:=Iff.rfl
end
theorem bC.length{w:World}{S:St}{m:Mem}:∀{cs:List AV} {us:List Value},bC w S m cs us→us.length=cs.length
 | [],us,h=>by rw[bC] at h;rw[h];rfl
 | a::cs,us,h=>by
   rw[bC] at h
   obtain⟨v,r,rfl,_,h2⟩:=h
   simp[bC.length h2]
def dT:il→il→Prop
 | .bad,_=>False
 | _,.dead=>True
 | .flat _ cs,.flat _ cs'=>cs'.length=cs.length
 | .arr _ t x,.arr _ t' x'=>∃h:t=t',x'.length=x.length∧h=h
 | .loop _,.loop _=>True
 | .BZ,.BZ=>True
 | .BZ,.Mg=>True
 | .Mg,.Mg=>True
 | _,_=>False
def il.fI:il→Bool
 | .loop _=>true
 | .BZ=>true
 | .Mg=>true
 | _=>false
def il.full:il→Bool
 | .flat _ _=>true
 | .arr _ _ x=>!x.isEmpty
 | _=>false
theorem QS{fz:Bool}{t:Ty}{x:List t.T}(h:x≠ []):(il.arr fz t x).full=true:=by
 cases x with
 | nil=>exact absurd rfl h
 | cons=>rfl
structure bw(w:World)(S:St)(m:Mem)(w':World)(S':St)(m':Mem):Prop where
 jl:∀b,S.I b→S'.I b∧w'.heap[b]? = w.heap[b]?
 box:∀id,m.at id≠.bad→dT (m.at id) (m'.at id)∧(m'.at id≠.dead→S'.σ id=S.σ id∧S'.δ id=S.δ id∧
  ((m.at id).full=true→∀us T fr,w.heap[S.σ id]? = some (.cells us T fr)→∃dS T' dL,w'.heap[S.σ id]? = some (.cells dS T' dL)∧dS.size=us.size))
 ctl:∀id,(m.at id).fI=true→(m'.at id).fI=true
theorem bw.inv{w:World}{S:St}{m:Mem}{w':World}{S':St}{m':Mem}(h:bw w S m w' S' m'){id:Nat}(hb:m.at id≠.bad):m'.at id=.dead∨
  (dT (m.at id) (m'.at id)∧m'.at id≠.bad∧S'.σ id=S.σ id∧S'.δ id=S.δ id∧
  ((m.at id).full=true→∀us T fr,w.heap[S.σ id]? = some (.cells us T fr)→∃dS T' dL,w'.heap[S.σ id]? = some (.cells dS T' dL)∧dS.size=us.size)):=by
 obtain⟨h1,h2⟩:=h.box id hb
 by_cases hd:m'.at id=.dead
 ·exact .inl hd
 ·refine .inr ⟨h1,fun e=>?_,h2 hd⟩
  rw[e] at h1
  cases hm:m.at id<;>rw[hm] at h1<;>exact h1.elim
mutual
theorem CR.mono{w:World}{S:St}{m:Mem}{w':World}{S':St}{m':Mem}(h:bw w S m w' S' m'):∀{a:AV} {v:Value},CR w S m a v→CR w' S' m' a v
 | .undef,v,_=>by rw[CR];trivial
 | .int k c n,v,hc=>by rw[CR] at hc ⊢;exact hc
 | .bool c b,v,hc=>by rw[CR] at hc ⊢;exact hc
 | .str c s,v,hc=>by rw[CR] at hc ⊢;exact hc
 | .sl t x,v,hc=>by rw[CR] at hc ⊢;exact aS.mono h.jl _ hc
 | .dp b,v,hc=>by rw[CR] at hc ⊢;exact hc
 | .own id,v,hc=>by
   rw[CR] at hc ⊢
   rcases h.inv (id:=id) (fun e=>by rw[e] at hc;exact hc) with hd|⟨hk,_,hσ,hδ,hh⟩
   ·rw[hd];trivial
   ·cases hm:m.at id<;>rw[hm] at hc hk<;>simp only at hc<;>cases hm':m'.at id<;>rw[hm'] at hk<;>try (first|trivial|exact hk.elim)
    obtain⟨rfl,hl,_⟩:=hk
    rcases hc with ⟨rfl,hc⟩|⟨hne,cap,rfl,h1,us,T,fr,h2,h3⟩
    ·exact .inl ⟨List.length_eq_zero_iff.1 hl,hc⟩
    ·obtain⟨dS,T',dL,h4,h5⟩:=hh (by rw[hm];exact QS hne) us T fr h2
     exact .inr ⟨fun e=>hne (List.length_eq_zero_iff.1 (by rw[←hl,e];rfl)),cap,by rw[hσ,hδ,hl],by rw[hl];exact h1,dS,T',dL,by rw[hσ];exact h4,by rw[hδ,h5];exact h3⟩
 | .nD id sz c lo len,v,hc=>by
   rw[CR] at hc ⊢
   rcases h.inv (id:=id) (fun e=>by rw[e] at hc;exact hc) with hd|⟨hk,_,hσ,hδ,hh⟩
   ·rw[hd];trivial
   ·cases hm:m.at id<;>rw[hm] at hc hk<;>simp only at hc<;>cases hm':m'.at id<;>rw[hm'] at hk<;>try (first|trivial|exact hk.elim)
    ·have hl:_=_:=hk
     obtain⟨l,n,cap,a,h1,h2,h3,h4,h5,h6,h7,h8⟩:=hc
     exact⟨l,n,cap,a,h1,h2,h3,by rw[hl];exact h4,h5,h6,h7,by rw[hσ];exact h8⟩
    ·obtain⟨rfl,hl,_⟩:=hk
     obtain⟨l,n,cap,a,h1,h2,h3,h4,h5,h6,h7,h8⟩:=hc
     exact⟨l,n,cap,a,h1,h2,h3,by rw[hl];exact h4,h5,h6,h7,by rw[hσ,hδ];exact h8⟩
 | .ptr id off,v,hc=>by
   rw[CR] at hc ⊢
   rcases h.inv (id:=id) (fun e=>by rw[e] at hc;exact hc) with hd|⟨hk,_,hσ,hδ,hh⟩
   ·rw[hd];trivial
   ·cases hm:m.at id<;>rw[hm] at hc hk<;>simp only at hc<;>cases hm':m'.at id<;>rw[hm'] at hk<;>try (first|trivial|exact hk.elim)
    rw[hσ];exact hc
 | .nF id i off,v,hc=>by
   rw[CR] at hc ⊢
   rcases h.inv (id:=id) (fun e=>by rw[e] at hc;exact hc) with hd|⟨hk,_,hσ,hδ,hh⟩
   ·rw[hd];trivial
   ·cases hm:m.at id<;>rw[hm] at hc hk<;>simp only at hc<;>cases hm':m'.at id<;>rw[hm'] at hk<;>try (first|trivial|exact hk.elim)
    obtain⟨rfl,hl,_⟩:=hk
    obtain⟨k,h1,h2,h3⟩:=hc
    exact⟨k,h1,by rw[hl];exact h2,by rw[hσ,hδ];exact h3⟩
 | .rV id off n t i,v,hc=>by
   rw[CR] at hc ⊢
   rcases h.inv (id:=id) (fun e=>by rw[e] at hc;exact hc) with hd|⟨hk,_,hσ,hδ,hh⟩
   ·rw[hd];trivial
   ·cases hm:m.at id<;>rw[hm] at hc hk<;>simp only at hc<;>cases hm':m'.at id<;>rw[hm'] at hk<;>try (first|trivial|exact hk.elim)
    rw[hσ];exact hc
 | .jA t x off,v,hc=>by
   rw[CR] at hc ⊢
   obtain⟨b,o,us,h1,h2,h3,h4,h5⟩:=hc
   exact⟨b,o,us,h1,(h.jl b h2).1,h3,h4.mono (h.jl b h2).2,aS.mono h.jl _ h5⟩
 | .fS,v,hc=>by rw[CR] at hc ⊢;exact hc
 | .fn f a c,v,hc=>by
   rw[CR] at hc ⊢
   obtain⟨us,vs,h1,h2,h3⟩:=hc
   exact⟨us,vs,h1,bC.mono h h2,bC.mono h h3⟩
 | .yield l,v,hc=>by
   rw[CR] at hc ⊢
   rcases h.inv (id:=l) (fun e=>by rw[e] at hc;exact hc) with hd|⟨hk,_,hσ,hδ,hh⟩
   ·rw[hd];trivial
   ·cases hm:m.at l<;>rw[hm] at hc hk<;>simp only at hc<;>cases hm':m'.at l<;>rw[hm'] at hk<;>try (first|trivial|exact hk.elim)
    rw[hσ];exact hc
 | .kz,v,hc=>by rw[CR] at hc ⊢;exact hc
 | .agg cs,v,hc=>by
   rw[CR] at hc ⊢
   obtain⟨us,h1,h2⟩:=hc
   exact⟨us,h1,bC.mono h h2⟩
 | .qS cs,v,hc=>by
   rw[CR] at hc ⊢
   obtain⟨us,h1,h2⟩:=hc
   exact⟨us,h1,bC.mono h h2⟩
theorem bC.mono{w:World}{S:St}{m:Mem}{w':World}{S':St}{m':Mem}(h:bw w S m w' S' m'):∀{cs:List AV} {us:List Value},bC w S m cs us→bC w' S' m' cs us
 | [],us,hc=>by rw[bC] at hc ⊢;exact hc
 | a::cs,us,hc=>by
   rw[bC] at hc ⊢
   obtain⟨v,r,h0,h1,h2⟩:=hc
   exact⟨v,r,h0,CR.mono h h1,bC.mono h h2⟩
end
def fq(fr:Nat×Nat)(_n:Nat):Prop:=fr=(0,0)
def mE:Nat→LoopState
 | 0=>.ready
 | 1=>.busy
 | 2=>.done
 | _=>.exhausted
def FC(w:World)(S:St)(m:Mem)(r:Gx)(l:Loop):Prop:=
 l.state=mE r.state∧l.pending=r.pending∧l.fn=r.fn∧l.params=r.params.toArray∧l.assign=r.assign∧l.body=r.body∧(l.tmps.size=r.n∧r.n≤65535)∧
 ∀i,CR w S m (r.env.at i) (l.tmps.getD i undef)
def il.bd:il→Bool
 | .bad=>false
 | .dead=>false
 | .Mg=>false
 | .arr _ _ x=>!x.isEmpty
 | _=>true
def rW(w:World)(S:St)(m:Mem)(id:Nat):il→Prop
 | .bad=>True
 | .dead=>True
 | .Mg=>True
 | .flat _ cs=>∃(us:Array Value) (T:TypeId) (fr:Nat×Nat),w.heap[S.σ id]? = some (.cells us T fr)∧fq fr us.size∧bC w S m cs us.toList
 | .arr _ t x=>x.length≤dD∧(x≠ []→∃(us:Array Value) (T:TypeId) (fr:Nat×Nat),w.heap[S.σ id]? = some (.cells us T fr)∧fq fr us.size∧S.δ id+x.length*t.size≤us.size∧
    ∀(i:Nat) (y:t.T),x[i]? = some y→aS w S.I t ((us.toList.drop (S.δ id+i*t.size)).take t.size) y)
 | .loop r=>∃l,w.heap[S.σ id]? = some (.loop l)∧FC w S m r l
 | .BZ=>w.heap[S.σ id]? = some (.deferred (some []))
def il.i_:il→Bool
 | .flat fz _=>fz
 | .arr fz _ x=>fz && !x.isEmpty
 | _=>false
theorem ne_of_lt{α:Type}{x:List α}{k:Nat}(h:k<x.length):x≠ []:=fun e=>by subst e;exact absurd h (Nat.not_lt_zero _)
theorem own_ne{α:Type}{x:List α}{p q:Prop}(h:(x=[]∧p)∨x≠ []∧q)(hn:x≠ []):q:=h.elim (fun h=>absurd h.1 hn) (·.2)
theorem kp{fz:Bool}{t:Ty}{x:List t.T}(h:x≠ []):(il.arr fz t x).bd=true:=by cases x with|nil=>exact absurd rfl h|cons=>rfl
theorem vB{fz:Bool}{t:Ty}{x:List t.T}(h:(il.arr fz t x).bd=true):x≠ []:=fun e=>by subst e;cases h
theorem X5{t:Ty}{x:List t.T}{fz:Bool}(h:(il.arr fz t x).i_=true):x≠ []:=fun e=>by subst e;cases fz<;>cases h
theorem gG{t:Ty}{x:List t.T}:(il.arr false t x).i_=false:=rfl
theorem vW{α:Type}{x:List α}{v:Value}{b:Addr}{q:Nat→Prop}(h:(x=[]∧∃a,v=.slice a 0 0)∨x≠ []∧∃cap,v=.slice (some b) x.length cap∧x.length≤cap∧q cap) :
  ∃a cap,v=.slice a x.length cap∧x.length≤cap∧(a=none→cap=0)∧(x.length≠0→a=some b):=by
 rcases h with ⟨rfl,a,e⟩|⟨_,cap,e,h3,_⟩
 ·exact⟨a,0,e,Nat.le_refl 0,fun _=>rfl,fun h=>absurd rfl h⟩
 ·exact⟨_,cap,e,h3,fun h=>(by cases h),fun _=>rfl⟩
structure iP extends World where
 X:Nat→Prop
 R:List (Nat×Option Nat):=[]
 D:Prop:=False
def iP.free(o:iP)(b:Nat):Prop:=o.heap.size≤b∨o.X b
theorem iP.old{o:iP}{b:Nat}(h:¬o.free b):b<o.heap.size:=Nat.lt_of_not_le fun k=>h (.inl k)
def World.whole(w:World):iP:={w with X:=fun _=>False}
def World.EP(w:World):iP:={w with X:=fun _=>False,D:=True}
def Ju(w0:iP)(w:World):Prop:=w.tape=w0.tape∧(w0.D→w0.drawn≤w.drawn)
theorem Ju.on{w0:iP}{w w':World}(h:Ju w0 w)(e:w'.tape=w.tape)(d:w0.D→w.drawn≤w'.drawn):Ju w0 w':=⟨e.trans h.1,fun k=>Nat.le_trans (h.2 k) (d k)⟩
structure WR(w0:iP)(w:World)(S:St)(m:Mem):Prop where
 os:w.os=w0.os
 tape:Ju w0 w
 output:w.output=w0.output
 size:w0.heap.size≤w.heap.size
 base:∀b,¬w0.free b→w.heap[b]? = w0.heap[b]?
 jl:∀b,S.I b→b<w.heap.size
 box:∀id,rW w S m id (m.at id)
 inj:∀id id',(m.at id).bd=true→(m.at id').bd=true→S.σ id=S.σ id'→id=id'
 lo:∀id,(m.at id).bd=true→(S.I (S.σ id)∨w0.free (S.σ id))∧S.σ id<w.heap.size
 lT:∀id,(m.at id).bd=true→(m.at id).i_=false→¬S.I (S.σ id)
 Cu:∀id,(m.at id).i_=true→S.I (S.σ id)
 root:∀i b,w0.R[i]? = some b→i<m.length∧S.σ i=b.1∧∀d,b.2=some d→S.δ i=d
 cells:∀(b:Nat) (us:Array Value) (T:TypeId) (fr:Nat×Nat),w0.heap[b]? = some (.cells us T fr)→∃(dS:Array Value) (T':TypeId) (dL:Nat×Nat),w.heap[b]? = some (.cells dS T' dL)∧dS.size=us.size
theorem WR.lof{w0:iP}{w:World}{S:St}{m:Mem}(h:WR w0 w S m){id:Nat}(hl:(m.at id).bd=true)(hm:(m.at id).i_=false):w0.free (S.σ id):=(h.lo id hl).1.resolve_left (h.lT id hl hm)
def jq(all:Array Oper)(i:Nat):List Nat:=
 match all[i]? with
 | some o=>(o.after.toList.filter ng).map (·.on)
 | none=>[]
structure QC(all:Array Oper)(l:List Nat):Prop where
 nodup:l.Nodup
 lt:∀i∈l,i<all.size
 pw:l.Pairwise fun i j=>j ∉ jq all i
 self:∀i∈l,i ∉ jq all i
 closed:∀k,k<all.size→k ∉ l→∀j∈jq all k,j ∉ l
def Ai(ms l:List Nat):Prop:=∀l1 i l2,l=l1++i::l2→∀b,(ms.getD i 0).testBit b=true→b ∉ i::l2
structure fo(n:Nat)(all:Array Oper)(ms rest bs l:List Nat):Prop where
 msk:Ai ms l
 YP:l.Nodup
 nodup:(rest++bs).Nodup
 sub:∀i∈rest,i∈l
 cov:∀i∈l,i∈rest∨i∈bs
 lt:∀i∈bs,i<all.size
 read:∀i∈bs,∀b∈bs,i≠b→∀o p d,all[i]? = some o→all[b]? = some p→p.dst=some d→d∈readsOf all o→(ms.getD i 0).testBit b=true
 dst:∀i∈bs,∀b∈bs,i≠b→∀o p d,all[i]? = some o→all[b]? = some p→p.dst=some d→o.dst≠some d
 own:∀i∈bs,∀o d,all[i]? = some o→o.dst=some d→d ∉ readsOf all o
 grd:∀i∈bs,∀o,all[i]? = some o→rF (ms.getD i 0) o=true
 YO:∀i∈bs,∀o,all[i]? = some o→kG n o.dst=true
def Am(n:Nat)(S:St):bH→Item→Prop
 | .code c,it=>it=.code c
 | .inBlock id,it=>it=.inBlock id
 | .inLoop b,it=>it=.inLoop b∨it=.code (.loop b)
 | .inScope b,it=>it=.inScope b
 | .ops all rest,it=>∃l:List Nat,it=.inRegion all l∧l.map (fun i=>all[i]?)=rest.map some
 | .fA all ms rest bs,it=>∃l:List Nat,it=.inRegion all l∧fo n all ms rest bs l
 | .qh all ms i rest bs,it=>∃l:List Nat,it=.inRegion all (i::l)∧fo n all ms (i::rest) bs (i::l)
 | .kw l,it=>it=.inRangeFunc (S.σ l)
 | .kI l,it=>it=.endRangeFunc (S.σ l)
 | .beginRound,it=>it=.beginRound
def cJ(n:Nat)(S:St):List bH→List Item→Prop
 | [],l=>l=[]
 | a::r,l=>∃it k,l=it::k∧Am n S a it∧cJ n S r k
def bH.drawn:bH→Option (Array Oper×List Nat)
 | .fA all _ _ bs=>some (all,bs)
 | .qh all _ _ _ bs=>some (all,bs)
 | _=>none
def bH.B6(a:bH):Bool:=a.drawn.isSome
def Hid(f:bu)(fr:Frame)(x:Nat):Prop:=
 ∃all bs l k' b p,f.todo.head?.bind bH.drawn=some (all,bs)∧fr.todo=.inRegion all l::k'∧b∈bs∧b∈l∧all[b]? = some p∧p.dst=some x
def bP(m:Mem)(l:List bH):Prop:=∀a∈l,match a with | .kw id=>(m.at id).fI=true | .kI id=>(m.at id).fI=true|_=>True
structure FR(w:World)(S:St)(m:Mem)(f:bu)(fr:Frame):Prop where
 fn:fr.fn=f.fn
 n:fr.tmps.size=f.n
 small:f.n≤65535
 env:∀i,¬Hid f fr i→CR w S m (f.env.at i) (fr.tmps.getD i undef)
 todo:cJ f.n S f.todo fr.todo
 live:bP m f.todo
 flat:∀a∈f.todo.tail,a.B6=false
 defers:fr.defers=f.marks.map fun d=>{target:=.collected (S.σ d),args:=#[]}
 marks:∀d∈f.marks,(m.at d).fI=true
 mode:fr.mode=.run
 kind:fr.kind=.normal
 cK:fr.roundOf=f.cK.map S.σ
 nU:∀l,f.cK=some l→(m.at l).fI=true
def Ax(w:World)(S:St)(m:Mem):List bu→List Frame→Prop
 | [],l=>l=[]
 | f::fs,l=>∃fr r,l=fr::r∧FR w S m f fr∧Ax w S m fs r
end Go.Ev
namespace Go.Ev
theorem bC.append{w:World}{S:St}{m:Mem}:∀{a b:List AV} {us vs:List Value},bC w S m a us→bC w S m b vs→bC w S m (a++b) (us++vs)
 | [],b,us,vs,h1,h2=>by rw[bC] at h1;rw[h1];exact h2
 | x::a,b,us,vs,h1,h2=>by
   rw[bC] at h1
   obtain⟨v,r,rfl,h3,h4⟩:=h1
   rw[List.cons_append,bC]
   exact⟨v,r++vs,rfl,h3,bC.append h4 h2⟩
theorem bC.split{w:World}{S:St}{m:Mem}:∀{a b:List AV} {us:List Value},bC w S m (a++b) us→∃vs ws,us=vs++ws∧bC w S m a vs∧bC w S m b ws
 | [],b,us,h=>⟨[],us,rfl,by rw[bC],h⟩
 | x::a,b,us,h=>by
   rw[List.cons_append,bC] at h
   obtain⟨v,r,rfl,h3,h4⟩:=h
   obtain⟨vs,ws,rfl,h5,h6⟩:=bC.split h4
   exact⟨v::vs,ws,rfl,by rw[bC];exact⟨v,vs,rfl,h3,h5⟩,h6⟩
theorem bC.drop{w:World}{S:St}{m:Mem}:∀{a:List AV} {us:List Value} (n:Nat),bC w S m a us→bC w S m (a.drop n) (us.drop n)
 | [],us,n,h=>by rw[bC] at h;rw[h];simp only[List.drop_nil];rw[bC]
 | x::a,us,0,h=>h
 | x::a,us,n+1,h=>by
   rw[bC] at h
   obtain⟨v,r,rfl,h3,h4⟩:=h
   exact bC.drop n h4
theorem bC.take{w:World}{S:St}{m:Mem}:∀{a:List AV} {us:List Value} (n:Nat),bC w S m a us→bC w S m (a.take n) (us.take n)
 | [],us,n,h=>by rw[bC] at h;rw[h];simp only[List.take_nil];rw[bC]
 | x::a,us,0,h=>by simp only[List.take_zero];rw[bC]
 | x::a,us,n+1,h=>by
   rw[bC] at h
   obtain⟨v,r,rfl,h3,h4⟩:=h
   simp only[List.take_succ_cons]
   rw[bC]
   exact⟨v,_,rfl,h3,bC.take n h4⟩
theorem bC.get{w:World}{S:St}{m:Mem}:∀{a:List AV} {us:List Value} {i:Nat} {x:AV},bC w S m a us→a[i]? = some x→∃v,us[i]? = some v∧CR w S m x v
 | [],us,i,x,_,h=>by simp at h
 | y::a,us,0,x,h,hx=>by
   rw[bC] at h
   obtain⟨v,r,rfl,h3,h4⟩:=h
   simp at hx
   exact⟨v,rfl,hx▸h3⟩
 | y::a,us,i+1,x,h,hx=>by
   rw[bC] at h
   obtain⟨v,r,rfl,h3,h4⟩:=h
   simp only[List.getElem?_cons_succ] at hx ⊢
   exact bC.get h4 hx
theorem bC.map{w:World}{S:St}{m:Mem}{α:Type}{f:α→AV}{g:α→Value}(h:∀x,CR w S m (f x) (g x)):∀l:List α,bC w S m (l.map f) (l.map g)
 | []=>by simp only[List.map_nil];rw[bC]
 | x::l=>by simp only[List.map_cons];rw[bC];exact⟨_,_,rfl,h x,bC.map h l⟩
theorem bC.sr{w:World}{S:St}{m:Mem}(f:Nat→List AV)(sz:Nat):∀(n:Nat) (us:List Value),us.length=n*sz→
  (∀i,i<n→bC w S m (f i) ((us.drop (i*sz)).take sz))→bC w S m ((List.range n).flatMap f) us
 | 0,us,h,_=>by
   have:us=[]:=by simpa using h
   rw[this];simp only[List.range_zero,List.flatMap_nil];rw[bC]
 | n+1,us,h,hf=>by
   rw[List.range_succ,List.flatMap_append]
   have e:us=us.take (n*sz)++us.drop (n*sz):=(List.take_append_drop _ _).symm
   rw[e]
   refine bC.append ?_ ?_
   ·refine bC.sr f sz n _ (by rw[List.length_take,h,Nat.succ_mul];omega) fun i hi=>?_
    have:=hf i (by omega)
    have hle:(i+1)*sz≤n*sz:=Nat.mul_le_mul_right _ hi
    rw[Nat.succ_mul] at hle
    rw[List.drop_take,List.take_take,Nat.min_eq_left (by omega)]
    exact this
   ·have:=hf n (by omega)
    simp only[List.flatMap_cons,List.flatMap_nil,List.append_nil]
    rw[List.take_of_length_le (by rw[List.length_drop,h,Nat.succ_mul];omega)] at this
    exact this
theorem kN{t:Ty}{x:List t.T}{i:Nat}(h:i<x.length):x[i]? = some (ah.n t x (i:Int)):=by
 show x[i]? = some (x.getD (i:Int).toNat t.dZ)
 rw[gS,nE,uX h]
 rfl
mutual
theorem gj{w:World}{S:St}{m:Mem}:∀(t:Ty) {us:List Value} {x:t.T},aS w S.I t us x→bC w S m (fx ah t x) us
 | .int k,us,x,h=>by
   rw[aS] at h;rw[fx,h.1];simp only[bC];exact⟨_,_,rfl,bK.2 ⟨rfl,h.2⟩,rfl⟩
 | .bool,us,x,h=>by
   rw[aS] at h;rw[fx,h];simp only[bC];exact⟨_,_,rfl,c_.2 rfl,rfl⟩
 | .str,us,x,h=>by
   rw[aS] at h;rw[fx,h.1];simp only[bC];exact⟨_,_,rfl,gi.2 ⟨rfl,h.2⟩,rfl⟩
 | .slice t,us,x,h=>by
   have h':=h
   rw[aS] at h'
   obtain⟨a,cap,e,_⟩:=h'
   rw[fx];simp only[bC]
   exact⟨_, [],e,lz.2 (by rw[e] at h;exact h),rfl⟩
 | .arr n t,us,x,h=>by
   rw[aS] at h
   rw[fx]
   refine bC.sr _ t.size n us h.2.1 fun i hi=>?_
   exact gj t (h.2.2 i _ (kN (by rw[h.1];exact hi)))
 | .struct ts,us,x,h=>by rw[aS] at h;rw[fx];exact A_ ts h
 | .any n,us,x,h=>by
   rw[aS] at h
   subst h
   rw[fx]
   clear x
   induction us with
   | nil=>exact aL.2 rfl
   | cons u us ih=>exact aV.2 ⟨u,us,rfl,dC,ih⟩
theorem A_{w:World}{S:St}{m:Mem}:∀(ts:List Ty) {us:List Value} {x:Ty.Ts ts},bM w S.I ts us x→bC w S m (rI ah ts x) us
 | [],us,x,h=>by rw[bM] at h;rw[rI,h,bC]
 | [t],us,x,h=>by rw[bM] at h;rw[rI];exact gj t h
 | t::t2::ts,us,x,h=>by
   rw[bM] at h
   obtain⟨u1,u2,rfl,h1,h2⟩:=h
   rw[rI]
   exact bC.append (gj t h1) (A_ (t2::ts) h2)
end
theorem uU{w:World}{S:St}{m:Mem}{t:Ty}{v:Value}{x:t.T}(h:gJ w S.I t v x):CR w S m (LX ah t x) v:=by
 unfold gJ at h
 unfold LX
 cases ht:t.isAgg with
 | true=>
   rw[ht,if_pos rfl] at h
   obtain⟨us,rfl,h⟩:=h
   simp only
   rw[CR]
   exact⟨us,rfl,gj t h⟩
 | false=>
   rw[ht,if_neg (by simp)] at h
   have:=gj (m:=m) t h
   simp only
   cases hd:fx ah t x with
   | nil=>rw[hd,bC] at this;cases this
   | cons a r=>
     rw[hd,bC] at this
     obtain⟨v',r',e,h1,_⟩:=this
     cases e
     exact h1
theorem ko{α:Type}{w:World}{S:St}{m:Mem}(f:List AV→Option (α×List AV))(sz:Nat)(Rp:List Value→α→Prop)
  (hf:∀cs x r us,f cs=some (x,r)→bC w S m cs us→∃u1 u2,us=u1++u2∧u1.length=sz∧Rp u1 x∧bC w S m r u2) :
  ∀(n:Nat) (cs:List AV) (x:List α) (r:List AV) (us:List Value),pO f n cs=some (x,r)→bC w S m cs us→
   ∃u1 u2,us=u1++u2∧u1.length=n*sz∧x.length=n∧(∀(i:Nat) (y:α),x[i]? = some y→Rp ((u1.drop (i*sz)).take sz) y)∧bC w S m r u2
 | 0,cs,x,r,us,h,hc=>by
   simp only[pO,Option.some.injEq,Prod.mk.injEq] at h
   obtain⟨rfl,rfl⟩:=h
   exact⟨[],us,rfl,by simp,rfl,fun i y hy=>by simp at hy,hc⟩
 | n+1,cs,x,r,us,h,hc=>by
   simp only[pO] at h
   cases h1:f cs with
   | none=>rw[h1] at h;cases h
   | some p=>
     obtain⟨a,r1⟩:=p
     rw[h1] at h
     simp only at h
     cases h2:pO f n r1 with
     | none=>rw[h2] at h;cases h
     | some q=>
       obtain⟨b,r2⟩:=q
       rw[h2] at h
       simp only[Option.some.injEq,Prod.mk.injEq] at h
       obtain⟨rfl,rfl⟩:=h
       obtain⟨u1,u2,rfl,l1,p1,c1⟩:=hf cs a r1 us h1 hc
       obtain⟨v1,v2,rfl,l2,l3,p2,c2⟩:=ko f sz Rp hf n r1 b r2 u2 h2 c1
       refine⟨u1++v1,v2,by simp,by simp[l1,l2,Nat.succ_mul,Nat.add_comm],by simp[l3],fun i y hy=>?_,c2⟩
       cases i with
       | zero=>
         simp only[List.getElem?_cons_zero,Option.some.injEq] at hy
         subst hy
         simp only[Nat.zero_mul,List.drop_zero]
         rw[List.take_append_of_le_length (by omega),List.take_of_length_le (by omega)]
         exact p1
       | succ i=>
         simp only[List.getElem?_cons_succ] at hy
         have:=p2 i y hy
         rw[show(i+1)*sz=sz+i*sz from by rw[Nat.succ_mul,Nat.add_comm],←List.drop_drop,List.drop_left' l1]
         exact this
theorem bC.cons_inv{w:World}{S:St}{m:Mem}{a:AV}{cs:List AV}{us:List Value}(h:bC w S m (a::cs) us):∃v r,us=v::r∧CR w S m a v∧bC w S m cs r:=by
 rw[bC] at h;exact h
mutual
theorem ig{w:World}{S:St}{m:Mem}:∀(t:Ty) {cs:List AV} {x:t.T} {r:List AV} {us:List Value},oA t cs=some (x,r)→bC w S m cs us→
  ∃u1 u2,us=u1++u2∧aS w S.I t u1 x∧bC w S m r u2
 | .int k,cs,x,r,us,h,hc=>by
   simp only[oA] at h
   cases cs with
   | nil=>simp at h
   | cons a cs=>
     obtain⟨v,dS,rfl,h1,h2⟩:=hc.cons_inv
     cases a<;>simp only[reduceCtorEq] at h
     case int k' c n=>
      cases hk:iy k' k with
      | false=>rw[hk] at h;cases h
      | true=>
        rw[hk] at h
        simp only[Option.some.injEq] at h
        cases h
        have h1:=bK.1 h1
        have:=iI hk;subst this
        exact⟨[v],dS,rfl,nz.2 ⟨by rw[h1.1],h1.2⟩,h2⟩
 | .bool,cs,x,r,us,h,hc=>by
   simp only[oA] at h
   cases cs with
   | nil=>simp at h
   | cons a cs=>
     obtain⟨v,dS,rfl,h1,h2⟩:=hc.cons_inv
     cases a<;>simp only[reduceCtorEq,Option.some.injEq] at h
     case bool c b=>
      cases h
      exact⟨[v],dS,rfl,wy.2 (by rw[c_.1 h1]),h2⟩
 | .str,cs,x,r,us,h,hc=>by
   simp only[oA] at h
   cases cs with
   | nil=>simp at h
   | cons a cs=>
     obtain⟨v,dS,rfl,h1,h2⟩:=hc.cons_inv
     cases a<;>simp only[reduceCtorEq,Option.some.injEq] at h
     case str c s=>
      cases h
      have h1:=gi.1 h1
      exact⟨[v],dS,rfl,uZ.2 ⟨by rw[h1.1],h1.2⟩,h2⟩
 | .slice t,cs,x,r,us,h,hc=>by
   simp only[oA] at h
   cases cs with
   | nil=>simp at h
   | cons a cs=>
     obtain⟨v,dS,rfl,h1,h2⟩:=hc.cons_inv
     cases a<;>simp only[reduceCtorEq,Option.some.injEq] at h
     case sl t' x'=>
      by_cases hb:t'.beq t=true
      ·rw[dif_pos hb] at h
       have:=Ty.eq_of_beq hb;subst this
       simp only[Option.some.injEq] at h
       cases h
       exact⟨[v],dS,rfl,lz.1 h1,h2⟩
      ·rw[dif_neg hb] at h;cases h
     case dp b=>
      cases h
      rw[CR] at h1
      obtain⟨a,rfl,_⟩:=h1
      exact⟨[_],dS,rfl,bE.2 ⟨a,0,rfl,Nat.le_refl _,Nat.zero_le _,fun _=>rfl,fun i y hy=>by simp at hy⟩,h2⟩
 | .arr n t,cs,x,r,us,h,hc=>by
   simp only[oA] at h
   obtain⟨u1,u2,rfl,l1,l2,p,c⟩:=ko (oA t) t.size (fun u y=>aS w S.I t u y) (fun cs x r us h hc=>by
    obtain⟨u1,u2,e,h1,h2⟩:=ig t h hc
    exact⟨u1,u2,e,h1.length,h1,h2⟩) n cs x r us h hc
   exact⟨u1,u2,rfl,uD.2 ⟨l2,l1,p⟩,c⟩
 | .struct ts,cs,x,r,us,h,hc=>by
   simp only[oA] at h
   obtain⟨u1,u2,e,h1,h2⟩:=iC ts h hc
   exact⟨u1,u2,e,by rw[aS];exact h1,h2⟩
 | .any n,cs,x,r,us,h,hc=>by
   simp only[oA] at h
   cases hn:Nat.ble n cs.length with
   | false=>rw[hn] at h;cases h
   | true=>
     rw[hn] at h
     simp only[Option.some.injEq,Prod.mk.injEq] at h
     obtain⟨_,rfl⟩:=h
     have hl:=hc.length
     have:=oX hn
     exact⟨us.take n,us.drop n,(List.take_append_drop n us).symm,(show(us.take n).length=n by rw[List.length_take];omega),hc.drop n⟩
theorem iC{w:World}{S:St}{m:Mem}:∀(ts:List Ty) {cs:List AV} {x:Ty.Ts ts} {r:List AV} {us:List Value},jT ts cs=some (x,r)→bC w S m cs us→
  ∃u1 u2,us=u1++u2∧bM w S.I ts u1 x∧bC w S m r u2
 | [],cs,x,r,us,h,hc=>by
   simp only[jT,Option.some.injEq] at h
   cases h
   exact⟨[],us,rfl,rT.2 rfl,hc⟩
 | [t],cs,x,r,us,h,hc=>by
   simp only[jT] at h
   obtain⟨u1,u2,e,h1,h2⟩:=ig t h hc
   exact⟨u1,u2,e,by rw[bM];exact h1,h2⟩
 | t::t2::ts,cs,x,r,us,h,hc=>by
   simp only[jT] at h
   cases h1:oA t cs with
   | none=>rw[h1] at h;cases h
   | some p=>
     obtain⟨a,r1⟩:=p
     rw[h1] at h
     simp only at h
     cases h2:jT (t2::ts) r1 with
     | none=>rw[h2] at h;cases h
     | some q=>
       obtain⟨b,r2⟩:=q
       rw[h2] at h
       simp only[Option.some.injEq,Prod.mk.injEq] at h
       obtain⟨rfl,rfl⟩:=h
       obtain⟨u1,u2,rfl,p1,c1⟩:=ig t h1 hc
       obtain⟨v1,v2,rfl,p2,c2⟩:=iC (t2::ts) h2 c1
       exact⟨u1++v1,v2,by simp,tx.2 ⟨u1,v1,rfl,p1,p2⟩,c2⟩
end
end Go.Ev
namespace Go.Ev
theorem gL(k:IntKind)(n:Int):k.has (k.wrap n):=wrap_within k n
theorem TB(k:IntKind):abf k=k.min:=by cases k<;>decide
theorem UY(k:IntKind):ZV k=k.max:=by cases k<;>decide
def kindOk(P:Program)(T:TypeId):TK→Prop
 | .bool=>P.underlying T=some .bool
 | .int k=>P.underlying T=some (.int k)
 | .str=>P.underlying T=some .string
 | .slice e=>P.underlying T=some (.slice e)
 | .arr n e=>P.underlying T=some (.array n e)
 | .ptr e=>P.underlying T=some (.pointer e)
 | .func=>∃ps rs v,P.underlying T=some (.func ps rs v)
 | .struct fs=>∃F,P.underlying T=some (.struct F)∧F.size=fs.length∧∀(i off sz:Nat) (ag:Bool),fs[i]? = some (off,sz,ag)→
    ∃f j,F[i]? = some f∧f.offset=off∧P.info? f.type=some j∧j.size=sz∧∀w,(isAgg f.type).run P w=.ok ag w
 | .other=>True
def agx(P:Program)(T:TypeId)(zero:List AV):Prop:=
 ∀(w:World) (S:St) (m:Mem) (xs ys:List AV) (us vs:Array Value) (c:Bool) (g:aI→Bool),ir xs zero=true→bJ xs ys=some (c,g)→bC w S m xs us.toList→bC w S m ys vs.toList→
  (Op.equal T (.agg us) (.agg vs)).run P w=.ok (g ah) w∧∀op x y,(eqGuard op T x y (.agg us) (.agg vs)).run P w=.ok () w
structure v_(P:Program)(T:TypeId)(ti:TI):Prop where
 info:∃i z,P.info? T=some i∧i.size=ti.size∧i.bytes=ti.bytes∧i.zero=some z∧(∀w S m,bC w S m ti.zero z.cells.toList)∧
  (∀t,ti.ty=some t→∀w I,aS w I t z.cells.toList t.dZ)
 kind:kindOk P T ti.kind
 agg:∀w,(isAgg T).run P w=.ok ti.agg w
 ah0:ti.zero.length=ti.size
 ty:∀t,ti.ty=some t→t.size=ti.size∧t.isAgg=ti.agg
 eq:ti.eq=true→ti.agg=true→agx P T ti.zero
 mg:∀t,ti.ty=some t→t.mg=true
def iV(P:Program)(tis:PT TI):Prop:=∀T ti,tis.get T=some ti→v_ P T ti
theorem v_.lv{P:Program}{T:TypeId}{ti:TI}(h:v_ P T ti)(w:World):(sizeOf T).run P w=.ok ti.size w:=by
 obtain⟨i,z,h1,h2,_⟩:=h.info
 simp[sizeOf,typeInfo,h1,h2]
def TV.Is{α:Type}:TV α→α→Prop
 | .leaf a,x=>x=a
 | .br b t e,x=>(b=true∧t.Is x)∨(b=false∧e.Is x)
 | .need b t,x=>b=true∧t.Is x
 | .bad _,_=>False
theorem TV.bind_ok{α:Type}{R:Type}{Q:R→Prop}{G:eD→Prop}{pos:String}{K:α→Tr R}:∀{tv:TV α},Tr.Ok Q G (tv.bind pos K)→∃x,tv.Is x∧Tr.Ok Q G (K x)
 | .leaf a,h=>⟨a,rfl,h⟩
 | .br b t e,h=>by
   simp only[TV.bind,Tr.Ok] at h
   cases b with
   | true=>obtain⟨x,h1,h2⟩:=TV.bind_ok (h.1 rfl);exact⟨x,.inl ⟨rfl,h1⟩,h2⟩
   | false=>obtain⟨x,h1,h2⟩:=TV.bind_ok (h.2 rfl);exact⟨x,.inr ⟨rfl,h1⟩,h2⟩
 | .need b t,h=>by
   simp only[TV.bind,Tr.Ok] at h
   obtain⟨x,h1,h2⟩:=TV.bind_ok h.2
   exact⟨x,⟨h.1,h1⟩,h2⟩
 | .bad n,h=>by simp[TV.bind,Tr.Ok] at h
theorem TV.wQ{α β:Type}{f:α→β}{y:β}:∀{tv:TV α},(tv.map f).Is y→∃x,tv.Is x∧y=f x
 | .leaf a,h=>⟨a,rfl,h⟩
 | .br b t e,h=>by
   rcases h with h|h
   ·obtain⟨x,h1,h2⟩:=TV.wQ h.2;exact⟨x,.inl ⟨h.1,h1⟩,h2⟩
   ·obtain⟨x,h1,h2⟩:=TV.wQ h.2;exact⟨x,.inr ⟨h.1,h1⟩,h2⟩
 | .need b t,h=>by
   obtain⟨x,h1,h2⟩:=TV.wQ h.2;exact⟨x,⟨h.1,h1⟩,h2⟩
 | .bad n,h=>h.elim
theorem oF{α:Type}{n:Nat}{o:Option α}{x:α}(h:(zW n o).Is x):o=some x:=by
 cases o with
 | none=>exact h.elim
 | some a=>exact congrArg some (Eq.symm h)
theorem Ap{α:Type}{c b:Bool}{t:TV α}{x:α}(h:(GD c b t).Is x):b=true∧t.Is x:=by
 unfold GD at h
 cases c with
 | true=>cases b with
   | true=>exact⟨rfl,h⟩
   | false=>exact h.elim
 | false=>exact h
theorem dH(k:IntKind)(c:Bool)(f:aI→Int){w:World}{S:St}{m:Mem}(h:k.has (f ah)):CR w S m (qq ah k c f) (.int k (f ah)):=by
 unfold qq
 cases c<;>exact bK.2 ⟨rfl,h⟩
theorem ek(c:Bool)(f:aI→Bool){w:World}{S:St}{m:Mem}:CR w S m (o_ ah c f) (.bool (f ah)):=by
 unfold o_
 cases c<;>exact c_.2 rfl
section
variable {P:Program} {w:World} {S:St} {m:Mem}
theorem T3{k:IntKind}{a:Int}(h:k.has a)(n:Nat):k.has (a.fdiv (2^n)):=by
 have hp:(0:Int)<2^n:=Int.pow_pos (by decide)
 rw[Int.fdiv_eq_ediv_of_nonneg _ (Int.le_of_lt hp)]
 obtain⟨h1,h2⟩:=h
 have hm:k.min≤0:=by cases k<;>decide
 have hM:(0:Int)≤k.max:=by cases k<;>decide
 have h2n:(1:Int)≤2^n:=hp
 constructor
 ·by_cases h0:0≤a
  ·exact Int.le_trans hm (Int.ediv_nonneg h0 (Int.le_of_lt hp))
  ·have:a≤a/2^n:=by
    have h3:a*2^n≤a:=by
     have:=Int.mul_le_mul_of_nonpos_left (a:=a) (by omega) h2n
     omega
    exact(Int.le_ediv_iff_mul_le hp).2 h3
   omega
 ·by_cases h0:0≤a
  ·have:a/2^n≤a:=Int.ediv_le_self _ h0
   omega
  ·have:a/2^n≤0:=by
    have:=Int.ediv_lt_of_lt_mul hp (show a<1*2^n by omega)
    omega
   omega
theorem Pr{k:IntKind}{a b:Int}(h:k.has a):k.has (a.tmod b):=by
 obtain⟨h1,h2⟩:=h
 have hm:k.min≤0:=by cases k<;>decide
 have hM:(0:Int)≤k.max:=by cases k<;>decide
 by_cases h0:0≤a
 ·have h3:=Int.tmod_nonneg b h0
  have h4:a.tmod b≤a:=by
   have:=Int.natAbs_tmod a b
   have h5:(a.tmod b).natAbs≤a.natAbs:=by rw[this];exact Nat.mod_le _ _
   omega
  exact⟨by omega,by omega⟩
 ·have h5:(a.tmod b).natAbs≤a.natAbs:=by rw[Int.natAbs_tmod];exact Nat.mod_le _ _
  have h6:a.tmod b≤0:=by
   have:=Int.tmod_nonneg b (show 0≤ -a by omega)
   rw[Int.neg_tmod] at this
   omega
  exact⟨by omega,by omega⟩
theorem EA{op:BinOp}{T:TypeId}{k k':IntKind}{c c':Bool}{a b:Int}{v:AV}(ha:k.has a)(hb:k'.has b)(h1:op≠.shl)(h2:op≠.shr)
  (h:(IB ah op k c a k' c' b).Is v):∃u,(binOp op T (.int k a) (.int k' b)).run P w=.ok u w∧CR w S m v u:=by
 unfold IB at h
 cases hk:iy k k' with
 | false=>rw[hk] at h;exact h.elim
 | true=>
   have:=iI hk;subst this
   rw[hk] at h
   cases op<;>simp only[Dz] at h<;>try contradiction
   case quo=>
    obtain⟨h3,h4⟩:=Ap h
    have h3:b≠0:=by cases c'<;>simpa [ah,qc] using h3
    cases h4
    refine⟨_,?_,dH k _ _ (gL _ _)⟩
    simp[binOp_quo,Op.intDiv,h3,ah,x9]
   case rem=>
    obtain⟨h3,h4⟩:=Ap h
    have h3:b≠0:=by cases c'<;>simpa [ah,qc] using h3
    cases h4
    refine⟨_,?_,dH k _ _ (Pr ha)⟩
    simp[binOp_rem,Op.intDiv,h3,ah,x9]
   case add=>cases h;exact⟨_,by simp[binOp_add,Op.intArith,ah,x9],dH k _ _ (gL _ _)⟩
   case sub=>cases h;exact⟨_,by simp[binOp_sub,Op.intArith,ah,x9],dH k _ _ (gL _ _)⟩
   case mul=>cases h;exact⟨_,by simp[binOp_mul,Op.intArith,ah,x9],dH k _ _ (gL _ _)⟩
   case and=>cases h;exact⟨_,by simp[binOp_and,Op.intBits,ah,x9],dH k _ _ (gL _ _)⟩
   case or=>cases h;exact⟨_,by simp[binOp_or,Op.intBits,ah,x9],dH k _ _ (gL _ _)⟩
   case xor=>cases h;exact⟨_,by simp[binOp_xor,Op.intBits,ah,x9],dH k _ _ (gL _ _)⟩
   case andNot=>cases h;exact⟨_,by simp[binOp_andNot,Op.intBits,ah,x9],dH k _ _ (gL _ _)⟩
   case eql=>cases h;exact⟨_,by simp[binOp_eql,ah,qc],ek _ _⟩
   case neq=>cases h;exact⟨_,by simp[binOp_neq,ah,qc],ek _ _⟩
   case lss=>cases h;exact⟨_,by simp[binOp_lss,ah,qc],ek _ _⟩
   case leq=>cases h;exact⟨_,by simp[binOp_leq,ah,qc],ek _ _⟩
   case gtr=>cases h;exact⟨_,by simp[binOp_gtr,ah,qc],ek _ _⟩
   case geq=>cases h;exact⟨_,by simp[binOp_geq,ah,qc],ek _ _⟩
theorem r_{op:BinOp}{T:TypeId}{k k':IntKind}{c c':Bool}{a b:Int}{v:AV}(ha:k.has a)(h1:op=.shl∨op=.shr)
  (h:(yD ah op k c a c' b).Is v):∃u,(binOp op T (.int k a) (.int k' b)).run P w=.ok u w∧CR w S m v u:=by
 unfold yD at h
 obtain⟨h3,h4⟩:=Ap h
 have h3:0≤b:=by cases c'<;>simpa [ah,qc] using h3
 cases h4
 rcases h1 with rfl|rfl
 ·exact⟨_,by simp[binOp_shl,Op.shift,Int.not_lt.2 h3,ah,x9],dH k _ _ (gL _ _)⟩
 ·exact⟨_,by simp[binOp_shr,Op.shift,Int.not_lt.2 h3,ah,x9],dH k _ _ (T3 ha _)⟩
theorem Et{op:BinOp}(hop:Dz op=true)(x y:List UInt8):Op.stringOp op ⟨x.toArray⟩ ⟨y.toArray⟩=pure (.bool (ah.z op x y)):=by
 cases op<;>simp[Dz] at hop<;>simp[Op.stringOp,ah,QK]
theorem gz{op:BinOp}{b:Bool}{v:AV}{T:TypeId}{x y:Value}(hx:(Op.equal T x y).run P w=.ok b w)
  (he:binOp .eql T x y=(do pure (.bool (←Op.equal T x y)))) (hn:binOp .neq T x y=(do pure (.bool (!(←Op.equal T x y)))))
  (h:(o5 op b).Is v):∃u,(binOp op T x y).run P w=.ok u w∧CR w S m v u:=by
 cases op<;>simp only[o5] at h<;>try exact h.elim
 ·cases h;exact⟨_,by rw[he];simp[hx],c_.2 rfl⟩
 ·cases h;exact⟨_,by rw[hn];simp[hx],c_.2 rfl⟩
theorem vU{d:Nat}{T:TypeId}{ps rs:Array TypeId}{vr:Bool}{f:Fn}{a c:Array Value}(h:P.underlying T=some (.func ps rs vr)) :
  (Op.equalIn (d+1) T (.func f a c) .nilFunc).run P w=.ok false w:=by simp[Op.equalIn,run_underlying h]
theorem x8{d:Nat}{T:TypeId}{ps rs:Array TypeId}{vr:Bool}(h:P.underlying T=some (.func ps rs vr)) :
  (Op.equalIn (d+1) T .nilFunc .nilFunc).run P w=.ok true w:=by simp[Op.equalIn,run_underlying h]
theorem xU{d:Nat}{T e:TypeId}{a:Addr}(h:P.underlying T=some (.pointer e)) :
  (Op.equalIn (d+1) T (.pointer (some a)) (.pointer none)).run P w=.ok false w:=by simp[Op.equalIn,run_underlying h]
theorem Bw{d:Nat}{T e:TypeId}(h:P.underlying T=some (.pointer e)) :
  (Op.equalIn (d+1) T (.pointer none) (.pointer none)).run P w=.ok true w:=by simp[Op.equalIn,run_underlying h]
theorem oh{d:Nat}{T e:TypeId}{a:Addr}{n c:Nat}(h:P.underlying T=some (.slice e)) :
  (Op.equalIn (d+1) T (.slice (some a) n c) (.slice none 0 0)).run P w=.ok false w:=by simp[Op.equalIn,run_underlying h]
theorem v7{d:Nat}{T e:TypeId}(h:P.underlying T=some (.slice e)) :
  (Op.equalIn (d+1) T (.slice none 0 0) (.slice none 0 0)).run P w=.ok true w:=by simp[Op.equalIn,run_underlying h]
theorem v_.cv{T:TypeId}{ti:TI}{k:TK}(h:v_ P T ti)(hk:ti.kind=k):kindOk P T k:=hk▸h.kind
theorem Fy{E:PT TI}(hE:iV P E){op:BinOp}{T:TypeId}{x y:AV}{u v:Value}{r:AV}(xo yo:Operand)(hx:CR w S m x u)(hy:CR w S m y v)
  (h:(OM ah m (E.get T) op x y).Is r):∃z,(do eqGuard op T xo yo u v;binOp op T u v:Sem Value).run P w=.ok z w∧CR w S m r z:=by
 unfold OM at h
 cases x<;>simp only at h<;>try exact h.elim
 case int k c a=>
  obtain⟨rfl,ha⟩:=bK.1 hx
  cases y<;>simp only at h<;>try exact h.elim
  case int k' c' b=>
   obtain⟨rfl,hb⟩:=bK.1 hy
   rw[eqGuard_at_int,pure_bind]
   cases op<;>simp only at h<;>first
    | exact r_ ha (.inl rfl) h
    | exact r_ ha (.inr rfl) h
    | exact EA ha hb (by simp) (by simp) h
 case bool c a=>
  have hx:=c_.1 hx;subst hx
  cases y<;>simp only at h<;>try exact h.elim
  case bool c' b=>
   have hy:=c_.1 hy;subst hy
   rw[eqGuard_at_bool,pure_bind]
   cases ht:E.get T with
   | none=>rw[ht] at h;exact h.elim
   | some ti=>
     rw[ht] at h
     simp only at h
     cases hk:ti.kind<;>rw[hk] at h<;>simp only at h<;>try exact h.elim
     have hT:P.underlying T=some .bool:=(hE T ti ht).cv hk
     cases op<;>simp only at h<;>try exact h.elim
     ·cases h;exact⟨_,run_eql_bool w T a b hT,ek _ _⟩
     ·cases h;exact⟨_,run_neq_bool w T a b hT,ek _ _⟩
 case str c a=>
  obtain⟨rfl,ha⟩:=gi.1 hx
  cases y<;>simp only at h<;>try exact h.elim
  case str c' b=>
   obtain⟨rfl,hb⟩:=gi.1 hy
   rw[eqGuard_at_string,pure_bind]
   have hbin:binOp op T (.string ⟨a.toArray⟩) (.string ⟨b.toArray⟩)=Op.stringOp op ⟨a.toArray⟩ ⟨b.toArray⟩:=by cases op<;>rfl
   rw[hbin]
   cases hc:Dz op with
   | true=>
     rw[hc] at h
     cases h
     exact⟨_,by rw[Et hc];rfl,ek _ _⟩
   | false=>
     rw[hc] at h
     cases op<;>simp only at h<;>try exact h.elim
     obtain⟨h1,h2⟩:=h
     cases h2
     have h1:(a++b).length≤dD:=by
      have:((a++b).length:Int)≤140737488355328:=by simpa [ah,qc] using h1
      rw[dI];omega
     refine⟨.string ⟨(a++b).toArray⟩,?_,gi.2 ⟨rfl,h1⟩⟩
     have hs1:(ByteArray.mk a.toArray).size=a.length:=rfl
     have hs2:(ByteArray.mk b.toArray).size=b.length:=rfl
     have h3:¬(((a.length+b.length:Nat):Int) > IntKind.i64.max):=by
      rw[gm,dI] at h1
      rw[IntKind.max_i64]
      omega
     simp only[Op.stringOp,hs1,hs2,h3,if_false]
     have:(ByteArray.mk a.toArray)++(ByteArray.mk b.toArray)=ByteArray.mk (a++b).toArray:=by
      apply ByteArray.ext
      simp
     rw[this];rfl
 case agg xs=>
  obtain⟨us,rfl,hxs⟩:=ou.1 hx
  cases y<;>simp only at h<;>try exact h.elim
  case agg ys=>
   obtain⟨vs,rfl,hys⟩:=ou.1 hy
   cases ht:E.get T with
   | none=>rw[ht] at h;exact h.elim
   | some ti=>
     rw[ht] at h
     simp only at h
     cases hea:ti.eq&&(ti.agg&&ir xs ti.zero) with
     | false=>rw[hea] at h;exact h.elim
     | true=>
       rw[hea] at h
       obtain⟨he,hagg⟩:=Bool.and_eq_true_iff.1 hea
       obtain⟨hagg,hsize⟩:=Bool.and_eq_true_iff.1 hagg
       simp only at h
       cases hc:bJ xs ys with
       | none=>rw[hc] at h;exact h.elim
       | some p=>
         obtain⟨c,g⟩:=p
         rw[hc] at h
         simp only at h
         obtain⟨h1,h2⟩:=(hE T ti ht).eq he hagg w S m xs ys us vs c g hsize hc hxs hys
         cases op<;>simp only at h<;>try exact h.elim
         ·cases h
          refine⟨_,?_,ek _ _⟩
          simp only[Sem.run_bind,h2,Result.andThen_ok]
          simp[binOp,h1]
         ·cases h
          refine⟨_,?_,ek _ _⟩
          simp only[Sem.run_bind,h2,Result.andThen_ok]
          simp[binOp,h1,ah]
 case fn f a c=>
  obtain⟨us,vs,rfl,_,_⟩:=oT.1 hx
  cases y<;>simp only at h<;>try exact h.elim
  have hy:=jW.1 hy;subst hy
  rw[eqGuard_at_func,pure_bind]
  cases ht:E.get T with
  | none=>rw[ht] at h;exact h.elim
  | some ti=>
    rw[ht] at h
    simp only at h
    cases hk:ti.kind<;>rw[hk] at h<;>simp only at h<;>try exact h.elim
    obtain⟨ps,rs,v,hT⟩:=(hE T ti ht).cv hk
    exact gz (b:=false) (vU (d:=9999) hT) rfl rfl h
 case kz=>
  have hx:=jW.1 hx;subst hx
  cases y<;>simp only at h<;>try exact h.elim
  have hy:=jW.1 hy;subst hy
  rw[eqGuard_at_nilFunc,pure_bind]
  cases ht:E.get T with
  | none=>rw[ht] at h;exact h.elim
  | some ti=>
    rw[ht] at h
    simp only at h
    cases hk:ti.kind<;>rw[hk] at h<;>simp only at h<;>try exact h.elim
    obtain⟨ps,rs,v,hT⟩:=(hE T ti ht).cv hk
    exact gz (b:=true) (x8 (d:=9999) hT) rfl rfl h
 case fS=>
  have hx:=iE.1 hx;subst hx
  cases y<;>simp only at h<;>try exact h.elim
  have hy:=iE.1 hy;subst hy
  rw[eqGuard_at_pointer,pure_bind]
  cases ht:E.get T with
  | none=>rw[ht] at h;exact h.elim
  | some ti=>
    rw[ht] at h
    simp only at h
    cases hk:ti.kind<;>rw[hk] at h<;>simp only at h<;>try exact h.elim
    have hT:P.underlying T=some (.pointer _):=(hE T ti ht).cv hk
    exact gz (b:=true) (Bw (d:=9999) hT) rfl rfl h
 case ptr id off=>
  rw[CR] at hx
  cases hm:m.at id<;>rw[hm] at h hx<;>cases y<;>simp only at h<;>try exact h.elim
  subst hx
  have hy:=iE.1 hy;subst hy
  rw[eqGuard_at_pointer,pure_bind]
  cases ht:E.get T with
  | none=>rw[ht] at h;exact h.elim
  | some ti=>
    rw[ht] at h
    simp only at h
    cases hk:ti.kind<;>rw[hk] at h<;>simp only at h<;>try exact h.elim
    have hT:P.underlying T=some (.pointer _):=(hE T ti ht).cv hk
    exact gz (b:=false) (xU (d:=9999) hT) rfl rfl h
 case dp b=>
  obtain⟨a,rfl,hb⟩:=iB.1 hx
  cases b<;>(try simp only at h)<;>try exact h.elim
  cases y<;>(try simp only at h)<;>try exact h.elim
  rename_i b2
  obtain⟨a2,rfl,hb2⟩:=iB.1 hy
  cases b2<;>(try simp only at h)<;>try exact h.elim
  have h1:=hb rfl;have h2:=hb2 rfl;subst h1;subst h2
  rw[eqGuard_at_slice,pure_bind]
  cases ht:E.get T with
  | none=>rw[ht] at h;exact h.elim
  | some ti=>
    rw[ht] at h
    simp only at h
    cases hk:ti.kind<;>rw[hk] at h<;>simp only at h<;>try exact h.elim
    have hT:P.underlying T=some (.slice _):=(hE T ti ht).cv hk
    exact gz (b:=true) (v7 (d:=9999) hT) rfl rfl h
 case own id=>
  rw[CR] at hx
  cases hm:m.at id<;>rw[hm] at h hx<;>cases y<;>(try simp only at h)<;>try exact h.elim
  rename_i b2
  obtain⟨a2,rfl,hb2⟩:=iB.1 hy
  cases b2<;>(try simp only at h)<;>try exact h.elim
  have h2:=hb2 rfl;subst h2
  rename_i fz t l
  have hx':∃a n cap,u=.slice a n cap∧(l≠ []→∃b,a=some b):=by
   rcases hx with ⟨h0,a,rfl⟩|⟨_,cap,rfl,_⟩
   ·exact⟨_,_,_,rfl,fun hn=>(hn h0).elim⟩
   ·exact⟨_,_,_,rfl,fun _=>⟨_,rfl⟩⟩
  obtain⟨a,n,cap,rfl,hne⟩:=hx'
  rw[eqGuard_at_slice,pure_bind]
  cases ht:E.get T with
  | none=>rw[ht] at h;exact h.elim
  | some ti=>
    rw[ht] at h
    simp only at h
    cases hk:ti.kind<;>rw[hk] at h<;>simp only at h<;>try exact h.elim
    have hT:P.underlying T=some (.slice _):=(hE T ti ht).cv hk
    have hl:l≠ []:=fun e=>by
     subst e
     exact absurd (show ah.c .neq (ah.l ([]:List t.T)) 0=true from h.1) (by simp[ah,qc])
    obtain⟨b,rfl⟩:=hne hl
    exact gz (b:=false) (oh (d:=9999) hT) rfl rfl h.2
 case sl t l=>
  cases y<;>(try simp only at h)<;>try exact h.elim
  rename_i b2
  obtain⟨a2,rfl,hb2⟩:=iB.1 hy
  cases b2<;>(try simp only at h)<;>try exact h.elim
  have h2:=hb2 rfl;subst h2
  obtain⟨a,cap,e,h3,h4,h5,_⟩:=bE.1 (lz.1 hx)
  have e:u=.slice a l.length cap:=by simpa using e
  subst e
  rw[eqGuard_at_slice,pure_bind]
  cases ht:E.get T with
  | none=>rw[ht] at h;exact h.elim
  | some ti=>
    rw[ht] at h
    simp only at h
    cases hk:ti.kind<;>rw[hk] at h<;>simp only at h<;>try exact h.elim
    have hT:P.underlying T=some (.slice _):=(hE T ti ht).cv hk
    cases a with
    | none=>
      have h6:l=[]:=List.eq_nil_of_length_eq_zero (by have:=h5 rfl;omega)
      subst h6
      exact absurd (show ah.c .neq (ah.l ([]:List t.T)) 0=true from h.1) (by simp[ah,qc])
    | some a=>exact gz (b:=false) (oh (d:=9999) hT) rfl rfl h.2
end
end Go.Ev
namespace Go.Ev
section
variable {P:Program} {w0:iP} {w:World} {S:St} {m:Mem}
theorem qY{off n:Nat}{cs l:List AV}(h:bD off n cs=some l):off+n≤cs.length∧l=(cs.drop off).take n:=by
 unfold bD at h
 cases hb:Nat.ble (off+n) cs.length with
 | false=>rw[hb] at h;cases h
 | true=>rw[hb] at h;exact⟨oX hb,(Option.some.inj h).symm⟩
theorem bC.bD{off n:Nat}{cs l:List AV}{us:List Value}(h:bD off n cs=some l)(hc:bC w S m cs us) :
  ((us.drop off).take n).length=n∧bC w S m l ((us.drop off).take n):=by
 obtain⟨h1,rfl⟩:=qY h
 have:=hc.length
 exact⟨by simp;omega,(hc.drop off).take n⟩
theorem gp.sub{b o:Nat}{us:List Value}(h:gp w b o us)(off n:Nat):gp w b (o+off) ((us.drop off).take n):=by
 intro j u hj
 rw[List.getElem?_take] at hj
 split at hj
 ·rw[List.getElem?_drop] at hj
  have:=h (off+j) u hj
  rwa [←Nat.add_assoc] at this
 ·cases hj
theorem dQ{g:Nat}{cs:Array Value}{T:TypeId}{fr:Nat×Nat}(hg:w.heap[g]? = some (.cells cs T fr))(off n:Nat):gp w g off ((cs.toList.drop off).take n):=by
 intro j u hj
 rw[List.getElem?_take] at hj
 split at hj
 ·rw[List.getElem?_drop] at hj
  rw[cell_of_row w g _ cs T fr hg]
  simpa using hj
 ·cases hj
theorem D3(hW:WR w0 w S m){p:AV}{n:Nat}{cs:List AV}{v:Value}(hp:CR w S m p v)(h:E4 ah m p n=some cs) :
  ∃b off us,v=.pointer (some ⟨b,off,none⟩)∧us.length=n∧bC w S m cs us∧gp w b off us:=by
 unfold E4 at h
 cases p<;>simp only at h<;>try cases h
 case ptr id off=>
  rw[CR] at hp
  have hb:=hW.box id
  cases hm:m.at id<;>rw[hm] at h hp hb<;>simp only at h<;>try cases h
  obtain⟨us,T,fr,h1,_,h3⟩:=hb
  obtain⟨h4,h5⟩:=bC.bD h h3
  exact⟨_,_,_,hp,h4,h5,dQ h1 _ _⟩
 case nF id i off=>
  rw[CR] at hp
  have hb:=hW.box id
  cases hm:m.at id<;>rw[hm] at h hp hb<;>simp only at h<;>try cases h
  rename_i fz t x
  obtain⟨k,rfl,hk,rfl⟩:=hp
  obtain⟨us,T,fr,h1,_,h3,h4⟩:=hb.2 (ne_of_lt hk)
  have h5:=h4 k _ (kN hk)
  have h6:=gj (m:=m) t h5
  obtain⟨h7,h8⟩:=bC.bD h h6
  refine⟨_,_,_,rfl,h7,h8,?_⟩
  exact(dQ h1 _ _).sub off n
 case rV id off k t i=>
  rw[CR] at hp
  have hb:=hW.box id
  cases hm:m.at id<;>rw[hm] at h hp hb<;>simp only at h<;>try cases h
  rename_i fz fcs
  obtain⟨j,rfl,hj,rfl⟩:=hp
  obtain⟨us,T,fr,h1,_,h3⟩:=hb
  cases hs:Nat.beq t.size n<;>rw[hs] at h<;>(try simp only at h)<;>try (cases h;done)
  have hs:=mI hs;subst hs
  cases ht:bD off (k*t.size) fcs with
  | none=>rw[ht] at h;cases h
  | some l=>
    rw[ht] at h
    simp only at h
    obtain⟨h4,h5⟩:=bC.bD ht h3
    cases hd:pO (oA t) k l with
    | none=>rw[hd] at h;cases h
    | some q=>
      obtain⟨x,r⟩:=q
      rw[hd] at h
      cases h
      obtain⟨u1,u2,e,l1,l2,pr,_⟩:=ko (oA t) t.size (fun u y=>aS w S.I t u y) (fun cs x r us h hc=>by
       obtain⟨u1,u2,e,h1,h2⟩:=ig t h hc
       exact⟨u1,u2,e,h1.length,h1,h2⟩) k l x r _ hd h5
      have hu2:u2=[]:=by
       have:=congrArg List.length e
       rw[h4,gm,l1] at this
       exact List.eq_nil_of_length_eq_zero (by omega)
      rw[hu2,List.append_nil] at e
      have h6:=pr j _ (kN (by rw[l2];exact hj))
      refine⟨_,_,_,rfl,h6.length,gj t h6,?_⟩
      have h7:=(dQ h1 off (k*t.size)).sub (j*t.size) t.size
      rw[e] at h7
      exact h7
 case jA t x off=>
  obtain⟨b,o,us,rfl,hI,hl,hr,hc⟩:=nK.1 hp
  obtain⟨h4,h5⟩:=bC.bD h (gj (m:=m) t hc)
  exact⟨_,_,_,rfl,h4,h5,hr.sub off n⟩
theorem vI{b off:Nat}{us:List Value}(h:gp w b off us):(loadCells ⟨b,off,none⟩ us.length).run P w=.ok us.toArray w:=
 run_loadCells_list w ⟨b,off,none⟩ us fun j v hj=>by
  have:=h j v hj
  unfold Addr.add
  split
  ·rename_i h0;subst h0;simpa using this
  ·exact this
theorem DJ{b off:Nat}{u:Value}(h:gp w b off [u]):(load ⟨b,off,none⟩).run P w=.ok u w:=by
 have:=h 0 u rfl
 simp only[Nat.add_zero] at this
 simp[this]
theorem w6{agg:Bool}{cs:List AV}{us:List Value}{v:AV}(h:CO agg cs=some v)(hc:bC w S m cs us) :
  (agg=true∧CR w S m v (.agg us.toArray))∨(agg=false∧∃u,us=[u]∧CR w S m v u):=by
 unfold CO at h
 cases agg with
 | true=>cases h;exact .inl ⟨rfl,ou.2 ⟨_,rfl,by simpa using hc⟩⟩
 | false=>
   refine .inr ⟨rfl,?_⟩
   cases cs with
   | nil=>cases h
   | cons a r=>
     cases r with
     | cons _ _=>cases h
     | nil=>
       cases h
       obtain⟨u,r,rfl,h1,h2⟩:=hc.cons_inv
       rw[bC] at h2;subst h2
       exact⟨u,rfl,h1⟩
theorem uE{E:PT TI}(hE:iV P E)(hW:WR w0 w S m){T:TypeId}{p:AV}{v:Value}{r:AV}(hp:CR w S m p v)(h:(zu ah (E.get T) m p).Is r) :
  ∃b off u,v=.pointer (some ⟨b,off,none⟩)∧(loadVar T ⟨b,off,none⟩).run P w=.ok u w∧CR w S m r u:=by
 unfold zu at h
 cases ht:E.get T with
 | none=>rw[ht] at h;exact h.elim
 | some ti=>
   rw[ht] at h
   simp only at h
   have hT:=hE T ti ht
   cases hl:E4 ah m p ti.size with
   | none=>rw[hl] at h;exact h.elim
   | some cs=>
     rw[hl] at h
     replace h:=oF h
     obtain⟨b,off,us,rfl,h1,h2,h3⟩:=D3 hW hp hl
     refine⟨b,off,?_⟩
     rcases w6 h h2 with ⟨ha,hc⟩|⟨ha,u,rfl,hc⟩
     ·refine⟨_,rfl,?_,hc⟩
      simp only[loadVar,Sem.run_bind,hT.agg,Result.andThen_ok,ha,if_true,hT.lv]
      rw[←h1,vI h3]
      rfl
     ·refine⟨u,rfl,?_,hc⟩
      simp only[loadVar,Sem.run_bind,hT.agg,Result.andThen_ok,ha]
      exact DJ h3
theorem IL{op:UnOp}{x:AV}{u:Value}{r:AV}(hx:CR w S m x u)(h:(aai ah op x).Is r):∃z,(Op.unary op u).run P w=.ok z w∧CR w S m r z:=by
 unfold aai at h
 cases op<;>cases x<;>simp only at h<;>try exact h.elim
 case neg.int k c n=>
  obtain⟨rfl,hn⟩:=bK.1 hx
  cases h
  exact⟨_,by simp[Op.unary,Op.intArith,ah,ZA],dH k _ _ (gL _ _)⟩
 case xor.int k c n=>
  obtain⟨rfl,hn⟩:=bK.1 hx
  cases h
  exact⟨_,by simp[Op.unary,Op.intBits,ah,ZA],dH k _ _ (gL _ _)⟩
 case not.bool c b=>
  have hx:=c_.1 hx;subst hx
  cases h
  exact⟨_,by simp[Op.unary,ah],ek _ _⟩
theorem oG{b off n:Nat}:(⟨b,off,none⟩:Addr).add n=⟨b,off+n,none⟩:=Addr.add_lit b off n
theorem tV{E:PT TI}(hE:iV P E){T:TypeId}{p:AV}{v:Value}{i:Nat}{r:AV}(hp:CR w S m p v)(h:(qX m (E.get T) p i).Is r) :
  ∃z,(Instr.fieldAt T v i).run P w=.ok z w∧CR w S m r z:=by
 unfold qX at h
 cases ht:E.get T with
 | none=>rw[ht] at h;exact h.elim
 | some ti=>
   rw[ht] at h
   obtain⟨k,size,bytes,agg,zero,ty,eq⟩:=ti
   cases k<;>simp only at h<;>try exact h.elim
   rename_i fs
   obtain⟨F,hF,hFs,hf⟩:=(hE T _ ht).cv (k:=.struct fs) rfl
   cases hi:fs[i]? with
   | none=>rw[hi] at h;exact h.elim
   | some q=>
     obtain⟨off,sz,ag⟩:=q
     rw[hi] at h
     simp only at h
     cases hz:Nat.beq sz 0 with
     | true=>rw[hz] at h;exact h.elim
     | false=>
       rw[hz] at h
       replace h:=oF h
       obtain⟨f,j,h1,rfl,h3,rfl,_⟩:=hf i _ _ _ hi
       replace hz:j.size≠0:=fun e=>by rw[e] at hz;cases hz
       have key:∀b o:Nat,v=.pointer (some ⟨b,o,none⟩)→(Instr.fieldAt T v i).run P w=.ok (.pointer (some ⟨b,o+f.offset,none⟩)) w:=by
        rintro b o rfl
        simp[Instr.fieldAt,run_underlying hF,h1,Instr.sureAddr,fieldPlace,sizeOf,typeInfo,h3,hz,oG]
       unfold QN at h
       cases p<;>simp only at h<;>try (cases h;done)
       case ptr id o=>
        rw[CR] at hp
        cases hm:m.at id<;>rw[hm] at hp h<;>simp only at hp h<;>try (cases h;done)
        cases h
        exact⟨_,key _ _ hp,by rw[CR,hm]⟩
       case nF id i o=>
        rw[CR] at hp
        cases hm:m.at id<;>rw[hm] at hp h<;>simp only at hp h<;>try (cases h;done)
        cases h
        obtain⟨k,rfl,hk,hv⟩:=hp
        exact⟨_,key _ _ hv,by rw[CR,hm];exact⟨k,rfl,hk,by rw[Nat.add_assoc]⟩⟩
       case jA t x o=>
        cases h
        obtain⟨b,o',us,hv,hI,hl,hr,hc⟩:=nK.1 hp
        exact⟨_,key _ _ hv,nK.2 ⟨b,o',us,by rw[Nat.add_assoc],hI,hl,hr,hc⟩⟩
theorem H6{T:TypeId}{ag:Bool}{us:Array Value}{off sz:Nat}{cs l:List AV}{v:AV}(hagg:(isAgg T).run P w=.ok ag w)(hsz:(sizeOf T).run P w=.ok sz w)
  (hc:bC w S m cs us.toList) (ht:bD off sz cs=some l) (hv:CO ag l=some v):∃z,(part T us off).run P w=.ok z w∧CR w S m v z:=by
 obtain⟨h1,h2⟩:=bC.bD ht hc
 obtain⟨h3,_⟩:=qY ht
 have hlen:=hc.length
 rcases w6 hv h2 with ⟨ha,h⟩|⟨ha,u,hu,h⟩
 ·refine⟨_,?_,h⟩
  simp only[part,Sem.run_bind,hagg,ha,Result.andThen_ok,if_true,hsz,Sem.run_pure]
  congr 2
  apply Array.ext'
  simp
 ·refine⟨u,?_,h⟩
  have hs1:sz=1:=by rw[←h1,hu];rfl
  have hu':us.toList[off]? = some u:=by
   have:=congrArg (fun l:List Value=>l[0]?) hu
   simp only[List.getElem?_cons_zero] at this
   rw[List.getElem?_take] at this
   split at this
   ·rw[List.getElem?_drop] at this;simpa using this
   ·cases this
  have hu2:us[off]? = some u:=by simpa using hu'
  simp only[part,Sem.run_bind,hagg,ha,Result.andThen_ok,Bool.false_eq_true,if_false,hu2,Sem.run_pure]
theorem d_{c c':Bool}{i n:Int}{t:TV AV}{r:AV}(h:(ik ah c i c' n t).Is r):0≤i∧i<n∧t.Is r:=by
 unfold ik at h
 cases hc:c&&c' with
 | true=>
   rw[hc] at h
   cases hb:ah.and (ah.c .leq 0 i) (ah.c .lss i n) with
   | false=>rw[hb] at h;exact h.elim
   | true=>
     rw[hb] at h
     simp[ah,qc] at hb
     exact⟨hb.1,hb.2,h⟩
 | false=>
   rw[hc] at h
   obtain⟨hb,h⟩:=h
   simp[ah,qc] at hb
   exact⟨hb.1,hb.2,h⟩
theorem wrap_small{n:Int}(h0:0≤n)(h1:n≤4611686018427387904):IntKind.i64.wrap n=n:=by
 have e:n%(18446744073709551616:Int)=n:=Int.emod_eq_of_lt h0 (by omega)
 simp[IntKind.wrap,IntKind.bits,IntKind.signed,e]
 omega
theorem uI{E:PT TI}(hE:iV P E)(hW:WR w0 w S m){T:TypeId}{x ix:AV}{v vi:Value}{r:AV}(hx:CR w S m x v)(hi:CR w S m ix vi)
  (h:(qH ah (E.get T) E.get m x ix).Is r):∃z,(Instr.indexAt T v vi).run P w=.ok z w∧CR w S m r z:=by
 unfold qH at h
 cases ix<;>simp only at h<;>try exact h.elim
 rename_i k c i
 obtain⟨rfl,hk⟩:=bK.1 hi
 cases ht:E.get T with
 | none=>rw[ht] at h;exact h.elim
 | some ti=>
   rw[ht] at h
   obtain⟨kd,size,bytes,agg,zero,ty,eq⟩:=ti
   cases kd<;>simp only at h<;>try exact h.elim
   case arr n e=>
    have hT:P.underlying T=some (.array n e):=(hE T _ ht).cv (k:=.arr n e) rfl
    cases hte:E.get e with
    | none=>rw[hte] at h;cases x<;>exact h.elim
    | some te=>
      rw[hte] at h
      cases x<;>simp only at h<;>try exact h.elim
      rename_i id off
      rw[CR] at hx
      cases hm:m.at id<;>rw[hm] at hx h<;>simp only at hx h<;>try exact h.elim
      subst hx
      have hsz:=(hE e te hte).lv w
      have key:∀(_:0≤i) (_:i<n),(Instr.indexAt T (.pointer (some ⟨S.σ id,off,none⟩)) (.int k i)).run P w=.ok (.pointer (some ⟨S.σ id,off+i.toNat*te.size,none⟩)) w:=by
       intro h0 h1
       simp[Instr.indexAt,asIntOf,run_underlying hT,Instr.sureAddr,h0,h1,hsz,oG]
      cases c with
      | true=>
        obtain⟨h0,h1,h2⟩:=d_ h
        cases h2
        exact⟨_,key h0 h1,by rw[CR,hm]⟩
      | false=>
        simp only at h
        cases hty:te.ty with
        | none=>rw[hty] at h;exact h.elim
        | some t=>
          rw[hty] at h
          obtain⟨h0,h1,h2⟩:=d_ h
          cases h2
          exact⟨_,key h0 h1,by rw[CR,hm];exact⟨i.toNat,by omega,by omega,by rw[((hE e te hte).ty t hty).1]⟩⟩
   case slice e=>
    have hT:P.underlying T=some (.slice e):=(hE T _ ht).cv (k:=.slice e) rfl
    cases hte:E.get e with
    | none=>rw[hte] at h;exact h.elim
    | some te=>
      rw[hte] at h
      simp only at h
      have hsz:=(hE e te hte).lv w
      have key:∀(b o len cap:Nat) (_:0≤i) (_:i<len),(Instr.indexAt T (.slice (some ⟨b,o,none⟩) len cap) (.int k i)).run P w=.ok (.pointer (some ⟨b,o+i.toNat*te.size,none⟩)) w:=by
       intro b o len cap h0 h1
       simp[Instr.indexAt,asIntOf,run_underlying hT,h0,h1,hsz,oG]
      cases x<;>simp only at h<;>try exact h.elim
      case sl t l=>
       cases hs:Nat.beq te.size t.size with
       | false=>rw[hs] at h;exact h.elim
       | true=>
         rw[hs] at h
         replace hs:=mI hs
         obtain⟨h0,h1,h2⟩:=d_ h
         cases h2
         obtain⟨a,cap,e1,h3,h4,h5,h6⟩:=bE.1 (lz.1 hx)
         replace h1:i<(l.length:Int):=h1
         have h7:=kN (t:=t) (x:=l) (i:=i.toNat) (by omega)
         rw[show((i.toNat:Nat):Int)=i from by omega] at h7
         obtain⟨b,off,us,rfl,hI,hl,hr,hc⟩:=h6 _ _ h7
         cases e1
         exact⟨_,key _ _ _ _ h0 h1,nK.2 ⟨b,off+i.toNat*t.size,us,by rw[hs];rfl,hI,hl,hr,hc⟩⟩
      case own id=>
       rw[CR] at hx
       cases hm:m.at id<;>rw[hm] at hx h<;>simp only at hx h<;>try exact h.elim
       rename_i fz t l
       cases hs:Nat.beq te.size t.size with
       | false=>rw[hs] at h;exact h.elim
       | true=>
         rw[hs] at h
         replace hs:=mI hs
         obtain⟨h0,h1,h2⟩:=d_ h
         cases h2
         replace h1:i<(l.length:Int):=h1
         obtain⟨cap,rfl,h3,_⟩:=own_ne hx (ne_of_lt (k:=i.toNat) (by omega))
         exact⟨_,key _ _ _ _ h0 h1,by rw[CR,hm];exact⟨i.toNat,by omega,by omega,by rw[hs];rfl⟩⟩
      case nD id sz c' lo len=>
       have hb:=hW.box id
       rw[CR] at hx
       cases hm:m.at id<;>rw[hm] at hx h hb<;>simp only at hx h<;>try exact h.elim
       case arr fz t l=>
        cases hs:Nat.beq te.size t.size with
        | false=>rw[hs] at h;exact h.elim
        | true=>
          rw[hs] at h
          replace hs:=mI hs
          obtain⟨h0,h1,h2⟩:=d_ h
          cases h2
          obtain⟨l0,n0,cap,a,rfl,rfl,rfl,h5,h6,h6',rfl,h8⟩:=hx
          have ha:=h8 (by omega);subst ha
          obtain⟨hl,_⟩:=hb
          rw[dI] at hl
          refine⟨_,key _ _ _ _ h0 h1,?_⟩
          rw[CR,hm]
          refine⟨l0+i.toNat,?_,by omega,?_⟩
          ·show IntKind.i64.wrap _=_
           rw[wrap_small (by omega) (by omega)];omega
          ·rw[hs,Nat.add_mul];simp[Nat.add_assoc]
       case flat fz cs=>
        obtain⟨l0,n0,cap,a,rfl,rfl,h4,h5,h6,h6',rfl,h8⟩:=hx
        cases hcc:c&&(c'&&Nat.beq sz te.size) with
        | true=>
          rw[hcc] at h
          simp only[cd] at hcc
          have hs:=mI hcc.2.2
          obtain⟨h0,h1,h2⟩:=d_ h
          cases h2
          have ha:=h8 (by omega);subst ha
          refine⟨_,key _ _ _ _ h0 h1,?_⟩
          rw[CR,hm]
          rw[show((l0:Int)+i).toNat=l0+i.toNat from by omega,Nat.add_mul,hs]
        | false=>
          rw[hcc] at h
          simp only at h
          cases hty:te.ty with
          | none=>rw[hty] at h;exact h.elim
          | some t=>
            rw[hty] at h
            cases hc2:c'&&Nat.beq sz te.size with
            | false=>
              rw[hc2] at h
              simp only at h
              cases hc3:Nat.beq sz te.size&&Nat.blt 0 te.size with
              | false=>rw[hc3] at h;exact h.elim
              | true=>
                rw[hc3] at h
                rw[cd] at hc3
                have hs:=mI hc3.1
                have hpos:0<te.size:=oX hc3.2
                obtain⟨h0,h1,h2⟩:=d_ h
                cases h2
                have ha:=h8 (by omega);subst ha
                refine⟨_,key _ _ _ _ h0 h1,?_⟩
                rw[dI] at h4
                rw[CR,hm]
                refine⟨l0+i.toNat,?_,?_,?_⟩
                ·show IntKind.i64.wrap _=_
                 rw[wrap_small (by omega) (by omega)];omega
                ·have h9:(l0+i.toNat+1)*te.size≤cs.length:=Nat.le_trans (Nat.mul_le_mul (by omega) (Nat.le_of_eq hs.symm)) h5
                 exact(Nat.le_div_iff_mul_le hpos).2 h9
                ·rw[((hE e te hte).ty t hty).1,hs,Nat.add_mul];simp
            | true=>
              rw[hc2] at h
              simp only[cd] at hc2
              have hs:=mI hc2.2
              obtain⟨h0,h1,h2⟩:=d_ h
              cases h2
              have ha:=h8 (by omega);subst ha
              refine⟨_,key _ _ _ _ h0 h1,?_⟩
              rw[CR,hm]
              exact⟨i.toNat,by omega,by omega,by rw[((hE e te hte).ty t hty).1];simp[hs]⟩
end
end Go.Ev
namespace Go.Ev
section
variable {P:Program} {w0:iP} {w:World} {S:St} {m:Mem}
theorem IR{t:Ty}{T:TypeId}{us:Array Value}{off:Nat}{x:t.T}(hagg:(isAgg T).run P w=.ok t.isAgg w)(hsz:(sizeOf T).run P w=.ok t.size w)
  (hc:aS w S.I t ((us.toList.drop off).take t.size) x) (hne:off+t.size≤us.size):∃z,(part T us off).run P w=.ok z w∧CR w S m (LX ah t x) z:=by
 cases ht:t.isAgg with
 | true=>
   refine⟨.agg (us.extract off (off+t.size)),?_,uU ?_⟩
   ·simp only[part,Sem.run_bind,hagg,ht,Result.andThen_ok,if_true,hsz,Sem.run_pure]
   ·unfold gJ
    rw[ht,if_pos rfl]
    refine⟨_,rfl,?_⟩
    have:(us.extract off (off+t.size)).toList=(us.toList.drop off).take t.size:=by simp
    rw[this];exact hc
 | false=>
   have hs1:t.size=1:=by cases t<;>first|rfl|(simp[Ty.isAgg] at ht)
   have hlt:off<us.size:=by omega
   refine⟨us[off],?_,uU ?_⟩
   ·simp only[part,Sem.run_bind,hagg,ht,Result.andThen_ok,Bool.false_eq_true,if_false,Array.getElem?_eq_getElem hlt,Sem.run_pure]
   ·unfold gJ
    rw[ht,if_neg (by simp)]
    have:(us.toList.drop off).take t.size=[us[off]]:=by
     rw[hs1,pV (by simpa using hlt)]
     simp
    rw[←this];exact hc
theorem Ce{E:PT TI}(hE:iV P E){T:TypeId}{x ix:AV}{v vi:Value}{r:AV}(hx:CR w S m x v)(hi:CR w S m ix vi)
  (h:(D6 ah (E.get T) E.get x ix).Is r):∃z,(Instr.index T v vi).run P w=.ok z w∧CR w S m r z:=by
 unfold D6 at h
 cases ix<;>simp only at h<;>try exact h.elim
 rename_i k c i
 obtain⟨rfl,hk⟩:=bK.1 hi
 cases ht:E.get T with
 | none=>rw[ht] at h;exact h.elim
 | some ti=>
   rw[ht] at h
   obtain⟨kd,size,bytes,agg,zero,ty,eq⟩:=ti
   cases kd<;>(try simp only at h)<;>try exact h.elim
   case arr n e=>
    have hT:P.underlying T=some (.array n e):=(hE T _ ht).cv (k:=.arr n e) rfl
    cases x<;>(try simp only at h)<;>try exact h.elim
    rename_i cs
    obtain⟨us,rfl,hcs⟩:=ou.1 hx
    cases hte:E.get e with
    | none=>rw[hte] at h;exact h.elim
    | some te=>
      rw[hte] at h
      simp only at h
      have hO:=hE e te hte
      have hsz:=hO.lv w
      cases c with
      | true=>
        simp only at h
        cases hl:bD (i.toNat*te.size) te.size cs with
        | none=>rw[hl] at h;exact h.elim
        | some l=>
          rw[hl] at h
          simp only at h
          cases hv:CO te.agg l with
          | none=>rw[hv] at h;exact h.elim
          | some v=>
            rw[hv] at h
            obtain⟨h0,h1,h2⟩:=d_ h
            cases h2
            obtain⟨z,h3,h4⟩:=H6 (T:=e) (hO.agg w) hsz hcs hl hv
            exact⟨z,by simp[Instr.index,asIntOf,run_underlying hT,h0,h1,hsz,h3],h4⟩
      | false=>
        simp only at h
        cases hty:te.ty with
        | none=>rw[hty] at h;exact h.elim
        | some t=>
          rw[hty] at h
          simp only at h
          cases hd:pO (oA t) n cs with
          | none=>rw[hd] at h;exact h.elim
          | some q=>
            obtain⟨l,rr⟩:=q
            rw[hd] at h
            obtain⟨h0,h1,h2⟩:=d_ h
            cases h2
            obtain⟨hts,hta⟩:=hO.ty t hty
            obtain⟨u1,u2,e1,l1,l2,pr,_⟩:=ko (oA t) t.size (fun u y=>aS w S.I t u y) (fun cs x r us h hc=>by
             obtain⟨u1,u2,e,h1,h2⟩:=ig t h hc
             exact⟨u1,u2,e,h1.length,h1,h2⟩) n cs l rr _ hd hcs
            have h6:=pr i.toNat _ (kN (by rw[l2];omega))
            rw[show((i.toNat:Nat):Int)=i from by omega] at h6
            have hle:i.toNat*t.size+t.size≤n*t.size:=by
             have:=Nat.mul_le_mul_right t.size (show i.toNat+1≤n by omega)
             rwa [Nat.succ_mul] at this
            have hlen:us.size=u1.length+u2.length:=by
             have:=congrArg List.length e1
             simpa using this
            have h7:(u1.drop (i.toNat*t.size)).take t.size=(us.toList.drop (i.toNat*t.size)).take t.size:=by
             rw[e1,List.drop_append_of_le_length (by omega),List.take_append_of_le_length (by simp;omega)]
            rw[h7] at h6
            obtain⟨z,h8,h9⟩:=IR (m:=m) (T:=e) (by rw[hta];exact hO.agg w) (by rw[hts];exact hsz) h6 (by omega)
            refine⟨z,?_,h9⟩
            rw[hts] at h8
            simp[Instr.index,asIntOf,run_underlying hT,h0,h1,hsz,h8]
   case str=>
    have hT:P.underlying T=some .string:=(hE T _ ht).cv (k:=.str) rfl
    cases x<;>(try simp only at h)<;>try exact h.elim
    rename_i c' s
    obtain⟨rfl,hs⟩:=gi.1 hx
    have key:∀(_:0≤i) (_:i<(s.length:Int)),(Instr.index T (.string ⟨s.toArray⟩) (.int k i)).run P w=.ok (.int .u8 (ah.byte s i)) w∧IntKind.u8.has (ah.byte s i):=by
     intro h0 h1
     have hlt:i.toNat<s.length:=by omega
     have hg:(ByteArray.mk s.toArray)[i.toNat]? = some s[i.toNat]:=by
      have hsz:i.toNat<(ByteArray.mk s.toArray).size:=hlt
      rw[getElem?_pos (ByteArray.mk s.toArray) i.toNat hsz]
      rfl
     have hb:ah.byte s i=(s[i.toNat].toNat:Int):=by
      show((s.getD i.toNat 0).toNat:Int)=_
      rw[nE,uX hlt];rfl
     refine⟨?_,?_⟩
     ·simp[Instr.index,asIntOf,run_underlying hT,h0,hg,hb]
     ·rw[hb]
      have:=s[i.toNat].toNat_lt
      have e1:IntKind.u8.min=0:=by decide
      have e2:IntKind.u8.max=255:=by decide
      constructor<;>omega
    cases hcc:c&&c' with
    | true=>
      rw[hcc] at h
      obtain⟨h0,h1,h2⟩:=d_ h
      cases h2
      obtain⟨h3,h4⟩:=key h0 h1
      exact⟨_,h3,bK.2 ⟨rfl,h4⟩⟩
    | false=>
      rw[hcc] at h
      obtain⟨h0,h1,h2⟩:=d_ h
      cases h2
      obtain⟨h3,h4⟩:=key h0 h1
      exact⟨_,h3,bK.2 ⟨rfl,h4⟩⟩
def zo(d:Int)(o:Option Value)(l:Int):Prop:=(o=none∧l=d)∨∃k,o=some (.int k l)
theorem gq{ρa:Operand→AV}{ρc:Operand→Value}(hρ:∀x,CR w S m (ρa x) (ρc x)){c c1:Bool}{d l:Int}{o:Option Operand}(h:bound c d (o.map ρa)=some (c1,l)):zo d (o.map ρc) l:=by
 cases o with
 | none=>cases h;exact .inl ⟨rfl,rfl⟩
 | some x=>
   refine .inr ?_
   have hx:=hρ x
   simp only[Option.map_some,bound] at h ⊢
   cases ha:ρa x<;>rw[ha] at h hx<;>simp only at h<;>try (cases h;done)
   cases h
   exact⟨_,by rw[(bK.1 hx).1]⟩
theorem q9{c:Bool}{l h n:Int}{t:TV AV}{r:AV}(hh:(AO ah c l h n t).Is r):0≤l∧l≤h∧h≤n∧t.Is r:=by
 unfold AO at hh
 cases c with
 | true=>
   cases hb:ah.and (ah.c .leq 0 l) (ah.and (ah.c .leq l h) (ah.c .leq h n)) with
   | false=>rw[hb] at hh;exact hh.elim
   | true=>
     rw[hb] at hh
     simp[ah,qc] at hb
     exact⟨hb.1,hb.2.1,hb.2.2,hh⟩
 | false=>
   obtain⟨hb,hh⟩:=hh
   simp[ah,qc] at hb
   exact⟨hb.1,hb.2.1,hb.2.2,hh⟩
theorem l_{isS:Bool}{len cap:Nat}{lo hi:Option Value}{l h:Int}(hl:zo 0 lo l)(hh:zo len hi h)(h0:0≤l)(h1:l≤h)(h2:h≤cap) :
  (Instr.sliceBounds isS len cap lo hi none).run P w=.ok (l.toNat,h.toNat,cap) w:=by
 have a1:∀k (y:Nat) c,l≤y→(Instr.sliceBound (.int k l) y c).run P w=.ok l.toNat w:=fun k y c hy=>run_sliceBound w k l y c h0 hy
 have a2:∀k (y:Nat) c,h≤y→(Instr.sliceBound (.int k h) y c).run P w=.ok h.toNat w:=fun k y c hy=>run_sliceBound w k h y c (by omega) hy
 have hhn:l≤(h.toNat:Int):=by omega
 rcases hl with ⟨rfl,rfl⟩|⟨k,rfl⟩<;>rcases hh with ⟨rfl,rfl⟩|⟨k',rfl⟩
 ·simp[Instr.sliceBounds]
 ·simp[Instr.sliceBounds,a2 _ cap _ h2]
 ·simp[Instr.sliceBounds,a1 _ len _ (by omega)]
 ·simp[Instr.sliceBounds,a2 _ cap _ h2,a1 _ h.toNat _ hhn]
theorem aS.sub{t:Ty}{I:Nat→Prop}{a:Option Addr}{cap:Nat}{x:List t.T}(h:aS w I (.slice t) [.slice a x.length cap] x){l hh:Nat}(h1:l≤hh)(h2:hh≤x.length) :
  aS w I (.slice t) [.slice (if cap=l then a else a.map (·.add (l*t.size))) (hh-l) (cap-l)] ((x.take hh).drop l):=by
 obtain⟨a',cap',e,h3,h4,h5,h6⟩:=bE.1 h
 cases e
 have hlen:((x.take hh).drop l).length=hh-l:=by simp;omega
 refine bE.2 ⟨_,cap-l,by rw[hlen],by rw[hlen];omega,by rw[hlen];omega,?_,fun i y hy=>?_⟩
 ·intro hn
  split at hn
  ·have:=h5 hn;omega
  ·cases a with
   | none=>have:=h5 rfl;omega
   | some _=>cases hn
 ·rw[List.getElem?_drop,List.getElem?_take] at hy
  split at hy
  ·rename_i hlt
   obtain⟨b,off,us,rfl,hI,hl,hr,hc⟩:=h6 _ _ hy
   have hx:l+i<x.length:=by omega
   refine⟨b,off+l*t.size,us,?_,hI,hl,?_,hc⟩
   ·rw[if_neg (by omega)]
    simp[oG]
   ·rw[Nat.add_assoc,←Nat.add_mul];exact hr
  ·cases hy
end
end Go.Ev
namespace Go.Ev
section
variable {P:Program} {w0:iP} {w:World} {S:St} {m:Mem}
theorem zt{T e:TypeId}(hT:P.underlying T=some (.slice e)){sz:Nat}(hsz:(sizeOf e).run P w=.ok sz w){a:Option Addr}{len cap:Nat}{lo hi:Option Value}{l h:Int}
  (hl:zo 0 lo l) (hh:zo len hi h) (h0:0≤l) (h1:l≤h) (h2:h≤cap) :
  (Instr.sliceAt T (.slice a len cap) lo hi none).run P w=.ok (.slice (if cap=l.toNat then a else a.map (·.add (l.toNat*sz))) (h.toNat-l.toNat) (cap-l.toNat)) w:=by
 simp only[Instr.sliceAt,Sem.run_bind,run_underlying hT,Result.andThen_ok,Instr.slice,l_ hl hh h0 h1 h2,hsz,Sem.run_pure]
theorem zz(hW:WR w0 w S m){ρa:Operand→AV}{ρc:Operand→Value}(hρ:∀x,CR w S m (ρa x) (ρc x)){T e:TypeId}(hT:P.underlying T=some (.slice e)){sz:Nat}(hsz:(sizeOf e).run P w=.ok sz w)
  {xo:Operand} {lo hi mx:Option Operand} {r:AV} (h:(zQ ah sz m (ρa xo) (lo.map ρa) (hi.map ρa) (mx.map ρa)).Is r) :
  ∃z,(Instr.sliceAt T (ρc xo) (lo.map ρc) (hi.map ρc) (mx.map ρc)).run P w=.ok z w∧CR w S m r z:=by
 have hx:=hρ xo
 unfold zQ at h
 cases ha:ρa xo<;>rw[ha] at h hx<;>(try simp only at h)<;>try exact h.elim
 case sl t s=>
  cases hs:Nat.beq t.size sz with
  | false=>rw[hs] at h;exact h.elim
  | true=>
    rw[hs] at h
    replace hs:=mI hs
    obtain⟨a,cap,e1,h3,h4,h5,h6⟩:=bE.1 (lz.1 hx)
    have e2:ρc xo=.slice a s.length cap:=by simpa using e1
    rw[e2]
    cases mx with
    | none=>
      simp only[Option.map_none] at h ⊢
      cases hb1:bound true 0 (lo.map ρa) with
      | none=>rw[hb1] at h;exact h.elim
      | some p1=>
        obtain⟨c1,l⟩:=p1
        rw[hb1] at h
        cases hb2:bound false (ah.l s) (hi.map ρa) with
        | none=>rw[hb2] at h;exact h.elim
        | some p2=>
          obtain⟨c2,hh⟩:=p2
          rw[hb2] at h
          obtain⟨h0,h1,h2,h7⟩:=q9 h
          cases h7
          have h2:hh≤(s.length:Int):=h2
          refine⟨_,zt hT hsz (gq hρ hb1) (gq (d:=(s.length:Int)) hρ hb2) h0 h1 (by omega),lz.2 ?_⟩
          have:=aS.sub (by rw[e2] at hx;exact lz.1 hx) (l:=l.toNat) (hh:=hh.toNat) (by omega) (by omega)
          rw[hs] at this
          exact this
    | some mx=>exact h.elim
 case own id=>
  rw[CR] at hx
  cases hm:m.at id<;>rw[hm] at hx h<;>(try simp only at hx h)<;>try exact h.elim
  rename_i fz t s
  cases hs:Nat.beq t.size sz with
  | false=>rw[hs] at h;exact h.elim
  | true=>
    rw[hs] at h
    replace hs:=mI hs
    have hx':∃a cap,ρc xo=.slice a s.length cap∧s.length≤cap∧(a=none→cap=0)∧(s≠ []→a=some ⟨S.σ id,S.δ id,none⟩):=by
     rcases hx with ⟨rfl,a,e⟩|⟨_,cap,e,h3,_⟩
     ·exact⟨a,0,e,Nat.le_refl 0,fun _=>rfl,fun h=>absurd rfl h⟩
     ·exact⟨_,cap,e,h3,fun h=>(by cases h),fun _=>rfl⟩
    obtain⟨a,cap,e2,h3,h6',h8⟩:=hx'
    have hb:=hW.box id
    rw[hm] at hb
    obtain⟨hlm,_⟩:=hb
    rw[dI] at hlm
    rw[e2]
    cases mx with
    | none=>
      simp only[Option.map_none] at h ⊢
      cases hb1:bound true 0 (lo.map ρa) with
      | none=>rw[hb1] at h;exact h.elim
      | some p1=>
        obtain⟨c1,l⟩:=p1
        rw[hb1] at h
        cases hb2:bound false (ah.l s) (hi.map ρa) with
        | none=>rw[hb2] at h;exact h.elim
        | some p2=>
          obtain⟨c2,hh⟩:=p2
          rw[hb2] at h
          obtain⟨h0,h1,h2,h7⟩:=q9 h
          cases h7
          have h2:hh≤(s.length:Int):=h2
          refine⟨_,zt hT hsz (gq hρ hb1) (gq (d:=(s.length:Int)) hρ hb2) h0 h1 (by omega),?_⟩
          rw[CR,hm]
          refine⟨l.toNat,hh.toNat-l.toNat,cap-l.toNat,_,by omega,?_,rfl,by omega,by omega,?_,rfl,fun hne=>?_⟩
          ·show IntKind.i64.wrap _=_
           rw[wrap_small (by omega) (by omega)];omega
          ·intro hn
           split at hn
           ·have:=h6' hn;omega
           ·cases a with
            | none=>have:=h6' rfl;omega
            | some _=>cases hn
          ·rw[if_neg (by omega),h8 (ne_of_lt (k:=l.toNat) (by omega))];simp[oG,hs]
    | some mx=>exact h.elim
theorem wS{ρa:Operand→AV}{ρc:Operand→Value}(hρ:∀x,CR w S m (ρa x) (ρc x)){T e:TypeId}{n:Nat}(hT:P.underlying T=some (.array n e)){te:TI}(hsz:(sizeOf e).run P w=.ok te.size w)
  {xo:Operand} {lo hi:Option Operand} {r:AV} (h:(tF ah n te m (ρa xo) (lo.map ρa) (hi.map ρa)).Is r) :
  ∃z,(Instr.sliceAt T (ρc xo) (lo.map ρc) (hi.map ρc) none).run P w=.ok z w∧CR w S m r z:=by
 have hx:=hρ xo
 unfold tF at h
 cases ha:ρa xo<;>rw[ha] at h hx<;>(try simp only at h)<;>try exact h.elim
 rename_i id off
 rw[CR] at hx
 cases hm:m.at id<;>rw[hm] at hx h<;>(try simp only at hx h)<;>try exact h.elim
 rename_i fz cs
 rw[hx]
 cases hz:Nat.beq te.size 0 with
 | true=>rw[hz] at h;exact h.elim
 | false=>
   rw[hz] at h
   cases hc:Nat.beq (off%te.size) 0&&(Nat.ble (off+n*te.size) cs.length&&Nat.ble (off/te.size+n) 140737488355328) with
   | false=>rw[hc] at h;exact h.elim
   | true=>
     rw[hc] at h
     simp only[cd] at hc
     obtain⟨hc1,hc2,hc3⟩:=hc
     replace hc1:=mI hc1
     replace hc2:=oX hc2
     replace hc3:=oX hc3
     have hoff:off=off/te.size*te.size:=by
      have:=Nat.div_add_mod off te.size
      rw[hc1,Nat.add_zero,Nat.mul_comm] at this
      exact this.symm
     cases hb1:bound true 0 (lo.map ρa) with
     | none=>rw[hb1] at h;exact h.elim
     | some p1=>
       obtain⟨c1,l⟩:=p1
       rw[hb1] at h
       cases hb2:bound true (n:Int) (hi.map ρa) with
       | none=>rw[hb2] at h;exact h.elim
       | some p2=>
         obtain⟨c2,hh⟩:=p2
         rw[hb2] at h
         simp only at h
         have key:∀(_:0≤l) (_:l≤hh) (_:hh≤n),∃z,(Instr.sliceAt T (.pointer (some ⟨S.σ id,off,none⟩)) (lo.map ρc) (hi.map ρc) none).run P w=.ok z w∧
           ∃(l1 n1 cap1:Nat) (a1:Option Addr),((off/te.size:Nat):Int)+l=l1∧hh-l=n1∧l1+n1≤dD∧(l1+cap1)*te.size≤cs.length∧n1≤cap1∧(a1=none→cap1=0)∧z=.slice a1 n1 cap1∧(n1≠0→a1=some ⟨S.σ id,l1*te.size,none⟩):=by
          intro h0 h1 h2
          refine⟨_,by
           simp only[Instr.sliceAt,Sem.run_bind,run_underlying hT,Result.andThen_ok,Instr.sureAddr,Sem.run_pure,l_ (gq hρ hb1) (gq hρ hb2) h0 h1 h2,hsz];rfl,
           off/te.size+l.toNat,hh.toNat-l.toNat,n-l.toNat,_,by omega,by omega,by rw[dI];omega,?_,by omega,?_,rfl,fun hne=>?_⟩
          ·have h9:(off/te.size+l.toNat+(n-l.toNat))*te.size≤(off/te.size+n)*te.size:=Nat.mul_le_mul_right _ (by omega)
           have h10:(off/te.size+n)*te.size=off+n*te.size:=by rw[Nat.add_mul,←hoff]
           rw[h10] at h9
           exact Nat.le_trans h9 hc2
          ·intro hn;cases hn
          ·rw[if_neg (by omega),oG,Nat.add_mul,←hoff]
         cases hcc:c1&&c2 with
         | true=>
           rw[hcc] at h
           obtain⟨h0,h1,h2,h7⟩:=q9 h
           cases h7
           obtain⟨z,k1,k2⟩:=key h0 h1 h2
           exact⟨z,k1,by rw[CR,hm];exact k2⟩
         | false=>
           rw[hcc] at h
           obtain⟨h0,h1,h2,h7⟩:=q9 h
           cases h7
           obtain⟨z,k1,k2⟩:=key h0 h1 h2
           refine⟨z,k1,?_⟩
           rw[CR,hm]
           have w1:ah.b .add .i64 ((off/te.size:Nat):Int) l=(off/te.size:Nat)+l:=by show IntKind.i64.wrap _=_;exact wrap_small (by omega) (by omega)
           have w2:ah.b .sub .i64 hh l=hh-l:=by show IntKind.i64.wrap _=_;exact wrap_small (by omega) (by omega)
           rw[w1,w2]
           exact k2
theorem GM(hW:WR w0 w S m){te:TI}{v:AV}{u:Value}(hv:CR w S m v u):CR w S m (O2 m te v) u:=by
 unfold O2
 split
 ·rename_i id sz lo n
  split
  ·rename_i cs t hm hty
   split
   ·rename_i part htk
    split
    ·rename_i hcond
     split
     ·rename_i x htd
      rw[cd] at hcond
      have h1:=mI hcond.1
      subst h1
      rw[CR,hm] at hv
      obtain⟨l,k,cap,a,rfl,rfl,h4,h5,h6,h7,rfl,h8⟩:=hv
      simp only[gS] at htk htd
      have hpart:l*t.size+k*t.size≤cs.length∧part=(cs.drop (l*t.size)).take (k*t.size):=by
       unfold bD at htk
       cases hn:Nat.ble (l*t.size+k*t.size) cs.length with
       | false=>rw[hn] at htk;cases htk
       | true=>rw[hn] at htk;cases htk;exact⟨oX hn,rfl⟩
      obtain⟨hfit,rfl⟩:=hpart
      have hbx:=hW.box id
      rw[hm] at hbx
      obtain⟨us,T,fr,k1,k2,k3⟩:=hbx
      have hul:us.toList.length=cs.length:=k3.length
      have hfz:S.I (S.σ id):=hW.Cu id (by rw[hm];rfl)
      obtain⟨u1,u2,e,l1,l2,pr,hr⟩:=ko (oA t) t.size (fun u y=>aS w S.I t u y) (fun cs x r us h hc=>by
       obtain⟨u1,u2,e,h1,h2⟩:=ig t h hc
       exact⟨u1,u2,e,h1.length,h1,h2⟩) k _ x [] _ htd ((k3.drop (l*t.size)).take (k*t.size))
      rw[aL.1 hr,List.append_nil] at e
      refine lz.2 (bE.2 ⟨a,cap,by rw[l2],by rw[l2];exact h6,by rw[l2];omega,h7,fun i y hy=>?_⟩)
      have hi:i<k:=by
       have:=(List.getElem?_eq_some_iff.1 hy).1
       omega
      have h9:=pr i y hy
      refine⟨S.σ id,l*t.size,_,h8 (by omega),hfz,h9.length,?_,h9⟩
      have h10:(i+1)*t.size≤k*t.size:=Nat.mul_le_mul_right _ hi
      rw[Nat.add_mul,Nat.one_mul] at h10
      rw[←e,List.drop_take,List.take_take,List.drop_drop,Nat.min_eq_left (by omega)]
      exact dQ k1 _ _
     ·exact hv
    ·exact hv
   ·exact hv
  ·exact hv
 ·exact hv
theorem BV{E:PT TI}(hE:iV P E)(hW:WR w0 w S m){ρa:Operand→AV}{ρc:Operand→Value}(hρ:∀x,CR w S m (ρa x) (ρc x)){T:TypeId}
  {xo:Operand} {lo hi mx:Option Operand} {r:AV} (h:(DK ah (E.get T) E.get m (ρa xo) (lo.map ρa) (hi.map ρa) (mx.map ρa)).Is r) :
  ∃z,(Instr.sliceAt T (ρc xo) (lo.map ρc) (hi.map ρc) (mx.map ρc)).run P w=.ok z w∧CR w S m r z:=by
 unfold DK at h
 cases ht:E.get T with
 | none=>rw[ht] at h;exact h.elim
 | some ti=>
   rw[ht] at h
   simp only at h
   cases hk:ti.kind<;>rw[hk] at h<;>(try simp only at h)<;>try exact h.elim
   case arr n e=>
    have hT:P.underlying T=some (.array n e):=(hE T _ ht).cv hk
    cases hte:E.get e with
    | none=>rw[hte] at h;exact h.elim
    | some te=>
      rw[hte] at h
      cases mx with
      | some _=>exact h.elim
      | none=>
        obtain⟨v,hv,rfl⟩:=TV.wQ h
        obtain⟨z,hz,hc⟩:=wS hρ hT ((hE e te hte).lv w) hv
        exact⟨z,hz,GM hW hc⟩
   case slice e=>
    have hT:P.underlying T=some (.slice e):=(hE T _ ht).cv hk
    cases hte:E.get e with
    | none=>rw[hte] at h;exact h.elim
    | some te=>
      rw[hte] at h
      exact zz hW hρ hT ((hE e te hte).lv w) h
   case str=>
    have hT:P.underlying T=some .string:=(hE T _ ht).cv hk
    have hx:=hρ xo
    cases ha:ρa xo<;>rw[ha] at h hx<;>(try simp only at h)<;>try exact h.elim
    rename_i c s
    obtain⟨e2,hs⟩:=gi.1 hx
    rw[e2]
    cases mx with
    | some _=>exact h.elim
    | none=>
      simp only[Option.map_none] at h ⊢
      cases hb1:bound true 0 (lo.map ρa) with
      | none=>rw[hb1] at h;exact h.elim
      | some p1=>
        obtain⟨c1,l⟩:=p1
        rw[hb1] at h
        cases hb2:bound false (ah.l s) (hi.map ρa) with
        | none=>rw[hb2] at h;exact h.elim
        | some p2=>
          obtain⟨c2,hh⟩:=p2
          rw[hb2] at h
          obtain⟨h0,h1,h2,h7⟩:=q9 h
          cases h7
          have h2:hh≤(s.length:Int):=h2
          have hsz:(ByteArray.mk s.toArray).size=s.length:=rfl
          refine⟨.string ⟨((s.take hh.toNat).drop l.toNat).toArray⟩,?_,gi.2 ⟨rfl,?_⟩⟩
          ·simp only[Instr.sliceAt,Sem.run_bind,run_underlying hT,Result.andThen_ok,Instr.slice]
           simp only[Option.isSome_none,Bool.false_eq_true,if_false]
           rw[Sem.run_bind]
           rw[hsz,l_ (gq hρ hb1) (gq (d:=(s.length:Int)) hρ hb2) h0 h1 (by omega)]
           simp only[Result.andThen_ok,Sem.run_pure]
           have hex:(ByteArray.mk s.toArray).extract l.toNat hh.toNat=ByteArray.mk ((s.take hh.toNat).drop l.toNat).toArray:=by
            apply ByteArray.ext
            rw[ByteArray.data_extract]
            apply Array.ext'
            simp[List.drop_take]
           rw[hex]
          ·show((s.take hh.toNat).drop l.toNat).length≤_
           simp;omega
end
end Go.Ev
namespace Go.Ev
section
variable {P:Program} {w0:iP} {w:World} {S:St} {m:Mem}
theorem wM{v:AV}{u:Value}(hk:v.known m=true)(h:CR w S m v u):bC w S m v.cells u.cells.toList:=by
 have one:∀{v:AV} {u:Value},CR w S m v u→v.cells=[v]→u.cells=#[u]→bC w S m v.cells u.cells.toList:=by
  intro v u h h1 h2
  rw[h1,h2]
  exact aV.2 ⟨u, [],rfl,h,aL.2 rfl⟩
 cases v
 case undef=>cases hk
 case agg cs=>obtain⟨us,rfl,hc⟩:=ou.1 h;exact hc
 case int=>have h':=(bK.1 h).1;exact one h rfl (by rw[h'];rfl)
 case bool=>have h':=(c_.1 h);exact one h rfl (by rw[h'];rfl)
 case str=>have h':=(gi.1 h).1;exact one h rfl (by rw[h'];rfl)
 case sl=>obtain⟨a,cap,e,_⟩:=bE.1 (lz.1 h);obtain rfl:=List.head_eq_of_cons_eq e;exact one h rfl rfl
 case dp=>obtain⟨a,h',_⟩:=iB.1 h;exact one h rfl (by rw[h'];rfl)
 case jA=>obtain⟨b,o,us,h',_⟩:=nK.1 h;exact one h rfl (by rw[h'];rfl)
 case fS=>have h':=iE.1 h;exact one h rfl (by rw[h'];rfl)
 case fn=>obtain⟨us,vs,h',_⟩:=oT.1 h;exact one h rfl (by rw[h'];rfl)
 case kz=>have h':=jW.1 h;exact one h rfl (by rw[h'];rfl)
 case qS=>obtain⟨us,h',_⟩:=fC.1 h;exact one h rfl (by rw[h'];rfl)
 case own id=>
  have hc:=h
  rw[CR] at hc
  cases hm:m.at id<;>rw[hm] at hc<;>simp only at hc
  case dead=>simp[AV.known,hm,il.gh] at hk
  case arr=>rcases hc with ⟨_,a,h'⟩|⟨_,cap,h',_⟩<;>exact one h rfl (by rw[h'];rfl)
 case nD id _ _ _ _=>
  have hc:=h
  rw[CR] at hc
  cases hm:m.at id<;>rw[hm] at hc<;>simp only at hc
  case dead=>simp[AV.known,hm,il.gh] at hk
  case arr=>obtain⟨_,_,cap,a,_,_,_,_,_,_,h',_⟩:=hc;exact one h rfl (by rw[h'];rfl)
  case flat=>obtain⟨_,_,cap,a,_,_,_,_,_,_,h',_⟩:=hc;exact one h rfl (by rw[h'];rfl)
 case ptr id _=>
  have hc:=h
  rw[CR] at hc
  cases hm:m.at id<;>rw[hm] at hc<;>simp only at hc
  case dead=>simp[AV.known,hm,il.gh] at hk
  case flat=>exact one h rfl (by rw[hc];rfl)
 case nF id _ _=>
  have hc:=h
  rw[CR] at hc
  cases hm:m.at id<;>rw[hm] at hc<;>simp only at hc
  case dead=>simp[AV.known,hm,il.gh] at hk
  case arr=>obtain⟨_,_,_,h'⟩:=hc;exact one h rfl (by rw[h'];rfl)
 case rV id _ _ _ _=>
  have hc:=h
  rw[CR] at hc
  cases hm:m.at id<;>rw[hm] at hc<;>simp only at hc
  case dead=>simp[AV.known,hm,il.gh] at hk
  case flat=>obtain⟨_,_,_,h'⟩:=hc;exact one h rfl (by rw[h'];rfl)
 case yield l=>
  have hc:=h
  rw[CR] at hc
  cases hm:m.at l<;>rw[hm] at hc<;>simp only at hc
  case dead=>simp[AV.known,hm,il.gh] at hk
  case loop=>exact one h rfl (by rw[hc];rfl)
theorem foldl_set(new:List Value):∀(off:Nat) (us:Array Value),off+new.length≤us.size→
  ((new.zipIdx 0).foldl (fun(cs:Array Value) (p:Value×Nat)=>cs.setIfInBounds (off+p.2) p.1) us).toList=us.toList.take off++new++us.toList.drop (off+new.length):=by
 suffices h:∀(new:List Value) (k off:Nat) (us:Array Value),off+k+new.length≤us.size→
   ((new.zipIdx k).foldl (fun(cs:Array Value) (p:Value×Nat)=>cs.setIfInBounds (off+p.2) p.1) us).toList=us.toList.take (off+k)++new++us.toList.drop (off+k+new.length) by
  intro off us hl;exact h new 0 off us hl
 intro new
 induction new with
 | nil=>intro k off us h;simp
 | cons v new ih=>
   intro k off us h
   simp only[List.length_cons] at h
   simp only[List.zipIdx_cons,List.foldl_cons]
   rw[ih (k+1) off _ (by simp;omega)]
   simp only[Array.toList_setIfInBounds,List.length_cons]
   apply List.ext_getElem?
   intro i
   rw[List.append_assoc,List.append_assoc]
   have hl:us.toList.length=us.size:=by simp
   have e1:((us.toList.set (off+k) v).take (off+(k+1))).length=off+k+1:=by rw[List.length_take,List.length_set,hl];omega
   have e2:(us.toList.take (off+k)).length=off+k:=by rw[List.length_take,hl];omega
   rcases Nat.lt_trichotomy i (off+k) with hi|hi|hi
   ·rw[List.getElem?_append_left (by omega),List.getElem?_append_left (by omega),List.getElem?_take,List.getElem?_take,if_pos (by omega),if_pos hi,List.getElem?_set_ne (by omega)]
   ·subst hi
    rw[List.getElem?_append_left (by omega),List.getElem?_append_right (by omega),List.getElem?_take,if_pos (by omega),List.getElem?_set_self (by omega),e2,Nat.sub_self]
    rfl
   ·rw[List.getElem?_append_right (l₁:=(us.toList.set (off+k) v).take (off+(k+1))) (by omega),List.getElem?_append_right (l₁:=us.toList.take (off+k)) (by omega),e1,e2,show i-(off+k)=(i-(off+k+1))+1 from by omega,List.cons_append,List.getElem?_cons_succ]
    by_cases hj:i-(off+k+1)<new.length
    ·rw[List.getElem?_append_left hj,List.getElem?_append_left hj]
    ·rw[List.getElem?_append_right (by omega),List.getElem?_append_right (by omega),List.getElem?_drop,List.getElem?_drop,List.getElem?_set_ne (by omega)]
     congr 1
     omega
theorem kg{off:Nat}{new cs cs':List AV}{nus us:List Value}(h:putCells off new cs=some cs')(hn:bC w S m new nus)(hc:bC w S m cs us) :
  off+nus.length≤us.length∧bC w S m cs' (us.take off++nus++us.drop (off+nus.length)):=by
 unfold putCells at h
 cases hb:Nat.ble (off+new.length) cs.length with
 | false=>rw[hb] at h;cases h
 | true=>
   rw[hb] at h
   cases h
   have h1:=oX hb
   have h2:=hn.length
   have h3:=hc.length
   refine⟨by omega,?_⟩
   rw[h2]
   exact((hc.take off).append hn).append (hc.drop _)
theorem sQ{place:Nat→Option (Nat×Nat)}{i off size:Nat}{v:AV}{u:Value}{cs cs':List AV}{us:Array Value}{rest:List (Nat×Value)}
  (hp:place i=some (off,size)) (hk:(v.known m&&Nat.beq v.cells.length size)=true) (hv:CR w S m v u) (hput:putCells off v.cells cs=some cs') (hc:bC w S m cs us.toList) :
  ∃dS,Instr.fill place us ((i,u)::rest)=Instr.fill place dS rest∧bC w S m cs' dS.toList∧dS.size=us.size:=by
 simp only[cd] at hk
 have h1:=wM hk.1 hv
 have h2:=mI hk.2
 have h3:=h1.length
 obtain⟨h4,h5⟩:=kg hput h1 hc
 simp only[Array.length_toList] at h3 h4
 have h6:(u.cells.zipIdx.foldl (fun cs (c,j)=>cs.setIfInBounds (off+j) c) us).toList=us.toList.take off++u.cells.toList++us.toList.drop (off+u.cells.size):=by
  have:=foldl_set u.cells.toList off us (by simpa using h4)
  rw[←Array.foldl_toList]
  simp only[Array.toList_zipIdx]
  simpa using this
 refine⟨u.cells.zipIdx.foldl (fun cs (c,j)=>cs.setIfInBounds (off+j) c) us,?_,?_,?_⟩
 ·simp only[Instr.fill,hp]
  rw[if_neg]
  simp only[ne_eq,Bool.or_eq_true,jV,not_or,Decidable.not_not]
  constructor<;>omega
 ·rw[h6]
  simpa using h5
 ·have:=congrArg List.length h6
  rw[gm,gm,List.length_take,List.length_drop,Array.length_toList,Array.length_toList,Array.length_toList] at this
  omega
end
end Go.Ev
namespace Go.Ev
section
variable {P:Program} {w0:iP} {w:World} {S:St} {m:Mem}
theorem ql{size:Nat}{ρa:Operand→AV}{ρc:Operand→Value}(hρ:∀x,CR w S m (ρa x) (ρc x)):∀(ps:List (Nat×Operand)) (cs cs':List AV) (us:Array Value),
  zm m size (ps.map fun p=>(p.1,ρa p.2)) cs=some cs'→bC w S m cs us.toList→
  ∃dS,Instr.fill (fun i=>some (i*size,size)) us (ps.map fun p=>(p.1,ρc p.2))=some dS∧bC w S m cs' dS.toList∧dS.size=us.size
 | [],cs,cs',us,h,hc=>by cases h;exact⟨us,rfl,hc,rfl⟩
 | (i,x)::ps,cs,cs',us,h,hc=>by
   simp only[List.map_cons,zm] at h
   cases hk:((ρa x).known m&&Nat.beq (ρa x).cells.length size) with
   | false=>rw[hk] at h;cases h
   | true=>
     rw[hk] at h
     simp only at h
     cases hp:putCells (i*size) (ρa x).cells cs with
     | none=>rw[hp] at h;cases h
     | some cs1=>
       rw[hp] at h
       simp only[List.map_cons]
       obtain⟨us1,h1,h2,h3⟩:=sQ (rest:=ps.map fun p=>(p.1,ρc p.2)) (place:=fun i=>some (i*size,size)) rfl hk (hρ x) hp hc
       obtain⟨us2,h4,h5,h6⟩:=ql hρ ps cs1 cs' us1 h h2
       exact⟨us2,by rw[h1,h4],h5,by omega⟩
theorem xP{fs:List (Nat×Nat×Bool)}{place:Nat→Option (Nat×Nat)}(hpl:∀i off sz ag,fs[i]? = some (off,sz,ag)→place i=some (off,sz))
  {ρa:Operand→AV} {ρc:Operand→Value} (hρ:∀x,CR w S m (ρa x) (ρc x)):∀(ps:List (Nat×Operand)) (cs cs':List AV) (us:Array Value),
  FF m fs (ps.map fun p=>(p.1,ρa p.2)) cs=some cs'→bC w S m cs us.toList→
  ∃dS,Instr.fill place us (ps.map fun p=>(p.1,ρc p.2))=some dS∧bC w S m cs' dS.toList∧dS.size=us.size
 | [],cs,cs',us,h,hc=>by cases h;exact⟨us,rfl,hc,rfl⟩
 | (i,x)::ps,cs,cs',us,h,hc=>by
   simp only[List.map_cons,FF] at h
   cases hi:fs[i]? with
   | none=>rw[hi] at h;cases h
   | some q=>
     obtain⟨off,sz,ag⟩:=q
     rw[hi] at h
     simp only at h
     cases hk:((ρa x).known m&&Nat.beq (ρa x).cells.length sz) with
     | false=>rw[hk] at h;cases h
     | true=>
       rw[hk] at h
       simp only at h
       cases hp:putCells off (ρa x).cells cs with
       | none=>rw[hp] at h;cases h
       | some cs1=>
         rw[hp] at h
         simp only[List.map_cons]
         obtain⟨us1,h1,h2,h3⟩:=sQ (rest:=ps.map fun p=>(p.1,ρc p.2)) (place:=place) (hpl i off sz ag hi) hk (hρ x) hp hc
         obtain⟨us2,h4,h5,h6⟩:=xP hpl hρ ps cs1 cs' us1 h h2
         exact⟨us2,by rw[h1,h4],h5,by omega⟩
theorem xR{F:Array Field}{fs:List (Nat×Nat×Bool)}(hn:F.size=fs.length)
  (hf:∀(i off sz:Nat) (ag:Bool),fs[i]? = some (off,sz,ag)→∃f j,F[i]? = some f∧f.offset=off∧P.info? f.type=some j∧j.size=sz∧∀w,(isAgg f.type).run P w=.ok ag w) :
  (F.mapM fun f=>(do pure (f.offset,←sizeOf f.type):Sem (Nat×Nat))).run P w=.ok ((fs.map fun p=>(p.1,p.2.1)).toArray) w:=by
 rw[Array.mapM_eq_mapM_toList]
 have key:∀(l:List Field) (fl:List (Nat×Nat×Bool)),l.length=fl.length→
   (∀(i off sz:Nat) (ag:Bool),fl[i]? = some (off,sz,ag)→∃f j,l[i]? = some f∧f.offset=off∧P.info? f.type=some j∧j.size=sz)→
   (l.mapM fun f=>(do pure (f.offset,←sizeOf f.type):Sem (Nat×Nat))).run P w=.ok (fl.map fun p=>(p.1,p.2.1)) w:=by
  intro l
  induction l with
  | nil=>intro fl hl _;cases fl with
    | nil=>simp
    | cons _ _=>simp at hl
  | cons f l ih=>
    intro fl hl hh
    cases fl with
    | nil=>simp at hl
    | cons q fl=>
      obtain⟨off,sz,ag⟩:=q
      obtain⟨f',j,h1,h2,h3,h4⟩:=hh 0 off sz ag rfl
      simp only[List.getElem?_cons_zero,Option.some.injEq] at h1
      subst h1
      have:=ih fl (by simpa using hl) (fun i off sz ag hi=>by simpa using hh (i+1) off sz ag (by simpa using hi))
      simp only[List.mapM_cons,Sem.run_bind,sizeOf,typeInfo,run_program,Result.andThen_ok,h3,Sem.run_pure,List.map_cons]
      simp only[sizeOf,typeInfo] at this
      rw[this]
      simp[h2,h4]
 have:=key F.toList fs (by simpa using hn) (fun i off sz ag hi=>by
  obtain⟨f,j,h1,h2,h3,h4,_⟩:=hf i off sz ag hi
  exact⟨f,j,by simpa using h1,h2,h3,h4⟩)
 simp only[Sem.run_map,this,Result.andThen_ok]
theorem BE{E:PT TI}(hE:iV P E){ρa:Operand→AV}{ρc:Operand→Value}(hρ:∀x,CR w S m (ρa x) (ρc x)){T:TypeId}{ps:List (Nat×Operand)}{r:AV}
  (h:(Em m (E.get T) E.get (ps.map fun p=>(p.1,ρa p.2))).Is r) :
  ∃z,(Instr.build T (ps.map fun p=>(p.1,ρc p.2)).toArray).run P w=.ok z w∧CR w S m r z:=by
 unfold Em at h
 cases ht:E.get T with
 | none=>rw[ht] at h;exact h.elim
 | some ti=>
   rw[ht] at h
   have hO:=hE T ti ht
   obtain⟨i,z,hi1,hi2,hi3,hi4,hzz,hzt⟩:=hO.info
   have hz:=hzz w S m
   clear hzz hzt
   obtain⟨kd,size,bytes,agg,zero,ty,eq⟩:=ti
   cases kd<;>(try simp only at h)<;>try exact h.elim
   case arr n e=>
    have hT:P.underlying T=some (.array n e):=hO.cv (k:=.arr n e) rfl
    cases hte:E.get e with
    | none=>rw[hte] at h;exact h.elim
    | some te=>
      rw[hte] at h
      replace h:=oF h
      cases hf:zm m te.size (ps.map fun p=>(p.1,ρa p.2)) zero with
      | none=>rw[hf] at h;cases h
      | some cs=>
        rw[hf] at h
        cases h
        obtain⟨dS,h1,h2,h3⟩:=ql hρ ps zero cs z.cells hf hz
        exact⟨.agg dS,by simp[Instr.build,zeroValue,typeInfo,hi1,hi4,run_underlying hT,(hE e te hte).lv w,h1],ou.2 ⟨dS,rfl,h2⟩⟩
   case struct fs=>
    obtain⟨F,hF,hFs,hf⟩:=hO.cv (k:=.struct fs) rfl
    replace h:=oF h
    cases hfl:FF m fs (ps.map fun p=>(p.1,ρa p.2)) zero with
    | none=>rw[hfl] at h;cases h
    | some cs=>
      rw[hfl] at h
      cases h
      obtain⟨dS,h1,h2,h3⟩:=xP (place:=fun i=>((fs.map fun p=>(p.1,p.2.1)).toArray)[i]?) (fun i off sz ag hi=>by simp[hi]) hρ ps zero cs z.cells hfl hz
      refine⟨.agg dS,?_,ou.2 ⟨dS,rfl,h2⟩⟩
      simp only[Instr.build,Sem.run_bind,zeroValue,typeInfo,run_program,Result.andThen_ok,hi1,hi4,Sem.run_pure,run_underlying hF,xR hFs hf]
      rw[h1]
      rfl
theorem Ef{E:PT TI}(hE:iV P E){s d:TypeId}{x:AV}{v:Value}{r:AV}(hx:CR w S m x v)(h:(yQ ah (E.get s) (E.get d) x).Is r) :
  ∃z,(convert s d v).run P w=.ok z w∧CR w S m r z:=by
 unfold yQ at h
 cases hs:E.get s with
 | none=>rw[hs] at h;exact h.elim
 | some si=>
   cases hd:E.get d with
   | none=>rw[hs,hd] at h;exact h.elim
   | some di=>
     rw[hs,hd] at h
     have hDd:=hE d di hd
     have hSs:∃td,P.underlying s=some td:=by
      have h1:=(hE s si hs).agg w
      unfold isAgg at h1
      simp only[Sem.run_bind,underlying,run_program,Result.andThen_ok] at h1
      cases hu:P.underlying s with
      | none=>rw[hu] at h1;simp at h1
      | some td=>exact⟨td,rfl⟩
     obtain⟨td,hu⟩:=hSs
     obtain⟨kd,size,bytes,agg,zero,ty,eq⟩:=di
     cases kd<;>cases x<;>(try simp only at h)<;>try exact h.elim
     ·obtain⟨rfl,hn⟩:=bK.1 hx
      cases h
      have hT:P.underlying d=some (.int _):=hDd.cv rfl
      refine⟨_,?_,dH _ _ _ (gL _ _)⟩
      simp[convert,run_underlying hu,run_underlying hT,Conv.intToInt,ah]
     ·obtain⟨rfl,hn⟩:=gi.1 hx
      cases h
      have hT:P.underlying d=some .string:=hDd.cv (k:=.str) rfl
      refine⟨_,?_,gi.2 ⟨rfl,hn⟩⟩
      simp only[convert,Sem.run_bind,run_underlying hu,run_underlying hT,Result.andThen_ok]
      cases td<;>simp
theorem gX{n:Nat}(h:n≤dD):IntKind.i64.has (n:Int):=by
 rw[dI] at h
 have e1:IntKind.i64.min = -9223372036854775808:=by decide
 have e2:IntKind.i64.max=9223372036854775807:=by decide
 constructor<;>omega
theorem G_{E:PT TI}(hE:iV P E)(hW:WR w0 w S m){T rt:TypeId}{ts:Array TypeId}(hts:ts[0]? = some T){x:AV}{v:Value}{r:AV}(hx:CR w S m x v)(h:(QA ah (E.get T) m x).Is r) :
  ∃z,(Builtin.len_ ts rt #[v]).run P w=.ok z w∧CR w S m r z:=by
 unfold QA at h
 cases ht:E.get T with
 | none=>rw[ht] at h;exact h.elim
 | some ti=>
   rw[ht] at h
   have hO:=hE T ti ht
   obtain⟨kd,size,bytes,agg,zero,ty,eq⟩:=ti
   cases kd<;>(try simp only at h)<;>try exact h.elim
   case str=>
    have hT:P.underlying T=some .string:=hO.cv (k:=.str) rfl
    cases x<;>(try simp only at h)<;>try exact h.elim
    rename_i c s
    obtain⟨rfl,hs⟩:=gi.1 hx
    have hsz:(ByteArray.mk s.toArray).size=s.length:=rfl
    have:r=.int .i64 c (s.length:Int):=by cases c<;>exact h
    subst this
    exact⟨.int .i64 s.length,by simp[Builtin.len_,hts,run_underlying hT,goInt,hsz],bK.2 ⟨rfl,gX hs⟩⟩
   case arr n e=>
    have hT:P.underlying T=some (.array n e):=hO.cv (k:=.arr n e) rfl
    cases hb:Nat.ble n 140737488355328 with
    | false=>rw[hb] at h;exact h.elim
    | true=>
      rw[hb] at h
      cases h
      exact⟨.int .i64 n,by simp[Builtin.len_,hts,run_underlying hT,goInt],bK.2 ⟨rfl,gX (oX hb)⟩⟩
   case slice e=>
    have hT:P.underlying T=some (.slice e):=hO.cv (k:=.slice e) rfl
    have key:∀(a:Option Addr) (n c:Nat),(Builtin.len_ ts rt #[.slice a n c]).run P w=.ok (.int .i64 n) w:=by
     intro a n c;simp[Builtin.len_,hts,run_underlying hT,goInt]
    cases x<;>(try simp only at h)<;>try exact h.elim
    case sl t l=>
     obtain⟨a,cap,e1,h3,h4,_⟩:=bE.1 (lz.1 hx)
     have e2:v=.slice a l.length cap:=by simpa using e1
     cases h
     subst e2
     exact⟨_,key _ _ _,bK.2 ⟨rfl,gX h4⟩⟩
    case dp b=>
     obtain⟨a,rfl,_⟩:=iB.1 hx
     cases h
     exact⟨_,key _ _ _,bK.2 ⟨rfl,gX (Nat.zero_le _)⟩⟩
    case own id=>
     have hb:=hW.box id
     rw[CR] at hx
     cases hm:m.at id<;>rw[hm] at hx h hb<;>(try simp only at hx h)<;>try exact h.elim
     cases h
     rcases hx with ⟨rfl,a,rfl⟩|⟨_,cap,rfl,_⟩<;>exact⟨_,key _ _ _,bK.2 ⟨rfl,gX hb.1⟩⟩
    case nD id sz c lo n=>
     have hb:=hW.box id
     rw[CR] at hx
     cases hm:m.at id<;>rw[hm] at hx hb h<;>(try simp only[il.gh] at hx h)
     case dead=>exact h.elim
     case arr=>
      obtain⟨l0,n0,cap,a,rfl,rfl,hst,h5,h6,h6',rfl,h8⟩:=hx
      cases h
      exact⟨_,key _ _ _,bK.2 ⟨rfl,gX (by have:=hb.1;omega)⟩⟩
     case flat=>
      obtain⟨l0,n0,cap,a,rfl,rfl,h4,h5,h6,h6',rfl,h8⟩:=hx
      cases h
      exact⟨_,key _ _ _,bK.2 ⟨rfl,gX (by omega)⟩⟩
theorem GF{rt:TypeId}{ts:Array TypeId}{ρa:Operand→AV}{ρc:Operand→Value}(hρ:∀x,CR w S m (ρa x) (ρc x)){xs:Array Operand}{r:AV}(h:(Qg ah (xs.toList.map ρa)).Is r) :
  ∃z,(Builtin.min_ ts rt (xs.map ρc)).run P w=.ok z w∧CR w S m r z:=by
 obtain⟨l⟩:=xs
 simp only at h
 unfold Qg at h
 match l,h with
 | [x,y],h=>
   have hx:=hρ x
   have hy:=hρ y
   simp only[List.map_cons,List.map_nil] at h
   cases ha:ρa x<;>cases hb:ρa y<;>rw[ha,hb] at h<;>(try simp only at h)<;>try exact h.elim
   rw[ha] at hx
   rw[hb] at hy
   rename_i k c a k' c' b
   obtain⟨e1,h1⟩:=bK.1 hx
   obtain⟨e2,h2⟩:=bK.1 hy
   cases hk:iy k k' with
   | false=>rw[hk] at h;exact h.elim
   | true=>
     rw[hk] at h
     have:=iI hk;subst this
     cases h
     refine⟨.int k (ah.mn a b),?_,dH k _ (fun A=>A.mn a b) ?_⟩
     ·simp only[List.map_toArray,List.map_cons,List.map_nil,e1,e2]
      exact run_min_int2 w ts rt k k a b
     ·show k.has (if _ then _ else _)
      split
      ·exact h2
      ·exact h1
 | [],h=>exact h.elim
 | [x],h=>revert h;simp only[List.map_cons,List.map_nil];cases ρa x<;>exact fun h=>h.elim
 | x::y::z::l,h=>revert h;simp only[List.map_cons];cases ρa x<;>cases ρa y<;>exact fun h=>h.elim
theorem F2{rt:TypeId}{ts:Array TypeId}{ρa:Operand→AV}{ρc:Operand→Value}(hρ:∀x,CR w S m (ρa x) (ρc x)){xs:Array Operand}{r:AV}(h:(OH ah (xs.toList.map ρa)).Is r) :
  ∃z,(Builtin.max_ ts rt (xs.map ρc)).run P w=.ok z w∧CR w S m r z:=by
 obtain⟨l⟩:=xs
 simp only at h
 unfold OH at h
 match l,h with
 | [x,y],h=>
   have hx:=hρ x
   have hy:=hρ y
   simp only[List.map_cons,List.map_nil] at h
   cases ha:ρa x<;>cases hb:ρa y<;>rw[ha,hb] at h<;>(try simp only at h)<;>try exact h.elim
   rw[ha] at hx
   rw[hb] at hy
   rename_i k c a k' c' b
   obtain⟨e1,h1⟩:=bK.1 hx
   obtain⟨e2,h2⟩:=bK.1 hy
   cases hk:iy k k' with
   | false=>rw[hk] at h;exact h.elim
   | true=>
     rw[hk] at h
     have:=iI hk;subst this
     cases h
     refine⟨.int k (ah.mx a b),?_,dH k _ (fun A=>A.mx a b) ?_⟩
     ·simp only[List.map_toArray,List.map_cons,List.map_nil,e1,e2]
      exact run_max_int2 w ts rt k k a b
     ·show k.has (if _ then _ else _)
      split
      ·exact h2
      ·exact h1
 | [],h=>exact h.elim
 | [x],h=>revert h;simp only[List.map_cons,List.map_nil];cases ρa x<;>exact fun h=>h.elim
 | x::y::z::l,h=>revert h;simp only[List.map_cons];cases ρa x<;>cases ρa y<;>exact fun h=>h.elim
theorem Jc(v:Value):CR w S m (D5 v) v:=by
 unfold D5
 cases v<;>(try simp only)<;>try exact dC
 case int k n=>
  cases h:(decide (abf k≤n)&&decide (n≤ZV k)) with
  | false=>exact dC
  | true=>
    simp only[cd,jV] at h
    exact bK.2 ⟨rfl,by rw[←TB];exact h.1,by rw[←UY];exact h.2⟩
 case bool b=>exact c_.2 rfl
 case string s=>
  cases h:Nat.ble s.data.toList.length 140737488355328 with
  | false=>exact dC
  | true=>exact gi.2 ⟨by simp,oX h⟩
 case pointer a=>cases a with
  | none=>exact iE.2 rfl
  | some a=>exact dC
 case slice a n c=>
  cases a with
  | some a=>exact dC
  | none=>
    cases n with
    | succ n=>exact dC
    | zero=>cases c with
      | succ c=>exact dC
      | zero=>exact iB.2 ⟨none,rfl,fun _=>rfl⟩
 case nilFunc=>exact jW.2 rfl
theorem yj{ρa:Operand→AV}{ρc:Operand→Value}(hρ:∀x,CR w S m (ρa x) (ρc x)):∀l:List Operand,bC w S m (l.map ρa) (l.map ρc)
 | []=>aL.2 rfl
 | x::l=>aV.2 ⟨_,_,rfl,hρ x,yj hρ l⟩
theorem Ly{t:Ty}{I:Nat→Prop}{b off:Nat}:∀{x:List t.T},(∀(i:Nat) (y:t.T),x[i]? = some y→∃us,us.length=t.size∧gp w b (off+i*t.size) us∧aS w I t us y)→
  ∃us:List Value,us.length=x.length*t.size∧gp w b off us∧∀(i:Nat) (y:t.T),x[i]? = some y→aS w I t ((us.drop (i*t.size)).take t.size) y:=by
 intro x
 induction x generalizing off with
 | nil=>intro _;exact⟨[],by simp,fun j u hj=>by simp at hj,fun i y hy=>by simp at hy⟩
 | cons y x ih=>
   intro h
   obtain⟨u0,l0,r0,c0⟩:=h 0 y rfl
   obtain⟨u1,l1,r1,c1⟩:=ih (off:=off+t.size) fun i y hy=>by
    obtain⟨us,a1,a2,a3⟩:=h (i+1) y (by simpa using hy)
    exact⟨us,a1,by rw[Nat.succ_mul] at a2;rw[show off+t.size+i*t.size=off+(i*t.size+t.size) from by omega];exact a2,a3⟩
   refine⟨u0++u1,by rw[gm,l0,l1,List.length_cons,Nat.succ_mul];omega,fun j u hj=>?_,fun i z hz=>?_⟩
   ·by_cases hjl:j<u0.length
    ·rw[List.getElem?_append_left hjl] at hj
     have:=r0 j u hj
     simpa using this
    ·rw[List.getElem?_append_right (by omega)] at hj
     have:=r1 _ u hj
     rw[l0] at this
     rw[show off+j=off+t.size+(j-t.size) from by omega]
     exact this
   ·cases i with
    | zero=>
      simp only[List.getElem?_cons_zero,Option.some.injEq] at hz
      subst hz
      simp only[Nat.zero_mul,List.drop_zero]
      rw[List.take_append_of_le_length (by omega),List.take_of_length_le (by omega)]
      exact c0
    | succ i=>
      simp only[List.getElem?_cons_succ] at hz
      have:=c1 i z hz
      rw[show(i+1)*t.size=t.size+i*t.size from by rw[Nat.succ_mul,Nat.add_comm],←List.drop_drop,List.drop_left' l0]
      exact this
def yu(w:World)(I:Nat→Prop)(t:Ty)(v:Value)(y:List t.T):Prop:=
 ∃(a:Option Addr) (cap:Nat) (us:List Value),v=.slice a y.length cap∧y.length≤dD∧us.length=y.length*t.size∧(y.length≠0→∃b off,a=some ⟨b,off,none⟩∧gp w b off us)∧
  (a=none→cap=0)∧y.length≤cap∧∀(i:Nat) (z:t.T),y[i]? = some z→aS w I t ((us.drop (i*t.size)).take t.size) z
theorem yu.none{I:Nat→Prop}{t:Ty}{a:Option Addr}{cap:Nat}(h:a=none→cap=0):yu w I t (.slice a 0 cap) []:=
 ⟨a,cap, [],rfl,Nat.zero_le _,by simp,fun h=>absurd rfl h,h,Nat.zero_le _,fun i z hz=>by simp at hz⟩
theorem yu.Ff{I:Nat→Prop}{t:Ty}{v:Value}{y:List t.T}(h:aS w I (.slice t) [v] y):yu w I t v y:=by
 obtain⟨a,cap,e,h1,h2,h3,h4⟩:=bE.1 h
 have e:v=.slice a y.length cap:=by simpa using e
 by_cases hy:y.length=0
 ·have:y=[]:=List.eq_nil_of_length_eq_zero hy
  subst this
  exact⟨a,cap, [],e,h2,by simp,fun h=>absurd rfl h,h3,h1,fun i z hz=>by simp at hz⟩
 ·obtain⟨b0,off0,us0,ha,_⟩:=h4 0 _ (uX (by omega))
  obtain⟨us,l,r,c⟩:=Ly (w:=w) (t:=t) (I:=I) (b:=b0) (off:=off0) (x:=y) fun i z hz=>by
   obtain⟨b,off,us,ha',_,hl,hr,hc⟩:=h4 i z hz
   rw[ha] at ha'
   cases ha'
   exact⟨us,hl,hr,hc⟩
  exact⟨a,cap,us,e,h2,l,fun _=>⟨b0,off0,ha,r⟩,h3,h1,c⟩
theorem gp.heap{w':World}{b off:Nat}{us:List Value}(h:gp w b off us)(hh:w'.heap=w.heap):gp w' b off us:=h.mono (by rw[hh])
theorem j4{sz n:Nat}{a:Option Addr}{len cap:Nat}{us:List Value}(hl:us.length=n*sz)(h:n≠0→∃b off,a=some ⟨b,off,none⟩∧gp w b off us)(w':World)(hh:w'.heap=w.heap) :
  (Builtin.firstCells sz n (.slice a len cap)).run P w'=.ok us.toArray w':=by
 cases a with
 | none=>
   have hn:n=0:=Decidable.byContradiction fun hn=>by obtain⟨b,off,e,_⟩:=h hn;cases e
   subst hn
   have:us=[]:=List.eq_nil_of_length_eq_zero (by omega)
   subst this
   exact run_firstCells_none ..
 | some a=>
   refine run_firstCells_some w' sz n a len cap us hl fun j v hj=>?_
   have hn:n≠0:=fun hn=>by
    subst hn
    have:=(List.getElem?_eq_some_iff.1 hj).1
    omega
   obtain⟨b,off,e,hr⟩:=h hn
   cases e
   have:=hr.heap hh j v hj
   rwa [Addr.add_lit]
theorem foldl_push(ns:List Int):∀s:ByteArray,ns.foldl (fun r n=>r.push (UInt8.ofNat n.toNat)) s=⟨(s.data.toList++ns.map fun n=>UInt8.ofNat n.toNat).toArray⟩:=by
 induction ns with
 | nil=>intro s;simp
 | cons n ns ih=>
   intro s
   rw[List.foldl_cons,ih]
   congr 1
   simp
theorem zD{I:Nat→Prop}:∀{y:List Int} {us:List Value},us.length=y.length→(∀(i:Nat) (z:Int),y[i]? = some z→aS w I (.int .u8) ((us.drop (i*1)).take 1) z)→us=y.map (Value.int .u8)
 | [],us,hl,_=>List.eq_nil_of_length_eq_zero hl
 | z::y, [],hl,_=>by simp at hl
 | z::y,u::us,hl,h=>by
   have h0:=(nz.1 (h 0 z rfl)).1
   simp at h0
   rw[List.map_cons,h0,zD (y:=y) (us:=us) (by simpa using hl) fun i z hz=>by
    have:=h (i+1) z (by simpa using hz)
    simpa using this]
theorem F9{x:Value}{s d e:TypeId}{I:Nat→Prop}{y:List Int}(hs:P.underlying s=some (.slice e))(he:P.underlying e=some (.int .u8))(hd:P.underlying d=some .string)(h:yu w I (.int .u8) x y) :
  (convert s d x).run P w=.ok (.string ⟨(y.map fun n=>UInt8.ofNat n.toNat).toArray⟩) w:=by
 obtain⟨a,cap,us,e0,g1,g2,g3,g4,g5,g6⟩:=h
 have hus:us=y.map (Value.int .u8):=zD (by rw[g2];exact Nat.mul_one _) g6
 subst e0
 refine(run_convert_bytes_string w s d e a (List.length (α:=Int) y) cap hs he hd).trans ?_
 cases a with
 | none=>
   have hc0:=g4 rfl
   have hy0:y=[]:=List.eq_nil_of_length_eq_zero (Nat.le_zero.1 (hc0▸g5))
   subst hy0
   simp[Conv.bytesToString];rfl
 | some a=>
   have hload:(loadCells a (List.length (α:=Int) y)).run P w=.ok (y.map (Value.int .u8)).toArray w:=by
    have:=j4 (P:=P) (sz:=1) (len:=y.length) (cap:=cap) (by rw[g2];rfl) g3 w rfl
    rw[Builtin.firstCells,Nat.mul_one] at this
    exact this.trans (by rw[hus])
   exact(run_bytesToString (P:=P) w a (List.length (α:=Int) y) cap y hload).trans (congrArg (fun b=>Result.ok (Value.string b) w) (foldl_push y ByteArray.empty))
theorem Fw{I:Nat→Prop}{x:Value}{y:List Int}(h:yu w I (.int .u8) x y):CR w S m (.str false (ah.bytes y)) (.string ⟨(y.map fun n=>UInt8.ofNat n.toNat).toArray⟩):=by
 obtain⟨_,_,_,_,g1,_⟩:=h
 exact gi.2 ⟨rfl,Nat.le_trans (Nat.le_of_eq (List.length_map (α:=Int) (as:=y) fun n=>UInt8.ofNat n.toNat)) g1⟩
theorem EF{R:Type}{E:eB R}(hE:iV P E.ti){s d:TypeId}{t:Ty}{l:List t.T}{x:Value}{tv:TV AV}(hx:CR w S m (.sl t l) x)(h:Io ah (E.ti.get s) (E.ti.get d) E.ti.get t l=some tv){v:AV}(hv:tv.Is v) :
  ∃z,(convert s d x).run P w=.ok z w∧CR w S m v z:=by
 unfold Io at h
 split at h
 ·rename_i e _ _ _ _ _ _ _ _ _ _ _ _ hs hd
  split at h
  ·rename_i _ _ _ _ _ _ he
   split at h
   ·rename_i ht
    have:=Ty.eq_of_beq ht
    subst this
    cases h;cases hv
    have hr:=yu.Ff (lz.1 hx)
    exact⟨_,F9 ((hE s _ hs).cv (k:=.slice e) rfl) ((hE e _ he).cv (k:=.int .u8) rfl) ((hE d _ hd).cv (k:=.str) rfl) hr,Fw hr⟩
   ·cases h
  ·cases h
 ·cases h
theorem xe{R:Type}{E:eB R}(hE:iV P E.ti)(hW:WR w0 w S m){ρa:Operand→AV}{ρc:Operand→Value}(hρ:∀x,CR w S m (ρa x) (ρc x)){o:Oper}{tv:TV AV}(h:nW ah E ρa m o=some tv){v:AV}(hv:tv.Is v) :
  ∃z,(execOp ρc o).run P w=.ok (.value z) w∧CR w S m v z:=by
 obtain⟨dst,op,ty,pos,after,guard⟩:=o
 unfold nW at h
 cases op<;>simp only at h<;>try (cases h;done)
 case move x=>cases h;cases hv;exact⟨_,rfl,hρ x⟩
 case assign x=>cases h;cases hv;exact⟨_,rfl,hρ x⟩
 case pick c a b=>
  cases h
  have hc:=hρ c
  cases ha:ρa c<;>rw[ha] at hv hc<;>(try simp only at hv)<;>try exact hv.elim
  rename_i kn vb
  have e:=c_.1 hc
  cases kn with
  | true=>
    simp only at hv
    cases vb with
    | true=>cases hv;exact⟨_,by simp[execOp,e,asBool],hρ a⟩
    | false=>cases hv;exact⟨_,by simp[execOp,e,asBool],hρ b⟩
  | false=>
    rcases hv with ⟨hb,hv⟩|⟨hb,hv⟩
    ·subst hb;cases hv;exact⟨_,by simp[execOp,e,asBool],hρ a⟩
    ·subst hb;cases hv;exact⟨_,by simp[execOp,e,asBool],hρ b⟩
 case load t p=>
  cases h
  obtain⟨b,off,u,e,h1,h2⟩:=uE hE hW (hρ p) hv
  exact⟨u,by simp[execOp,Instr.loadAt,e,Instr.sureAddr,h1],h2⟩
 case nilCheck x=>
  cases h
  have hx:=hρ x
  cases ha:ρa x<;>rw[ha] at hv hx<;>(try simp only at hv)<;>try exact hv.elim
  case ptr id off=>
   have hc:=hx
   rw[CR] at hc
   cases hm:m.at id<;>rw[hm] at hv hc<;>(try simp only at hv hc)<;>try exact hv.elim
   cases hv
   exact⟨_,by simp only[execOp,hc];rfl,by rw[←hc];exact hx⟩
  case nF id i off=>
   have hc:=hx
   rw[CR] at hc
   cases hm:m.at id<;>rw[hm] at hv hc<;>(try simp only at hv hc)<;>try exact hv.elim
   cases hv
   obtain⟨k,_,_,hc⟩:=hc
   exact⟨_,by simp only[execOp,hc];rfl,by rw[←hc];exact hx⟩
  case jA t x' off=>
   obtain⟨b,o,us,hc,_⟩:=nK.1 hx
   cases hv
   exact⟨_,by simp only[execOp,hc];rfl,by rw[←hc];exact hx⟩
  case fn f a b=>
   obtain⟨us,vs,hc,_⟩:=oT.1 hx
   cases hv
   exact⟨_,by simp only[execOp,hc];rfl,by rw[←hc];exact hx⟩
 case binOp op t x y t2=>
  cases h
  obtain⟨z,h1,h2⟩:=Fy (w:=w) hE x y (hρ x) (hρ y) hv
  exact⟨z,by simp only[execOp,Sem.run_bind,h1,Result.andThen_ok,Sem.run_pure],h2⟩
 case unOp op t x=>
  cases h
  obtain⟨z,h1,h2⟩:=IL (P:=P) (hρ x) hv
  exact⟨z,by simp[execOp,h1],h2⟩
 case convert s d x=>
  have key:∀{tv:TV AV} {v:AV},tv=yQ ah (E.ti.get s) (E.ti.get d) (ρa x)→tv.Is v→∃z,(execOp ρc {dst:=dst,op:=.convert s d x,type:=ty,pos:=pos,after:=after,guard:=guard}).run P w=.ok (.value z) w∧CR w S m v z:=by
   intro tv v he hv
   subst he
   obtain⟨z,h1,h2⟩:=Ef hE (hρ x) hv
   exact⟨z,by simp[execOp,h1],h2⟩
  cases ha:ρa x<;>rw[ha] at h<;>(try simp only at h)<;>try (cases h;done)
  ·cases h;exact key (by rw[ha]) hv
  ·split at h
   ·cases h;exact key (by rw[ha]) hv
   ·cases h
  ·obtain⟨z,h1,h2⟩:=EF hE (by rw[←ha];exact hρ x) h hv
   exact⟨z,by simp[execOp,h1],h2⟩
 case makeFunc fn a c=>
  cases fn<;>simp only at h<;>try (cases h;done)
  cases h;cases hv
  refine⟨.func (.func _) (a.map ρc) (c.map ρc),rfl,oT.2 ⟨_,_,rfl,?_,?_⟩⟩
  ·have:=yj hρ a.toList;simpa using this
  ·have:=yj hρ c.toList;simpa using this
 case slice t x lo hi mx=>
  cases h
  obtain⟨z,h1,h2⟩:=BV hE hW hρ hv
  exact⟨z,by simp[execOp,h1],h2⟩
 case fieldAddr t x i=>
  cases h
  obtain⟨z,h1,h2⟩:=tV hE (hρ x) hv
  exact⟨z,by simp[execOp,h1],h2⟩
 case field t x i=>cases h;exact hv.elim
 case indexAddr t x i=>
  cases h
  obtain⟨z,h1,h2⟩:=uI hE hW (hρ x) (hρ i) hv
  exact⟨z,by simp[execOp,h1],h2⟩
 case index t x i=>
  cases h
  obtain⟨z,h1,h2⟩:=Ce hE (hρ x) (hρ i) hv
  exact⟨z,by simp[execOp,h1],h2⟩
 case extract t i=>
  cases h
  have hx:=hρ t
  cases ha:ρa t<;>rw[ha] at hv hx<;>(try simp only at hv)<;>try exact hv.elim
  obtain⟨us,e,hc⟩:=fC.1 hx
  replace hv:=oF hv
  obtain⟨z,h1,h2⟩:=hc.get hv
  have h1:us[i]? = some z:=by simpa using h1
  exact⟨z,by simp[execOp,Instr.extract,e,h1],h2⟩
 case build t ps=>
  cases h
  obtain⟨z,h1,h2⟩:=BE hE hρ hv
  have e:(ps.map fun(i,x)=>(i,ρc x))=(ps.toList.map fun p=>(p.1,ρc p.2)).toArray:=by
   apply Array.ext'
   simp
  exact⟨z,by simp only[execOp,e,Sem.run_bind,h1,Result.andThen_ok,Sem.run_pure],h2⟩
 case call c=>
  obtain⟨callee,args,argTypes⟩:=c
  cases callee<;>(try simp only at h)<;>try (cases h;done)
  rename_i b
  cases b<;>(try simp only at h)<;>try (cases h;done)
  case len=>
   cases h
   obtain⟨l⟩:=args
   obtain⟨tl⟩:=argTypes
   simp only at hv
   match l,tl,hv with
   | [x],t::ts,hv=>
     obtain⟨z,h1,h2⟩:=G_ (rt:=ty) (ts:=(t::ts).toArray) hE hW (by simp) (hρ x) hv
     exact⟨z,by simp[execOp,resolve,invoke,builtin,h1],h2⟩
   | [x], [],hv=>exact hv.elim
   | [],_,hv=>exact hv.elim
   | _::_::_,_,hv=>exact hv.elim
  case max=>
   cases h
   obtain⟨z,h1,h2⟩:=F2 (P:=P) (rt:=ty) (ts:=argTypes) hρ hv
   exact⟨z,by simp[execOp,resolve,invoke,builtin,h1],h2⟩
  case min=>
   cases h
   obtain⟨z,h1,h2⟩:=GF (P:=P) (rt:=ty) (ts:=argTypes) hρ hv
   exact⟨z,by simp[execOp,resolve,invoke,builtin,h1],h2⟩
end
end Go.Ev
