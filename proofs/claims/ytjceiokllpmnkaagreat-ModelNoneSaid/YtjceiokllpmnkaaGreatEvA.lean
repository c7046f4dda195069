/-
  PROVED: a symbolic evaluator over the model (a plain Lean function), and that each of its operations that leave memory alone says what the model does. Conditions: the type table fits the program.
-/
import GoSem.Claims
import Derived.Calls
import Derived.Laws.Sem
import Derived.Laws.World
import Derived.Laws.Cells
import Derived.Laws.AppendOwn
import Derived.Laws.Entries
import Derived.Laws.StructEq
import Derived.Laws.Slices
import Derived.Laws.Small
import Derived.Laws.Closers25b
import Derived.Laws.Strings
import Derived.Laws.Append
import Derived.Laws.BytesString
set_option linter.unusedVariables false
set_option linter.unusedSimpArgs false
set_option linter.unusedSectionVars false
namespace Go.Ev
inductive Ty where
 | int (k:IntKind)
 | bool
 | str
 | slice (t:Ty)
 | arr (n:Nat) (t:Ty)
 | struct (ts:List Ty)
 | any (n:Nat)
mutual
def Ty.T:Ty→Type
 | .int _=>Int
 | .bool=>Bool
 | .str=>List UInt8
 | .slice t=>List t.T
 | .arr _ t=>List t.T
 | .struct ts=>Ty.Ts ts
 | .any _=>Unit
def Ty.Ts:List Ty→Type
 | []=>Unit
 | [t]=>t.T
 | t::t2::ts=>t.T×Ty.Ts (t2::ts)
end
mutual
def Ty.size:Ty→Nat
 | .arr n t=>n*t.size
 | .struct ts=>Ty.qH ts
 | .any n=>n
 | _=>1
def Ty.qH:List Ty→Nat
 | []=>0
 | t::ts=>t.size+Ty.qH ts
end
def Ty.isAgg:Ty→Bool
 | .arr _ _=>true
 | .struct _=>true
 | .any _=>true
 | _=>false
def e_:IntKind→IntKind→Bool
 | .i8,.i8=>true | .i16,.i16=>true | .i32,.i32=>true | .i64,.i64=>true
 | .u8,.u8=>true | .u16,.u16=>true | .u32,.u32=>true | .u64,.u64=>true
 | _,_=>false
theorem eD{a b:IntKind}(h:e_ a b=true):a=b:=by cases a<;>cases b<;>first|rfl|cases h
mutual
def Ty.beq:Ty→Ty→Bool
 | .int a,.int b=>e_ a b
 | .bool,.bool=>true
 | .str,.str=>true
 | .slice a,.slice b=>a.beq b
 | .arr n a,.arr m b=>Nat.beq n m&&a.beq b
 | .struct aa,.struct bs=>Ty.Cq aa bs
 | .any n,.any m=>Nat.beq n m
 | _,_=>false
def Ty.Cq:List Ty→List Ty→Bool
 | [], []=>true
 | a::aa,b::bs=>a.beq b&&Ty.Cq aa bs
 | _,_=>false
end
mutual
theorem Ty.eq_of_beq:∀{a b:Ty},a.beq b=true→a=b
 | .int a,.int b,h=>by rw[Ty.beq] at h;rw[eD h]
 | .bool,.bool,_=>rfl
 | .str,.str,_=>rfl
 | .slice a,.slice b,h=>by rw[Ty.beq] at h;rw[Ty.eq_of_beq h]
 | .arr n a,.arr m b,h=>by
   rw[Ty.beq,Bool.and_eq_true] at h
   rw[Nat.eq_of_beq_eq_true h.1,Ty.eq_of_beq h.2]
 | .struct aa,.struct bs,h=>by rw[Ty.beq] at h;rw[Ty.qN h]
 | .any n,.any m,h=>by rw[Ty.beq] at h;rw[Nat.eq_of_beq_eq_true h]
 | .any _,.int _,h | .any _,.bool,h | .any _,.str,h | .any _,.slice _,h | .any _,.arr _ _,h | .any _,.struct _,h=>by simp[Ty.beq] at h
 | .int _,.any _,h | .bool,.any _,h | .str,.any _,h | .slice _,.any _,h | .arr _ _,.any _,h | .struct _,.any _,h=>by simp[Ty.beq] at h
 | .int _,.bool,h | .int _,.str,h | .int _,.slice _,h | .int _,.arr _ _,h | .int _,.struct _,h=>by simp[Ty.beq] at h
 | .bool,.int _,h | .bool,.str,h | .bool,.slice _,h | .bool,.arr _ _,h | .bool,.struct _,h=>by simp[Ty.beq] at h
 | .str,.int _,h | .str,.bool,h | .str,.slice _,h | .str,.arr _ _,h | .str,.struct _,h=>by simp[Ty.beq] at h
 | .slice _,.int _,h | .slice _,.bool,h | .slice _,.str,h | .slice _,.arr _ _,h | .slice _,.struct _,h=>by simp[Ty.beq] at h
 | .arr _ _,.int _,h | .arr _ _,.bool,h | .arr _ _,.str,h | .arr _ _,.slice _,h | .arr _ _,.struct _,h=>by simp[Ty.beq] at h
 | .struct _,.int _,h | .struct _,.bool,h | .struct _,.str,h | .struct _,.slice _,h | .struct _,.arr _ _,h=>by simp[Ty.beq] at h
theorem Ty.qN:∀{aa bs:List Ty},Ty.Cq aa bs=true→aa=bs
 | [], [],_=>rfl
 | a::aa,b::bs,h=>by
   rw[Ty.Cq,Bool.and_eq_true] at h
   rw[Ty.eq_of_beq h.1,Ty.qN h.2]
 | [],_::_,h=>by simp[Ty.Cq] at h
 | _::_, [],h=>by simp[Ty.Cq] at h
end
mutual
def Ty.gB:(t:Ty)→t.T
 | .int _=>(0:Int)
 | .bool=>false
 | .str=>([]:List UInt8)
 | .slice t=>([]:List t.T)
 | .arr n t=>List.replicate n (Ty.gB t)
 | .struct ts=>Ty.cq ts
 | .any _=>()
def Ty.cq:(ts:List Ty)→Ty.Ts ts
 | []=>()
 | [t]=>Ty.gB t
 | t::t2::ts=>(Ty.gB t,Ty.cq (t2::ts))
end
mutual
def Ty.kt:Ty→Bool
 | .slice t=>t.kt
 | .arr _ t=>t.kt
 | .struct ts=>Ty.sH ts
 | .any _=>false
 | _=>true
def Ty.sH:List Ty→Bool
 | []=>true
 | t::ts=>t.kt&&Ty.sH ts
end
mutual
def Ty.scalar:Ty→Bool
 | .int _=>true
 | .bool=>true
 | .str=>true
 | .arr _ t=>t.scalar
 | .struct ts=>Ty.scalars ts
 | _=>false
def Ty.scalars:List Ty→Bool
 | []=>true
 | t::ts=>t.scalar&&Ty.scalars ts
end
structure bK where
 b:BinOp→IntKind→Int→Int→Int
 c:BinOp→Int→Int→Bool
 u:UnOp→IntKind→Int→Int
 v:IntKind→Int→Int
 mn:Int→Int→Int
 mx:Int→Int→Int
 and:Bool→Bool→Bool
 not:Bool→Bool
 q:Bool→Bool→Bool
 l:{α:Type}→List α→Int
 n:(t:Ty)→List t.T→Int→t.T
 set:{α:Type}→List α→Int→α→List α
 s:{α:Type}→List α→Int→Int→List α
 p:{α:Type}→List α→List α→List α
 r:{α:Type}→Int→α→List α
 spl:{α:Type}→List α→Int→List α→List α
 z:BinOp→List UInt8→List UInt8→Bool
 byte:List UInt8→Int→Int
 bytes:List Int→List UInt8
 ints:List UInt8→List Int
 k:{α β:Type}→(α→β)→α→β
def q_(op:BinOp)(k:IntKind)(a b:Int):Int:=
 match op with
 | .add=>k.wrap (a+b)
 | .sub=>k.wrap (a-b)
 | .mul=>k.wrap (a*b)
 | .quo=>k.wrap (a.tdiv b)
 | .rem=>a.tmod b
 | .and=>k.wrap (BitVec.ofInt k.bits a &&& BitVec.ofInt k.bits b).toNat
 | .or=>k.wrap (BitVec.ofInt k.bits a ||| BitVec.ofInt k.bits b).toNat
 | .xor=>k.wrap (BitVec.ofInt k.bits a ^^^ BitVec.ofInt k.bits b).toNat
 | .andNot=>k.wrap (BitVec.ofInt k.bits a &&& ~~~ BitVec.ofInt k.bits b).toNat
 | .shl=>k.wrap (a*2^min b.toNat k.bits)
 | .shr=>a.fdiv (2^min b.toNat k.bits)
 | _=>0
def lK(op:BinOp)(x y:Int):Bool:=
 match op with
 | .eql=>x==y
 | .neq=>x != y
 | .lss=>decide (x<y)
 | .leq=>decide (x≤y)
 | .gtr=>decide (x > y)
 | .geq=>decide (x ≥ y)
 | _=>false
def JN(op:UnOp)(k:IntKind)(n:Int):Int:=
 match op with
 | .neg=>k.wrap (0-n)
 | .xor=>k.wrap (BitVec.ofInt k.bits (if k.signed then -1 else k.max) ^^^ BitVec.ofInt k.bits n).toNat
 | _=>0
def Fu(op:BinOp)(x y:List UInt8):Bool:=
 match op with
 | .eql=>x==y
 | .neq=>!(x==y)
 | .lss=>Op.bytesLess x y
 | .leq=>Op.bytesLess x y||x==y
 | .gtr=>!(Op.bytesLess x y||x==y)
 | .geq=>!Op.bytesLess x y
 | _=>false
def ai:bK where
 b:=q_
 c:=lK
 u:=JN
 v k n:=k.wrap n
 mn x y:=if y<x then y else x
 mx x y:=if y > x then y else x
 and a b:=a&&b
 not a:=!a
 q a b:=a==b
 l x:=x.length
 n t x i:=x.getD i.toNat t.gB
 set x i v:=x.set i.toNat v
 s x lo hi:=(x.take hi.toNat).drop lo.toNat
 p x y:=x++y
 r n v:=List.replicate n.toNat v
 spl x i y:=x.take i.toNat++y++x.drop (i.toNat+y.length)
 z:=Fu
 byte s i:=((s.getD i.toNat 0).toNat:Int)
 bytes x:=x.map fun n=>UInt8.ofNat n.toNat
 ints s:=s.map fun b=>(b.toNat:Int)
 k f x:=f x
inductive AV where
 | undef
 | int (k:IntKind) (c:Bool) (n:Int)
 | bool (c:Bool) (b:Bool)
 | str (c:Bool) (s:List UInt8)
 | sl (t:Ty) (x:List t.T)
 | bd (isNil:Bool)
 | own (id:Nat)
 | jD (id sz:Nat) (c:Bool) (lo len:Int)
 | ptr (id off:Nat)
 | gY (id:Nat) (i:Int) (off:Nat)
 | mW (id off n:Nat) (t:Ty) (i:Int)
 | lk (t:Ty) (x:t.T) (off:Nat)
 | bP
 | fn (f:FuncId) (first caps:List AV)
 | yield (l:Nat)
 | fE
 | agg (cells:List AV)
 | mC (vs:List AV)
def AV.Eo:AV→Bool
 | .agg _=>false
 | .mC _=>false
 | _=>true
def AV.cells:AV→List AV
 | .agg cs=>cs
 | v=>[v]
mutual
def dT(A:bK):(t:Ty)→t.T→List AV
 | .int k,x=>[.int k false x]
 | .bool,x=>[.bool false x]
 | .str,x=>[.str false x]
 | .slice t,x=>[.sl t x]
 | .arr n t,x=>(List.range n).flatMap fun(i:Nat)=>dT A t (A.n t x (i:Int))
 | .struct ts,x=>mA A ts x
 | .any n,_=>List.replicate n .undef
def mA(A:bK):(ts:List Ty)→Ty.Ts ts→List AV
 | [],_=>[]
 | [t],x=>dT A t x
 | t::t2::ts,x=>dT A t (Prod.fst (α:=t.T) (β:=Ty.Ts (t2::ts)) x)++mA A (t2::ts) (Prod.snd (α:=t.T) (β:=Ty.Ts (t2::ts)) x)
end
def Cu(A:bK)(t:Ty)(x:t.T):AV:=
 match t.isAgg with
 | true=>.agg (dT A t x)
 | false=>(dT A t x).headD .undef
def kr{α:Type}(f:List AV→Option (α×List AV)):Nat→List AV→Option (List α×List AV)
 | 0,cs=>some ([],cs)
 | n+1,cs=>match f cs with
   | none=>none
   | some (a,r)=>match kr f n r with
     | none=>none
     | some (b,r')=>some (a::b,r')
mutual
def kG:(t:Ty)→List AV→Option (t.T×List AV)
 | .int k,cs=>match cs with
   | []=>none
   | v::r=>match v with
     | .int k' _ n=>match e_ k' k with|true=>some (n,r)|false=>none
     | _=>none
 | .bool,cs=>match cs with
   | []=>none
   | v::r=>match v with
     | .bool _ b=>some (b,r)
     | _=>none
 | .str,cs=>match cs with
   | []=>none
   | v::r=>match v with
     | .str _ s=>some (s,r)
     | _=>none
 | .slice t,cs=>match cs with
   | []=>none
   | v::r=>match v with
     | .sl t' x=>if h:t'.beq t=true then some (Ty.eq_of_beq h▸x,r) else none
     | .bd _=>some ([],r)
     | _=>none
 | .arr n t,cs=>kr (kG t) n cs
 | .struct ts,cs=>nF ts cs
 | .any n,cs=>match Nat.ble n cs.length with
   | true=>some ((),cs.drop n)
   | false=>none
def nF:(ts:List Ty)→List AV→Option (Ty.Ts ts×List AV)
 | [],cs=>some ((),cs)
 | [t],cs=>kG t cs
 | t::t2::ts,cs=>match kG t cs with
   | none=>none
   | some (a,r)=>match nF (t2::ts) r with
     | none=>none
     | some (b,r')=>some ((a,b),r')
end
inductive PT (α:Type) where
 | leaf
 | node (l:PT α) (v:Option α) (r:PT α)
def PT.get{α:Type}:PT α→Nat→Option α
 | .leaf,_=>none
 | .node l v r,n=>match Nat.beq n 0 with
   | true=>v
   | false=>match Nat.beq (n%2) 1 with
     | true=>l.get (n/2)
     | false=>r.get (n/2-1)
def PT.put{α:Type}:Nat→PT α→Nat→α→PT α
 | 0,t,_,_=>t
 | f+1,.leaf,n,a=>match Nat.beq n 0 with
   | true=>.node .leaf (some a) .leaf
   | false=>match Nat.beq (n%2) 1 with
     | true=>.node (PT.put f .leaf (n/2) a) none .leaf
     | false=>.node .leaf none (PT.put f .leaf (n/2-1) a)
 | f+1,.node l v r,n,a=>match Nat.beq n 0 with
   | true=>.node l (some a) r
   | false=>match Nat.beq (n%2) 1 with
     | true=>.node (PT.put f l (n/2) a) v r
     | false=>.node l v (PT.put f r (n/2-1) a)
abbrev Env:=PT AV
def Env.at(e:Env)(n:Nat):AV:=match PT.get e n with|some v=>v|none=>.undef
def Env.put(e:Env)(n:Nat)(v:AV):Env:=PT.put 20 e n v
def Env.dG(e:Env)(d:Option Nat)(v:AV):Env:=match d with|some n=>e.put n v|none=>e
def Env.of:Nat→List AV→Env→Env
 | _, [],e=>e
 | n,v::vs,e=>Env.of (n+1) vs (e.put n v)
def Lh:IntKind→Int
 | .i8=> -128 | .i16=> -32768 | .i32=> -2147483648 | .i64=> -9223372036854775808|_=>0
def Lm:IntKind→Int
 | .i8=>127 | .i16=>32767 | .i32=>2147483647 | .i64=>9223372036854775807
 | .u8=>255 | .u16=>65535 | .u32=>4294967295 | .u64=>18446744073709551615
def xa:Value→AV
 | .int k n=>match decide (Lh k≤n)&&decide (n≤Lm k) with|true=>.int k true n|false=>.undef
 | .bool b=>.bool true b
 | .string s=>match Nat.ble s.data.toList.length 140737488355328 with|true=>.str true s.data.toList|false=>.undef
 | .slice none 0 0=>.bd true
 | .pointer none=>.bP
 | .nilFunc=>.fE
 | _=>.undef
def dd(e:Env):Operand→AV
 | .tmp t=>e.at t
 | .const v=>xa v
 | .global _=>.undef
 | .func f=>.fn f [] []
structure yl where
 fn:FuncId
 n:Nat
 env:Env
 params:List Nat
 assign:Code
 body:Code
 state:Nat
 pending:Option Code
inductive iJ where
 | bad
 | dead
 | flat (fz:Bool) (cells:List AV)
 | arr (fz:Bool) (t:Ty) (x:List t.T)
 | loop (r:yl)
 | wS
 | yS
abbrev Mem:=List iJ
def Mem.at(m:Mem)(i:Nat):iJ:=m.getD i .bad
inductive aR where
 | code (c:Code)
 | inBlock (id:Nat)
 | inLoop (body:Code)
 | inScope (body:Code)
 | ops (all:Array Oper) (rest:List Oper)
 | cK (all:Array Oper) (ms:List Nat) (rest bs:List Nat)
 | iW (all:Array Oper) (ms:List Nat) (i:Nat) (rest bs:List Nat)
 | gI (l:Nat)
 | fS (l:Nat)
 | beginRound
structure aH where
 fn:FuncId
 n:Nat
 env:Env
 todo:List aR
 marks:List Nat
 aU:Option Nat
structure ei where
 frames:List aH
 mem:Mem
def iJ.eu:iJ→Bool
 | .dead=>true
 | _=>false
def AV.known(m:Mem):AV→Bool
 | .undef=>false
 | .own id=>!(m.at id).eu
 | .jD id _ _ _ _=>!(m.at id).eu
 | .ptr id _=>!(m.at id).eu
 | .gY id _ _=>!(m.at id).eu
 | .mW id _ _ _ _=>!(m.at id).eu
 | .yield l=>!(m.at l).eu
 | _=>true
inductive TK where
 | bool|int (k:IntKind)|str|slice (e:Nat)|arr (n e:Nat)|struct (fs:List (Nat×Nat×Bool))|ptr (e:Nat)|func|other
structure TI where
 kind:TK
 size:Nat
 bytes:Nat
 agg:Bool
 zero:List AV
 ty:Option Ty
 eq:Bool
structure aG where
 args:List Ty
 res:List Ty
 pre:Ty.Ts args→Bool
 fn:Ty.Ts args→Ty.Ts res
structure yy where
 view:Ty
 args:List Ty
 res:List Ty
 pre:view.T×Ty.Ts args→Bool
 fn:view.T×Ty.Ts args→Ty.Ts res
structure Stop where
 fn:FuncId
 Zi:Nat
 keep:List (List Nat)
structure dE(R:Type) where
 ti:PT TI
 jo:List (FuncId×Func)
 eH:List (FuncId×aG)
 stops:List Stop
 jf:List Stop
 consts:List (FuncId×Nat)
 fin:AV→Mem→Option R
 Av:List (FuncId×yy):=[]
def EO:List Stop→FuncId→Option Nat→Bool
 | [],_,_=>false
 | _::_,_,none=>false
 | s::r,f,some d=>match Nat.beq s.fn f&&Nat.beq s.Zi (d+1000000) with
   | true=>true
   | false=>EO r f (some d)
def sr:List (FuncId×Nat)→FuncId→Option Nat→Bool
 | [],_,_=>false
 | (f,i)::r,g,d=>match Nat.beq f g,d with
   | true,some j=>match Nat.beq i j with|true=>true|false=>sr r g d
   | _,_=>sr r g d
def look{α:Type}:List (Nat×α)→Nat→Option α
 | [],_=>none
 | (i,a)::r,n=>match Nat.beq i n with|true=>some a|false=>look r n
inductive TV (α:Type) where
 | leaf (a:α)
 | br (b:Bool) (t e:TV α)
 | need (b:Bool) (t:TV α)
 | bad (n:Nat)
inductive Tr (R:Type) where
 | ret (y:R)
 | more (c:ei)
 | br (b:Bool) (t e:Tr R)
 | need (b:Bool) (t:Tr R)
 | eqs (p:Prop) (t:Tr R)
 | same (l r:AV) (t:Tr R)
 | and (a b:Tr R)
 | bad (n:Nat) (pos:String)
def TV.bind{α R:Type}(pos:String):TV α→(α→Tr R)→Tr R
 | .leaf a,K=>K a
 | .br b t e,K=>.br b (TV.bind pos t K) (TV.bind pos e K)
 | .need b t,K=>.need b (TV.bind pos t K)
 | .bad n,_=>.bad n pos
def TV.map{α β:Type}(f:α→β):TV α→TV β
 | .leaf a=>.leaf (f a)
 | .br b t e=>.br b (t.map f) (e.map f)
 | .need b t=>.need b (t.map f)
 | .bad n=>.bad n
def oh{α:Type}(n:Nat):Option α→TV α
 | some a=>.leaf a
 | none=>.bad n
def xT{α:Type}(c:Bool)(b:Bool)(t:TV α):TV α:=
 match c with
 | true=>match b with|true=>t|false=>.bad 2
 | false=>.need b t
section
variable (A:bK)
def lM(k:IntKind)(c:Bool)(f:bK→Int):AV:=
 match c with
 | true=>.int k true (f ai)
 | false=>.int k false (f A)
def kP(c:Bool)(f:bK→Bool):AV:=
 match c with
 | true=>.bool true (f ai)
 | false=>.bool false (f A)
def u7:BinOp→Bool
 | .eql=>true | .neq=>true | .lss=>true | .leq=>true | .gtr=>true | .geq=>true|_=>false
def bI:List AV→List AV→Option (Bool×(bK→Bool))
 | [], []=>some (true,fun _=>true)
 | .int k c a::xs,.int k' c' b::ys=>match e_ k k' with
   | false=>none
   | true=>match bI xs ys with
     | none=>none
     | some (c2,g)=>some (c&&c'&&c2,fun A=>A.and (A.c .eql a b) (g A))
 | .bool c a::xs,.bool c' b::ys=>match bI xs ys with
   | none=>none
   | some (c2,g)=>some (c&&c'&&c2,fun A=>A.and (A.q a b) (g A))
 | .str c a::xs,.str c' b::ys=>match bI xs ys with
   | none=>none
   | some (c2,g)=>some (c&&c'&&c2,fun A=>A.and (A.z .eql a b) (g A))
 | _,_=>none
def Bq:AV→AV→Bool
 | .int k _ _,.int k' _ _=>e_ k k'
 | .bool _ _,.bool _ _=>true
 | .str _ _,.str _ _=>true
 | _,_=>false
def fF:List AV→List AV→Bool
 | [], []=>true
 | a::as,b::bs=>Bq a b&&fF as bs
 | _,_=>false
def kL(op:BinOp)(isNil:Bool):TV AV:=
 match op with
 | .eql=>.leaf (.bool true isNil)
 | .neq=>.leaf (.bool true (!isNil))
 | _=>.bad 9
def wK(op:BinOp)(k:IntKind)(c:Bool)(a:Int)(k':IntKind)(c':Bool)(b:Int):TV AV:=
 match e_ k k' with
 | false=>.bad 3
 | true=>match u7 op with
   | true=>.leaf (kP A (c&&c') fun A=>A.c op a b)
   | false=>match op with
     | .quo=>xT c' (match c' with|true=>ai.c .neq b 0|false=>A.c .neq b 0) (.leaf (lM A k (c&&c') fun A=>A.b .quo k a b))
     | .rem=>xT c' (match c' with|true=>ai.c .neq b 0|false=>A.c .neq b 0) (.leaf (lM A k (c&&c') fun A=>A.b .rem k a b))
     | op=>.leaf (lM A k (c&&c') fun A=>A.b op k a b)
def mJ(op:BinOp)(k:IntKind)(c:Bool)(a:Int)(c':Bool)(b:Int):TV AV:=
 xT c' (match c' with|true=>ai.c .leq 0 b|false=>A.c .leq 0 b) (.leaf (lM A k (c&&c') fun A=>A.b op k a b))
def y_(m:Mem)(ti:Option TI)(op:BinOp)(x y:AV):TV AV:=
 match x with
 | .int k c a=>match y with
   | .int k' c' b=>match op with
     | .shl=>mJ A .shl k c a c' b
     | .shr=>mJ A .shr k c a c' b
     | op=>wK A op k c a k' c' b
   | _=>.bad 10
 | .bool c a=>match y with
   | .bool c' b=>match ti with
     | some ti=>match ti.kind with
       | .bool=>match op with
         | .eql=>.leaf (kP A (c&&c') fun A=>A.q a b)
         | .neq=>.leaf (kP A (c&&c') fun A=>A.not (A.q a b))
         | _=>.bad 4
       | _=>.bad 4
     | none=>.bad 4
   | _=>.bad 10
 | .str c a=>match y with
   | .str c' b=>match u7 op with
     | true=>.leaf (kP A (c&&c') fun A=>A.z op a b)
     | false=>match op with
       | .add=>.need (A.c .leq (A.l (A.p a b)) 140737488355328) (.leaf (.str false (A.p a b)))
       | _=>.bad 5
   | _=>.bad 10
 | .agg xs=>match y with
   | .agg ys=>match ti with
     | some ti=>match ti.eq&&(ti.agg&&fF xs ti.zero) with
       | false=>.bad 6
       | true=>match bI xs ys with
         | none=>.bad 7
         | some (c,g)=>match op with
           | .eql=>.leaf (kP A c g)
           | .neq=>.leaf (kP A c fun A=>A.not (g A))
           | _=>.bad 8
     | none=>.bad 6
   | _=>.bad 10
 | .fn _ _ _=>match y with
   | .fE=>match ti with
     | some ti=>match ti.kind with | .func=>kL op false|_=>.bad 9
     | none=>.bad 9
   | _=>.bad 10
 | .fE=>match y with
   | .fE=>match ti with
     | some ti=>match ti.kind with | .func=>kL op true|_=>.bad 9
     | none=>.bad 9
   | _=>.bad 10
 | .bP=>match y with
   | .bP=>match ti with
     | some ti=>match ti.kind with | .ptr _=>kL op true|_=>.bad 9
     | none=>.bad 9
   | _=>.bad 10
 | .ptr id _=>match y,m.at id with
   | .bP,.flat _ _=>match ti with
     | some ti=>match ti.kind with | .ptr _=>kL op false|_=>.bad 9
     | none=>.bad 9
   | _,_=>.bad 10
 | .bd true=>match y with
   | .bd true=>match ti with
     | some ti=>match ti.kind with | .slice _=>kL op true|_=>.bad 9
     | none=>.bad 9
   | _=>.bad 10
 | .own id=>match y,m.at id with
   | .bd true,.arr _ _ _=>match ti with
     | some ti=>match ti.kind with | .slice _=>kL op false|_=>.bad 9
     | none=>.bad 9
   | _,_=>.bad 10
 | .sl _ l=>match y with
   | .bd true=>match ti with
     | some ti=>match ti.kind with | .slice _=>.need (A.c .neq (A.l l) 0) (kL op false)|_=>.bad 9
     | none=>.bad 9
   | _=>.bad 10
 | _=>.bad 10
def Gu(op:UnOp)(x:AV):TV AV:=
 match op,x with
 | .neg,.int k c n=>.leaf (lM A k c fun A=>A.u .neg k n)
 | .xor,.int k c n=>.leaf (lM A k c fun A=>A.u .xor k n)
 | .not,.bool c b=>.leaf (kP A c fun A=>A.not b)
 | _,_=>.bad 11
def aY(off n:Nat)(cs:List AV):Option (List AV):=
 match Nat.ble (off+n) cs.length with
 | true=>some ((cs.drop off).take n)
 | false=>none
def wV(m:Mem)(p:AV)(n:Nat):Option (List AV):=
 match p with
 | .ptr id off=>match m.at id with
   | .flat _ cs=>aY off n cs
   | _=>none
 | .gY id i off=>match m.at id with
   | .arr _ t x=>aY off n (dT A t (A.n t x i))
   | _=>none
 | .mW id off k t i=>match m.at id with
   | .flat _ cs=>match Nat.beq t.size n,aY off (k*n) cs with
     | true,some l=>match kr (kG t) k l with
       | some (x,_)=>some (dT A t (A.n t x i))
       | none=>none
     | _,_=>none
   | _=>none
 | .lk t x off=>aY off n (dT A t x)
 | _=>none
def tF(agg:Bool)(cs:List AV):Option AV:=
 match agg with
 | true=>some (.agg cs)
 | false=>match cs with
   | [v]=>some v
   | _=>none
def qo(ti:Option TI)(m:Mem)(p:AV):TV AV:=
 match ti with
 | none=>.bad 20
 | some ti=>match wV A m p ti.size with
   | none=>.bad 21
   | some cs=>oh 22 (tF ti.agg cs)
def FG(m:Mem)(p:AV)(n:Nat):Option AV:=
 match p with
 | .ptr id off=>match m.at id with
   | .flat _ _=>some (.ptr id (off+n))
   | _=>none
 | .gY id i off=>match m.at id with
   | .arr _ _ _=>some (.gY id i (off+n))
   | _=>none
 | .lk t x off=>some (.lk t x (off+n))
 | _=>none
def jX(m:Mem)(ti:Option TI)(p:AV)(i:Nat):TV AV:=
 match ti with
 | some {kind:=.struct fs,.. }=>match fs[i]? with
   | some (off,size,_)=>match Nat.beq size 0 with
     | true=>.bad 23
     | false=>oh 24 (FG m p off)
   | none=>.bad 25
 | _=>.bad 26
def rD(ti:Option TI)(v:AV)(i:Nat):TV AV:=
 match ti,v with
 | some {kind:=.struct fs,.. },.agg cs=>match fs[i]? with
   | some (off,size,agg)=>match aY off size cs with
     | some l=>oh 27 (tF agg l)
     | none=>.bad 28
   | none=>.bad 29
 | _,_=>.bad 30
def fy(c:Bool)(i:Int)(c':Bool)(n:Int)(t:TV AV):TV AV:=
 match c&&c' with
 | true=>match ai.and (ai.c .leq 0 i) (ai.c .lss i n) with|true=>t|false=>.bad 31
 | false=>.need (A.and (A.c .leq 0 i) (A.c .lss i n)) t
def jM(ti:Option TI)(te:Nat→Option TI)(m:Mem)(x ix:AV):TV AV:=
 match ix with
 | .int _ c i=>
   match ti with
   | some {kind:=.arr n e,.. }=>match te e,x with
     | some te,.ptr id off=>match m.at id with
       | .flat _ _=>match c with
         | true=>fy A true i true n (.leaf (.ptr id (off+i.toNat*te.size)))
         | false=>match te.ty with
           | some t=>fy A false i true n (.leaf (.mW id off n t i))
           | none=>.bad 32
       | _=>.bad 32
     | _,_=>.bad 33
   | some {kind:=.slice e,.. }=>match te e with
     | some te=>match x with
       | .sl t l=>match Nat.beq te.size t.size with
         | true=>fy A false i false (A.l l) (.leaf (.lk t (A.n t l i) 0))
         | false=>.bad 37
       | .own id=>match m.at id with
         | .arr _ t l=>match Nat.beq te.size t.size with
           | true=>fy A false i false (A.l l) (.leaf (.gY id i 0))
           | false=>.bad 37
         | _=>.bad 34
       | .jD id sz c' lo len=>match m.at id with
         | .arr _ t _=>match Nat.beq te.size t.size with
           | true=>fy A c i c' len (.leaf (.gY id (A.b .add .i64 lo i) 0))
           | false=>.bad 37
         | .flat _ cs=>match c&&(c'&&Nat.beq sz te.size) with
           | true=>fy A true i true len (.leaf (.ptr id ((lo+i).toNat*te.size)))
           | false=>match te.ty,c'&&Nat.beq sz te.size with
             | some t,true=>fy A c i c' len (.leaf (.mW id (lo.toNat*te.size) len.toNat t i))
             | some t,false=>match Nat.beq sz te.size&&Nat.blt 0 te.size with
               | true=>fy A c i c' len (.leaf (.mW id 0 (cs.length/te.size) t (A.b .add .i64 lo i)))
               | false=>.bad 35
             | _,_=>.bad 35
         | _=>.bad 36
       | _=>.bad 37
     | none=>.bad 38
   | _=>.bad 39
 | _=>.bad 40
def rv(ti:Option TI)(te:Nat→Option TI)(x ix:AV):TV AV:=
 match ix with
 | .int _ c i=>
   match ti,x with
   | some {kind:=.arr n e,.. },.agg cs=>match te e with
     | some te=>match c with
       | true=>match aY (i.toNat*te.size) te.size cs with
         | some l=>match tF te.agg l with
           | some v=>fy A true i true n (.leaf v)
           | none=>.bad 41
         | none=>.bad 42
       | false=>match te.ty with
         | some t=>match kr (kG t) n cs with
           | some (l,_)=>fy A false i true n (.leaf (Cu A t (A.n t l i)))
           | none=>.bad 43
         | none=>.bad 44
     | none=>.bad 45
   | some {kind:=.str,.. },.str c' s=>match c&&c' with
     | true=>fy A true i true s.length (.leaf (.int .u8 true (ai.byte s i)))
     | false=>fy A false i false (A.l s) (.leaf (.int .u8 false (A.byte s i)))
   | _,_=>.bad 46
 | _=>.bad 47
def bound(c:Bool)(n:Int):Option AV→Option (Bool×Int)
 | none=>some (c,n)
 | some (.int _ c i)=>some (c,i)
 | _=>none
def lX(c:Bool)(l h n:Int)(t:TV AV):TV AV:=
 match c with
 | true=>match ai.and (ai.c .leq 0 l) (ai.and (ai.c .leq l h) (ai.c .leq h n)) with|true=>t|false=>.bad 48
 | false=>.need (A.and (A.c .leq 0 l) (A.and (A.c .leq l h) (A.c .leq h n))) t
def nL(n:Nat)(te:TI)(m:Mem)(x:AV)(lo hi:Option AV):TV AV:=
 match x with
 | .ptr id off=>match m.at id with
   | .flat _ cs=>match Nat.beq te.size 0,Nat.beq (off%te.size) 0&&(Nat.ble (off+n*te.size) cs.length&&Nat.ble (off/te.size+n) 140737488355328) with
     | false,true=>match bound true 0 lo,bound true n hi with
       | some (c1,l),some (c2,h)=>match c1&&c2 with
         | true=>lX A true l h n (.leaf (.jD id te.size true ((off/te.size:Nat)+l) (h-l)))
         | false=>lX A false l h n (.leaf (.jD id te.size false (A.b .add .i64 (off/te.size:Nat) l) (A.b .sub .i64 h l)))
       | _,_=>.bad 51
     | _,_=>.bad 50
   | _=>.bad 49
 | _=>.bad 52
def lZ(lo hi mx:Option AV)(b:Bool):TV AV:=
 match mx with
 | some (.int _ true 0)=>match hi with
   | some (.int _ true 0)=>match lo with
     | none=>.leaf (.bd b)
     | some (.int _ true 0)=>.leaf (.bd b)
     | _=>.bad 58
   | _=>.bad 58
 | _=>.bad 58
def tN(esz:Nat)(m:Mem)(x:AV)(lo hi mx:Option AV):TV AV:=
 match x with
 | .sl t s=>match Nat.beq t.size esz with
   | false=>.bad 53
   | true=>match mx with
     | none=>match bound true 0 lo,bound false (A.l s) hi with
       | some (_,l),some (_,h)=>lX A false l h (A.l s) (.leaf (.sl t (A.s s l h)))
       | _,_=>.bad 53
     | some mx=>lZ lo hi (some mx) false
 | .own id=>match m.at id with
   | .arr _ t s=>match Nat.beq t.size esz with
     | false=>.bad 54
     | true=>match mx with
       | none=>match bound true 0 lo,bound false (A.l s) hi with
         | some (_,l),some (_,h)=>lX A false l h (A.l s) (.leaf (.jD id t.size false l (A.b .sub .i64 h l)))
         | _,_=>.bad 54
       | some mx=>lZ lo hi (some mx) false
   | _=>.bad 55
 | .jD id sz c s n=>match Nat.beq sz esz with
   | false=>.bad 56
   | true=>match mx with
     | some _=>.bad 56
     | none=>match m.at id with
       | .arr _ _ _=>match bound true 0 lo,bound false n hi with
         | some (_,l),some (_,h)=>lX A false l h n (.leaf (.jD id sz false (A.b .add .i64 s l) (A.b .sub .i64 h l)))
         | _,_=>.bad 56
       | .flat _ _=>match bound true 0 lo,bound c n hi with
         | some (c1,l),some (c2,h)=>match c&&(c1&&c2) with
           | true=>lX A true l h n (.leaf (.jD id sz true (s+l) (h-l)))
           | false=>lX A false l h n (.leaf (.jD id sz false (A.b .add .i64 s l) (A.b .sub .i64 h l)))
         | _,_=>.bad 56
       | _=>.bad 55
 | .bd b=>match mx with
   | none=>match bound true 0 lo,bound true 0 hi with
     | some (_,l),some (_,h)=>lX A false l h 0 (.leaf (.bd b))
     | _,_=>.bad 57
   | some mx=>lZ lo hi (some mx) b
 | _=>.bad 59
def rA(ti:Option TI)(te:Nat→Option TI)(m:Mem)(x:AV)(lo hi mx:Option AV):TV AV:=
 match ti with
 | none=>.bad 62
 | some ti=>match ti.kind with
   | .arr n e=>match te e,mx with
     | some te,none=>nL A n te m x lo hi
     | _,_=>.bad 52
   | .slice e=>match te e with
     | some te=>tN A te.size m x lo hi mx
     | none=>.bad 62
   | .str=>match x,mx with
     | .str _ s,none=>match bound true 0 lo,bound false (A.l s) hi with
       | some (_,l),some (_,h)=>lX A false l h (A.l s) (.leaf (.str false (A.s s l h)))
       | _,_=>.bad 60
     | _,_=>.bad 61
   | _=>.bad 62
def putCells(off:Nat)(new cs:List AV):Option (List AV):=
 match Nat.ble (off+new.length) cs.length with
 | true=>some (cs.take off++new++cs.drop (off+new.length))
 | false=>none
def yR(m:Mem)(fs:List (Nat×Nat×Bool)):List (Nat×AV)→List AV→Option (List AV)
 | [],cs=>some cs
 | (i,v)::ps,cs=>match fs[i]? with
   | none=>none
   | some (off,size,_)=>match v.known m&&Nat.beq v.cells.length size with
     | false=>none
     | true=>match putCells off v.cells cs with
       | none=>none
       | some cs'=>yR m fs ps cs'
def tY(m:Mem)(size:Nat):List (Nat×AV)→List AV→Option (List AV)
 | [],cs=>some cs
 | (i,v)::ps,cs=>match v.known m&&Nat.beq v.cells.length size with
   | false=>none
   | true=>match putCells (i*size) v.cells cs with
     | none=>none
     | some cs'=>tY m size ps cs'
def rF(m:Mem)(ti:Option TI)(te:Nat→Option TI)(ps:List (Nat×AV)):TV AV:=
 match ti with
 | some {kind:=.struct fs,zero:=z,.. }=>oh 63 ((yR m fs ps z).map .agg)
 | some {kind:=.arr _ e,zero:=z,.. }=>match te e with
   | some te=>oh 64 ((tY m te.size ps z).map .agg)
   | none=>.bad 65
 | _=>.bad 66
def ny(src dst:Option TI)(x:AV):TV AV:=
 match src,dst,x with
 | some _,some {kind:=.int k,.. },.int _ c n=>.leaf (lM A k c fun A=>A.v k n)
 | some _,some {kind:=.str,.. },.str c s=>.leaf (.str c s)
 | _,_,_=>.bad 67
def Au(ti:Option TI)(m:Mem)(x:AV):TV AV:=
 match ti,x with
 | some {kind:=.str,.. },.str c s=>match c with
   | true=>.leaf (.int .i64 true s.length)
   | false=>.leaf (.int .i64 false (A.l s))
 | some {kind:=.arr n _,.. },_=>match Nat.ble n 140737488355328 with|true=>.leaf (.int .i64 true n)|false=>.bad 68
 | some {kind:=.slice _,.. },.sl _ l=>.leaf (.int .i64 false (A.l l))
 | some {kind:=.slice _,.. },.bd _=>.leaf (.int .i64 true 0)
 | some {kind:=.slice _,.. },.jD id _ c _ n=>match (m.at id).eu with|true=>.bad 68|false=>.leaf (.int .i64 c n)
 | some {kind:=.slice _,.. },.own id=>match m.at id with
   | .arr _ _ l=>.leaf (.int .i64 false (A.l l))
   | _=>.bad 68
 | _,_=>.bad 69
def AN:List AV→TV AV
 | [.int k c a,.int k' c' b]=>match e_ k k' with|true=>.leaf (lM A k (c&&c') fun A=>A.mn a b)|false=>.bad 70
 | _=>.bad 70
def Bb:List AV→TV AV
 | [.int k c a,.int k' c' b]=>match e_ k k' with|true=>.leaf (lM A k (c&&c') fun A=>A.mx a b)|false=>.bad 71
 | _=>.bad 71
def wN(s d:Option TI)(te:Nat→Option TI)(t:Ty)(l:List t.T):Option (TV AV):=
 match s,d with
 | some {kind:=.slice e,.. },some {kind:=.str,.. }=>match te e with
   | some {kind:=.int .u8,.. }=>if h:t.beq (.int .u8)=true then some (.leaf (.str false (A.bytes (Ty.eq_of_beq h▸l:List (Ty.T (.int .u8)))))) else none
   | _=>none
 | _,_=>none
def fG{R:Type}(E:dE R)(ρ:Operand→AV)(m:Mem)(o:Oper):Option (TV AV):=
 match o.op with
 | .move x=>some (.leaf (ρ x))
 | .assign x=>some (.leaf (ρ x))
 | .pick c a b=>some (match ρ c with
   | .bool true v=>match v with|true=>.leaf (ρ a)|false=>.leaf (ρ b)
   | .bool false v=>.br v (.leaf (ρ a)) (.leaf (ρ b))
   | _=>.bad 72)
 | .load t p=>some (qo A (E.ti.get t) m (ρ p))
 | .nilCheck x=>some (match ρ x with
   | .ptr id off=>match m.at id with | .flat _ _=>.leaf (.ptr id off)|_=>.bad 73
   | .gY id i off=>match m.at id with | .arr _ _ _=>.leaf (.gY id i off)|_=>.bad 73
   | .lk t x off=>.leaf (.lk t x off)
   | .fn f a b=>.leaf (.fn f a b)
   | _=>.bad 73)
 | .binOp op t x y _=>some (y_ A m (E.ti.get t) op (ρ x) (ρ y))
 | .unOp op _ x=>some (Gu A op (ρ x))
 | .convert s d x=>match ρ x with
   | .int k c n=>some (ny A (E.ti.get s) (E.ti.get d) (.int k c n))
   | .str c n=>match E.ti.get d with
     | some {kind:=.str,.. }=>some (ny A (E.ti.get s) (E.ti.get d) (.str c n))
     | _=>none
   | .sl t l=>wN A (E.ti.get s) (E.ti.get d) E.ti.get t l
   | _=>none
 | .makeFunc (.func f) first caps=>some (.leaf (.fn f (first.toList.map ρ) (caps.toList.map ρ)))
 | .slice t x lo hi mx=>some (rA A (E.ti.get t) E.ti.get m (ρ x) (lo.map ρ) (hi.map ρ) (mx.map ρ))
 | .fieldAddr t x i=>some (jX m (E.ti.get t) (ρ x) i)
 | .field t x i=>some (rD (E.ti.get t) (ρ x) i)
 | .indexAddr t x i=>some (jM A (E.ti.get t) E.ti.get m (ρ x) (ρ i))
 | .index t x i=>some (rv A (E.ti.get t) E.ti.get (ρ x) (ρ i))
 | .extract t i=>some (match ρ t with
   | .mC vs=>oh 74 vs[i]?
   | _=>.bad 75)
 | .build t ps=>some (rF m (E.ti.get t) E.ti.get (ps.toList.map fun p=>(p.1,ρ p.2)))
 | .call {callee:=.builtin .len,args,argTypes}=>some (match args.toList,argTypes.toList with
   | [x],t::_=>Au A (E.ti.get t) m (ρ x)
   | _,_=>.bad 76)
 | .call {callee:=.builtin .min,args,.. }=>some (AN A (args.toList.map ρ))
 | .call {callee:=.builtin .max,args,.. }=>some (Bb A (args.toList.map ρ))
 | _=>none
def bG:Mem→List AV→Option (Mem×List AV)
 | m, []=>some (m, [])
 | m,v::vs=>
   match (match v with
    | .own id=>match m.at id with
      | .arr _ t x=>some (m.set id (.arr true t x),AV.sl t x)
      | _=>none
    | .jD id _ _ lo len=>match m.at id with
      | .arr _ t x=>some (m.set id (.arr true t x),AV.sl t (A.s x lo (A.b .add .i64 lo len)))
      | _=>none
    | v=>some (m,v)) with
   | none=>none
   | some (m,v)=>match bG m vs with
     | none=>none
     | some (m,vs)=>some (m,v::vs)
def sliceData(t:Ty)(m:Mem)(v:AV):Option (List t.T):=
 match v with
 | .sl t' x=>if h:t'.beq t=true then some (Ty.eq_of_beq h▸x) else none
 | .bd _=>some []
 | .own id=>match m.at id with
   | .arr _ t' x=>if h:t'.beq t=true then some (Ty.eq_of_beq h▸x) else none
   | _=>none
 | .jD id sz c lo len=>match m.at id with
   | .arr _ t' x=>if h:t'.beq t=true then some (A.s (Ty.eq_of_beq h▸x) lo (A.b .add .i64 lo len)) else none
   | .flat _ cs=>match c&&Nat.beq sz t.size with
     | true=>match aY (lo.toNat*t.size) (len.toNat*t.size) cs with
       | some l=>match bG A m l with
         | some (_,l)=>match kr (kG t) len.toNat l with
           | some (x,_)=>some x
           | none=>none
         | none=>none
       | none=>none
     | false=>none
   | _=>none
 | _=>none
def eU(t:Ty)(m:Mem)(v:AV):Option Mem:=
 match v with
 | .jD id _ _ lo len=>match m.at id with
   | .flat _ cs=>match aY (lo.toNat*t.size) (len.toNat*t.size) cs with
      | some l=>match bG A m l with
        | some (m',_)=>some m'
        | none=>none
      | none=>none
   | _=>some m
 | _=>some m
def xm(m:Mem)(p:AV)(new:List AV):Option Mem:=
 match p with
 | .ptr id off=>match m.at id with
   | .flat false cs=>match putCells off new cs with
     | some cs'=>some (m.set id (.flat false cs'))
     | none=>none
   | _=>none
 | .gY id i off=>match bG A m new with
   | none=>none
   | some (m,new)=>match m.at id with
     | .arr false t x=>match putCells off new (dT A t (A.n t x i)) with
       | some cs'=>match kG t cs' with
         | some (y, [])=>some (m.set id (.arr false t (A.set x i y)))
         | _=>none
       | none=>none
     | _=>none
 | .mW id off k t i=>match bG A m new with
   | none=>none
   | some (m,new)=>match m.at id with
     | .flat false cs=>match aY off (k*t.size) cs with
       | some l=>match kr (kG t) k l,kG t new with
         | some (x,_),some (y, [])=>match putCells off (dT A (.arr k t) (A.set x i y)) cs with
           | some cs'=>some (m.set id (.flat false cs'))
           | none=>none
         | _,_=>none
       | none=>none
     | _=>none
 | _=>none
def mM(m:Mem):List AV→Bool
 | []=>true
 | v::vs=>v.known m&&(v.Eo&&mM m vs)
def wA(ti:Option TI)(m:Mem)(p v:AV):TV Mem:=
 match ti with
 | none=>.bad 80
 | some ti=>match v.known m&&(Nat.beq v.cells.length ti.size&&mM m v.cells) with
   | false=>.bad 81
   | true=>oh 82 (xm A m p v.cells)
def room(bytes:Nat)(n:Int):Bool:=A.c .leq (A.b .mul .i64 n bytes) 140737488355328
def oR(t:Ty)(m:Mem)(v:AV):Option (AV×Mem):=
 match v with
 | .jD id sz true lo n=>match m.at id with
   | .flat false cs=>match decide (lo=0)&&(Nat.beq cs.length (n.toNat*t.size)&&(Nat.beq sz t.size && !Nat.beq t.size 0)) with
     | true=>match Nat.beq n.toNat 0 with
       | true=>some (.bd false,m)
       | false=>match bG A m cs with
         | some (m',cs')=>match kr (kG t) n.toNat cs' with
           | some (x, [])=>some (.own m'.length,m'.set id .dead ++ [.arr false t x])
           | _=>none
         | none=>none
     | false=>none
   | _=>none
 | v=>some (v,m)
def mR(t:Ty)(m:Mem)(v:AV):Option (AV×Mem):=
 match v with
 | .jD id sz c lo n=>match m.at id with
   | .flat _ cs=>match Nat.beq sz t.size&&(!Nat.beq t.size 0&&Nat.beq cs.length (cs.length/t.size*t.size)) with
     | true=>match bG A m cs with
       | some (m',cs')=>match kr (kG t) (cs.length/t.size) cs' with
         | some (x, [])=>some (.sl t (match c&&(decide (lo=0)&&decide (n=(cs.length/t.size:Nat))) with|true=>x|false=>A.s x lo (A.b .add .i64 lo n)),m'.set id (.flat true cs'))
         | _=>none
       | none=>none
     | false=>none
   | _=>none
 | _=>none
def dataPart(t:Ty)(m:Mem)(v:AV):Option (AV×Mem):=
 match v with
 | .jD id sz true lo n=>match m.at id with
   | .flat _ cs=>match Nat.beq sz t.size && !Nat.beq t.size 0 with
     | true=>match aY (lo.toNat*t.size) (n.toNat*t.size) cs with
       | some l=>match bG A m l with
         | some (m',l')=>match kr (kG t) n.toNat l',putCells (lo.toNat*t.size) l' cs with
           | some (x, []),some cs'=>some (.sl t x,m'.set id (.flat true cs'))
           | _,_=>none
         | none=>none
       | none=>none
     | false=>none
   | _=>none
 | _=>none
def qb(t:Ty)(m:Mem)(v:AV):Option (AV×Mem):=
 match mR A t m v with
 | some r=>some r
 | none=>dataPart A t m v
def su:AV→Option Bool
 | .jD _ _ true _ n=>some (decide (n=0))
 | .bd _=>some true
 | _=>none
def qf(t:Ty)(bytes:Nat)(m:Mem)(dst:AV)(y:List t.T)(lit:Option Bool):TV (AV×Mem):=
  match oR A t m dst with
  | none=>.bad 85
  | some (dst,m)=>match dst with
    | .bd b=>match lit with
      | some true=>.leaf (.bd b,m)
      | some false=>.need (A.c .leq (A.l y) (140737488355328/(bytes.max 1:Nat))) (.leaf (.own m.length,m ++ [.arr false t y]))
      | none=>.br (A.c .eql (A.l y) 0) (.leaf (.bd b,m)) (.need (A.c .leq (A.l y) (140737488355328/(bytes.max 1:Nat))) (.leaf (.own m.length,m ++ [.arr false t y])))
    | .own id=>match m.at id with
      | .arr false t' x=>if h:t'.beq t=true then
         .need (A.c .leq (A.l (A.p (Ty.eq_of_beq h▸x) y)) (140737488355328/(bytes.max 1:Nat)))
          (.leaf (.own m.length,m.set id .dead ++ [.arr false t (A.p (Ty.eq_of_beq h▸x) y)]))
        else .bad 83
      | _=>.bad 84
    | _=>.bad 85
def rQ(t:Ty)(bytes:Nat)(m:Mem)(dst src:AV):TV (AV×Mem):=
 match sliceData A t m src,eU A t m src with
 | some y,some m=>qf A t bytes m dst y (su src)
 | _,_=>.bad 86
def zz(t:Ty)(m:Mem)(dst src:AV):TV (AV×Mem):=
 match sliceData A t m src,eU A t m src with
 | some y,some m=>
   match dst with
   | .own id=>match m.at id with
     | .arr false t' x=>if h:t'.beq t=true then
        let z:List t.T:=Ty.eq_of_beq h▸x
        let n:=A.mn (A.l y) (A.l z)
        .leaf (.int .i64 false n,m.set id (.arr false t (A.spl z 0 (A.s y 0 n))))
       else .bad 87
     | _=>.bad 88
   | .jD id _ false lo len=>match m.at id with
     | .arr false t' x=>if h:t'.beq t=true then
        let z:List t.T:=Ty.eq_of_beq h▸x
        let n:=A.mn (A.l y) len
        .leaf (.int .i64 false n,m.set id (.arr false t (A.spl z lo (A.s y 0 n))))
       else .bad 89
     | _=>.bad 90
   | _=>.bad 91
 | _,_=>.bad 92
mutual
def Ty.leaves:Ty→List (Option Ty)
 | .slice t=>[some t]
 | .arr n t=>(List.replicate n t.leaves).flatten
 | .struct ts=>Ty.rE ts
 | _=>[none]
def Ty.rE:List Ty→List (Option Ty)
 | []=>[]
 | t::ts=>t.leaves++Ty.rE ts
end
def JX:iJ→Bool
 | .flat _ _=>true
 | _=>false
def n_(k:Option Ty)(m:Mem)(v:AV):Option (AV×Mem):=
 match k,v with
 | some t,.jD id sz c lo n=>match JX (m.at id) with
   | true=>qb A t m (.jD id sz c lo n)
   | false=>some (.jD id sz c lo n,m)
 | _,v=>some (v,m)
def oV:List (Option Ty)→Mem→List AV→Option (Mem×List AV)
 | [],m,cs=>some (m,cs)
 | _::_,m, []=>some (m, [])
 | k::ks,m,v::vs=>match n_ A k m v with
   | none=>none
   | some (v,m)=>match oV ks m vs with
     | none=>none
     | some (m,vs)=>some (m,v::vs)
def zK(t:Option Ty)(n:Nat)(m:Mem)(cs:List AV):Option (Mem×List AV):=
 match t with
 | none=>some (m,cs)
 | some t=>oV A (List.replicate n t.leaves).flatten m cs
def Js(q:Bool)(tv:TV (AV×Mem)):TV (AV×Mem):=
 match q with
 | false=>tv
 | true=>match tv with
   | .br b _ e=>.need (A.not b) e
   | .leaf (.bd _,_)=>.bad 118
   | tv=>tv
def kz{R:Type}(E:dE R)(fn:FuncId)(ρ:Operand→AV)(m:Mem)(o:Oper):TV (AV×Mem):=
 match o.op with
 | .alloc t=>match E.ti.get t with
   | some ti=>.leaf (.ptr m.length 0,m ++ [.flat false ti.zero])
   | none=>.bad 100
 | .box _ x=>match (ρ x).known m with
   | true=>.leaf (.ptr m.length 0,m ++ [.flat (sr E.consts fn o.dst) (ρ x).cells])
   | false=>.bad 99
 | .buildSlice t n ps=>match E.ti.get t with
   | some {kind:=.slice e,.. }=>match E.ti.get e with
     | some te=>match tY m te.size (ps.toList.map fun p=>(p.1,ρ p.2)) ((List.replicate n te.zero).flatten) with
       | some cs=>match Nat.ble (n*te.size) 16777216&&Nat.ble n 140737488355328 with
         | true=>match zK A te.ty n m cs with
           | some (m,cs)=>.leaf (.jD m.length te.size true 0 n,m ++ [.flat false cs])
           | none=>.bad 101
         | false=>.bad 101
       | none=>.bad 101
     | none=>.bad 102
   | _=>.bad 103
 | .makeSlice t l c=>match E.ti.get t with
   | some {kind:=.slice e,.. }=>match E.ti.get e with
     | some {ty:=some t,bytes,.. }=>match ρ l,ρ c with
       | .int _ _ n,.int _ _ n'=>.need (A.and (A.c .eql n n') (A.and (A.c .leq 0 n) (A.c .leq n (140737488355328/(bytes.max 1:Nat)))))
          (.leaf (.own m.length,m ++ [.arr false t (A.r n t.gB)]))
       | _,_=>.bad 104
     | _=>.bad 105
   | _=>.bad 106
 | .store t p x=>(wA A (E.ti.get t) m (ρ p) (ρ x)).map fun m=>(.undef,m)
 | .call {callee:=.builtin .append,args,argTypes}=>match args.toList,argTypes.toList with
   | [d,s],t::t'::_=>match E.ti.get t,E.ti.get t' with
     | some {kind:=.slice e,.. },some {kind:=.slice _,.. }=>match E.ti.get e with
       | some {ty:=some t,bytes,.. }=>Js A (EO E.stops fn o.dst) (rQ A t bytes m (ρ d) (ρ s))
       | _=>.bad 107
     | _,_=>.bad 109
   | _,_=>.bad 110
 | .call {callee:=.builtin .copy,args,argTypes}=>match args.toList,argTypes.toList with
   | [d,s],t::t'::_=>match E.ti.get t,E.ti.get t' with
     | some {kind:=.slice e,.. },some {kind:=.slice _,.. }=>match E.ti.get e with
       | some {ty:=some t,.. }=>zz A t m (ρ d) (ρ s)
       | _=>.bad 111
     | _,_=>.bad 112
   | _,_=>.bad 113
 | .convert s d x=>match E.ti.get s,E.ti.get d with
   | some {kind:=.slice e,.. },some {kind:=.str,.. }=>match E.ti.get e with
     | some {kind:=.int .u8,.. }=>match sliceData A (.int .u8) m (ρ x),eU A (.int .u8) m (ρ x) with
       | some l,some m=>.leaf (.str false (A.bytes l),m)
       | _,_=>.bad 114
     | _=>.bad 114
   | _,_=>.bad 116
 | _=>.bad 117
end
mutual
def CS:AV→List Nat
 | .own id=>[id]
 | .jD id _ _ _ _=>[id]
 | .ptr id _=>[id]
 | .gY id _ _=>[id]
 | .mW id _ _ _ _=>[id]
 | .yield l=>[l]
 | .fn _ a b=>qh a++qh b
 | .agg cs=>qh cs
 | .mC cs=>qh cs
 | _=>[]
def qh:List AV→List Nat
 | []=>[]
 | v::vs=>CS v++qh vs
end
def idxOf:List Nat→Nat→Nat→Nat
 | [],_,k=>k
 | i::r,n,k=>match Nat.beq i n with|true=>k|false=>idxOf r n (k+1)
mutual
def eQ(l:List Nat):AV→AV
 | .own id=>.own (idxOf l id 0)
 | .jD id sz _ lo len=>.jD (idxOf l id 0) sz false lo len
 | .ptr id off=>.ptr (idxOf l id 0) off
 | .gY id i off=>.gY (idxOf l id 0) i off
 | .mW id off n t i=>.mW (idxOf l id 0) off n t i
 | .yield id=>.yield (idxOf l id 0)
 | .fn f a b=>.fn f (iI l a) (iI l b)
 | .agg cs=>.agg (iI l cs)
 | .mC cs=>.mC (iI l cs)
 | .int k _ n=>.int k false n
 | .bool _ b=>.bool false b
 | .str _ s=>.str false s
 | .undef=>.undef
 | .sl t x=>.sl t x
 | .bd b=>.bd b
 | .lk t x off=>.lk t x off
 | .bP=>.bP
 | .fE=>.fE
def iI(l:List Nat):List AV→List AV
 | []=>[]
 | v::vs=>eQ l v::iI l vs
end
def xG:PT AV→List Nat
 | .leaf=>[]
 | .node l v r=>(match v with|some a=>CS a|none=>[])++(xG l++xG r)
def y2:iJ→List Nat
 | .flat _ cs=>qh cs
 | .loop r=>xG r.env
 | _=>[]
def nz:List Nat→Nat→Bool
 | [],_=>false
 | i::r,n=>match Nat.beq i n with|true=>true|false=>nz r n
def j5:List Nat→List Nat→List Nat
 | acc, []=>acc
 | acc,i::r=>match nz acc i with
   | true=>j5 acc r
   | false=>j5 (acc ++ [i]) r
def jj:Nat→Mem→List Nat→Nat→List Nat
 | 0,_,acc,_=>acc
 | f+1,m,acc,p=>match acc[p]? with
   | none=>acc
   | some id=>jj f m (j5 acc (y2 (m.at id))) (p+1)
def ik:aR→List Nat
 | .gI l=>[l]
 | .fS l=>[l]
 | _=>[]
def jN(l:List Nat):aR→aR
 | .gI id=>.gI (idxOf l id 0)
 | .fS id=>.fS (idxOf l id 0)
 | x=>x
def oW(l:List Nat):PT AV→PT AV
 | .leaf=>.leaf
 | .node a v b=>.node (oW l a) (match v with|some x=>some (eQ l x)|none=>none) (oW l b)
def iN(l:List Nat):iJ→iJ
 | .bad=>.dead
 | .dead=>.dead
 | .flat fz cs=>.flat fz (iI l cs)
 | .arr fz t x=>.arr fz t x
 | .loop r=>.loop {r with env:=oW l r.env}
 | .wS=>.wS
 | .yS=>.yS
def A6(e:Env):List Nat→List Nat
 | []=>[]
 | i::r=>CS (e.at i)++A6 e r
def AQ(i:Nat):Nat:=i%65536
def AU(e:Env)(i:Nat)(r:Env):Env:=
 match Nat.ble i 65535,e.at i with
 | true,.int k c n=>r.put i (.int k c n)
 | _,_=>r
def jU(l:List Nat)(e:Env):List Nat→Env
 | []=>.leaf
 | i::r=>match Nat.ble i 65535 with
   | true=>(jU l e r).put i (eQ l (e.at i))
   | false=>AU e (AQ i) (jU l e r)
def jW:List (List Nat)→List aH→List Nat
 | _, []=>[]
 | ks,f::fs=>A6 f.env (ks.headD [])++(f.marks++((match f.aU with|some l=>[l]|none=>[])++(f.todo.flatMap ik++jW ks.tail fs)))
def fj(l:List Nat):List (List Nat)→List aH→List aH
 | _, []=>[]
 | ks,f::fs=>{f with env:=jU l f.env (ks.headD []),todo:=f.todo.map (jN l),marks:=f.marks.map (idxOf l · 0),aU:=f.aU.map (idxOf l · 0)}::fj l ks.tail fs
def canon(ks:List (List Nat))(c:ei):ei:=
 let l:=jj (c.mem.length+1) c.mem (j5 [] (jW ks c.frames)) 0
 {frames:=fj l ks c.frames,mem:=(l.map fun id=>iN l (c.mem.at id)) ++ [.dead]}
def dI:Code→Option Nat
 | .region id _ _=>some id
 | .seq a b=>match dI a with|some i=>some i|none=>dI b
 | .block _ b=>dI b
 | .loop b=>dI b
 | .scope b=>dI b
 | .cond _ a b=>match dI a with|some i=>some i|none=>dI b
 | _=>none
def mm:List Stop→FuncId→Option Nat→Option (List (List Nat))
 | _,_,none=>none
 | [],_,_=>none
 | s::r,f,some i=>match Nat.beq s.fn f,Nat.beq s.Zi i with
   | true,true=>some s.keep
   | _,_=>mm r f (some i)
def tf:Option Code→Bool
 | none=>true
 | some _=>false
def qV:Option Code→Nat
 | none=>0
 | some _=>2
def eF(id:Nat):List aR→Option (List aR)
 | .inBlock id'::k=>match Nat.beq id' id with|true=>some k|false=>eF id k
 | _::k=>eF id k
 | []=>none
def eB(l:Nat):List aR→Option (List aR)
 | .inScope body::k=>match findLabel body l with
   | some rest=>some (.code rest :: .inScope body::k)
   | none=>eB l k
 | _::k=>eB l k
 | []=>none
def gk:List Ty→List AV→Bool
 | [], []=>true
 | t::ts,v::vs=>(match t.isAgg,v with
   | true,.agg cs=>Nat.beq cs.length t.size
   | true,_=>false
   | false,.agg _=>false
   | false,_=>true)&&gk ts vs
 | _,_=>false
def jr(A:bK):(ts:List Ty)→Ty.Ts ts→List AV
 | [],_=>[]
 | [t],x=>[Cu A t x]
 | t::t2::ts,x=>Cu A t (Prod.fst (α:=t.T) (β:=Ty.Ts (t2::ts)) x)::jr A (t2::ts) (Prod.snd (α:=t.T) (β:=Ty.Ts (t2::ts)) x)
def dO:List AV→AV
 | [v]=>v
 | vs=>.mC vs
def fC(A:bK)(ts:List Ty)(m:Mem)(cs:List AV):Option (Mem×List AV):=
 match oV A (Ty.rE ts) m cs with
 | none=>none
 | some (m,cs)=>bG A m cs
def jd(A:bK)(s:aG)(m:Mem)(aa:List AV):TV (AV×Mem):=
 match gk s.args aa with
 | false=>.bad 120
 | true=>match fC A s.args m (aa.flatMap AV.cells) with
   | none=>.bad 121
   | some (m,cs)=>match nF s.args cs with
     | some (x, [])=>.need (A.k s.pre x) (.leaf (dO (jr A s.res (A.k s.fn x)),m))
     | _=>.bad 122
def jI(A:bK)(s:yy)(m:Mem)(aa:List AV):TV (AV×Mem):=
 match aa with
 | .ptr id 0::rest=>match m.at id with
   | .flat _ cs=>match kG s.view cs with
     | some (x, [])=>match gk s.args rest with
       | false=>.bad 123
       | true=>match fC A s.args m (rest.flatMap AV.cells) with
         | none=>.bad 124
         | some (m,cs)=>match nF s.args cs,Ty.scalars s.res with
           | some (y, []),true=>.need (A.k s.pre (x,y)) (.leaf (dO (jr A s.res (A.k s.fn (x,y))),m))
           | _,_=>.bad 125
     | _=>.bad 126
   | _=>.bad 127
 | _=>.bad 128
def DO{α:Type}:TV α→Option α
 | .leaf a=>some a
 | _=>none
def lV(A:bK){R:Type}(E:dE R)(env:Env)(m:Mem):ResultVar→Option AV
 | .tmp t=>some (env.at t)
 | .cell a t=>DO (qo A (E.ti.get t) m (env.at a))
def fq(A:bK){R:Type}(E:dE R)(env:Env)(m:Mem):List ResultVar→Option (List AV)
 | []=>some []
 | r::rs=>match lV A E env m r with
   | none=>none
   | some v=>match fq A E env m rs with
     | none=>none
     | some vs=>some (v::vs)
def gx:List Nat→Mem→Option Mem
 | [],m=>some m
 | d::ds,m=>match m.at d with
   | .wS=>gx ds (m.set d .yS)
   | _=>none
def gp(n:Nat):Option Nat→Bool
 | none=>true
 | some d=>Nat.blt d n
def finish(g:aH)(v:AV):Option aH:=
 match g.todo with
 | .ops all (o::rest)::k=>match gp g.n o.dst with
   | true=>some {g with env:=g.env.dG o.dst v,todo:=.ops all rest::k}
   | false=>none
 | .iW all ms i rest bs::k=>match all[i]? with
   | some o=>match gp g.n o.dst with
     | true=>some {g with env:=g.env.dG o.dst v,todo:=.cK all ms rest bs::k}
     | false=>none
   | none=>none
 | .gI l::k=>some {g with todo:=.fS l::k}
 | _=>none
def fO(f:FuncId)(F:Func)(aa:List AV):Option aH:=
 match F.body with
 | none=>none
 | some b=>match Nat.ble aa.length F.ntmps,Nat.ble F.ntmps 65535 with
   | true,true=>some {fn:=f,n:=F.ntmps,env:=Env.of 0 aa .leaf,todo:=[.code b],marks:=[],aU:=none}
   | _,_=>none
def l6:List Nat→List AV→Env→Env
 | [],_,e=>e
 | _, [],e=>e
 | i::is,v::vs,e=>l6 is vs (e.put i v)
def jv(e:Edge):Bool:=
 match e.ground with
 | .textOnly _=>false
 | .gcOnly _=>false
 | _=>true
def fN(ms:List Nat):List Edge→Nat
 | []=>0
 | e::es=>match jv e with
   | true=>(2^e.on ||| ms.getD e.on 0) ||| fN ms es
   | false=>fN ms es
def fH:List Oper→List Nat→List Nat
 | [],ms=>ms
 | o::os,ms=>fH os (ms ++ [fN ms o.after.toList])
def gJ:Nat→List Oper→Bool
 | _, []=>true
 | i,o::os=>o.after.toList.all (fun e=>!jv e||Nat.blt e.on i)&&gJ (i+1) os
def tmpsOf:List Operand→List Nat
 | []=>[]
 | x::r=>match x with
   | .tmp t=>t::tmpsOf r
   | _=>tmpsOf r
def da(all:Array Oper)(o:Oper):List Nat:=
 match o.guard with
 | none=>[]
 | some (j,_)=>match all[j]? with
   | none=>[]
   | some p=>match p.dst with
     | some d=>[d]
     | none=>[]
def readsOf(all:Array Oper)(o:Oper):List Nat:=tmpsOf o.op.operands.toList++da all o
def isDst(d:Nat):Option Nat→Bool
 | some x=>Nat.beq x d
 | none=>false
def mB(all:Array Oper)(bs:List Nat)(d:Nat):Bool:=
 bs.all fun b=>match all[b]? with
  | some o=>!nz (readsOf all o) d
  | none=>false
def zC(all:Array Oper)(bs:List Nat)(d:Nat):Bool:=
 bs.all fun b=>match all[b]? with
  | some o=>!isDst d o.dst
  | none=>false
def ig(all:Array Oper)(bs:List Nat):Option Nat→Bool
 | none=>true
 | some d=>mB all bs d&&zC all bs d
def BN(all:Array Oper)(m:Nat)(bs:List Nat)(o:Oper):Bool:=
 bs.all fun b=>match all[b]? with
  | some p=>match p.dst with
    | some d=>!nz (readsOf all o) d||m.testBit b
    | none=>true
  | none=>false
def nW(all:Array Oper)(o:Oper):Bool:=
 match o.dst with
 | none=>true
 | some d=>!nz (readsOf all o) d
def lh(m:Nat)(o:Oper):Bool:=
 match o.guard with
 | none=>true
 | some (j,_)=>m.testBit j
def i7:List AV→Bool
 | []=>true
 | v::vs=>match v with
   | .own _=>false
   | .jD _ _ _ _ _=>false
   | _=>i7 vs
def fP:AV→AV→Prop
 | .bool _ a,.bool _ b=>a=b
 | .int k _ a,.int k' _ b=>k=k'∧a=b
 | x,y=>x=y
def kH(env:Env):Option Nat→AV→Prop
 | none,_=>True
 | some d,v=>fP v (env.at d)
def Nl(eH:List (FuncId×aG)):Op→Bool
 | .move _=>true | .assign _=>true | .pick _ _ _=>true | .load _ _=>true | .nilCheck _=>true | .binOp _ _ _ _ _=>true | .unOp _ _ _=>true
 | .convert _ _ _=>true | .makeFunc _ _ _=>true | .slice _ _ _ _ _=>true | .fieldAddr _ _ _=>true | .field _ _ _=>true | .indexAddr _ _ _=>true | .index _ _ _=>true
 | .extract _ _=>true | .build _ _=>true
 | .call c=>match c.callee with
   | .builtin b=>match b with | .len=>true | .min=>true | .max=>true|_=>false
   | .value x=>match x with | .func f=>(match look eH f with|some _=>true|none=>false)|_=>false
   | _=>false
 | _=>false
def EH(eH:List (FuncId×aG))(all:Array Oper)(ms:List Nat)(left:Nat):List Nat→Option Nat
 | []=>none
 | i::is=>match Nat.beq (ms.getD i 0 &&& left) 0,all[i]? with
   | true,some o=>match Nl eH o.op with|true=>some i|false=>EH eH all ms left is
   | _,_=>EH eH all ms left is
def ko:List Nat→Nat→List Nat
 | [],_=>[]
 | i::is,n=>match Nat.beq i n with|true=>is|false=>i::ko is n
def eager(eH:List (FuncId×aG))(all:Array Oper)(ms:List Nat):Nat→Nat→List Nat→List Nat
 | 0,_,_=>[]
 | f+1,left,is=>match EH eH all ms left is with
   | some i=>i::eager eH all ms f (left-2^i) (ko is i)
   | none=>match is with
     | []=>[]
     | i::is=>i::eager eH all ms f (left-2^i) is
def nodupB:List Nat→Bool
 | []=>true
 | i::is=>!nz is i&&nodupB is
def gw(eH:List (FuncId×aG))(os:Array Oper):Option (List Nat×List Nat):=
 let ms:=fH os.toList []
 let is:=eager eH os ms os.size (2^os.size-1) (List.range os.size)
 match gJ 0 os.toList&&(nodupB is&&(is.all (fun i=>Nat.blt i os.size)&&(List.range os.size).all (fun i=>nz is i))) with
 | true=>some (ms,is)
 | false=>none
def j3(j:Nat)(rest:List Nat):Nat→List Nat→List Nat
 | _, []=>[]
 | k,m::ms=>(match nz rest k && !Nat.beq k j with|true=>m ||| 2^j|false=>m)::j3 j rest (k+1) ms
def A1:List Nat→Nat
 | []=>0
 | i::r=>2^i ||| A1 r
def wE(ms rest:List Nat)(j:Nat):Bool:=rest.all fun b=>!(ms.getD j 0).testBit b
def vx(eH:List (FuncId×aG))(all:Array Oper)(ms rest:List Nat)(j:Nat):Option (List Nat×List Nat):=
 let r:=ko rest j
 let ms':=j3 j rest 0 ms
 let is:=eager eH all ms' r.length (A1 r) r
 match nodupB (j::is)&&(is.all (fun i=>nz r i)&&r.all (fun i=>nz is i)) with
 | true=>some (ms',j::is)
 | false=>none
def vP{R:Type}(K:Nat→Tr R):List Nat→Tr R
 | []=>.bad 181 ""
 | j::js=>match js with
   | []=>K j
   | _::_=>.and (K j) (vP K js)
def iY(m:Nat)(bs:List Nat):List Nat:=bs.filter fun b=>!m.testBit b
def gg(all:Array Oper)(env:Env)(o:Oper):Option Bool:=
 match o.guard with
 | none=>some true
 | some (j,want)=>match all[j]? with
   | none=>none
   | some p=>match p.dst with
     | none=>none
     | some d=>match env.at d with
       | .bool c v=>match c with
         | true=>match v,want with
           | true,true=>some true
           | false,false=>some true
           | _,_=>some false
         | false=>none
       | .mC []=>some false
       | _=>none
section
variable (A:bK) {R:Type} (E:dE R)
def oE(all:Array Oper)(env:Env)(o:Oper)(yes no:Env→Tr R):Tr R:=
 match o.guard with
 | none=>yes env
 | some (j,want)=>match all[j]? with
   | none=>.bad 130 o.pos
   | some p=>match p.dst with
     | none=>.bad 131 o.pos
     | some d=>match env.at d with
       | .bool c v=>match c with
         | true=>match v,want with
           | true,true=>yes env
           | false,false=>yes env
           | _,_=>no env
         | false=>match want with
           | true=>.br v (yes (env.put d (.bool true true))) (no (env.put d (.bool true false)))
           | false=>.br v (no (env.put d (.bool true true))) (yes (env.put d (.bool true false)))
       | .mC []=>no env
       | _=>.bad 132 o.pos
def mG(m:Mem)(ρ:Operand→AV)(o:Oper):Option (TV AV):=
 match o.op with
 | .call c=>match c.callee with
   | .value x=>match ρ x with
     | .fn g first caps=>match look E.eH g with
       | some s=>match i7 ((first++(c.args.toList.map ρ++caps)).flatMap AV.cells) with
         | true=>some ((jd A s m (first++(c.args.toList.map ρ++caps))).map Prod.fst)
         | false=>none
       | none=>none
     | _=>none
   | _=>none
 | _=>none
def FZ(m:Mem)(ρ:Operand→AV)(o:Oper):Option (TV AV):=
 match fG A E ρ m o with
 | some tv=>some tv
 | none=>mG A E m ρ o
def yj(env:Env):Option Nat→AV→Tr R→Tr R
 | none,_,t=>t
 | some d,v,t=>.same v (env.at d) t
def gT(env:Env)(m:Mem)(all:Array Oper):List Nat→Tr R→Tr R
 | [],t=>t
 | b::bs,t=>match all[b]? with
   | none=>.bad 170 ""
   | some o=>match gg all env o with
     | none=>.bad 171 o.pos
     | some false=>yj env o.dst (.mC []) (gT env m all bs t)
     | some true=>match FZ A E m (dd env) o with
       | none=>.bad 172 o.pos
       | some tv=>tv.bind o.pos fun v=>yj env o.dst v (gT env m all bs t)
def kY(f:aH)(m:Mem)(t:Tr R):Tr R:=
 match f.todo with
 | .cK all _ _ bs::_=>gT A E f.env m all bs t
 | _=>t
def xb(all:Array Oper)(bs:List Nat)(env:Env)(o:Oper)(yes no:Env→Tr R):Tr R:=
 match gg all env o with
 | some true=>yes env
 | some false=>no env
 | none=>match da all o with
   | [d]=>match mB all bs d with
     | true=>oE all env o yes no
     | false=>.bad 173 o.pos
   | _=>.bad 174 o.pos
def run:Nat→ei→Tr R
 | 0,c=>.more c
 | n+1,c=>
   match c.frames with
   | []=>.bad 140 ""
   | f::fs=>
     let back (g:aH) (gs:List aH) (m:Mem):Tr R:=kY A E g m (run n {frames:=g::gs,mem:=m})
     let leave (jump:Option Code):Tr R:=
      match f.aU with
      | none=>match gx f.marks c.mem with
        | none=>.bad 139 ""
        | some m=>match look E.jo f.fn with
          | none=>.bad 141 ""
          | some F=>match fq A E f.env m F.results.toList with
            | none=>.bad 142 ""
            | some vs=>match fs with
              | []=>match E.fin (dO vs) m with
                | some y=>.ret y
                | none=>.bad 143 ""
              | g::gs=>match finish g (dO vs) with
                | some g=>back g gs m
                | none=>.bad 144 ""
      | some l=>match c.mem.at l with
        | .loop r=>match fs with
          | g::gs=>match finish g (.bool true (tf jump)) with
            | some g=>back g gs (c.mem.set l (.loop {r with state:=qV jump,pending:=jump}))
            | none=>.bad 145 ""
          | []=>.bad 146 ""
        | _=>.bad 147 ""
     let enter (g:FuncId) (pos:String) (aa:List AV) (below:aH):Tr R:=
      match look E.jo g with
      | none=>.bad 163 pos
      | some G=>match fO g G aa with
        | none=>.bad 164 pos
        | some h=>run n {frames:=h::below::fs,mem:=c.mem}
     let yield (l:Nat) (pos:String) (aa:List AV) (below:aH):Tr R:=
      match c.mem.at l with
      | .loop r=>match Nat.beq r.params.length aa.length&&r.params.all (fun p=>Nat.blt p r.n) with
        | true=>run n {frames:={fn:=r.fn,n:=r.n,env:=l6 r.params aa r.env,todo:=[.code r.assign,.beginRound,.code r.body],marks:=[],aU:=some l}::below::fs,mem:=c.mem}
        | false=>.bad 165 pos
      | _=>.bad 166 pos
     match f.todo with
     | []=>leave none
     | i::k=>match i with
       | .inBlock _=>run n {c with frames:={f with todo:=k}::fs}
       | .inScope _=>run n {c with frames:={f with todo:=k}::fs}
       | .inLoop body=>match mm E.stops f.fn (dI body) with
         | some ks=>.more (canon ks c)
         | none=>run n {c with frames:={f with todo:=.code body :: .inLoop body::k}::fs}
       | .gI _=>.bad 148 ""
       | .iW _ _ _ _ _=>.bad 148 ""
       | .fS l=>match c.mem.at l with
         | .loop r=>match Nat.beq r.state 1 with
           | true=>.bad 149 ""
           | false=>run n {frames:={f with todo:=(match r.pending with|some j=>.code j::k|none=>k)}::fs,mem:=c.mem.set l (.loop {r with state:=3})}
         | _=>.bad 150 ""
       | .beginRound=>match f.aU with
         | some l=>match c.mem.at l with
           | .loop r=>match Nat.beq r.state 0 with
             | true=>run n {frames:={f with todo:=k}::fs,mem:=c.mem.set l (.loop {r with state:=1})}
             | false=>.bad 151 ""
           | _=>.bad 152 ""
         | none=>.bad 153 ""
       | .code x=>match x with
         | .skip=>run n {c with frames:={f with todo:=k}::fs}
         | .label _=>run n {c with frames:={f with todo:=k}::fs}
         | .ret=>leave (some .ret)
         | .seq a b=>run n {c with frames:={f with todo:=.code a :: .code b::k}::fs}
         | .cond x a b=>match dd f.env x with
           | .bool c1 v=>match c1 with
             | true=>match v with
               | true=>run n {c with frames:={f with todo:=.code a::k}::fs}
               | false=>run n {c with frames:={f with todo:=.code b::k}::fs}
             | false=>.br v (run n {c with frames:={f with todo:=.code a::k}::fs}) (run n {c with frames:={f with todo:=.code b::k}::fs})
           | _=>.bad 154 ""
         | .block id b=>run n {c with frames:={f with todo:=.code b :: .inBlock id::k}::fs}
         | .loop b=>run n {c with frames:={f with todo:=.inLoop b::k}::fs}
         | .scope b=>run n {c with frames:={f with todo:=.code b :: .inScope b::k}::fs}
         | .exit id=>match eF id k with
           | some k=>run n {c with frames:={f with todo:=k}::fs}
           | none=>match f.aU with
             | some _=>leave (some (.exit id))
             | none=>.bad 155 ""
         | .goto l=>match eB l k with
           | some k=>run n {c with frames:={f with todo:=k}::fs}
           | none=>match f.aU with
             | some _=>leave (some (.goto l))
             | none=>.bad 156 ""
         | .refuse _=>.bad 157 ""
         | .rangeFunc x ps a b=>match dd f.env x with
           | .fn g [] caps=>
             let dm:Option (List Nat×Mem):=match f.aU with
              | none=>some (c.mem.length::f.marks,c.mem ++ [.wS])
              | some l0=>match c.mem.at l0 with
                | .loop _=>some (f.marks,c.mem)
                | _=>none
             match dm with
             | none=>.bad 158 ""
             | some (marks,m)=>match look E.jo g with
               | none=>.bad 159 ""
               | some G=>match fO g G (.yield m.length::caps) with
                 | none=>.bad 160 ""
                 | some h=>run n {frames:=h :: {f with todo:=.gI m.length::k,marks:=marks}::fs,mem:=m ++ [.loop {fn:=f.fn,n:=f.n,env:=f.env,params:=ps.toList,assign:=a,body:=b,state:=0,pending:=none}]}
           | _=>.bad 161 ""
         | .region id os draw=>match mm E.jf f.fn (some id) with
           | some ks=>.more (canon ks c)
           | none=>match draw with
             | false=>run n {c with frames:={f with todo:=.ops os os.toList::k}::fs}
             | true=>match gw E.eH os with
               | some (ms,is)=>run n {c with frames:={f with todo:=.cK os ms is []::k}::fs}
               | none=>.bad 175 ""
       | .ops all rest=>match rest with
         | []=>run n {c with frames:={f with todo:=k}::fs}
         | o::rest=>match gp f.n o.dst with
           | false=>.bad 162 o.pos
           | true=>oE all f.env o
             (fun env=>
               let next (v:AV) (m:Mem):Tr R:=run n {frames:={f with env:=env.dG o.dst v,todo:=.ops all rest::k}::fs,mem:=m}
               match fG A E (dd env) c.mem o with
               | some tv=>tv.bind o.pos fun v=>next v c.mem
               | none=>match o.op with
                 | .call {callee:=.value x,args,.. }=>match dd env x with
                   | .fn g first caps=>match look E.eH g with
                     | some s=>(jd A s c.mem (first++(args.toList.map (dd env)++caps))).bind o.pos fun p=>next p.1 p.2
                     | none=>match look E.Av g with
                       | some s=>(jI A s c.mem (first++(args.toList.map (dd env)++caps))).bind o.pos fun p=>next p.1 p.2
                       | none=>enter g o.pos (first++(args.toList.map (dd env)++caps)) {f with env:=env}
                   | .yield l=>yield l o.pos (args.toList.map (dd env)) {f with env:=env}
                   | _=>.bad 167 o.pos
                 | _=>(kz A E f.fn (dd env) c.mem o).bind o.pos fun p=>next p.1 p.2)
             (fun env=>run n {c with frames:={f with env:=env.dG o.dst (.mC []),todo:=.ops all rest::k}::fs})
       | .cK all ms rest bs=>match rest with
         | []=>run n {c with frames:={f with todo:=k}::fs}
         | i::rest=>match all[i]? with
           | none=>.bad 176 ""
           | some o=>match gp f.n o.dst&&(BN all (ms.getD i 0) bs o&&lh (ms.getD i 0) o) with
             | false=>.bad 177 o.pos
             | true=>xb all bs f.env o
               (fun env=>match FZ A E c.mem (dd env) o,ig all bs o.dst&&nW all o with
                 | some tv,true=>tv.bind o.pos fun v=>run n {c with frames:={f with env:=env.dG o.dst v,todo:=.cK all ms rest (i::bs)::k}::fs}
                 | _,_=>match rest.all (fun j=>(ms.getD j 0).testBit i) with
                  | false=>vP (fun j=>match vx E.eH all ms (i::rest) j with
                     | some (ms',is)=>run n {frames:={f with env:=env,todo:=.cK all ms' is bs::k}::fs,mem:=c.mem}
                     | none=>.bad 180 o.pos) ((i::rest).filter (wE ms (i::rest)))
                  | true=>match ig all (iY (ms.getD i 0) bs) o.dst with
                   | false=>.bad 178 o.pos
                   | true=>
                     let next (v:AV) (m:Mem):Tr R:=gT A E (env.dG o.dst v) m all (iY (ms.getD i 0) bs) (run n {frames:={f with env:=env.dG o.dst v,todo:=.cK all ms rest (iY (ms.getD i 0) bs)::k}::fs,mem:=m})
                     let below:aH:={f with env:=env,todo:=.iW all ms i rest (iY (ms.getD i 0) bs)::k}
                     match fG A E (dd env) c.mem o with
                     | some tv=>tv.bind o.pos fun v=>next v c.mem
                     | none=>match o.op with
                       | .call {callee:=.value x,args,.. }=>match dd env x with
                         | .fn g first caps=>match look E.eH g with
                           | some s=>(jd A s c.mem (first++(args.toList.map (dd env)++caps))).bind o.pos fun p=>next p.1 p.2
                           | none=>match look E.Av g with
                             | some s=>(jI A s c.mem (first++(args.toList.map (dd env)++caps))).bind o.pos fun p=>next p.1 p.2
                             | none=>enter g o.pos (first++(args.toList.map (dd env)++caps)) below
                         | .yield l=>yield l o.pos (args.toList.map (dd env)) below
                         | _=>.bad 167 o.pos
                       | _=>(kz A E f.fn (dd env) c.mem o).bind o.pos fun p=>next p.1 p.2)
               (fun env=>match ig all bs o.dst&&nW all o with
                 | true=>run n {c with frames:={f with env:=env.dG o.dst (.mC []),todo:=.cK all ms rest (i::bs)::k}::fs}
                 | false=>.bad 179 o.pos)
def Tr.Ok(Q:R→Prop)(G:ei→Prop):Tr R→Prop
 | .ret y=>Q y
 | .more c=>G c
 | .br b t e=>(b=true→Tr.Ok Q G t)∧(b=false→Tr.Ok Q G e)
 | .need b t=>b=true∧Tr.Ok Q G t
 | .eqs p t=>p∧Tr.Ok Q G t
 | .same l r t=>fP l r∧Tr.Ok Q G t
 | .and a b=>Tr.Ok Q G a∧Tr.Ok Q G b
 | .bad _ _=>False
end
def EE(A:bK)(res:List Ty)(v:AV)(m:Mem):Option (Ty.Ts res):=
 match (match res with | [_]=>some [v]|_=>match v with | .mC vs=>some vs|_=>none:Option (List AV)) with
 | none=>none
 | some vs=>match gk res vs with
   | false=>none
   | true=>match fC A res m (vs.flatMap AV.cells) with
     | none=>none
     | some (_,cs)=>match nF res cs with
       | some (y, [])=>some y
       | _=>none
def jm(g:FuncId)(F:Func)(aa:List AV):ei:=
 match fO g F aa with
 | some h=>{frames:=[h],mem:=[]}
 | none=>{frames:=[],mem:=[]}
def Code.Di:Code→List Nat→Code
 | c, []=>c
 | .seq a b,i::r=>match i with|0=>Code.Di a r|_=>Code.Di b r
 | .cond _ a b,i::r=>match i with|0=>Code.Di a r|_=>Code.Di b r
 | .block _ b,_::r=>Code.Di b r
 | .loop b,_::r=>Code.Di b r
 | .scope b,_::r=>Code.Di b r
 | .rangeFunc _ _ a b,i::r=>match i with|0=>Code.Di a r|_=>Code.Di b r
 | _,_::_=>.skip
def Dy(F:Func):Code:=match F.body with|some b=>b|none=>.skip
def opsOf:Code→Array Oper
 | .region _ os _=>os
 | _=>#[]
def advance(eH:List (FuncId×aG))(c:ei):ei:=
 match c.frames with
 | []=>c
 | f::fs=>match f.todo with
   | .inLoop b::k=>{c with frames:={f with todo:=.code b :: .inLoop b::k}::fs}
   | .code (.region _ os false)::k=>{c with frames:={f with todo:=.ops os os.toList::k}::fs}
   | .code (.region _ os true)::k=>match gw eH os with
     | some (ms,is)=>{c with frames:={f with todo:=.cK os ms is []::k}::fs}
     | none=>c
   | _=>c
end Go.Ev
namespace Go.Ev
def cY:Nat:=140737488355328
theorem bX:cY=140737488355328:=rfl
structure St where
 σ:Nat→Nat
 δ:Nat→Nat
 I:Nat→Prop
def eT(w:World)(b off:Nat)(us:List Value):Prop:=
 ∀(j:Nat) (u:Value),us[j]? = some u→w.cell? ⟨b,off+j,none⟩=some u
mutual
def aP(w:World)(I:Nat→Prop):(t:Ty)→List Value→t.T→Prop
 | .int k,cs,x=>cs=[.int k x]∧k.has x
 | .bool,cs,x=>cs=[.bool x]
 | .str,cs,x=>cs=[.string ⟨(show List UInt8 from x).toArray⟩]∧(show List UInt8 from x).length≤cY
 | .slice t,cs,x=>∃(a:Option Addr) (cap:Nat),cs=[.slice a (show List t.T from x).length cap]∧(show List t.T from x).length≤cap∧(show List t.T from x).length≤cY∧
    (a=none→cap=0)∧
    ∀(i:Nat) (y:t.T),(show List t.T from x)[i]? = some y→∃b off us,a=some ⟨b,off,none⟩∧I b∧us.length=t.size∧eT w b (off+i*t.size) us∧aP w I t us y
 | .arr n t,cs,x=>(show List t.T from x).length=n∧cs.length=n*t.size∧
    ∀(i:Nat) (y:t.T),(show List t.T from x)[i]? = some y→aP w I t ((cs.drop (i*t.size)).take t.size) y
 | .struct ts,cs,x=>cm w I ts cs x
 | .any n,cs,_=>cs.length=n
def cm(w:World)(I:Nat→Prop):(ts:List Ty)→List Value→Ty.Ts ts→Prop
 | [],cs,_=>cs=[]
 | [t],cs,x=>aP w I t cs x
 | t::t2::ts,cs,x=>∃us vs,cs=us++vs∧aP w I t us (Prod.fst (α:=t.T) (β:=Ty.Ts (t2::ts)) x)∧cm w I (t2::ts) vs (Prod.snd (α:=t.T) (β:=Ty.Ts (t2::ts)) x)
end
mutual
theorem aP.length{w:World}{I:Nat→Prop}:∀(t:Ty) {cs:List Value} {x:t.T},aP w I t cs x→cs.length=t.size
 | .int k,cs,x,h=>by rw[aP] at h;rw[h.1];rfl
 | .bool,cs,x,h=>by rw[aP] at h;rw[h];rfl
 | .str,cs,x,h=>by rw[aP] at h;rw[h.1];rfl
 | .slice t,cs,x,h=>by rw[aP] at h;obtain⟨a,cap,h,_⟩:=h;rw[h];rfl
 | .arr n t,cs,x,h=>by rw[aP] at h;rw[h.2.1,Ty.size]
 | .struct ts,cs,x,h=>by rw[aP] at h;rw[Ty.size];exact cm.length ts h
 | .any n,cs,x,h=>by rw[aP] at h;rw[h];rfl
theorem cm.length{w:World}{I:Nat→Prop}:∀(ts:List Ty) {cs:List Value} {x:Ty.Ts ts},cm w I ts cs x→cs.length=Ty.qH ts
 | [],cs,x,h=>by rw[cm] at h;rw[h];rfl
 | [t],cs,x,h=>by rw[cm] at h;simp only[Ty.qH,Nat.add_zero];exact aP.length t h
 | t::t2::ts,cs,x,h=>by
   rw[cm] at h
   obtain⟨us,vs,rfl,h1,h2⟩:=h
   rw[List.length_append,aP.length t h1,cm.length (t2::ts) h2]
   simp only[Ty.qH]
end
theorem eT.mono{w w':World}{b off:Nat}{us:List Value}(h:eT w b off us)(hb:w'.heap[b]? = w.heap[b]?):eT w' b off us:=
 fun j u hj=>(World.cell?_of_block (w:=w) (a:=⟨b,off+j,none⟩) hb).trans (h j u hj)
mutual
theorem aP.mono{w w':World}{I I':Nat→Prop}(hI:∀b,I b→I' b∧w'.heap[b]? = w.heap[b]?):∀(t:Ty) {cs:List Value} {x:t.T},aP w I t cs x→aP w' I' t cs x
 | .int k,cs,x,h=>by rw[aP] at h ⊢;exact h
 | .bool,cs,x,h=>by rw[aP] at h ⊢;exact h
 | .str,cs,x,h=>by rw[aP] at h ⊢;exact h
 | .slice t,cs,x,h=>by
   rw[aP] at h ⊢
   obtain⟨a,cap,h1,h2,h3,h4,h5⟩:=h
   refine⟨a,cap,h1,h2,h3,h4,fun i y hy=>?_⟩
   obtain⟨b,off,us,ha,hb,hl,hr,hc⟩:=h5 i y hy
   exact⟨b,off,us,ha,(hI b hb).1,hl,hr.mono (hI b hb).2,aP.mono hI t hc⟩
 | .arr n t,cs,x,h=>by
   rw[aP] at h ⊢
   exact⟨h.1,h.2.1,fun i y hy=>aP.mono hI t (h.2.2 i y hy)⟩
 | .struct ts,cs,x,h=>by rw[aP] at h ⊢;exact cm.mono hI ts h
 | .any n,cs,x,h=>by rw[aP] at h ⊢;exact h
theorem cm.mono{w w':World}{I I':Nat→Prop}(hI:∀b,I b→I' b∧w'.heap[b]? = w.heap[b]?):∀(ts:List Ty) {cs:List Value} {x:Ty.Ts ts},cm w I ts cs x→cm w' I' ts cs x
 | [],cs,x,h=>by rw[cm] at h ⊢;exact h
 | [t],cs,x,h=>by rw[cm] at h ⊢;exact aP.mono hI t h
 | t::t2::ts,cs,x,h=>by
   rw[cm] at h ⊢
   obtain⟨us,vs,h0,h1,h2⟩:=h
   exact⟨us,vs,h0,aP.mono hI t h1,cm.mono hI (t2::ts) h2⟩
end
def iB(w:World)(I:Nat→Prop)(t:Ty)(v:Value)(x:t.T):Prop:=
 if t.isAgg=true then ∃us:Array Value,v=.agg us∧aP w I t us.toList x else aP w I t [v] x
def gu(w:World)(I:Nat→Prop):(ts:List Ty)→List Value→Ty.Ts ts→Prop
 | [],vs,_=>vs=[]
 | [t],vs,x=>∃v,vs=[v]∧iB w I t v x
 | t::t2::ts,vs,x=>∃v r,vs=v::r∧iB w I t v (Prod.fst (α:=t.T) (β:=Ty.Ts (t2::ts)) x)∧gu w I (t2::ts) r (Prod.snd (α:=t.T) (β:=Ty.Ts (t2::ts)) x)
mutual
def CR(w:World)(S:St)(m:Mem):AV→Value→Prop
 | .undef,_=>True
 | .int k _ n,v=>v=.int k n∧k.has n
 | .bool _ b,v=>v=.bool b
 | .str _ s,v=>v=.string ⟨s.toArray⟩∧s.length≤cY
 | .sl t x,v=>aP w S.I (.slice t) [v] x
 | .bd b,v=>∃a,v=.slice a 0 0∧(b=true→a=none)
 | .own id,v=>match m.at id with
   | .arr _ t x=>∃cap,v=.slice (some ⟨S.σ id,S.δ id,none⟩) x.length cap∧x.length≤cap∧(∃us T fr,w.heap[S.σ id]? = some (.cells us T fr)∧S.δ id+cap*t.size≤us.size)
   | .dead=>True
   | _=>False
 | .jD id sz _ lo len,v=>match m.at id with
   | .arr _ t x=>∃(l n cap:Nat) (a:Option Addr),lo=l∧len=n∧sz=t.size∧l+n≤x.length∧n≤cap∧(a=none→cap=0)∧v=.slice a n cap∧(n≠0→a=some ⟨S.σ id,S.δ id+l*sz,none⟩)
   | .flat _ cs=>∃(l n cap:Nat) (a:Option Addr),lo=l∧len=n∧l+n≤cY∧(l+cap)*sz≤cs.length∧n≤cap∧(a=none→cap=0)∧v=.slice a n cap∧(n≠0→a=some ⟨S.σ id,l*sz,none⟩)
   | .dead=>True
   | _=>False
 | .ptr id off,v=>match m.at id with
   | .flat _ _=>v=.pointer (some ⟨S.σ id,off,none⟩)
   | .dead=>True
   | _=>False
 | .gY id i off,v=>match m.at id with
   | .arr _ t x=>∃k:Nat,i=k∧k<x.length∧v=.pointer (some ⟨S.σ id,S.δ id+k*t.size+off,none⟩)
   | .dead=>True
   | _=>False
 | .mW id off n t i,v=>match m.at id with
   | .flat _ _=>∃k:Nat,i=k∧k<n∧v=.pointer (some ⟨S.σ id,off+k*t.size,none⟩)
   | .dead=>True
   | _=>False
 | .lk t x off,v=>∃b o us,v=.pointer (some ⟨b,o+off,none⟩)∧S.I b∧us.length=t.size∧eT w b o us∧aP w S.I t us x
 | .bP,v=>v=.pointer none
 | .fn f a c,v=>∃us vs:Array Value,v=.func (.func f) us vs∧bF w S m a us.toList∧bF w S m c vs.toList
 | .yield l,v=>match m.at l with
   | .loop _=>v=.func (.yield (S.σ l)) #[] #[]
   | .dead=>True
   | _=>False
 | .fE,v=>v=.nilFunc
 | .agg cs,v=>∃us:Array Value,v=.agg us∧bF w S m cs us.toList
 | .mC cs,v=>∃us:Array Value,v=.tuple us∧bF w S m cs us.toList
def bF(w:World)(S:St)(m:Mem):List AV→List Value→Prop
 | [],vs=>vs=[]
 | a::as',vs=>∃v r,vs=v::r∧CR w S m a v∧bF w S m as' r
end
section
variable {w:World} {S:St} {m:Mem} {v:Value}
theorem du:CR w S m .undef v:=by rw[CR];trivial
theorem bC{k:IntKind}{c:Bool}{n:Int}:CR w S m (.int k c n) v↔v=.int k n∧k.has n:=by rw[CR]
theorem cu{c b:Bool}:CR w S m (.bool c b) v↔v=.bool b:=by rw[CR]
theorem ez{c:Bool}{s:List UInt8}:CR w S m (.str c s) v↔v=.string ⟨s.toArray⟩∧s.length≤cY:=by rw[CR]
theorem iz{t:Ty}{x:List t.T}:CR w S m (.sl t x) v↔aP w S.I (.slice t) [v] x:=by rw[CR]
theorem dX{b:Bool}:CR w S m (.bd b) v↔∃a,v=.slice a 0 0∧(b=true→a=none):=by rw[CR]
theorem kM{t:Ty}{x:t.T}{off:Nat}:CR w S m (.lk t x off) v↔∃b o us,v=.pointer (some ⟨b,o+off,none⟩)∧S.I b∧us.length=t.size∧eT w b o us∧aP w S.I t us x:=by rw[CR]
theorem fI:CR w S m .bP v↔v=.pointer none:=by rw[CR]
theorem mr{f:FuncId}{a c:List AV}:CR w S m (.fn f a c) v↔∃us vs:Array Value,v=.func (.func f) us vs∧bF w S m a us.toList∧bF w S m c vs.toList:=by rw[CR]
theorem gM:CR w S m .fE v↔v=.nilFunc:=by rw[CR]
theorem jc{cs:List AV}:CR w S m (.agg cs) v↔∃us:Array Value,v=.agg us∧bF w S m cs us.toList:=by rw[CR]
theorem ib{cs:List AV}:CR w S m (.mC cs) v↔∃us:Array Value,v=.tuple us∧bF w S m cs us.toList:=by rw[CR]
theorem bu{vs:List Value}:bF w S m [] vs↔vs=[]:=by rw[bF]
theorem bY{a:AV}{cs:List AV}{vs:List Value}:bF w S m (a::cs) vs↔∃v r,vs=v::r∧CR w S m a v∧bF w S m cs r:=by rw[bF]
theorem ju{I:Nat→Prop}{k:IntKind}{cs:List Value}{x:Int}:aP w I (.int k) cs x↔cs=[.int k x]∧k.has x:=Iff.rfl
theorem pN{I:Nat→Prop}{cs:List Value}{x:Bool}:aP w I .bool cs x↔cs=[.bool x]:=Iff.rfl
theorem oc{I:Nat→Prop}{cs:List Value}{x:List UInt8}:aP w I .str cs x↔cs=[.string ⟨x.toArray⟩]∧x.length≤cY:=Iff.rfl
theorem bA{I:Nat→Prop}{t:Ty}{cs:List Value}{x:List t.T}:aP w I (.slice t) cs x↔∃(a:Option Addr) (cap:Nat),cs=[.slice a x.length cap]∧x.length≤cap∧x.length≤cY∧
   (a=none→cap=0)∧
   ∀(i:Nat) (y:t.T),x[i]? = some y→∃b off us,a=some ⟨b,off,none⟩∧I b∧us.length=t.size∧eT w b (off+i*t.size) us∧aP w I t us y:=Iff.rfl
theorem nX{I:Nat→Prop}{n:Nat}{t:Ty}{cs:List Value}{x:List t.T}:aP w I (.arr n t) cs x↔x.length=n∧cs.length=n*t.size∧
   ∀(i:Nat) (y:t.T),x[i]? = some y→aP w I t ((cs.drop (i*t.size)).take t.size) y:=Iff.rfl
theorem lW{I:Nat→Prop}{ts:List Ty}{cs:List Value}{x:Ty.Ts ts}:aP w I (.struct ts) cs x↔cm w I ts cs x:=Iff.rfl
theorem mU{I:Nat→Prop}{cs:List Value}{x:Ty.Ts []}:cm w I [] cs x↔cs=[]:=Iff.rfl
theorem pF{I:Nat→Prop}{t:Ty}{cs:List Value}{x:t.T}:cm w I [t] cs x↔aP w I t cs x:=Iff.rfl
theorem nD{I:Nat→Prop}{t t2:Ty}{ts:List Ty}{cs:List Value}{x:t.T}{y:Ty.Ts (t2::ts)}:cm w I (t::t2::ts) cs (x,y)↔∃us vs,cs=us++vs∧aP w I t us x∧cm w I (t2::ts) vs y:=Iff.rfl
end
theorem bF.length{w:World}{S:St}{m:Mem}:∀{cs:List AV} {us:List Value},bF w S m cs us→us.length=cs.length
 | [],us,h=>by rw[bF] at h;rw[h];rfl
 | a::cs,us,h=>by
   rw[bF] at h
   obtain⟨v,r,rfl,_,h2⟩:=h
   simp[bF.length h2]
def dL:iJ→iJ→Prop
 | .bad,_=>False
 | _,.dead=>True
 | .flat _ cs,.flat _ cs'=>cs'.length=cs.length
 | .arr _ t x,.arr _ t' x'=>∃h:t=t',x'.length=x.length∧h=h
 | .loop _,.loop _=>True
 | .wS,.wS=>True
 | .wS,.yS=>True
 | .yS,.yS=>True
 | _,_=>False
def iJ.ed:iJ→Bool
 | .loop _=>true
 | .wS=>true
 | .yS=>true
 | _=>false
structure bw(w:World)(S:St)(m:Mem)(w':World)(S':St)(m':Mem):Prop where
 lG:∀b,S.I b→S'.I b∧w'.heap[b]? = w.heap[b]?
 box:∀id,m.at id≠.bad→dL (m.at id) (m'.at id)∧(m'.at id≠.dead→S'.σ id=S.σ id∧S'.δ id=S.δ id∧
  (∀us T fr,w.heap[S.σ id]? = some (.cells us T fr)→∃us' T' fr',w'.heap[S.σ id]? = some (.cells us' T' fr')∧us'.size=us.size))
 ctl:∀id,(m.at id).ed=true→(m'.at id).ed=true
theorem bw.inv{w:World}{S:St}{m:Mem}{w':World}{S':St}{m':Mem}(h:bw w S m w' S' m'){id:Nat}(hb:m.at id≠.bad):m'.at id=.dead∨
  (dL (m.at id) (m'.at id)∧m'.at id≠.bad∧S'.σ id=S.σ id∧S'.δ id=S.δ id∧
  (∀us T fr,w.heap[S.σ id]? = some (.cells us T fr)→∃us' T' fr',w'.heap[S.σ id]? = some (.cells us' T' fr')∧us'.size=us.size)):=by
 obtain⟨h1,h2⟩:=h.box id hb
 by_cases hd:m'.at id=.dead
 ·exact .inl hd
 ·refine .inr ⟨h1,fun e=>?_,h2 hd⟩
  rw[e] at h1
  cases hm:m.at id<;>rw[hm] at h1<;>exact h1.elim
mutual
theorem CR.mono{w:World}{S:St}{m:Mem}{w':World}{S':St}{m':Mem}(h:bw w S m w' S' m'):∀{a:AV} {v:Value},CR w S m a v→CR w' S' m' a v
 | .undef,v,_=>by rw[CR];trivial
 | .int k c n,v,hc=>by rw[CR] at hc ⊢;exact hc
 | .bool c b,v,hc=>by rw[CR] at hc ⊢;exact hc
 | .str c s,v,hc=>by rw[CR] at hc ⊢;exact hc
 | .sl t x,v,hc=>by rw[CR] at hc ⊢;exact aP.mono h.lG _ hc
 | .bd b,v,hc=>by rw[CR] at hc ⊢;exact hc
 | .own id,v,hc=>by
   rw[CR] at hc ⊢
   rcases h.inv (id:=id) (fun e=>by rw[e] at hc;exact hc) with hd|⟨hk,_,hσ,hδ,hh⟩
   ·rw[hd];trivial
   ·cases hm:m.at id<;>rw[hm] at hc hk<;>simp only at hc<;>cases hm':m'.at id<;>rw[hm'] at hk<;>try (first|trivial|exact hk.elim)
    obtain⟨rfl,hl,_⟩:=hk
    obtain⟨cap,rfl,h1,us,T,fr,h2,h3⟩:=hc
    obtain⟨us',T',fr',h4,h5⟩:=hh us T fr h2
    exact⟨cap,by rw[hσ,hδ,hl],by rw[hl];exact h1,us',T',fr',by rw[hσ];exact h4,by rw[hδ,h5];exact h3⟩
 | .jD id sz c lo len,v,hc=>by
   rw[CR] at hc ⊢
   rcases h.inv (id:=id) (fun e=>by rw[e] at hc;exact hc) with hd|⟨hk,_,hσ,hδ,hh⟩
   ·rw[hd];trivial
   ·cases hm:m.at id<;>rw[hm] at hc hk<;>simp only at hc<;>cases hm':m'.at id<;>rw[hm'] at hk<;>try (first|trivial|exact hk.elim)
    ·have hl:_=_:=hk
     obtain⟨l,n,cap,a,h1,h2,h3,h4,h5,h6,h7,h8⟩:=hc
     exact⟨l,n,cap,a,h1,h2,h3,by rw[hl];exact h4,h5,h6,h7,by rw[hσ];exact h8⟩
    ·obtain⟨rfl,hl,_⟩:=hk
     obtain⟨l,n,cap,a,h1,h2,h3,h4,h5,h6,h7,h8⟩:=hc
     exact⟨l,n,cap,a,h1,h2,h3,by rw[hl];exact h4,h5,h6,h7,by rw[hσ,hδ];exact h8⟩
 | .ptr id off,v,hc=>by
   rw[CR] at hc ⊢
   rcases h.inv (id:=id) (fun e=>by rw[e] at hc;exact hc) with hd|⟨hk,_,hσ,hδ,hh⟩
   ·rw[hd];trivial
   ·cases hm:m.at id<;>rw[hm] at hc hk<;>simp only at hc<;>cases hm':m'.at id<;>rw[hm'] at hk<;>try (first|trivial|exact hk.elim)
    rw[hσ];exact hc
 | .gY id i off,v,hc=>by
   rw[CR] at hc ⊢
   rcases h.inv (id:=id) (fun e=>by rw[e] at hc;exact hc) with hd|⟨hk,_,hσ,hδ,hh⟩
   ·rw[hd];trivial
   ·cases hm:m.at id<;>rw[hm] at hc hk<;>simp only at hc<;>cases hm':m'.at id<;>rw[hm'] at hk<;>try (first|trivial|exact hk.elim)
    obtain⟨rfl,hl,_⟩:=hk
    obtain⟨k,h1,h2,h3⟩:=hc
    exact⟨k,h1,by rw[hl];exact h2,by rw[hσ,hδ];exact h3⟩
 | .mW id off n t i,v,hc=>by
   rw[CR] at hc ⊢
   rcases h.inv (id:=id) (fun e=>by rw[e] at hc;exact hc) with hd|⟨hk,_,hσ,hδ,hh⟩
   ·rw[hd];trivial
   ·cases hm:m.at id<;>rw[hm] at hc hk<;>simp only at hc<;>cases hm':m'.at id<;>rw[hm'] at hk<;>try (first|trivial|exact hk.elim)
    rw[hσ];exact hc
 | .lk t x off,v,hc=>by
   rw[CR] at hc ⊢
   obtain⟨b,o,us,h1,h2,h3,h4,h5⟩:=hc
   exact⟨b,o,us,h1,(h.lG b h2).1,h3,h4.mono (h.lG b h2).2,aP.mono h.lG _ h5⟩
 | .bP,v,hc=>by rw[CR] at hc ⊢;exact hc
 | .fn f a c,v,hc=>by
   rw[CR] at hc ⊢
   obtain⟨us,vs,h1,h2,h3⟩:=hc
   exact⟨us,vs,h1,bF.mono h h2,bF.mono h h3⟩
 | .yield l,v,hc=>by
   rw[CR] at hc ⊢
   rcases h.inv (id:=l) (fun e=>by rw[e] at hc;exact hc) with hd|⟨hk,_,hσ,hδ,hh⟩
   ·rw[hd];trivial
   ·cases hm:m.at l<;>rw[hm] at hc hk<;>simp only at hc<;>cases hm':m'.at l<;>rw[hm'] at hk<;>try (first|trivial|exact hk.elim)
    rw[hσ];exact hc
 | .fE,v,hc=>by rw[CR] at hc ⊢;exact hc
 | .agg cs,v,hc=>by
   rw[CR] at hc ⊢
   obtain⟨us,h1,h2⟩:=hc
   exact⟨us,h1,bF.mono h h2⟩
 | .mC cs,v,hc=>by
   rw[CR] at hc ⊢
   obtain⟨us,h1,h2⟩:=hc
   exact⟨us,h1,bF.mono h h2⟩
theorem bF.mono{w:World}{S:St}{m:Mem}{w':World}{S':St}{m':Mem}(h:bw w S m w' S' m'):∀{cs:List AV} {us:List Value},bF w S m cs us→bF w' S' m' cs us
 | [],us,hc=>by rw[bF] at hc ⊢;exact hc
 | a::cs,us,hc=>by
   rw[bF] at hc ⊢
   obtain⟨v,r,h0,h1,h2⟩:=hc
   exact⟨v,r,h0,CR.mono h h1,bF.mono h h2⟩
end
def rU(fr:Nat×Nat)(_n:Nat):Prop:=fr=(0,0)
def iU:Nat→LoopState
 | 0=>.ready
 | 1=>.busy
 | 2=>.done
 | _=>.exhausted
def yq(w:World)(S:St)(m:Mem)(r:yl)(l:Loop):Prop:=
 l.state=iU r.state∧l.pending=r.pending∧l.fn=r.fn∧l.params=r.params.toArray∧l.assign=r.assign∧l.body=r.body∧(l.tmps.size=r.n∧r.n≤65535)∧
 ∀i,CR w S m (r.env.at i) (l.tmps.getD i undef)
def iJ.bJ:iJ→Bool
 | .bad=>false
 | .dead=>false
 | .yS=>false
 | _=>true
def nN(w:World)(S:St)(m:Mem)(id:Nat):iJ→Prop
 | .bad=>True
 | .dead=>True
 | .yS=>True
 | .flat _ cs=>∃(us:Array Value) (T:TypeId) (fr:Nat×Nat),w.heap[S.σ id]? = some (.cells us T fr)∧rU fr us.size∧bF w S m cs us.toList
 | .arr _ t x=>x.length≤cY∧∃(us:Array Value) (T:TypeId) (fr:Nat×Nat),w.heap[S.σ id]? = some (.cells us T fr)∧rU fr us.size∧S.δ id+x.length*t.size≤us.size∧
    ∀(i:Nat) (y:t.T),x[i]? = some y→aP w S.I t ((us.toList.drop (S.δ id+i*t.size)).take t.size) y
 | .loop r=>∃l,w.heap[S.σ id]? = some (.loop l)∧yq w S m r l
 | .wS=>w.heap[S.σ id]? = some (.deferred (some []))
def iJ.jA:iJ→Bool
 | .flat fz _=>fz
 | .arr fz _ _=>fz
 | _=>false
structure WR(w0 w:World)(S:St)(m:Mem):Prop where
 os:w.os=w0.os
 tape:w.tape=w0.tape
 output:w.output=w0.output
 size:w0.heap.size≤w.heap.size
 base:∀b,b<w0.heap.size→w.heap[b]? = w0.heap[b]?
 lG:∀b,S.I b→b<w.heap.size
 box:∀id,nN w S m id (m.at id)
 inj:∀id id',(m.at id).bJ=true→(m.at id').bJ=true→S.σ id=S.σ id'→id=id'
 lo:∀id,(m.at id).bJ=true→w0.heap.size≤S.σ id∧S.σ id<w.heap.size
 qs:∀id,(m.at id).bJ=true→(m.at id).jA=false→¬S.I (S.σ id)
 xg:∀id,(m.at id).jA=true→S.I (S.σ id)
def gf(all:Array Oper)(i:Nat):List Nat:=
 match all[i]? with
 | some o=>(o.after.toList.filter jv).map (·.on)
 | none=>[]
structure DZ(all:Array Oper)(l:List Nat):Prop where
 nodup:l.Nodup
 lt:∀i∈l,i<all.size
 pw:l.Pairwise fun i j=>j ∉ gf all i
 self:∀i∈l,i ∉ gf all i
 closed:∀k,k<all.size→k ∉ l→∀j∈gf all k,j ∉ l
def sO(ms l:List Nat):Prop:=∀l1 i l2,l=l1++i::l2→∀b,(ms.getD i 0).testBit b=true→b ∉ i::l2
structure dq(n:Nat)(all:Array Oper)(ms rest bs l:List Nat):Prop where
 Mk:sO ms l
 Lc:l.Nodup
 nodup:(rest++bs).Nodup
 sub:∀i∈rest,i∈l
 Mp:∀i∈l,i∈rest∨i∈bs
 lt:∀i∈bs,i<all.size
 read:∀i∈bs,∀b∈bs,i≠b→∀o p d,all[i]? = some o→all[b]? = some p→p.dst=some d→d∈readsOf all o→(ms.getD i 0).testBit b=true
 dst:∀i∈bs,∀b∈bs,i≠b→∀o p d,all[i]? = some o→all[b]? = some p→p.dst=some d→o.dst≠some d
 own:∀i∈bs,∀o d,all[i]? = some o→o.dst=some d→d ∉ readsOf all o
 T8:∀i∈bs,∀o,all[i]? = some o→lh (ms.getD i 0) o=true
 L6:∀i∈bs,∀o,all[i]? = some o→gp n o.dst=true
def rZ(n:Nat)(S:St):aR→Item→Prop
 | .code c,it=>it=.code c
 | .inBlock id,it=>it=.inBlock id
 | .inLoop b,it=>it=.inLoop b∨it=.code (.loop b)
 | .inScope b,it=>it=.inScope b
 | .ops all rest,it=>∃l:List Nat,it=.inRegion all l∧l.map (fun i=>all[i]?)=rest.map some
 | .cK all ms rest bs,it=>∃l:List Nat,it=.inRegion all l∧dq n all ms rest bs l
 | .iW all ms i rest bs,it=>∃l:List Nat,it=.inRegion all (i::l)∧dq n all ms (i::rest) bs (i::l)
 | .gI l,it=>it=.inRangeFunc (S.σ l)
 | .fS l,it=>it=.endRangeFunc (S.σ l)
 | .beginRound,it=>it=.beginRound
def bQ(n:Nat)(S:St):List aR→List Item→Prop
 | [],l=>l=[]
 | a::r,l=>∃it k,l=it::k∧rZ n S a it∧bQ n S r k
def aR.drawn:aR→Option (Array Oper×List Nat)
 | .cK all _ _ bs=>some (all,bs)
 | .iW all _ _ _ bs=>some (all,bs)
 | _=>none
def aR.s8(a:aR):Bool:=a.drawn.isSome
def Hid(f:aH)(fr:Frame)(x:Nat):Prop:=
 ∃all bs l k' b p,f.todo.head?.bind aR.drawn=some (all,bs)∧fr.todo=.inRegion all l::k'∧b∈bs∧b∈l∧all[b]? = some p∧p.dst=some x
def bo(m:Mem)(l:List aR):Prop:=∀a∈l,match a with | .gI id=>(m.at id).ed=true | .fS id=>(m.at id).ed=true|_=>True
structure FR(w:World)(S:St)(m:Mem)(f:aH)(fr:Frame):Prop where
 fn:fr.fn=f.fn
 n:fr.tmps.size=f.n
 small:f.n≤65535
 env:∀i,¬Hid f fr i→CR w S m (f.env.at i) (fr.tmps.getD i undef)
 todo:bQ f.n S f.todo fr.todo
 live:bo m f.todo
 flat:∀a∈f.todo.tail,a.s8=false
 defers:fr.defers=f.marks.map fun d=>{target:=.collected (S.σ d),args:=#[]}
 marks:∀d∈f.marks,(m.at d).ed=true
 mode:fr.mode=.run
 kind:fr.kind=.normal
 aU:fr.roundOf=f.aU.map S.σ
 jR:∀l,f.aU=some l→(m.at l).ed=true
def r9(w:World)(S:St)(m:Mem):List aH→List Frame→Prop
 | [],l=>l=[]
 | f::fs,l=>∃fr r,l=fr::r∧FR w S m f fr∧r9 w S m fs r
end Go.Ev
namespace Go.Ev
theorem bF.append{w:World}{S:St}{m:Mem}:∀{a b:List AV} {us vs:List Value},bF w S m a us→bF w S m b vs→bF w S m (a++b) (us++vs)
 | [],b,us,vs,h1,h2=>by rw[bF] at h1;rw[h1];exact h2
 | x::a,b,us,vs,h1,h2=>by
   rw[bF] at h1
   obtain⟨v,r,rfl,h3,h4⟩:=h1
   rw[List.cons_append,bF]
   exact⟨v,r++vs,rfl,h3,bF.append h4 h2⟩
theorem bF.split{w:World}{S:St}{m:Mem}:∀{a b:List AV} {us:List Value},bF w S m (a++b) us→∃vs ws,us=vs++ws∧bF w S m a vs∧bF w S m b ws
 | [],b,us,h=>⟨[],us,rfl,by rw[bF],h⟩
 | x::a,b,us,h=>by
   rw[List.cons_append,bF] at h
   obtain⟨v,r,rfl,h3,h4⟩:=h
   obtain⟨vs,ws,rfl,h5,h6⟩:=bF.split h4
   exact⟨v::vs,ws,rfl,by rw[bF];exact⟨v,vs,rfl,h3,h5⟩,h6⟩
theorem bF.drop{w:World}{S:St}{m:Mem}:∀{a:List AV} {us:List Value} (n:Nat),bF w S m a us→bF w S m (a.drop n) (us.drop n)
 | [],us,n,h=>by rw[bF] at h;rw[h];simp only[List.drop_nil];rw[bF]
 | x::a,us,0,h=>h
 | x::a,us,n+1,h=>by
   rw[bF] at h
   obtain⟨v,r,rfl,h3,h4⟩:=h
   exact bF.drop n h4
theorem bF.take{w:World}{S:St}{m:Mem}:∀{a:List AV} {us:List Value} (n:Nat),bF w S m a us→bF w S m (a.take n) (us.take n)
 | [],us,n,h=>by rw[bF] at h;rw[h];simp only[List.take_nil];rw[bF]
 | x::a,us,0,h=>by simp only[List.take_zero];rw[bF]
 | x::a,us,n+1,h=>by
   rw[bF] at h
   obtain⟨v,r,rfl,h3,h4⟩:=h
   simp only[List.take_succ_cons]
   rw[bF]
   exact⟨v,_,rfl,h3,bF.take n h4⟩
theorem bF.get{w:World}{S:St}{m:Mem}:∀{a:List AV} {us:List Value} {i:Nat} {x:AV},bF w S m a us→a[i]? = some x→∃v,us[i]? = some v∧CR w S m x v
 | [],us,i,x,_,h=>by simp at h
 | y::a,us,0,x,h,hx=>by
   rw[bF] at h
   obtain⟨v,r,rfl,h3,h4⟩:=h
   simp at hx
   exact⟨v,rfl,hx▸h3⟩
 | y::a,us,i+1,x,h,hx=>by
   rw[bF] at h
   obtain⟨v,r,rfl,h3,h4⟩:=h
   simp only[List.getElem?_cons_succ] at hx ⊢
   exact bF.get h4 hx
theorem bF.map{w:World}{S:St}{m:Mem}{α:Type}{f:α→AV}{g:α→Value}(h:∀x,CR w S m (f x) (g x)):∀l:List α,bF w S m (l.map f) (l.map g)
 | []=>by simp only[List.map_nil];rw[bF]
 | x::l=>by simp only[List.map_cons];rw[bF];exact⟨_,_,rfl,h x,bF.map h l⟩
theorem bF.ni{w:World}{S:St}{m:Mem}(f:Nat→List AV)(sz:Nat):∀(n:Nat) (us:List Value),us.length=n*sz→
  (∀i,i<n→bF w S m (f i) ((us.drop (i*sz)).take sz))→bF w S m ((List.range n).flatMap f) us
 | 0,us,h,_=>by
   have:us=[]:=by simpa using h
   rw[this];simp only[List.range_zero,List.flatMap_nil];rw[bF]
 | n+1,us,h,hf=>by
   rw[List.range_succ,List.flatMap_append]
   have e:us=us.take (n*sz)++us.drop (n*sz):=(List.take_append_drop _ _).symm
   rw[e]
   refine bF.append ?_ ?_
   ·refine bF.ni f sz n _ (by rw[List.length_take,h,Nat.succ_mul];omega) fun i hi=>?_
    have:=hf i (by omega)
    have hle:(i+1)*sz≤n*sz:=Nat.mul_le_mul_right _ hi
    rw[Nat.succ_mul] at hle
    rw[List.drop_take,List.take_take,Nat.min_eq_left (by omega)]
    exact this
   ·have:=hf n (by omega)
    simp only[List.flatMap_cons,List.flatMap_nil,List.append_nil]
    rw[List.take_of_length_le (by rw[List.length_drop,h,Nat.succ_mul];omega)] at this
    exact this
theorem ij{t:Ty}{x:List t.T}{i:Nat}(h:i<x.length):x[i]? = some (ai.n t x (i:Int)):=by
 show x[i]? = some (x.getD (i:Int).toNat t.gB)
 rw[Int.toNat_natCast,List.getD_eq_getElem?_getD,List.getElem?_eq_getElem h]
 rfl
mutual
theorem fu{w:World}{S:St}{m:Mem}:∀(t:Ty) {us:List Value} {x:t.T},aP w S.I t us x→bF w S m (dT ai t x) us
 | .int k,us,x,h=>by
   rw[aP] at h;rw[dT,h.1];simp only[bF];exact⟨_,_,rfl,bC.2 ⟨rfl,h.2⟩,rfl⟩
 | .bool,us,x,h=>by
   rw[aP] at h;rw[dT,h];simp only[bF];exact⟨_,_,rfl,cu.2 rfl,rfl⟩
 | .str,us,x,h=>by
   rw[aP] at h;rw[dT,h.1];simp only[bF];exact⟨_,_,rfl,ez.2 ⟨rfl,h.2⟩,rfl⟩
 | .slice t,us,x,h=>by
   have h':=h
   rw[aP] at h'
   obtain⟨a,cap,e,_⟩:=h'
   rw[dT];simp only[bF]
   exact⟨_, [],e,iz.2 (by rw[e] at h;exact h),rfl⟩
 | .arr n t,us,x,h=>by
   rw[aP] at h
   rw[dT]
   refine bF.ni _ t.size n us h.2.1 fun i hi=>?_
   exact fu t (h.2.2 i _ (ij (by rw[h.1];exact hi)))
 | .struct ts,us,x,h=>by rw[aP] at h;rw[dT];exact rY ts h
 | .any n,us,x,h=>by
   rw[aP] at h
   subst h
   rw[dT]
   clear x
   induction us with
   | nil=>exact bu.2 rfl
   | cons u us ih=>exact bY.2 ⟨u,us,rfl,du,ih⟩
theorem rY{w:World}{S:St}{m:Mem}:∀(ts:List Ty) {us:List Value} {x:Ty.Ts ts},cm w S.I ts us x→bF w S m (mA ai ts x) us
 | [],us,x,h=>by rw[cm] at h;rw[mA,h,bF]
 | [t],us,x,h=>by rw[cm] at h;rw[mA];exact fu t h
 | t::t2::ts,us,x,h=>by
   rw[cm] at h
   obtain⟨u1,u2,rfl,h1,h2⟩:=h
   rw[mA]
   exact bF.append (fu t h1) (rY (t2::ts) h2)
end
theorem oI{w:World}{S:St}{m:Mem}{t:Ty}{v:Value}{x:t.T}(h:iB w S.I t v x):CR w S m (Cu ai t x) v:=by
 unfold iB at h
 unfold Cu
 cases ht:t.isAgg with
 | true=>
   rw[ht,if_pos rfl] at h
   obtain⟨us,rfl,h⟩:=h
   simp only
   rw[CR]
   exact⟨us,rfl,fu t h⟩
 | false=>
   rw[ht,if_neg (by simp)] at h
   have:=fu (m:=m) t h
   simp only
   cases hd:dT ai t x with
   | nil=>rw[hd,bF] at this;cases this
   | cons a r=>
     rw[hd,bF] at this
     obtain⟨v',r',e,h1,_⟩:=this
     cases e
     exact h1
theorem gG{α:Type}{w:World}{S:St}{m:Mem}(f:List AV→Option (α×List AV))(sz:Nat)(Rp:List Value→α→Prop)
  (hf:∀cs x r us,f cs=some (x,r)→bF w S m cs us→∃u1 u2,us=u1++u2∧u1.length=sz∧Rp u1 x∧bF w S m r u2) :
  ∀(n:Nat) (cs:List AV) (x:List α) (r:List AV) (us:List Value),kr f n cs=some (x,r)→bF w S m cs us→
   ∃u1 u2,us=u1++u2∧u1.length=n*sz∧x.length=n∧(∀(i:Nat) (y:α),x[i]? = some y→Rp ((u1.drop (i*sz)).take sz) y)∧bF w S m r u2
 | 0,cs,x,r,us,h,hc=>by
   simp only[kr,Option.some.injEq,Prod.mk.injEq] at h
   obtain⟨rfl,rfl⟩:=h
   exact⟨[],us,rfl,by simp,rfl,fun i y hy=>by simp at hy,hc⟩
 | n+1,cs,x,r,us,h,hc=>by
   simp only[kr] at h
   cases h1:f cs with
   | none=>rw[h1] at h;cases h
   | some p=>
     obtain⟨a,r1⟩:=p
     rw[h1] at h
     simp only at h
     cases h2:kr f n r1 with
     | none=>rw[h2] at h;cases h
     | some q=>
       obtain⟨b,r2⟩:=q
       rw[h2] at h
       simp only[Option.some.injEq,Prod.mk.injEq] at h
       obtain⟨rfl,rfl⟩:=h
       obtain⟨u1,u2,rfl,l1,p1,c1⟩:=hf cs a r1 us h1 hc
       obtain⟨v1,v2,rfl,l2,l3,p2,c2⟩:=gG f sz Rp hf n r1 b r2 u2 h2 c1
       refine⟨u1++v1,v2,by simp,by simp[l1,l2,Nat.succ_mul,Nat.add_comm],by simp[l3],fun i y hy=>?_,c2⟩
       cases i with
       | zero=>
         simp only[List.getElem?_cons_zero,Option.some.injEq] at hy
         subst hy
         simp only[Nat.zero_mul,List.drop_zero]
         rw[List.take_append_of_le_length (by omega),List.take_of_length_le (by omega)]
         exact p1
       | succ i=>
         simp only[List.getElem?_cons_succ] at hy
         have:=p2 i y hy
         rw[show(i+1)*sz=sz+i*sz from by rw[Nat.succ_mul,Nat.add_comm],←List.drop_drop,List.drop_left' l1]
         exact this
theorem bF.cons_inv{w:World}{S:St}{m:Mem}{a:AV}{cs:List AV}{us:List Value}(h:bF w S m (a::cs) us):∃v r,us=v::r∧CR w S m a v∧bF w S m cs r:=by
 rw[bF] at h;exact h
mutual
theorem fK{w:World}{S:St}{m:Mem}:∀(t:Ty) {cs:List AV} {x:t.T} {r:List AV} {us:List Value},kG t cs=some (x,r)→bF w S m cs us→
  ∃u1 u2,us=u1++u2∧aP w S.I t u1 x∧bF w S m r u2
 | .int k,cs,x,r,us,h,hc=>by
   simp only[kG] at h
   cases cs with
   | nil=>simp at h
   | cons a cs=>
     obtain⟨v,us',rfl,h1,h2⟩:=hc.cons_inv
     cases a<;>simp only[reduceCtorEq] at h
     case int k' c n=>
      cases hk:e_ k' k with
      | false=>rw[hk] at h;cases h
      | true=>
        rw[hk] at h
        simp only[Option.some.injEq] at h
        cases h
        have h1:=bC.1 h1
        have:=eD hk;subst this
        exact⟨[v],us',rfl,ju.2 ⟨by rw[h1.1],h1.2⟩,h2⟩
 | .bool,cs,x,r,us,h,hc=>by
   simp only[kG] at h
   cases cs with
   | nil=>simp at h
   | cons a cs=>
     obtain⟨v,us',rfl,h1,h2⟩:=hc.cons_inv
     cases a<;>simp only[reduceCtorEq,Option.some.injEq] at h
     case bool c b=>
      cases h
      exact⟨[v],us',rfl,pN.2 (by rw[cu.1 h1]),h2⟩
 | .str,cs,x,r,us,h,hc=>by
   simp only[kG] at h
   cases cs with
   | nil=>simp at h
   | cons a cs=>
     obtain⟨v,us',rfl,h1,h2⟩:=hc.cons_inv
     cases a<;>simp only[reduceCtorEq,Option.some.injEq] at h
     case str c s=>
      cases h
      have h1:=ez.1 h1
      exact⟨[v],us',rfl,oc.2 ⟨by rw[h1.1],h1.2⟩,h2⟩
 | .slice t,cs,x,r,us,h,hc=>by
   simp only[kG] at h
   cases cs with
   | nil=>simp at h
   | cons a cs=>
     obtain⟨v,us',rfl,h1,h2⟩:=hc.cons_inv
     cases a<;>simp only[reduceCtorEq,Option.some.injEq] at h
     case sl t' x'=>
      by_cases hb:t'.beq t=true
      ·rw[dif_pos hb] at h
       have:=Ty.eq_of_beq hb;subst this
       simp only[Option.some.injEq] at h
       cases h
       exact⟨[v],us',rfl,iz.1 h1,h2⟩
      ·rw[dif_neg hb] at h;cases h
     case bd b=>
      cases h
      rw[CR] at h1
      obtain⟨a,rfl,_⟩:=h1
      exact⟨[_],us',rfl,bA.2 ⟨a,0,rfl,Nat.le_refl _,Nat.zero_le _,fun _=>rfl,fun i y hy=>by simp at hy⟩,h2⟩
 | .arr n t,cs,x,r,us,h,hc=>by
   simp only[kG] at h
   obtain⟨u1,u2,rfl,l1,l2,p,c⟩:=gG (kG t) t.size (fun u y=>aP w S.I t u y) (fun cs x r us h hc=>by
    obtain⟨u1,u2,e,h1,h2⟩:=fK t h hc
    exact⟨u1,u2,e,h1.length,h1,h2⟩) n cs x r us h hc
   exact⟨u1,u2,rfl,nX.2 ⟨l2,l1,p⟩,c⟩
 | .struct ts,cs,x,r,us,h,hc=>by
   simp only[kG] at h
   obtain⟨u1,u2,e,h1,h2⟩:=l5 ts h hc
   exact⟨u1,u2,e,by rw[aP];exact h1,h2⟩
 | .any n,cs,x,r,us,h,hc=>by
   simp only[kG] at h
   cases hn:Nat.ble n cs.length with
   | false=>rw[hn] at h;cases h
   | true=>
     rw[hn] at h
     simp only[Option.some.injEq,Prod.mk.injEq] at h
     obtain⟨_,rfl⟩:=h
     have hl:=hc.length
     have:=Nat.le_of_ble_eq_true hn
     exact⟨us.take n,us.drop n,(List.take_append_drop n us).symm,(show(us.take n).length=n by rw[List.length_take];omega),hc.drop n⟩
theorem l5{w:World}{S:St}{m:Mem}:∀(ts:List Ty) {cs:List AV} {x:Ty.Ts ts} {r:List AV} {us:List Value},nF ts cs=some (x,r)→bF w S m cs us→
  ∃u1 u2,us=u1++u2∧cm w S.I ts u1 x∧bF w S m r u2
 | [],cs,x,r,us,h,hc=>by
   simp only[nF,Option.some.injEq] at h
   cases h
   exact⟨[],us,rfl,mU.2 rfl,hc⟩
 | [t],cs,x,r,us,h,hc=>by
   simp only[nF] at h
   obtain⟨u1,u2,e,h1,h2⟩:=fK t h hc
   exact⟨u1,u2,e,by rw[cm];exact h1,h2⟩
 | t::t2::ts,cs,x,r,us,h,hc=>by
   simp only[nF] at h
   cases h1:kG t cs with
   | none=>rw[h1] at h;cases h
   | some p=>
     obtain⟨a,r1⟩:=p
     rw[h1] at h
     simp only at h
     cases h2:nF (t2::ts) r1 with
     | none=>rw[h2] at h;cases h
     | some q=>
       obtain⟨b,r2⟩:=q
       rw[h2] at h
       simp only[Option.some.injEq,Prod.mk.injEq] at h
       obtain⟨rfl,rfl⟩:=h
       obtain⟨u1,u2,rfl,p1,c1⟩:=fK t h1 hc
       obtain⟨v1,v2,rfl,p2,c2⟩:=l5 (t2::ts) h2 c1
       exact⟨u1++v1,v2,by simp,nD.2 ⟨u1,v1,rfl,p1,p2⟩,c2⟩
end
end Go.Ev
namespace Go.Ev
theorem fh(k:IntKind)(n:Int):k.has (k.wrap n):=wrap_within k n
theorem H_(k:IntKind):Lh k=k.min:=by cases k<;>decide
theorem Gt(k:IntKind):Lm k=k.max:=by cases k<;>decide
def kindOk(P:Program)(T:TypeId):TK→Prop
 | .bool=>P.underlying T=some .bool
 | .int k=>P.underlying T=some (.int k)
 | .str=>P.underlying T=some .string
 | .slice e=>P.underlying T=some (.slice e)
 | .arr n e=>P.underlying T=some (.array n e)
 | .ptr e=>P.underlying T=some (.pointer e)
 | .func=>∃ps rs v,P.underlying T=some (.func ps rs v)
 | .struct fs=>∃F,P.underlying T=some (.struct F)∧F.size=fs.length∧∀(i off sz:Nat) (ag:Bool),fs[i]? = some (off,sz,ag)→
    ∃f j,F[i]? = some f∧f.offset=off∧P.info? f.type=some j∧j.size=sz∧∀w,(isAgg f.type).run P w=.ok ag w
 | .other=>True
def Ob(P:Program)(T:TypeId)(zero:List AV):Prop:=
 ∀(w:World) (S:St) (m:Mem) (xs ys:List AV) (us vs:Array Value) (c:Bool) (g:bK→Bool),fF xs zero=true→bI xs ys=some (c,g)→bF w S m xs us.toList→bF w S m ys vs.toList→
  (Op.equal T (.agg us) (.agg vs)).run P w=.ok (g ai) w∧∀op x y,(eqGuard op T x y (.agg us) (.agg vs)).run P w=.ok () w
structure rc(P:Program)(T:TypeId)(ti:TI):Prop where
 info:∃i z,P.info? T=some i∧i.size=ti.size∧i.bytes=ti.bytes∧i.zero=some z∧(∀w S m,bF w S m ti.zero z.cells.toList)∧
  (∀t,ti.ty=some t→∀w I,aP w I t z.cells.toList t.gB)
 kind:kindOk P T ti.kind
 agg:∀w,(isAgg T).run P w=.ok ti.agg w
 Vu:ti.zero.length=ti.size
 ty:∀t,ti.ty=some t→t.size=ti.size∧t.isAgg=ti.agg
 eq:ti.eq=true→ti.agg=true→Ob P T ti.zero
 kt:∀t,ti.ty=some t→t.kt=true
def fv(P:Program)(tis:PT TI):Prop:=∀T ti,tis.get T=some ti→rc P T ti
theorem rc.iE{P:Program}{T:TypeId}{ti:TI}(h:rc P T ti)(w:World):(sizeOf T).run P w=.ok ti.size w:=by
 obtain⟨i,z,h1,h2,_⟩:=h.info
 simp[sizeOf,typeInfo,h1,h2]
def TV.Is{α:Type}:TV α→α→Prop
 | .leaf a,x=>x=a
 | .br b t e,x=>(b=true∧t.Is x)∨(b=false∧e.Is x)
 | .need b t,x=>b=true∧t.Is x
 | .bad _,_=>False
theorem TV.bind_ok{α:Type}{R:Type}{Q:R→Prop}{G:ei→Prop}{pos:String}{K:α→Tr R}:∀{tv:TV α},Tr.Ok Q G (tv.bind pos K)→∃x,tv.Is x∧Tr.Ok Q G (K x)
 | .leaf a,h=>⟨a,rfl,h⟩
 | .br b t e,h=>by
   simp only[TV.bind,Tr.Ok] at h
   cases b with
   | true=>obtain⟨x,h1,h2⟩:=TV.bind_ok (h.1 rfl);exact⟨x,.inl ⟨rfl,h1⟩,h2⟩
   | false=>obtain⟨x,h1,h2⟩:=TV.bind_ok (h.2 rfl);exact⟨x,.inr ⟨rfl,h1⟩,h2⟩
 | .need b t,h=>by
   simp only[TV.bind,Tr.Ok] at h
   obtain⟨x,h1,h2⟩:=TV.bind_ok h.2
   exact⟨x,⟨h.1,h1⟩,h2⟩
 | .bad n,h=>by simp[TV.bind,Tr.Ok] at h
theorem TV.sP{α β:Type}{f:α→β}{y:β}:∀{tv:TV α},(tv.map f).Is y→∃x,tv.Is x∧y=f x
 | .leaf a,h=>⟨a,rfl,h⟩
 | .br b t e,h=>by
   rcases h with h|h
   ·obtain⟨x,h1,h2⟩:=TV.sP h.2;exact⟨x,.inl ⟨h.1,h1⟩,h2⟩
   ·obtain⟨x,h1,h2⟩:=TV.sP h.2;exact⟨x,.inr ⟨h.1,h1⟩,h2⟩
 | .need b t,h=>by
   obtain⟨x,h1,h2⟩:=TV.sP h.2;exact⟨x,⟨h.1,h1⟩,h2⟩
 | .bad n,h=>h.elim
theorem jC{α:Type}{n:Nat}{o:Option α}{x:α}(h:(oh n o).Is x):o=some x:=by
 cases o with
 | none=>exact h.elim
 | some a=>exact congrArg some (Eq.symm h)
theorem tx{α:Type}{c b:Bool}{t:TV α}{x:α}(h:(xT c b t).Is x):b=true∧t.Is x:=by
 unfold xT at h
 cases c with
 | true=>cases b with
   | true=>exact⟨rfl,h⟩
   | false=>exact h.elim
 | false=>exact h
theorem cX(k:IntKind)(c:Bool)(f:bK→Int){w:World}{S:St}{m:Mem}(h:k.has (f ai)):CR w S m (lM ai k c f) (.int k (f ai)):=by
 unfold lM
 cases c<;>exact bC.2 ⟨rfl,h⟩
theorem dz(c:Bool)(f:bK→Bool){w:World}{S:St}{m:Mem}:CR w S m (kP ai c f) (.bool (f ai)):=by
 unfold kP
 cases c<;>exact cu.2 rfl
section
variable {P:Program} {w:World} {S:St} {m:Mem}
theorem GL{k:IntKind}{a:Int}(h:k.has a)(n:Nat):k.has (a.fdiv (2^n)):=by
 have hp:(0:Int)<2^n:=Int.pow_pos (by decide)
 rw[Int.fdiv_eq_ediv_of_nonneg _ (Int.le_of_lt hp)]
 obtain⟨h1,h2⟩:=h
 have hm:k.min≤0:=by cases k<;>decide
 have hM:(0:Int)≤k.max:=by cases k<;>decide
 have h2n:(1:Int)≤2^n:=hp
 constructor
 ·by_cases h0:0≤a
  ·exact Int.le_trans hm (Int.ediv_nonneg h0 (Int.le_of_lt hp))
  ·have:a≤a/2^n:=by
    have h3:a*2^n≤a:=by
     have:=Int.mul_le_mul_of_nonpos_left (a:=a) (by omega) h2n
     omega
    exact(Int.le_ediv_iff_mul_le hp).2 h3
   omega
 ·by_cases h0:0≤a
  ·have:a/2^n≤a:=Int.ediv_le_self _ h0
   omega
  ·have:a/2^n≤0:=by
    have:=Int.ediv_lt_of_lt_mul hp (show a<1*2^n by omega)
    omega
   omega
theorem Dx{k:IntKind}{a b:Int}(h:k.has a):k.has (a.tmod b):=by
 obtain⟨h1,h2⟩:=h
 have hm:k.min≤0:=by cases k<;>decide
 have hM:(0:Int)≤k.max:=by cases k<;>decide
 by_cases h0:0≤a
 ·have h3:=Int.tmod_nonneg b h0
  have h4:a.tmod b≤a:=by
   have:=Int.natAbs_tmod a b
   have h5:(a.tmod b).natAbs≤a.natAbs:=by rw[this];exact Nat.mod_le _ _
   omega
  exact⟨by omega,by omega⟩
 ·have h5:(a.tmod b).natAbs≤a.natAbs:=by rw[Int.natAbs_tmod];exact Nat.mod_le _ _
  have h6:a.tmod b≤0:=by
   have:=Int.tmod_nonneg b (show 0≤ -a by omega)
   rw[Int.neg_tmod] at this
   omega
  exact⟨by omega,by omega⟩
theorem wz{op:BinOp}{T:TypeId}{k k':IntKind}{c c':Bool}{a b:Int}{v:AV}(ha:k.has a)(hb:k'.has b)(h1:op≠.shl)(h2:op≠.shr)
  (h:(wK ai op k c a k' c' b).Is v):∃u,(binOp op T (.int k a) (.int k' b)).run P w=.ok u w∧CR w S m v u:=by
 unfold wK at h
 cases hk:e_ k k' with
 | false=>rw[hk] at h;exact h.elim
 | true=>
   have:=eD hk;subst this
   rw[hk] at h
   cases op<;>simp only[u7] at h<;>try contradiction
   case quo=>
    obtain⟨h3,h4⟩:=tx h
    have h3:b≠0:=by cases c'<;>simpa [ai,lK] using h3
    cases h4
    refine⟨_,?_,cX k _ _ (fh _ _)⟩
    simp[binOp_quo,Op.intDiv,h3,ai,q_]
   case rem=>
    obtain⟨h3,h4⟩:=tx h
    have h3:b≠0:=by cases c'<;>simpa [ai,lK] using h3
    cases h4
    refine⟨_,?_,cX k _ _ (Dx ha)⟩
    simp[binOp_rem,Op.intDiv,h3,ai,q_]
   case add=>cases h;exact⟨_,by simp[binOp_add,Op.intArith,ai,q_],cX k _ _ (fh _ _)⟩
   case sub=>cases h;exact⟨_,by simp[binOp_sub,Op.intArith,ai,q_],cX k _ _ (fh _ _)⟩
   case mul=>cases h;exact⟨_,by simp[binOp_mul,Op.intArith,ai,q_],cX k _ _ (fh _ _)⟩
   case and=>cases h;exact⟨_,by simp[binOp_and,Op.intBits,ai,q_],cX k _ _ (fh _ _)⟩
   case or=>cases h;exact⟨_,by simp[binOp_or,Op.intBits,ai,q_],cX k _ _ (fh _ _)⟩
   case xor=>cases h;exact⟨_,by simp[binOp_xor,Op.intBits,ai,q_],cX k _ _ (fh _ _)⟩
   case andNot=>cases h;exact⟨_,by simp[binOp_andNot,Op.intBits,ai,q_],cX k _ _ (fh _ _)⟩
   case eql=>cases h;exact⟨_,by simp[binOp_eql,ai,lK],dz _ _⟩
   case neq=>cases h;exact⟨_,by simp[binOp_neq,ai,lK],dz _ _⟩
   case lss=>cases h;exact⟨_,by simp[binOp_lss,ai,lK],dz _ _⟩
   case leq=>cases h;exact⟨_,by simp[binOp_leq,ai,lK],dz _ _⟩
   case gtr=>cases h;exact⟨_,by simp[binOp_gtr,ai,lK],dz _ _⟩
   case geq=>cases h;exact⟨_,by simp[binOp_geq,ai,lK],dz _ _⟩
theorem nt{op:BinOp}{T:TypeId}{k k':IntKind}{c c':Bool}{a b:Int}{v:AV}(ha:k.has a)(h1:op=.shl∨op=.shr)
  (h:(mJ ai op k c a c' b).Is v):∃u,(binOp op T (.int k a) (.int k' b)).run P w=.ok u w∧CR w S m v u:=by
 unfold mJ at h
 obtain⟨h3,h4⟩:=tx h
 have h3:0≤b:=by cases c'<;>simpa [ai,lK] using h3
 cases h4
 rcases h1 with rfl|rfl
 ·exact⟨_,by simp[binOp_shl,Op.shift,Int.not_lt.2 h3,ai,q_],cX k _ _ (fh _ _)⟩
 ·exact⟨_,by simp[binOp_shr,Op.shift,Int.not_lt.2 h3,ai,q_],cX k _ _ (GL ha _)⟩
theorem wv{op:BinOp}(xL:u7 op=true)(x y:List UInt8):Op.stringOp op ⟨x.toArray⟩ ⟨y.toArray⟩=pure (.bool (ai.z op x y)):=by
 cases op<;>simp[u7] at xL<;>simp[Op.stringOp,ai,Fu]
theorem eZ{op:BinOp}{b:Bool}{v:AV}{T:TypeId}{x y:Value}(hx:(Op.equal T x y).run P w=.ok b w)
  (he:binOp .eql T x y=(do pure (.bool (←Op.equal T x y)))) (hn:binOp .neq T x y=(do pure (.bool (!(←Op.equal T x y)))))
  (h:(kL op b).Is v):∃u,(binOp op T x y).run P w=.ok u w∧CR w S m v u:=by
 cases op<;>simp only[kL] at h<;>try exact h.elim
 ·cases h;exact⟨_,by rw[he];simp[hx],cu.2 rfl⟩
 ·cases h;exact⟨_,by rw[hn];simp[hx],cu.2 rfl⟩
theorem qg{d:Nat}{T:TypeId}{ps rs:Array TypeId}{vr:Bool}{f:Fn}{a c:Array Value}(h:P.underlying T=some (.func ps rs vr)) :
  (Op.equalIn (d+1) T (.func f a c) .nilFunc).run P w=.ok false w:=by simp[Op.equalIn,run_underlying h]
theorem rq{d:Nat}{T:TypeId}{ps rs:Array TypeId}{vr:Bool}(h:P.underlying T=some (.func ps rs vr)) :
  (Op.equalIn (d+1) T .nilFunc .nilFunc).run P w=.ok true w:=by simp[Op.equalIn,run_underlying h]
theorem re{d:Nat}{T e:TypeId}{a:Addr}(h:P.underlying T=some (.pointer e)) :
  (Op.equalIn (d+1) T (.pointer (some a)) (.pointer none)).run P w=.ok false w:=by simp[Op.equalIn,run_underlying h]
theorem rK{d:Nat}{T e:TypeId}(h:P.underlying T=some (.pointer e)) :
  (Op.equalIn (d+1) T (.pointer none) (.pointer none)).run P w=.ok true w:=by simp[Op.equalIn,run_underlying h]
theorem jG{d:Nat}{T e:TypeId}{a:Addr}{n c:Nat}(h:P.underlying T=some (.slice e)) :
  (Op.equalIn (d+1) T (.slice (some a) n c) (.slice none 0 0)).run P w=.ok false w:=by simp[Op.equalIn,run_underlying h]
theorem p_{d:Nat}{T e:TypeId}(h:P.underlying T=some (.slice e)) :
  (Op.equalIn (d+1) T (.slice none 0 0) (.slice none 0 0)).run P w=.ok true w:=by simp[Op.equalIn,run_underlying h]
theorem rc.bU{T:TypeId}{ti:TI}{k:TK}(h:rc P T ti)(hk:ti.kind=k):kindOk P T k:=hk▸h.kind
theorem x8{E:PT TI}(hE:fv P E){op:BinOp}{T:TypeId}{x y:AV}{u v:Value}{r:AV}(xo yo:Operand)(hx:CR w S m x u)(hy:CR w S m y v)
  (h:(y_ ai m (E.get T) op x y).Is r):∃z,(do eqGuard op T xo yo u v;binOp op T u v:Sem Value).run P w=.ok z w∧CR w S m r z:=by
 unfold y_ at h
 cases x<;>simp only at h<;>try exact h.elim
 case int k c a=>
  obtain⟨rfl,ha⟩:=bC.1 hx
  cases y<;>simp only at h<;>try exact h.elim
  case int k' c' b=>
   obtain⟨rfl,hb⟩:=bC.1 hy
   rw[eqGuard_at_int,pure_bind]
   cases op<;>simp only at h<;>first
    | exact nt ha (.inl rfl) h
    | exact nt ha (.inr rfl) h
    | exact wz ha hb (by simp) (by simp) h
 case bool c a=>
  have hx:=cu.1 hx;subst hx
  cases y<;>simp only at h<;>try exact h.elim
  case bool c' b=>
   have hy:=cu.1 hy;subst hy
   rw[eqGuard_at_bool,pure_bind]
   cases ht:E.get T with
   | none=>rw[ht] at h;exact h.elim
   | some ti=>
     rw[ht] at h
     simp only at h
     cases hk:ti.kind<;>rw[hk] at h<;>simp only at h<;>try exact h.elim
     have hT:P.underlying T=some .bool:=(hE T ti ht).bU hk
     cases op<;>simp only at h<;>try exact h.elim
     ·cases h;exact⟨_,run_eql_bool w T a b hT,dz _ _⟩
     ·cases h;exact⟨_,run_neq_bool w T a b hT,dz _ _⟩
 case str c a=>
  obtain⟨rfl,ha⟩:=ez.1 hx
  cases y<;>simp only at h<;>try exact h.elim
  case str c' b=>
   obtain⟨rfl,hb⟩:=ez.1 hy
   rw[eqGuard_at_string,pure_bind]
   have hbin:binOp op T (.string ⟨a.toArray⟩) (.string ⟨b.toArray⟩)=Op.stringOp op ⟨a.toArray⟩ ⟨b.toArray⟩:=by cases op<;>rfl
   rw[hbin]
   cases hc:u7 op with
   | true=>
     rw[hc] at h
     cases h
     exact⟨_,by rw[wv hc];rfl,dz _ _⟩
   | false=>
     rw[hc] at h
     cases op<;>simp only at h<;>try exact h.elim
     obtain⟨h1,h2⟩:=h
     cases h2
     have h1:(a++b).length≤cY:=by
      have:((a++b).length:Int)≤140737488355328:=by simpa [ai,lK] using h1
      rw[bX];omega
     refine⟨.string ⟨(a++b).toArray⟩,?_,ez.2 ⟨rfl,h1⟩⟩
     have hs1:(ByteArray.mk a.toArray).size=a.length:=rfl
     have hs2:(ByteArray.mk b.toArray).size=b.length:=rfl
     have h3:¬(((a.length+b.length:Nat):Int) > IntKind.i64.max):=by
      rw[List.length_append,bX] at h1
      rw[IntKind.max_i64]
      omega
     simp only[Op.stringOp,hs1,hs2,h3,if_false]
     have:(ByteArray.mk a.toArray)++(ByteArray.mk b.toArray)=ByteArray.mk (a++b).toArray:=by
      apply ByteArray.ext
      simp
     rw[this];rfl
 case agg xs=>
  obtain⟨us,rfl,hxs⟩:=jc.1 hx
  cases y<;>simp only at h<;>try exact h.elim
  case agg ys=>
   obtain⟨vs,rfl,hys⟩:=jc.1 hy
   cases ht:E.get T with
   | none=>rw[ht] at h;exact h.elim
   | some ti=>
     rw[ht] at h
     simp only at h
     cases hea:ti.eq&&(ti.agg&&fF xs ti.zero) with
     | false=>rw[hea] at h;exact h.elim
     | true=>
       rw[hea] at h
       obtain⟨he,hagg⟩:=Bool.and_eq_true_iff.1 hea
       obtain⟨hagg,hsize⟩:=Bool.and_eq_true_iff.1 hagg
       simp only at h
       cases hc:bI xs ys with
       | none=>rw[hc] at h;exact h.elim
       | some p=>
         obtain⟨c,g⟩:=p
         rw[hc] at h
         simp only at h
         obtain⟨h1,h2⟩:=(hE T ti ht).eq he hagg w S m xs ys us vs c g hsize hc hxs hys
         cases op<;>simp only at h<;>try exact h.elim
         ·cases h
          refine⟨_,?_,dz _ _⟩
          simp only[Sem.run_bind,h2,Result.andThen_ok]
          simp[binOp,h1]
         ·cases h
          refine⟨_,?_,dz _ _⟩
          simp only[Sem.run_bind,h2,Result.andThen_ok]
          simp[binOp,h1,ai]
 case fn f a c=>
  obtain⟨us,vs,rfl,_,_⟩:=mr.1 hx
  cases y<;>simp only at h<;>try exact h.elim
  have hy:=gM.1 hy;subst hy
  rw[eqGuard_at_func,pure_bind]
  cases ht:E.get T with
  | none=>rw[ht] at h;exact h.elim
  | some ti=>
    rw[ht] at h
    simp only at h
    cases hk:ti.kind<;>rw[hk] at h<;>simp only at h<;>try exact h.elim
    obtain⟨ps,rs,v,hT⟩:=(hE T ti ht).bU hk
    exact eZ (b:=false) (qg (d:=9999) hT) rfl rfl h
 case fE=>
  have hx:=gM.1 hx;subst hx
  cases y<;>simp only at h<;>try exact h.elim
  have hy:=gM.1 hy;subst hy
  rw[eqGuard_at_nilFunc,pure_bind]
  cases ht:E.get T with
  | none=>rw[ht] at h;exact h.elim
  | some ti=>
    rw[ht] at h
    simp only at h
    cases hk:ti.kind<;>rw[hk] at h<;>simp only at h<;>try exact h.elim
    obtain⟨ps,rs,v,hT⟩:=(hE T ti ht).bU hk
    exact eZ (b:=true) (rq (d:=9999) hT) rfl rfl h
 case bP=>
  have hx:=fI.1 hx;subst hx
  cases y<;>simp only at h<;>try exact h.elim
  have hy:=fI.1 hy;subst hy
  rw[eqGuard_at_pointer,pure_bind]
  cases ht:E.get T with
  | none=>rw[ht] at h;exact h.elim
  | some ti=>
    rw[ht] at h
    simp only at h
    cases hk:ti.kind<;>rw[hk] at h<;>simp only at h<;>try exact h.elim
    have hT:P.underlying T=some (.pointer _):=(hE T ti ht).bU hk
    exact eZ (b:=true) (rK (d:=9999) hT) rfl rfl h
 case ptr id off=>
  rw[CR] at hx
  cases hm:m.at id<;>rw[hm] at h hx<;>cases y<;>simp only at h<;>try exact h.elim
  subst hx
  have hy:=fI.1 hy;subst hy
  rw[eqGuard_at_pointer,pure_bind]
  cases ht:E.get T with
  | none=>rw[ht] at h;exact h.elim
  | some ti=>
    rw[ht] at h
    simp only at h
    cases hk:ti.kind<;>rw[hk] at h<;>simp only at h<;>try exact h.elim
    have hT:P.underlying T=some (.pointer _):=(hE T ti ht).bU hk
    exact eZ (b:=false) (re (d:=9999) hT) rfl rfl h
 case bd b=>
  obtain⟨a,rfl,hb⟩:=dX.1 hx
  cases b<;>(try simp only at h)<;>try exact h.elim
  cases y<;>(try simp only at h)<;>try exact h.elim
  rename_i b2
  obtain⟨a2,rfl,hb2⟩:=dX.1 hy
  cases b2<;>(try simp only at h)<;>try exact h.elim
  have h1:=hb rfl;have h2:=hb2 rfl;subst h1;subst h2
  rw[eqGuard_at_slice,pure_bind]
  cases ht:E.get T with
  | none=>rw[ht] at h;exact h.elim
  | some ti=>
    rw[ht] at h
    simp only at h
    cases hk:ti.kind<;>rw[hk] at h<;>simp only at h<;>try exact h.elim
    have hT:P.underlying T=some (.slice _):=(hE T ti ht).bU hk
    exact eZ (b:=true) (p_ (d:=9999) hT) rfl rfl h
 case own id=>
  rw[CR] at hx
  cases hm:m.at id<;>rw[hm] at h hx<;>cases y<;>(try simp only at h)<;>try exact h.elim
  rename_i b2
  obtain⟨a2,rfl,hb2⟩:=dX.1 hy
  cases b2<;>(try simp only at h)<;>try exact h.elim
  have h2:=hb2 rfl;subst h2
  obtain⟨cap,rfl,_⟩:=hx
  rw[eqGuard_at_slice,pure_bind]
  cases ht:E.get T with
  | none=>rw[ht] at h;exact h.elim
  | some ti=>
    rw[ht] at h
    simp only at h
    cases hk:ti.kind<;>rw[hk] at h<;>simp only at h<;>try exact h.elim
    have hT:P.underlying T=some (.slice _):=(hE T ti ht).bU hk
    exact eZ (b:=false) (jG (d:=9999) hT) rfl rfl h
 case sl t l=>
  cases y<;>(try simp only at h)<;>try exact h.elim
  rename_i b2
  obtain⟨a2,rfl,hb2⟩:=dX.1 hy
  cases b2<;>(try simp only at h)<;>try exact h.elim
  have h2:=hb2 rfl;subst h2
  obtain⟨a,cap,e,h3,h4,h5,_⟩:=bA.1 (iz.1 hx)
  have e:u=.slice a l.length cap:=by simpa using e
  subst e
  rw[eqGuard_at_slice,pure_bind]
  cases ht:E.get T with
  | none=>rw[ht] at h;exact h.elim
  | some ti=>
    rw[ht] at h
    simp only at h
    cases hk:ti.kind<;>rw[hk] at h<;>simp only at h<;>try exact h.elim
    have hT:P.underlying T=some (.slice _):=(hE T ti ht).bU hk
    cases a with
    | none=>
      have h6:l=[]:=List.eq_nil_of_length_eq_zero (by have:=h5 rfl;omega)
      subst h6
      exact absurd (show ai.c .neq (ai.l ([]:List t.T)) 0=true from h.1) (by simp[ai,lK])
    | some a=>exact eZ (b:=false) (jG (d:=9999) hT) rfl rfl h.2
end
end Go.Ev
namespace Go.Ev
section
variable {P:Program} {w0 w:World} {S:St} {m:Mem}
theorem lT{off n:Nat}{cs l:List AV}(h:aY off n cs=some l):off+n≤cs.length∧l=(cs.drop off).take n:=by
 unfold aY at h
 cases hb:Nat.ble (off+n) cs.length with
 | false=>rw[hb] at h;cases h
 | true=>rw[hb] at h;exact⟨Nat.le_of_ble_eq_true hb,(Option.some.inj h).symm⟩
theorem bF.aY{off n:Nat}{cs l:List AV}{us:List Value}(h:aY off n cs=some l)(hc:bF w S m cs us) :
  ((us.drop off).take n).length=n∧bF w S m l ((us.drop off).take n):=by
 obtain⟨h1,rfl⟩:=lT h
 have:=hc.length
 exact⟨by simp;omega,(hc.drop off).take n⟩
theorem eT.sub{b o:Nat}{us:List Value}(h:eT w b o us)(off n:Nat):eT w b (o+off) ((us.drop off).take n):=by
 intro j u hj
 rw[List.getElem?_take] at hj
 split at hj
 ·rw[List.getElem?_drop] at hj
  have:=h (off+j) u hj
  rwa [←Nat.add_assoc] at this
 ·cases hj
theorem dN{g:Nat}{cs:Array Value}{T:TypeId}{fr:Nat×Nat}(hg:w.heap[g]? = some (.cells cs T fr))(off n:Nat):eT w g off ((cs.toList.drop off).take n):=by
 intro j u hj
 rw[List.getElem?_take] at hj
 split at hj
 ·rw[List.getElem?_drop] at hj
  rw[cell_of_row w g _ cs T fr hg]
  simpa using hj
 ·cases hj
theorem wm(hW:WR w0 w S m){p:AV}{n:Nat}{cs:List AV}{v:Value}(hp:CR w S m p v)(h:wV ai m p n=some cs) :
  ∃b off us,v=.pointer (some ⟨b,off,none⟩)∧us.length=n∧bF w S m cs us∧eT w b off us:=by
 unfold wV at h
 cases p<;>simp only at h<;>try cases h
 case ptr id off=>
  rw[CR] at hp
  have hb:=hW.box id
  cases hm:m.at id<;>rw[hm] at h hp hb<;>simp only at h<;>try cases h
  obtain⟨us,T,fr,h1,_,h3⟩:=hb
  obtain⟨h4,h5⟩:=bF.aY h h3
  exact⟨_,_,_,hp,h4,h5,dN h1 _ _⟩
 case gY id i off=>
  rw[CR] at hp
  have hb:=hW.box id
  cases hm:m.at id<;>rw[hm] at h hp hb<;>simp only at h<;>try cases h
  rename_i fz t x
  obtain⟨k,rfl,hk,rfl⟩:=hp
  obtain⟨_,us,T,fr,h1,_,h3,h4⟩:=hb
  have h5:=h4 k _ (ij hk)
  have h6:=fu (m:=m) t h5
  obtain⟨h7,h8⟩:=bF.aY h h6
  refine⟨_,_,_,rfl,h7,h8,?_⟩
  exact(dN h1 _ _).sub off n
 case mW id off k t i=>
  rw[CR] at hp
  have hb:=hW.box id
  cases hm:m.at id<;>rw[hm] at h hp hb<;>simp only at h<;>try cases h
  rename_i fz fcs
  obtain⟨j,rfl,hj,rfl⟩:=hp
  obtain⟨us,T,fr,h1,_,h3⟩:=hb
  cases hs:Nat.beq t.size n<;>rw[hs] at h<;>(try simp only at h)<;>try (cases h;done)
  have hs:=Nat.eq_of_beq_eq_true hs;subst hs
  cases ht:aY off (k*t.size) fcs with
  | none=>rw[ht] at h;cases h
  | some l=>
    rw[ht] at h
    simp only at h
    obtain⟨h4,h5⟩:=bF.aY ht h3
    cases hd:kr (kG t) k l with
    | none=>rw[hd] at h;cases h
    | some q=>
      obtain⟨x,r⟩:=q
      rw[hd] at h
      cases h
      obtain⟨u1,u2,e,l1,l2,pr,_⟩:=gG (kG t) t.size (fun u y=>aP w S.I t u y) (fun cs x r us h hc=>by
       obtain⟨u1,u2,e,h1,h2⟩:=fK t h hc
       exact⟨u1,u2,e,h1.length,h1,h2⟩) k l x r _ hd h5
      have hu2:u2=[]:=by
       have:=congrArg List.length e
       rw[h4,List.length_append,l1] at this
       exact List.eq_nil_of_length_eq_zero (by omega)
      rw[hu2,List.append_nil] at e
      have h6:=pr j _ (ij (by rw[l2];exact hj))
      refine⟨_,_,_,rfl,h6.length,fu t h6,?_⟩
      have h7:=(dN h1 off (k*t.size)).sub (j*t.size) t.size
      rw[e] at h7
      exact h7
 case lk t x off=>
  obtain⟨b,o,us,rfl,hI,hl,hr,hc⟩:=kM.1 hp
  obtain⟨h4,h5⟩:=bF.aY h (fu (m:=m) t hc)
  exact⟨_,_,_,rfl,h4,h5,hr.sub off n⟩
theorem o4{b off:Nat}{us:List Value}(h:eT w b off us):(loadCells ⟨b,off,none⟩ us.length).run P w=.ok us.toArray w:=
 run_loadCells_list w ⟨b,off,none⟩ us fun j v hj=>by
  have:=h j v hj
  unfold Addr.add
  split
  ·rename_i h0;subst h0;simpa using this
  ·exact this
theorem w6{b off:Nat}{u:Value}(h:eT w b off [u]):(load ⟨b,off,none⟩).run P w=.ok u w:=by
 have:=h 0 u rfl
 simp only[Nat.add_zero] at this
 simp[this]
theorem qF{agg:Bool}{cs:List AV}{us:List Value}{v:AV}(h:tF agg cs=some v)(hc:bF w S m cs us) :
  (agg=true∧CR w S m v (.agg us.toArray))∨(agg=false∧∃u,us=[u]∧CR w S m v u):=by
 unfold tF at h
 cases agg with
 | true=>cases h;exact .inl ⟨rfl,jc.2 ⟨_,rfl,by simpa using hc⟩⟩
 | false=>
   refine .inr ⟨rfl,?_⟩
   cases cs with
   | nil=>cases h
   | cons a r=>
     cases r with
     | cons _ _=>cases h
     | nil=>
       cases h
       obtain⟨u,r,rfl,h1,h2⟩:=hc.cons_inv
       rw[bF] at h2;subst h2
       exact⟨u,rfl,h1⟩
theorem ov{E:PT TI}(hE:fv P E)(hW:WR w0 w S m){T:TypeId}{p:AV}{v:Value}{r:AV}(hp:CR w S m p v)(h:(qo ai (E.get T) m p).Is r) :
  ∃b off u,v=.pointer (some ⟨b,off,none⟩)∧(loadVar T ⟨b,off,none⟩).run P w=.ok u w∧CR w S m r u:=by
 unfold qo at h
 cases ht:E.get T with
 | none=>rw[ht] at h;exact h.elim
 | some ti=>
   rw[ht] at h
   simp only at h
   have hT:=hE T ti ht
   cases hl:wV ai m p ti.size with
   | none=>rw[hl] at h;exact h.elim
   | some cs=>
     rw[hl] at h
     replace h:=jC h
     obtain⟨b,off,us,rfl,h1,h2,h3⟩:=wm hW hp hl
     refine⟨b,off,?_⟩
     rcases qF h h2 with ⟨ha,hc⟩|⟨ha,u,rfl,hc⟩
     ·refine⟨_,rfl,?_,hc⟩
      simp only[loadVar,Sem.run_bind,hT.agg,Result.andThen_ok,ha,if_true,hT.iE]
      rw[←h1,o4 h3]
      rfl
     ·refine⟨u,rfl,?_,hc⟩
      simp only[loadVar,Sem.run_bind,hT.agg,Result.andThen_ok,ha]
      exact w6 h3
theorem zD{op:UnOp}{x:AV}{u:Value}{r:AV}(hx:CR w S m x u)(h:(Gu ai op x).Is r):∃z,(Op.unary op u).run P w=.ok z w∧CR w S m r z:=by
 unfold Gu at h
 cases op<;>cases x<;>simp only at h<;>try exact h.elim
 case neg.int k c n=>
  obtain⟨rfl,hn⟩:=bC.1 hx
  cases h
  exact⟨_,by simp[Op.unary,Op.intArith,ai,JN],cX k _ _ (fh _ _)⟩
 case xor.int k c n=>
  obtain⟨rfl,hn⟩:=bC.1 hx
  cases h
  exact⟨_,by simp[Op.unary,Op.intBits,ai,JN],cX k _ _ (fh _ _)⟩
 case not.bool c b=>
  have hx:=cu.1 hx;subst hx
  cases h
  exact⟨_,by simp[Op.unary,ai],dz _ _⟩
theorem iw{b off n:Nat}:(⟨b,off,none⟩:Addr).add n=⟨b,off+n,none⟩:=Addr.add_lit b off n
theorem oG{E:PT TI}(hE:fv P E){T:TypeId}{p:AV}{v:Value}{i:Nat}{r:AV}(hp:CR w S m p v)(h:(jX m (E.get T) p i).Is r) :
  ∃z,(Instr.fieldAt T v i).run P w=.ok z w∧CR w S m r z:=by
 unfold jX at h
 cases ht:E.get T with
 | none=>rw[ht] at h;exact h.elim
 | some ti=>
   rw[ht] at h
   obtain⟨k,size,bytes,agg,zero,ty,eq⟩:=ti
   cases k<;>simp only at h<;>try exact h.elim
   rename_i fs
   obtain⟨F,hF,hFs,hf⟩:=(hE T _ ht).bU (k:=.struct fs) rfl
   cases hi:fs[i]? with
   | none=>rw[hi] at h;exact h.elim
   | some q=>
     obtain⟨off,sz,ag⟩:=q
     rw[hi] at h
     simp only at h
     cases hz:Nat.beq sz 0 with
     | true=>rw[hz] at h;exact h.elim
     | false=>
       rw[hz] at h
       replace h:=jC h
       obtain⟨f,j,h1,rfl,h3,rfl,_⟩:=hf i _ _ _ hi
       replace hz:j.size≠0:=fun e=>by rw[e] at hz;cases hz
       have key:∀b o:Nat,v=.pointer (some ⟨b,o,none⟩)→(Instr.fieldAt T v i).run P w=.ok (.pointer (some ⟨b,o+f.offset,none⟩)) w:=by
        rintro b o rfl
        simp[Instr.fieldAt,run_underlying hF,h1,Instr.sureAddr,fieldPlace,sizeOf,typeInfo,h3,hz,iw]
       unfold FG at h
       cases p<;>simp only at h<;>try (cases h;done)
       case ptr id o=>
        rw[CR] at hp
        cases hm:m.at id<;>rw[hm] at hp h<;>simp only at hp h<;>try (cases h;done)
        cases h
        exact⟨_,key _ _ hp,by rw[CR,hm]⟩
       case gY id i o=>
        rw[CR] at hp
        cases hm:m.at id<;>rw[hm] at hp h<;>simp only at hp h<;>try (cases h;done)
        cases h
        obtain⟨k,rfl,hk,hv⟩:=hp
        exact⟨_,key _ _ hv,by rw[CR,hm];exact⟨k,rfl,hk,by rw[Nat.add_assoc]⟩⟩
       case lk t x o=>
        cases h
        obtain⟨b,o',us,hv,hI,hl,hr,hc⟩:=kM.1 hp
        exact⟨_,key _ _ hv,kM.2 ⟨b,o',us,by rw[Nat.add_assoc],hI,hl,hr,hc⟩⟩
theorem rN{T:TypeId}{ag:Bool}{us:Array Value}{off sz:Nat}{cs l:List AV}{v:AV}(hagg:(isAgg T).run P w=.ok ag w)(hsz:(sizeOf T).run P w=.ok sz w)
  (hc:bF w S m cs us.toList) (ht:aY off sz cs=some l) (hv:tF ag l=some v):∃z,(part T us off).run P w=.ok z w∧CR w S m v z:=by
 obtain⟨h1,h2⟩:=bF.aY ht hc
 obtain⟨h3,_⟩:=lT ht
 have hlen:=hc.length
 rcases qF hv h2 with ⟨ha,h⟩|⟨ha,u,hu,h⟩
 ·refine⟨_,?_,h⟩
  simp only[part,Sem.run_bind,hagg,ha,Result.andThen_ok,if_true,hsz,Sem.run_pure]
  congr 2
  apply Array.ext'
  simp
 ·refine⟨u,?_,h⟩
  have hs1:sz=1:=by rw[←h1,hu];rfl
  have hu':us.toList[off]? = some u:=by
   have:=congrArg (fun l:List Value=>l[0]?) hu
   simp only[List.getElem?_cons_zero] at this
   rw[List.getElem?_take] at this
   split at this
   ·rw[List.getElem?_drop] at this;simpa using this
   ·cases this
  have hu2:us[off]? = some u:=by simpa using hu'
  simp only[part,Sem.run_bind,hagg,ha,Result.andThen_ok,Bool.false_eq_true,if_false,hu2,Sem.run_pure]
theorem uB{E:PT TI}(hE:fv P E){T:TypeId}{x:AV}{v:Value}{i:Nat}{r:AV}(hp:CR w S m x v)(h:(rD (E.get T) x i).Is r) :
  ∃z,(Instr.field T v i).run P w=.ok z w∧CR w S m r z:=by
 unfold rD at h
 cases ht:E.get T with
 | none=>rw[ht] at h;exact h.elim
 | some ti=>
   rw[ht] at h
   obtain⟨k,size,bytes,agg,zero,ty,eq⟩:=ti
   cases k<;>(try simp only at h)<;>try exact h.elim
   rename_i fs
   obtain⟨F,hF,hFs,hf⟩:=(hE T _ ht).bU (k:=.struct fs) rfl
   cases x<;>(try simp only at h)<;>try exact h.elim
   rename_i cs
   obtain⟨us,rfl,hc⟩:=jc.1 hp
   cases hi:fs[i]? with
   | none=>rw[hi] at h;exact h.elim
   | some q=>
     obtain⟨off,sz,ag⟩:=q
     rw[hi] at h
     simp only at h
     cases hl:aY off sz cs with
     | none=>rw[hl] at h;exact h.elim
     | some l=>
       rw[hl] at h
       replace h:=jC h
       obtain⟨f,j,h1,rfl,h3,rfl,h5⟩:=hf i _ _ _ hi
       obtain⟨z,h6,h7⟩:=rN (T:=f.type) (h5 w) (by simp[sizeOf,typeInfo,h3]) hc hl h
       exact⟨z,by simp[Instr.field,run_underlying hF,h1,asAgg,h6],h7⟩
theorem dy{c c':Bool}{i n:Int}{t:TV AV}{r:AV}(h:(fy ai c i c' n t).Is r):0≤i∧i<n∧t.Is r:=by
 unfold fy at h
 cases hc:c&&c' with
 | true=>
   rw[hc] at h
   cases hb:ai.and (ai.c .leq 0 i) (ai.c .lss i n) with
   | false=>rw[hb] at h;exact h.elim
   | true=>
     rw[hb] at h
     simp[ai,lK] at hb
     exact⟨hb.1,hb.2,h⟩
 | false=>
   rw[hc] at h
   obtain⟨hb,h⟩:=h
   simp[ai,lK] at hb
   exact⟨hb.1,hb.2,h⟩
theorem wrap_small{n:Int}(h0:0≤n)(h1:n≤4611686018427387904):IntKind.i64.wrap n=n:=by
 have e:n%(18446744073709551616:Int)=n:=Int.emod_eq_of_lt h0 (by omega)
 simp[IntKind.wrap,IntKind.bits,IntKind.signed,e]
 omega
theorem nU{E:PT TI}(hE:fv P E)(hW:WR w0 w S m){T:TypeId}{x ix:AV}{v vi:Value}{r:AV}(hx:CR w S m x v)(hi:CR w S m ix vi)
  (h:(jM ai (E.get T) E.get m x ix).Is r):∃z,(Instr.indexAt T v vi).run P w=.ok z w∧CR w S m r z:=by
 unfold jM at h
 cases ix<;>simp only at h<;>try exact h.elim
 rename_i k c i
 obtain⟨rfl,hk⟩:=bC.1 hi
 cases ht:E.get T with
 | none=>rw[ht] at h;exact h.elim
 | some ti=>
   rw[ht] at h
   obtain⟨kd,size,bytes,agg,zero,ty,eq⟩:=ti
   cases kd<;>simp only at h<;>try exact h.elim
   case arr n e=>
    have hT:P.underlying T=some (.array n e):=(hE T _ ht).bU (k:=.arr n e) rfl
    cases hte:E.get e with
    | none=>rw[hte] at h;cases x<;>exact h.elim
    | some te=>
      rw[hte] at h
      cases x<;>simp only at h<;>try exact h.elim
      rename_i id off
      rw[CR] at hx
      cases hm:m.at id<;>rw[hm] at hx h<;>simp only at hx h<;>try exact h.elim
      subst hx
      have hsz:=(hE e te hte).iE w
      have key:∀(_:0≤i) (_:i<n),(Instr.indexAt T (.pointer (some ⟨S.σ id,off,none⟩)) (.int k i)).run P w=.ok (.pointer (some ⟨S.σ id,off+i.toNat*te.size,none⟩)) w:=by
       intro h0 h1
       simp[Instr.indexAt,asIntOf,run_underlying hT,Instr.sureAddr,h0,h1,hsz,iw]
      cases c with
      | true=>
        obtain⟨h0,h1,h2⟩:=dy h
        cases h2
        exact⟨_,key h0 h1,by rw[CR,hm]⟩
      | false=>
        simp only at h
        cases hty:te.ty with
        | none=>rw[hty] at h;exact h.elim
        | some t=>
          rw[hty] at h
          obtain⟨h0,h1,h2⟩:=dy h
          cases h2
          exact⟨_,key h0 h1,by rw[CR,hm];exact⟨i.toNat,by omega,by omega,by rw[((hE e te hte).ty t hty).1]⟩⟩
   case slice e=>
    have hT:P.underlying T=some (.slice e):=(hE T _ ht).bU (k:=.slice e) rfl
    cases hte:E.get e with
    | none=>rw[hte] at h;exact h.elim
    | some te=>
      rw[hte] at h
      simp only at h
      have hsz:=(hE e te hte).iE w
      have key:∀(b o len cap:Nat) (_:0≤i) (_:i<len),(Instr.indexAt T (.slice (some ⟨b,o,none⟩) len cap) (.int k i)).run P w=.ok (.pointer (some ⟨b,o+i.toNat*te.size,none⟩)) w:=by
       intro b o len cap h0 h1
       simp[Instr.indexAt,asIntOf,run_underlying hT,h0,h1,hsz,iw]
      cases x<;>simp only at h<;>try exact h.elim
      case sl t l=>
       cases hs:Nat.beq te.size t.size with
       | false=>rw[hs] at h;exact h.elim
       | true=>
         rw[hs] at h
         replace hs:=Nat.eq_of_beq_eq_true hs
         obtain⟨h0,h1,h2⟩:=dy h
         cases h2
         obtain⟨a,cap,e1,h3,h4,h5,h6⟩:=bA.1 (iz.1 hx)
         replace h1:i<(l.length:Int):=h1
         have h7:=ij (t:=t) (x:=l) (i:=i.toNat) (by omega)
         rw[show((i.toNat:Nat):Int)=i from by omega] at h7
         obtain⟨b,off,us,rfl,hI,hl,hr,hc⟩:=h6 _ _ h7
         cases e1
         exact⟨_,key _ _ _ _ h0 h1,kM.2 ⟨b,off+i.toNat*t.size,us,by rw[hs];rfl,hI,hl,hr,hc⟩⟩
      case own id=>
       rw[CR] at hx
       cases hm:m.at id<;>rw[hm] at hx h<;>simp only at hx h<;>try exact h.elim
       rename_i fz t l
       cases hs:Nat.beq te.size t.size with
       | false=>rw[hs] at h;exact h.elim
       | true=>
         rw[hs] at h
         replace hs:=Nat.eq_of_beq_eq_true hs
         obtain⟨h0,h1,h2⟩:=dy h
         cases h2
         obtain⟨cap,rfl,h3,_⟩:=hx
         replace h1:i<(l.length:Int):=h1
         exact⟨_,key _ _ _ _ h0 h1,by rw[CR,hm];exact⟨i.toNat,by omega,by omega,by rw[hs];rfl⟩⟩
      case jD id sz c' lo len=>
       have hb:=hW.box id
       rw[CR] at hx
       cases hm:m.at id<;>rw[hm] at hx h hb<;>simp only at hx h<;>try exact h.elim
       case arr fz t l=>
        cases hs:Nat.beq te.size t.size with
        | false=>rw[hs] at h;exact h.elim
        | true=>
          rw[hs] at h
          replace hs:=Nat.eq_of_beq_eq_true hs
          obtain⟨h0,h1,h2⟩:=dy h
          cases h2
          obtain⟨l0,n0,cap,a,rfl,rfl,rfl,h5,h6,h6',rfl,h8⟩:=hx
          have ha:=h8 (by omega);subst ha
          obtain⟨hl,_⟩:=hb
          rw[bX] at hl
          refine⟨_,key _ _ _ _ h0 h1,?_⟩
          rw[CR,hm]
          refine⟨l0+i.toNat,?_,by omega,?_⟩
          ·show IntKind.i64.wrap _=_
           rw[wrap_small (by omega) (by omega)];omega
          ·rw[hs,Nat.add_mul];simp[Nat.add_assoc]
       case flat fz cs=>
        obtain⟨l0,n0,cap,a,rfl,rfl,h4,h5,h6,h6',rfl,h8⟩:=hx
        cases hcc:c&&(c'&&Nat.beq sz te.size) with
        | true=>
          rw[hcc] at h
          simp only[Bool.and_eq_true] at hcc
          have hs:=Nat.eq_of_beq_eq_true hcc.2.2
          obtain⟨h0,h1,h2⟩:=dy h
          cases h2
          have ha:=h8 (by omega);subst ha
          refine⟨_,key _ _ _ _ h0 h1,?_⟩
          rw[CR,hm]
          rw[show((l0:Int)+i).toNat=l0+i.toNat from by omega,Nat.add_mul,hs]
        | false=>
          rw[hcc] at h
          simp only at h
          cases hty:te.ty with
          | none=>rw[hty] at h;exact h.elim
          | some t=>
            rw[hty] at h
            cases hc2:c'&&Nat.beq sz te.size with
            | false=>
              rw[hc2] at h
              simp only at h
              cases hc3:Nat.beq sz te.size&&Nat.blt 0 te.size with
              | false=>rw[hc3] at h;exact h.elim
              | true=>
                rw[hc3] at h
                rw[Bool.and_eq_true] at hc3
                have hs:=Nat.eq_of_beq_eq_true hc3.1
                have hpos:0<te.size:=Nat.le_of_ble_eq_true hc3.2
                obtain⟨h0,h1,h2⟩:=dy h
                cases h2
                have ha:=h8 (by omega);subst ha
                refine⟨_,key _ _ _ _ h0 h1,?_⟩
                rw[bX] at h4
                rw[CR,hm]
                refine⟨l0+i.toNat,?_,?_,?_⟩
                ·show IntKind.i64.wrap _=_
                 rw[wrap_small (by omega) (by omega)];omega
                ·have h9:(l0+i.toNat+1)*te.size≤cs.length:=Nat.le_trans (Nat.mul_le_mul (by omega) (Nat.le_of_eq hs.symm)) h5
                 exact(Nat.le_div_iff_mul_le hpos).2 h9
                ·rw[((hE e te hte).ty t hty).1,hs,Nat.add_mul];simp
            | true=>
              rw[hc2] at h
              simp only[Bool.and_eq_true] at hc2
              have hs:=Nat.eq_of_beq_eq_true hc2.2
              obtain⟨h0,h1,h2⟩:=dy h
              cases h2
              have ha:=h8 (by omega);subst ha
              refine⟨_,key _ _ _ _ h0 h1,?_⟩
              rw[CR,hm]
              exact⟨i.toNat,by omega,by omega,by rw[((hE e te hte).ty t hty).1];simp[hs]⟩
end
end Go.Ev
namespace Go.Ev
section
variable {P:Program} {w0 w:World} {S:St} {m:Mem}
theorem zJ{t:Ty}{T:TypeId}{us:Array Value}{off:Nat}{x:t.T}(hagg:(isAgg T).run P w=.ok t.isAgg w)(hsz:(sizeOf T).run P w=.ok t.size w)
  (hc:aP w S.I t ((us.toList.drop off).take t.size) x) (hne:off+t.size≤us.size):∃z,(part T us off).run P w=.ok z w∧CR w S m (Cu ai t x) z:=by
 cases ht:t.isAgg with
 | true=>
   refine⟨.agg (us.extract off (off+t.size)),?_,oI ?_⟩
   ·simp only[part,Sem.run_bind,hagg,ht,Result.andThen_ok,if_true,hsz,Sem.run_pure]
   ·unfold iB
    rw[ht,if_pos rfl]
    refine⟨_,rfl,?_⟩
    have:(us.extract off (off+t.size)).toList=(us.toList.drop off).take t.size:=by simp
    rw[this];exact hc
 | false=>
   have hs1:t.size=1:=by cases t<;>first|rfl|(simp[Ty.isAgg] at ht)
   have hlt:off<us.size:=by omega
   refine⟨us[off],?_,oI ?_⟩
   ·simp only[part,Sem.run_bind,hagg,ht,Result.andThen_ok,Bool.false_eq_true,if_false,Array.getElem?_eq_getElem hlt,Sem.run_pure]
   ·unfold iB
    rw[ht,if_neg (by simp)]
    have:(us.toList.drop off).take t.size=[us[off]]:=by
     rw[hs1,List.drop_eq_getElem_cons (by simpa using hlt)]
     simp
    rw[←this];exact hc
theorem uL{E:PT TI}(hE:fv P E){T:TypeId}{x ix:AV}{v vi:Value}{r:AV}(hx:CR w S m x v)(hi:CR w S m ix vi)
  (h:(rv ai (E.get T) E.get x ix).Is r):∃z,(Instr.index T v vi).run P w=.ok z w∧CR w S m r z:=by
 unfold rv at h
 cases ix<;>simp only at h<;>try exact h.elim
 rename_i k c i
 obtain⟨rfl,hk⟩:=bC.1 hi
 cases ht:E.get T with
 | none=>rw[ht] at h;exact h.elim
 | some ti=>
   rw[ht] at h
   obtain⟨kd,size,bytes,agg,zero,ty,eq⟩:=ti
   cases kd<;>(try simp only at h)<;>try exact h.elim
   case arr n e=>
    have hT:P.underlying T=some (.array n e):=(hE T _ ht).bU (k:=.arr n e) rfl
    cases x<;>(try simp only at h)<;>try exact h.elim
    rename_i cs
    obtain⟨us,rfl,hcs⟩:=jc.1 hx
    cases hte:E.get e with
    | none=>rw[hte] at h;exact h.elim
    | some te=>
      rw[hte] at h
      simp only at h
      have hO:=hE e te hte
      have hsz:=hO.iE w
      cases c with
      | true=>
        simp only at h
        cases hl:aY (i.toNat*te.size) te.size cs with
        | none=>rw[hl] at h;exact h.elim
        | some l=>
          rw[hl] at h
          simp only at h
          cases hv:tF te.agg l with
          | none=>rw[hv] at h;exact h.elim
          | some v=>
            rw[hv] at h
            obtain⟨h0,h1,h2⟩:=dy h
            cases h2
            obtain⟨z,h3,h4⟩:=rN (T:=e) (hO.agg w) hsz hcs hl hv
            exact⟨z,by simp[Instr.index,asIntOf,run_underlying hT,h0,h1,hsz,h3],h4⟩
      | false=>
        simp only at h
        cases hty:te.ty with
        | none=>rw[hty] at h;exact h.elim
        | some t=>
          rw[hty] at h
          simp only at h
          cases hd:kr (kG t) n cs with
          | none=>rw[hd] at h;exact h.elim
          | some q=>
            obtain⟨l,rr⟩:=q
            rw[hd] at h
            obtain⟨h0,h1,h2⟩:=dy h
            cases h2
            obtain⟨hts,hta⟩:=hO.ty t hty
            obtain⟨u1,u2,e1,l1,l2,pr,_⟩:=gG (kG t) t.size (fun u y=>aP w S.I t u y) (fun cs x r us h hc=>by
             obtain⟨u1,u2,e,h1,h2⟩:=fK t h hc
             exact⟨u1,u2,e,h1.length,h1,h2⟩) n cs l rr _ hd hcs
            have h6:=pr i.toNat _ (ij (by rw[l2];omega))
            rw[show((i.toNat:Nat):Int)=i from by omega] at h6
            have hle:i.toNat*t.size+t.size≤n*t.size:=by
             have:=Nat.mul_le_mul_right t.size (show i.toNat+1≤n by omega)
             rwa [Nat.succ_mul] at this
            have hlen:us.size=u1.length+u2.length:=by
             have:=congrArg List.length e1
             simpa using this
            have h7:(u1.drop (i.toNat*t.size)).take t.size=(us.toList.drop (i.toNat*t.size)).take t.size:=by
             rw[e1,List.drop_append_of_le_length (by omega),List.take_append_of_le_length (by simp;omega)]
            rw[h7] at h6
            obtain⟨z,h8,h9⟩:=zJ (m:=m) (T:=e) (by rw[hta];exact hO.agg w) (by rw[hts];exact hsz) h6 (by omega)
            refine⟨z,?_,h9⟩
            rw[hts] at h8
            simp[Instr.index,asIntOf,run_underlying hT,h0,h1,hsz,h8]
   case str=>
    have hT:P.underlying T=some .string:=(hE T _ ht).bU (k:=.str) rfl
    cases x<;>(try simp only at h)<;>try exact h.elim
    rename_i c' s
    obtain⟨rfl,hs⟩:=ez.1 hx
    have key:∀(_:0≤i) (_:i<(s.length:Int)),(Instr.index T (.string ⟨s.toArray⟩) (.int k i)).run P w=.ok (.int .u8 (ai.byte s i)) w∧IntKind.u8.has (ai.byte s i):=by
     intro h0 h1
     have hlt:i.toNat<s.length:=by omega
     have hg:(ByteArray.mk s.toArray)[i.toNat]? = some s[i.toNat]:=by
      have hsz:i.toNat<(ByteArray.mk s.toArray).size:=hlt
      rw[getElem?_pos (ByteArray.mk s.toArray) i.toNat hsz]
      rfl
     have hb:ai.byte s i=(s[i.toNat].toNat:Int):=by
      show((s.getD i.toNat 0).toNat:Int)=_
      rw[List.getD_eq_getElem?_getD,List.getElem?_eq_getElem hlt];rfl
     refine⟨?_,?_⟩
     ·simp[Instr.index,asIntOf,run_underlying hT,h0,hg,hb]
     ·rw[hb]
      have:=s[i.toNat].toNat_lt
      have e1:IntKind.u8.min=0:=by decide
      have e2:IntKind.u8.max=255:=by decide
      constructor<;>omega
    cases hcc:c&&c' with
    | true=>
      rw[hcc] at h
      obtain⟨h0,h1,h2⟩:=dy h
      cases h2
      obtain⟨h3,h4⟩:=key h0 h1
      exact⟨_,h3,bC.2 ⟨rfl,h4⟩⟩
    | false=>
      rw[hcc] at h
      obtain⟨h0,h1,h2⟩:=dy h
      cases h2
      obtain⟨h3,h4⟩:=key h0 h1
      exact⟨_,h3,bC.2 ⟨rfl,h4⟩⟩
def tQ(d:Int)(o:Option Value)(l:Int):Prop:=(o=none∧l=d)∨∃k,o=some (.int k l)
theorem ck{ρa:Operand→AV}{ρc:Operand→Value}(hρ:∀x,CR w S m (ρa x) (ρc x)){c c1:Bool}{d l:Int}{o:Option Operand}(h:bound c d (o.map ρa)=some (c1,l)):tQ d (o.map ρc) l:=by
 cases o with
 | none=>cases h;exact .inl ⟨rfl,rfl⟩
 | some x=>
   refine .inr ?_
   have hx:=hρ x
   simp only[Option.map_some,bound] at h ⊢
   cases ha:ρa x<;>rw[ha] at h hx<;>simp only at h<;>try (cases h;done)
   cases h
   exact⟨_,by rw[(bC.1 hx).1]⟩
theorem gF{c:Bool}{l h n:Int}{t:TV AV}{r:AV}(hh:(lX ai c l h n t).Is r):0≤l∧l≤h∧h≤n∧t.Is r:=by
 unfold lX at hh
 cases c with
 | true=>
   cases hb:ai.and (ai.c .leq 0 l) (ai.and (ai.c .leq l h) (ai.c .leq h n)) with
   | false=>rw[hb] at hh;exact hh.elim
   | true=>
     rw[hb] at hh
     simp[ai,lK] at hb
     exact⟨hb.1,hb.2.1,hb.2.2,hh⟩
 | false=>
   obtain⟨hb,hh⟩:=hh
   simp[ai,lK] at hb
   exact⟨hb.1,hb.2.1,hb.2.2,hh⟩
theorem iP{isS:Bool}{len cap:Nat}{lo hi:Option Value}{l h:Int}(hl:tQ 0 lo l)(hh:tQ len hi h)(h0:0≤l)(h1:l≤h)(h2:h≤cap) :
  (Instr.sliceBounds isS len cap lo hi none).run P w=.ok (l.toNat,h.toNat,cap) w:=by
 have a1:∀k (y:Nat) c,l≤y→(Instr.sliceBound (.int k l) y c).run P w=.ok l.toNat w:=fun k y c hy=>run_sliceBound w k l y c h0 hy
 have a2:∀k (y:Nat) c,h≤y→(Instr.sliceBound (.int k h) y c).run P w=.ok h.toNat w:=fun k y c hy=>run_sliceBound w k h y c (by omega) hy
 have hhn:l≤(h.toNat:Int):=by omega
 rcases hl with ⟨rfl,rfl⟩|⟨k,rfl⟩<;>rcases hh with ⟨rfl,rfl⟩|⟨k',rfl⟩
 ·simp[Instr.sliceBounds]
 ·simp[Instr.sliceBounds,a2 _ cap _ h2]
 ·simp[Instr.sliceBounds,a1 _ len _ (by omega)]
 ·simp[Instr.sliceBounds,a2 _ cap _ h2,a1 _ h.toNat _ hhn]
theorem aP.sub{t:Ty}{I:Nat→Prop}{a:Option Addr}{cap:Nat}{x:List t.T}(h:aP w I (.slice t) [.slice a x.length cap] x){l hh:Nat}(h1:l≤hh)(h2:hh≤x.length) :
  aP w I (.slice t) [.slice (if cap=l then a else a.map (·.add (l*t.size))) (hh-l) (cap-l)] ((x.take hh).drop l):=by
 obtain⟨a',cap',e,h3,h4,h5,h6⟩:=bA.1 h
 cases e
 have hlen:((x.take hh).drop l).length=hh-l:=by simp;omega
 refine bA.2 ⟨_,cap-l,by rw[hlen],by rw[hlen];omega,by rw[hlen];omega,?_,fun i y hy=>?_⟩
 ·intro hn
  split at hn
  ·have:=h5 hn;omega
  ·cases a with
   | none=>have:=h5 rfl;omega
   | some _=>cases hn
 ·rw[List.getElem?_drop,List.getElem?_take] at hy
  split at hy
  ·rename_i hlt
   obtain⟨b,off,us,rfl,hI,hl,hr,hc⟩:=h6 _ _ hy
   have hx:l+i<x.length:=by omega
   refine⟨b,off+l*t.size,us,?_,hI,hl,?_,hc⟩
   ·rw[if_neg (by omega)]
    simp[iw]
   ·rw[Nat.add_assoc,←Nat.add_mul];exact hr
  ·cases hy
theorem jw{ρa:Operand→AV}{ρc:Operand→Value}(hρ:∀x,CR w S m (ρa x) (ρc x)){T e:TypeId}(hT:P.underlying T=some (.slice e)){sz:Nat}(hsz:(sizeOf e).run P w=.ok sz w)
  {lo hi:Option Operand} {mx:Operand} {b:Bool} {r:AV} {a:Option Addr} {len cap:Nat} (h:(lZ (lo.map ρa) (hi.map ρa) (some (ρa mx)) b).Is r) :
  ∃z,(Instr.sliceAt T (.slice a len cap) (lo.map ρc) (hi.map ρc) (some (ρc mx))).run P w=.ok z w∧r=.bd b∧∃a',z=.slice a' 0 0∧(a=none→a'=none):=by
 unfold lZ at h
 cases hm:ρa mx<;>rw[hm] at h<;>(try simp only at h)<;>try exact h.elim
 rename_i k1 c1 i1
 have hx1:=hρ mx
 rw[hm] at hx1
 cases c1<;>(try simp only at h)<;>try exact h.elim
 by_cases hi1:i1=0
 ·subst hi1
  simp only at h
  cases hi with
  | none=>exact h.elim
  | some hi=>
    simp only[Option.map_some] at h ⊢
    have hx2:=hρ hi
    cases hm2:ρa hi<;>rw[hm2] at h hx2<;>(try simp only at h)<;>try exact h.elim
    rename_i k2 c2 i2
    cases c2<;>(try simp only at h)<;>try exact h.elim
    by_cases hi2:i2=0
    ·subst hi2
     simp only at h
     have e1:=(bC.1 hx1).1
     have e2:=(bC.1 hx2).1
     rw[e1,e2]
     cases lo with
     | none=>
       cases h
       refine⟨.slice (if 0=0 then a else a) 0 0,?_,rfl,a,by simp,fun h=>h⟩
       simp[Instr.sliceAt,Instr.slice,run_underlying hT,Instr.sliceBounds,run_sliceBound,hsz]
     | some lo=>
       simp only[Option.map_some] at h ⊢
       have hx3:=hρ lo
       cases hm3:ρa lo<;>rw[hm3] at h hx3<;>(try simp only at h)<;>try exact h.elim
       rename_i k3 c3 i3
       cases c3<;>(try simp only at h)<;>try exact h.elim
       by_cases hi3:i3=0
       ·subst hi3
        simp only at h
        have e3:=(bC.1 hx3).1
        rw[e3]
        cases h
        refine⟨.slice (if 0=0 then a else a) 0 0,?_,rfl,a,by simp,fun h=>h⟩
        simp[Instr.sliceAt,Instr.slice,run_underlying hT,Instr.sliceBounds,run_sliceBound,hsz]
       ·exfalso
        revert h
        cases i3 with
        | ofNat n=>cases n with
          | zero=>exact absurd rfl hi3
          | succ n=>exact fun h=>h.elim
        | negSucc n=>exact fun h=>h.elim
    ·exfalso
     revert h
     cases i2 with
     | ofNat n=>cases n with
       | zero=>exact absurd rfl hi2
       | succ n=>exact fun h=>h.elim
     | negSucc n=>exact fun h=>h.elim
 ·exfalso
  revert h
  cases i1 with
  | ofNat n=>cases n with
    | zero=>exact absurd rfl hi1
    | succ n=>exact fun h=>h.elim
  | negSucc n=>exact fun h=>h.elim
end
end Go.Ev
namespace Go.Ev
section
variable {P:Program} {w0 w:World} {S:St} {m:Mem}
theorem jb{T e:TypeId}(hT:P.underlying T=some (.slice e)){sz:Nat}(hsz:(sizeOf e).run P w=.ok sz w){a:Option Addr}{len cap:Nat}{lo hi:Option Value}{l h:Int}
  (hl:tQ 0 lo l) (hh:tQ len hi h) (h0:0≤l) (h1:l≤h) (h2:h≤cap) :
  (Instr.sliceAt T (.slice a len cap) lo hi none).run P w=.ok (.slice (if cap=l.toNat then a else a.map (·.add (l.toNat*sz))) (h.toNat-l.toNat) (cap-l.toNat)) w:=by
 simp only[Instr.sliceAt,Sem.run_bind,run_underlying hT,Result.andThen_ok,Instr.slice,iP hl hh h0 h1 h2,hsz,Sem.run_pure]
theorem tW(hW:WR w0 w S m){ρa:Operand→AV}{ρc:Operand→Value}(hρ:∀x,CR w S m (ρa x) (ρc x)){T e:TypeId}(hT:P.underlying T=some (.slice e)){sz:Nat}(hsz:(sizeOf e).run P w=.ok sz w)
  {xo:Operand} {lo hi mx:Option Operand} {r:AV} (h:(tN ai sz m (ρa xo) (lo.map ρa) (hi.map ρa) (mx.map ρa)).Is r) :
  ∃z,(Instr.sliceAt T (ρc xo) (lo.map ρc) (hi.map ρc) (mx.map ρc)).run P w=.ok z w∧CR w S m r z:=by
 have hx:=hρ xo
 unfold tN at h
 cases ha:ρa xo<;>rw[ha] at h hx<;>(try simp only at h)<;>try exact h.elim
 case sl t s=>
  cases hs:Nat.beq t.size sz with
  | false=>rw[hs] at h;exact h.elim
  | true=>
    rw[hs] at h
    replace hs:=Nat.eq_of_beq_eq_true hs
    obtain⟨a,cap,e1,h3,h4,h5,h6⟩:=bA.1 (iz.1 hx)
    have e2:ρc xo=.slice a s.length cap:=by simpa using e1
    rw[e2]
    cases mx with
    | none=>
      simp only[Option.map_none] at h ⊢
      cases hb1:bound true 0 (lo.map ρa) with
      | none=>rw[hb1] at h;exact h.elim
      | some p1=>
        obtain⟨c1,l⟩:=p1
        rw[hb1] at h
        cases hb2:bound false (ai.l s) (hi.map ρa) with
        | none=>rw[hb2] at h;exact h.elim
        | some p2=>
          obtain⟨c2,hh⟩:=p2
          rw[hb2] at h
          obtain⟨h0,h1,h2,h7⟩:=gF h
          cases h7
          have h2:hh≤(s.length:Int):=h2
          refine⟨_,jb hT hsz (ck hρ hb1) (ck (d:=(s.length:Int)) hρ hb2) h0 h1 (by omega),iz.2 ?_⟩
          have:=aP.sub (by rw[e2] at hx;exact iz.1 hx) (l:=l.toNat) (hh:=hh.toNat) (by omega) (by omega)
          rw[hs] at this
          exact this
    | some mx=>
      simp only[Option.map_some] at h ⊢
      obtain⟨z,h7,rfl,a',rfl,_⟩:=jw hρ hT hsz h
      exact⟨_,h7,dX.2 ⟨a',rfl,fun h=>by cases h⟩⟩
 case own id=>
  rw[CR] at hx
  cases hm:m.at id<;>rw[hm] at hx h<;>(try simp only at hx h)<;>try exact h.elim
  rename_i fz t s
  cases hs:Nat.beq t.size sz with
  | false=>rw[hs] at h;exact h.elim
  | true=>
    rw[hs] at h
    replace hs:=Nat.eq_of_beq_eq_true hs
    obtain⟨cap,e2,h3,_⟩:=hx
    have hb:=hW.box id
    rw[hm] at hb
    obtain⟨hlm,_⟩:=hb
    rw[bX] at hlm
    rw[e2]
    cases mx with
    | none=>
      simp only[Option.map_none] at h ⊢
      cases hb1:bound true 0 (lo.map ρa) with
      | none=>rw[hb1] at h;exact h.elim
      | some p1=>
        obtain⟨c1,l⟩:=p1
        rw[hb1] at h
        cases hb2:bound false (ai.l s) (hi.map ρa) with
        | none=>rw[hb2] at h;exact h.elim
        | some p2=>
          obtain⟨c2,hh⟩:=p2
          rw[hb2] at h
          obtain⟨h0,h1,h2,h7⟩:=gF h
          cases h7
          have h2:hh≤(s.length:Int):=h2
          refine⟨_,jb hT hsz (ck hρ hb1) (ck (d:=(s.length:Int)) hρ hb2) h0 h1 (by omega),?_⟩
          rw[CR,hm]
          refine⟨l.toNat,hh.toNat-l.toNat,cap-l.toNat,_,by omega,?_,rfl,by omega,by omega,?_,rfl,fun hne=>?_⟩
          ·show IntKind.i64.wrap _=_
           rw[wrap_small (by omega) (by omega)];omega
          ·intro hn;split at hn<;>cases hn
          ·rw[if_neg (by omega)];simp[iw,hs]
    | some mx=>
      simp only[Option.map_some] at h ⊢
      obtain⟨z,h7,rfl,a',rfl,_⟩:=jw hρ hT hsz h
      exact⟨_,h7,dX.2 ⟨a',rfl,fun h=>by cases h⟩⟩
 case jD id sz' c s n=>
  cases hs:Nat.beq sz' sz with
  | false=>rw[hs] at h;exact h.elim
  | true=>
    rw[hs] at h
    replace hs:=Nat.eq_of_beq_eq_true hs
    subst hs
    cases mx with
    | some mx=>exact h.elim
    | none=>
      simp only[Option.map_none] at h ⊢
      have hb:=hW.box id
      rw[CR] at hx
      cases hm:m.at id<;>rw[hm] at hx h hb<;>(try simp only at hx h)<;>try exact h.elim
      case arr fz t x=>
       obtain⟨hlm,_⟩:=hb
       rw[bX] at hlm
       obtain⟨l0,n0,cap,a,rfl,rfl,hst,h5,h6,h6',e2,h8⟩:=hx
       rw[e2]
       cases hb1:bound true 0 (lo.map ρa) with
       | none=>rw[hb1] at h;exact h.elim
       | some p1=>
         obtain⟨c1,l⟩:=p1
         rw[hb1] at h
         cases hb2:bound false (n0:Int) (hi.map ρa) with
         | none=>rw[hb2] at h;exact h.elim
         | some p2=>
           obtain⟨c2,hh⟩:=p2
           rw[hb2] at h
           obtain⟨h0,h1,h2,h7⟩:=gF h
           cases h7
           refine⟨_,jb hT hsz (ck hρ hb1) (ck hρ hb2) h0 h1 (by omega),?_⟩
           rw[CR,hm]
           refine⟨l0+l.toNat,hh.toNat-l.toNat,cap-l.toNat,_,?_,?_,hst,by omega,by omega,?_,rfl,fun hne=>?_⟩
           ·show IntKind.i64.wrap _=_
            rw[wrap_small (by omega) (by omega)];omega
           ·show IntKind.i64.wrap _=_
            rw[wrap_small (by omega) (by omega)];omega
           ·intro hn
            split at hn
            ·have:=h6' hn;omega
            ·cases a with
             | none=>have:=h6' rfl;omega
             | some _=>cases hn
           ·rw[if_neg (by omega),h8 (by omega)];simp[iw,Nat.add_mul,Nat.add_assoc]
      case flat fz cs=>
       obtain⟨l0,n0,cap,a,rfl,rfl,h4,h5,h6,h6',e2,h8⟩:=hx
       rw[bX] at h4
       rw[e2]
       cases hb1:bound true 0 (lo.map ρa) with
       | none=>rw[hb1] at h;exact h.elim
       | some p1=>
         obtain⟨c1,l⟩:=p1
         rw[hb1] at h
         cases hb2:bound c (n0:Int) (hi.map ρa) with
         | none=>rw[hb2] at h;exact h.elim
         | some p2=>
           obtain⟨c2,hh⟩:=p2
           rw[hb2] at h
           simp only at h
           have key:∀(_:0≤l) (_:l≤hh) (_:hh≤n0),∃z,(Instr.sliceAt T (.slice a n0 cap) (lo.map ρc) (hi.map ρc) none).run P w=.ok z w∧
             ∃(l1 n1 cap1:Nat) (a1:Option Addr),(l0:Int)+l=l1∧hh-l=n1∧l1+n1≤cY∧(l1+cap1)*sz'≤cs.length∧n1≤cap1∧(a1=none→cap1=0)∧z=.slice a1 n1 cap1∧(n1≠0→a1=some ⟨S.σ id,l1*sz',none⟩):=by
            intro h0 h1 h2
            refine⟨_,jb hT hsz (ck hρ hb1) (ck hρ hb2) h0 h1 (by omega),l0+l.toNat,hh.toNat-l.toNat,cap-l.toNat,_,by omega,by omega,by rw[bX];omega,?_,by omega,?_,rfl,fun hne=>?_⟩
            ·refine Nat.le_trans (Nat.mul_le_mul_right _ ?_) h5
             omega
            ·intro hn
             split at hn
             ·have:=h6' hn;omega
             ·cases a with
              | none=>have:=h6' rfl;omega
              | some _=>cases hn
            ·rw[if_neg (by omega),h8 (by omega)];simp[iw,Nat.add_mul]
           cases hcc:c&&(c1&&c2) with
           | true=>
             rw[hcc] at h
             obtain⟨h0,h1,h2,h7⟩:=gF h
             cases h7
             obtain⟨z,k1,k2⟩:=key h0 h1 h2
             exact⟨z,k1,by rw[CR,hm];exact k2⟩
           | false=>
             rw[hcc] at h
             obtain⟨h0,h1,h2,h7⟩:=gF h
             cases h7
             obtain⟨z,k1,k2⟩:=key h0 h1 h2
             refine⟨z,k1,?_⟩
             rw[CR,hm]
             have w1:ai.b .add .i64 (l0:Int) l=l0+l:=by show IntKind.i64.wrap _=_;exact wrap_small (by omega) (by omega)
             have w2:ai.b .sub .i64 hh l=hh-l:=by show IntKind.i64.wrap _=_;exact wrap_small (by omega) (by omega)
             rw[w1,w2]
             exact k2
 case bd b=>
  obtain⟨a,e2,hb⟩:=dX.1 hx
  rw[e2]
  cases mx with
  | none=>
    simp only[Option.map_none] at h ⊢
    cases hb1:bound true 0 (lo.map ρa) with
    | none=>rw[hb1] at h;exact h.elim
    | some p1=>
      obtain⟨c1,l⟩:=p1
      rw[hb1] at h
      cases hb2:bound true 0 (hi.map ρa) with
      | none=>rw[hb2] at h;exact h.elim
      | some p2=>
        obtain⟨c2,hh⟩:=p2
        rw[hb2] at h
        obtain⟨h0,h1,h2,h7⟩:=gF h
        cases h7
        refine⟨_,jb hT hsz (ck hρ hb1) (ck (d:=((0:Nat):Int)) hρ hb2) h0 h1 (by omega),dX.2 ?_⟩
        have:l.toNat=0:=by omega
        have h':hh.toNat=0:=by omega
        rw[this,h']
        exact⟨a,by simp,hb⟩
  | some mx=>
    simp only[Option.map_some] at h ⊢
    obtain⟨z,h7,rfl,a',rfl,h8⟩:=jw hρ hT hsz h
    exact⟨_,h7,dX.2 ⟨a',rfl,fun hb'=>h8 (hb hb')⟩⟩
theorem qc{ρa:Operand→AV}{ρc:Operand→Value}(hρ:∀x,CR w S m (ρa x) (ρc x)){T e:TypeId}{n:Nat}(hT:P.underlying T=some (.array n e)){te:TI}(hsz:(sizeOf e).run P w=.ok te.size w)
  {xo:Operand} {lo hi:Option Operand} {r:AV} (h:(nL ai n te m (ρa xo) (lo.map ρa) (hi.map ρa)).Is r) :
  ∃z,(Instr.sliceAt T (ρc xo) (lo.map ρc) (hi.map ρc) none).run P w=.ok z w∧CR w S m r z:=by
 have hx:=hρ xo
 unfold nL at h
 cases ha:ρa xo<;>rw[ha] at h hx<;>(try simp only at h)<;>try exact h.elim
 rename_i id off
 rw[CR] at hx
 cases hm:m.at id<;>rw[hm] at hx h<;>(try simp only at hx h)<;>try exact h.elim
 rename_i fz cs
 rw[hx]
 cases hz:Nat.beq te.size 0 with
 | true=>rw[hz] at h;exact h.elim
 | false=>
   rw[hz] at h
   cases hc:Nat.beq (off%te.size) 0&&(Nat.ble (off+n*te.size) cs.length&&Nat.ble (off/te.size+n) 140737488355328) with
   | false=>rw[hc] at h;exact h.elim
   | true=>
     rw[hc] at h
     simp only[Bool.and_eq_true] at hc
     obtain⟨hc1,hc2,hc3⟩:=hc
     replace hc1:=Nat.eq_of_beq_eq_true hc1
     replace hc2:=Nat.le_of_ble_eq_true hc2
     replace hc3:=Nat.le_of_ble_eq_true hc3
     have hoff:off=off/te.size*te.size:=by
      have:=Nat.div_add_mod off te.size
      rw[hc1,Nat.add_zero,Nat.mul_comm] at this
      exact this.symm
     cases hb1:bound true 0 (lo.map ρa) with
     | none=>rw[hb1] at h;exact h.elim
     | some p1=>
       obtain⟨c1,l⟩:=p1
       rw[hb1] at h
       cases hb2:bound true (n:Int) (hi.map ρa) with
       | none=>rw[hb2] at h;exact h.elim
       | some p2=>
         obtain⟨c2,hh⟩:=p2
         rw[hb2] at h
         simp only at h
         have key:∀(_:0≤l) (_:l≤hh) (_:hh≤n),∃z,(Instr.sliceAt T (.pointer (some ⟨S.σ id,off,none⟩)) (lo.map ρc) (hi.map ρc) none).run P w=.ok z w∧
           ∃(l1 n1 cap1:Nat) (a1:Option Addr),((off/te.size:Nat):Int)+l=l1∧hh-l=n1∧l1+n1≤cY∧(l1+cap1)*te.size≤cs.length∧n1≤cap1∧(a1=none→cap1=0)∧z=.slice a1 n1 cap1∧(n1≠0→a1=some ⟨S.σ id,l1*te.size,none⟩):=by
          intro h0 h1 h2
          refine⟨_,by
           simp only[Instr.sliceAt,Sem.run_bind,run_underlying hT,Result.andThen_ok,Instr.sureAddr,Sem.run_pure,iP (ck hρ hb1) (ck hρ hb2) h0 h1 h2,hsz];rfl,
           off/te.size+l.toNat,hh.toNat-l.toNat,n-l.toNat,_,by omega,by omega,by rw[bX];omega,?_,by omega,?_,rfl,fun hne=>?_⟩
          ·have h9:(off/te.size+l.toNat+(n-l.toNat))*te.size≤(off/te.size+n)*te.size:=Nat.mul_le_mul_right _ (by omega)
           have h10:(off/te.size+n)*te.size=off+n*te.size:=by rw[Nat.add_mul,←hoff]
           rw[h10] at h9
           exact Nat.le_trans h9 hc2
          ·intro hn;cases hn
          ·rw[if_neg (by omega),iw,Nat.add_mul,←hoff]
         cases hcc:c1&&c2 with
         | true=>
           rw[hcc] at h
           obtain⟨h0,h1,h2,h7⟩:=gF h
           cases h7
           obtain⟨z,k1,k2⟩:=key h0 h1 h2
           exact⟨z,k1,by rw[CR,hm];exact k2⟩
         | false=>
           rw[hcc] at h
           obtain⟨h0,h1,h2,h7⟩:=gF h
           cases h7
           obtain⟨z,k1,k2⟩:=key h0 h1 h2
           refine⟨z,k1,?_⟩
           rw[CR,hm]
           have w1:ai.b .add .i64 ((off/te.size:Nat):Int) l=(off/te.size:Nat)+l:=by show IntKind.i64.wrap _=_;exact wrap_small (by omega) (by omega)
           have w2:ai.b .sub .i64 hh l=hh-l:=by show IntKind.i64.wrap _=_;exact wrap_small (by omega) (by omega)
           rw[w1,w2]
           exact k2
theorem uC{E:PT TI}(hE:fv P E)(hW:WR w0 w S m){ρa:Operand→AV}{ρc:Operand→Value}(hρ:∀x,CR w S m (ρa x) (ρc x)){T:TypeId}
  {xo:Operand} {lo hi mx:Option Operand} {r:AV} (h:(rA ai (E.get T) E.get m (ρa xo) (lo.map ρa) (hi.map ρa) (mx.map ρa)).Is r) :
  ∃z,(Instr.sliceAt T (ρc xo) (lo.map ρc) (hi.map ρc) (mx.map ρc)).run P w=.ok z w∧CR w S m r z:=by
 unfold rA at h
 cases ht:E.get T with
 | none=>rw[ht] at h;exact h.elim
 | some ti=>
   rw[ht] at h
   simp only at h
   cases hk:ti.kind<;>rw[hk] at h<;>(try simp only at h)<;>try exact h.elim
   case arr n e=>
    have hT:P.underlying T=some (.array n e):=(hE T _ ht).bU hk
    cases hte:E.get e with
    | none=>rw[hte] at h;exact h.elim
    | some te=>
      rw[hte] at h
      cases mx with
      | some _=>exact h.elim
      | none=>exact qc hρ hT ((hE e te hte).iE w) h
   case slice e=>
    have hT:P.underlying T=some (.slice e):=(hE T _ ht).bU hk
    cases hte:E.get e with
    | none=>rw[hte] at h;exact h.elim
    | some te=>
      rw[hte] at h
      exact tW hW hρ hT ((hE e te hte).iE w) h
   case str=>
    have hT:P.underlying T=some .string:=(hE T _ ht).bU hk
    have hx:=hρ xo
    cases ha:ρa xo<;>rw[ha] at h hx<;>(try simp only at h)<;>try exact h.elim
    rename_i c s
    obtain⟨e2,hs⟩:=ez.1 hx
    rw[e2]
    cases mx with
    | some _=>exact h.elim
    | none=>
      simp only[Option.map_none] at h ⊢
      cases hb1:bound true 0 (lo.map ρa) with
      | none=>rw[hb1] at h;exact h.elim
      | some p1=>
        obtain⟨c1,l⟩:=p1
        rw[hb1] at h
        cases hb2:bound false (ai.l s) (hi.map ρa) with
        | none=>rw[hb2] at h;exact h.elim
        | some p2=>
          obtain⟨c2,hh⟩:=p2
          rw[hb2] at h
          obtain⟨h0,h1,h2,h7⟩:=gF h
          cases h7
          have h2:hh≤(s.length:Int):=h2
          have hsz:(ByteArray.mk s.toArray).size=s.length:=rfl
          refine⟨.string ⟨((s.take hh.toNat).drop l.toNat).toArray⟩,?_,ez.2 ⟨rfl,?_⟩⟩
          ·simp only[Instr.sliceAt,Sem.run_bind,run_underlying hT,Result.andThen_ok,Instr.slice]
           simp only[Option.isSome_none,Bool.false_eq_true,if_false]
           rw[Sem.run_bind]
           rw[hsz,iP (ck hρ hb1) (ck (d:=(s.length:Int)) hρ hb2) h0 h1 (by omega)]
           simp only[Result.andThen_ok,Sem.run_pure]
           have hex:(ByteArray.mk s.toArray).extract l.toNat hh.toNat=ByteArray.mk ((s.take hh.toNat).drop l.toNat).toArray:=by
            apply ByteArray.ext
            rw[ByteArray.data_extract]
            apply Array.ext'
            simp[List.drop_take]
           rw[hex]
          ·show((s.take hh.toNat).drop l.toNat).length≤_
           simp;omega
end
end Go.Ev
namespace Go.Ev
section
variable {P:Program} {w0 w:World} {S:St} {m:Mem}
theorem p8{v:AV}{u:Value}(hk:v.known m=true)(h:CR w S m v u):bF w S m v.cells u.cells.toList:=by
 have one:∀{v:AV} {u:Value},CR w S m v u→v.cells=[v]→u.cells=#[u]→bF w S m v.cells u.cells.toList:=by
  intro v u h h1 h2
  rw[h1,h2]
  exact bY.2 ⟨u, [],rfl,h,bu.2 rfl⟩
 cases v
 case undef=>cases hk
 case agg cs=>obtain⟨us,rfl,hc⟩:=jc.1 h;exact hc
 case int=>have h':=(bC.1 h).1;exact one h rfl (by rw[h'];rfl)
 case bool=>have h':=(cu.1 h);exact one h rfl (by rw[h'];rfl)
 case str=>have h':=(ez.1 h).1;exact one h rfl (by rw[h'];rfl)
 case sl=>obtain⟨a,cap,e,_⟩:=bA.1 (iz.1 h);obtain rfl:=List.head_eq_of_cons_eq e;exact one h rfl rfl
 case bd=>obtain⟨a,h',_⟩:=dX.1 h;exact one h rfl (by rw[h'];rfl)
 case lk=>obtain⟨b,o,us,h',_⟩:=kM.1 h;exact one h rfl (by rw[h'];rfl)
 case bP=>have h':=fI.1 h;exact one h rfl (by rw[h'];rfl)
 case fn=>obtain⟨us,vs,h',_⟩:=mr.1 h;exact one h rfl (by rw[h'];rfl)
 case fE=>have h':=gM.1 h;exact one h rfl (by rw[h'];rfl)
 case mC=>obtain⟨us,h',_⟩:=ib.1 h;exact one h rfl (by rw[h'];rfl)
 case own id=>
  have hc:=h
  rw[CR] at hc
  cases hm:m.at id<;>rw[hm] at hc<;>simp only at hc
  case dead=>simp[AV.known,hm,iJ.eu] at hk
  case arr=>obtain⟨cap,h',_⟩:=hc;exact one h rfl (by rw[h'];rfl)
 case jD id _ _ _ _=>
  have hc:=h
  rw[CR] at hc
  cases hm:m.at id<;>rw[hm] at hc<;>simp only at hc
  case dead=>simp[AV.known,hm,iJ.eu] at hk
  case arr=>obtain⟨_,_,cap,a,_,_,_,_,_,_,h',_⟩:=hc;exact one h rfl (by rw[h'];rfl)
  case flat=>obtain⟨_,_,cap,a,_,_,_,_,_,_,h',_⟩:=hc;exact one h rfl (by rw[h'];rfl)
 case ptr id _=>
  have hc:=h
  rw[CR] at hc
  cases hm:m.at id<;>rw[hm] at hc<;>simp only at hc
  case dead=>simp[AV.known,hm,iJ.eu] at hk
  case flat=>exact one h rfl (by rw[hc];rfl)
 case gY id _ _=>
  have hc:=h
  rw[CR] at hc
  cases hm:m.at id<;>rw[hm] at hc<;>simp only at hc
  case dead=>simp[AV.known,hm,iJ.eu] at hk
  case arr=>obtain⟨_,_,_,h'⟩:=hc;exact one h rfl (by rw[h'];rfl)
 case mW id _ _ _ _=>
  have hc:=h
  rw[CR] at hc
  cases hm:m.at id<;>rw[hm] at hc<;>simp only at hc
  case dead=>simp[AV.known,hm,iJ.eu] at hk
  case flat=>obtain⟨_,_,_,h'⟩:=hc;exact one h rfl (by rw[h'];rfl)
 case yield l=>
  have hc:=h
  rw[CR] at hc
  cases hm:m.at l<;>rw[hm] at hc<;>simp only at hc
  case dead=>simp[AV.known,hm,iJ.eu] at hk
  case loop=>exact one h rfl (by rw[hc];rfl)
theorem foldl_set(new:List Value):∀(off:Nat) (us:Array Value),off+new.length≤us.size→
  ((new.zipIdx 0).foldl (fun(cs:Array Value) (p:Value×Nat)=>cs.setIfInBounds (off+p.2) p.1) us).toList=us.toList.take off++new++us.toList.drop (off+new.length):=by
 suffices h:∀(new:List Value) (k off:Nat) (us:Array Value),off+k+new.length≤us.size→
   ((new.zipIdx k).foldl (fun(cs:Array Value) (p:Value×Nat)=>cs.setIfInBounds (off+p.2) p.1) us).toList=us.toList.take (off+k)++new++us.toList.drop (off+k+new.length) by
  intro off us hl;exact h new 0 off us hl
 intro new
 induction new with
 | nil=>intro k off us h;simp
 | cons v new ih=>
   intro k off us h
   simp only[List.length_cons] at h
   simp only[List.zipIdx_cons,List.foldl_cons]
   rw[ih (k+1) off _ (by simp;omega)]
   simp only[Array.toList_setIfInBounds,List.length_cons]
   apply List.ext_getElem?
   intro i
   rw[List.append_assoc,List.append_assoc]
   have hl:us.toList.length=us.size:=by simp
   have e1:((us.toList.set (off+k) v).take (off+(k+1))).length=off+k+1:=by rw[List.length_take,List.length_set,hl];omega
   have e2:(us.toList.take (off+k)).length=off+k:=by rw[List.length_take,hl];omega
   rcases Nat.lt_trichotomy i (off+k) with hi|hi|hi
   ·rw[List.getElem?_append_left (by omega),List.getElem?_append_left (by omega),List.getElem?_take,List.getElem?_take,if_pos (by omega),if_pos hi,List.getElem?_set_ne (by omega)]
   ·subst hi
    rw[List.getElem?_append_left (by omega),List.getElem?_append_right (by omega),List.getElem?_take,if_pos (by omega),List.getElem?_set_self (by omega),e2,Nat.sub_self]
    rfl
   ·rw[List.getElem?_append_right (l₁:=(us.toList.set (off+k) v).take (off+(k+1))) (by omega),List.getElem?_append_right (l₁:=us.toList.take (off+k)) (by omega),e1,e2,show i-(off+k)=(i-(off+k+1))+1 from by omega,List.cons_append,List.getElem?_cons_succ]
    by_cases hj:i-(off+k+1)<new.length
    ·rw[List.getElem?_append_left hj,List.getElem?_append_left hj]
    ·rw[List.getElem?_append_right (by omega),List.getElem?_append_right (by omega),List.getElem?_drop,List.getElem?_drop,List.getElem?_set_ne (by omega)]
     congr 1
     omega
theorem gK{off:Nat}{new cs cs':List AV}{nus us:List Value}(h:putCells off new cs=some cs')(hn:bF w S m new nus)(hc:bF w S m cs us) :
  off+nus.length≤us.length∧bF w S m cs' (us.take off++nus++us.drop (off+nus.length)):=by
 unfold putCells at h
 cases hb:Nat.ble (off+new.length) cs.length with
 | false=>rw[hb] at h;cases h
 | true=>
   rw[hb] at h
   cases h
   have h1:=Nat.le_of_ble_eq_true hb
   have h2:=hn.length
   have h3:=hc.length
   refine⟨by omega,?_⟩
   rw[h2]
   exact((hc.take off).append hn).append (hc.drop _)
theorem nc{place:Nat→Option (Nat×Nat)}{i off size:Nat}{v:AV}{u:Value}{cs cs':List AV}{us:Array Value}{rest:List (Nat×Value)}
  (hp:place i=some (off,size)) (hk:(v.known m&&Nat.beq v.cells.length size)=true) (hv:CR w S m v u) (hput:putCells off v.cells cs=some cs') (hc:bF w S m cs us.toList) :
  ∃us',Instr.fill place us ((i,u)::rest)=Instr.fill place us' rest∧bF w S m cs' us'.toList∧us'.size=us.size:=by
 simp only[Bool.and_eq_true] at hk
 have h1:=p8 hk.1 hv
 have h2:=Nat.eq_of_beq_eq_true hk.2
 have h3:=h1.length
 obtain⟨h4,h5⟩:=gK hput h1 hc
 simp only[Array.length_toList] at h3 h4
 have h6:(u.cells.zipIdx.foldl (fun cs (c,j)=>cs.setIfInBounds (off+j) c) us).toList=us.toList.take off++u.cells.toList++us.toList.drop (off+u.cells.size):=by
  have:=foldl_set u.cells.toList off us (by simpa using h4)
  rw[←Array.foldl_toList]
  simp only[Array.toList_zipIdx]
  simpa using this
 refine⟨u.cells.zipIdx.foldl (fun cs (c,j)=>cs.setIfInBounds (off+j) c) us,?_,?_,?_⟩
 ·simp only[Instr.fill,hp]
  rw[if_neg]
  simp only[ne_eq,Bool.or_eq_true,decide_eq_true_eq,not_or,Decidable.not_not]
  constructor<;>omega
 ·rw[h6]
  simpa using h5
 ·have:=congrArg List.length h6
  rw[List.length_append,List.length_append,List.length_take,List.length_drop,Array.length_toList,Array.length_toList,Array.length_toList] at this
  omega
end
end Go.Ev
namespace Go.Ev
section
variable {P:Program} {w0 w:World} {S:St} {m:Mem}
theorem my{size:Nat}{ρa:Operand→AV}{ρc:Operand→Value}(hρ:∀x,CR w S m (ρa x) (ρc x)):∀(ps:List (Nat×Operand)) (cs cs':List AV) (us:Array Value),
  tY m size (ps.map fun p=>(p.1,ρa p.2)) cs=some cs'→bF w S m cs us.toList→
  ∃us',Instr.fill (fun i=>some (i*size,size)) us (ps.map fun p=>(p.1,ρc p.2))=some us'∧bF w S m cs' us'.toList∧us'.size=us.size
 | [],cs,cs',us,h,hc=>by cases h;exact⟨us,rfl,hc,rfl⟩
 | (i,x)::ps,cs,cs',us,h,hc=>by
   simp only[List.map_cons,tY] at h
   cases hk:((ρa x).known m&&Nat.beq (ρa x).cells.length size) with
   | false=>rw[hk] at h;cases h
   | true=>
     rw[hk] at h
     simp only at h
     cases hp:putCells (i*size) (ρa x).cells cs with
     | none=>rw[hp] at h;cases h
     | some cs1=>
       rw[hp] at h
       simp only[List.map_cons]
       obtain⟨us1,h1,h2,h3⟩:=nc (rest:=ps.map fun p=>(p.1,ρc p.2)) (place:=fun i=>some (i*size,size)) rfl hk (hρ x) hp hc
       obtain⟨us2,h4,h5,h6⟩:=my hρ ps cs1 cs' us1 h h2
       exact⟨us2,by rw[h1,h4],h5,by omega⟩
theorem qR{fs:List (Nat×Nat×Bool)}{place:Nat→Option (Nat×Nat)}(hpl:∀i off sz ag,fs[i]? = some (off,sz,ag)→place i=some (off,sz))
  {ρa:Operand→AV} {ρc:Operand→Value} (hρ:∀x,CR w S m (ρa x) (ρc x)):∀(ps:List (Nat×Operand)) (cs cs':List AV) (us:Array Value),
  yR m fs (ps.map fun p=>(p.1,ρa p.2)) cs=some cs'→bF w S m cs us.toList→
  ∃us',Instr.fill place us (ps.map fun p=>(p.1,ρc p.2))=some us'∧bF w S m cs' us'.toList∧us'.size=us.size
 | [],cs,cs',us,h,hc=>by cases h;exact⟨us,rfl,hc,rfl⟩
 | (i,x)::ps,cs,cs',us,h,hc=>by
   simp only[List.map_cons,yR] at h
   cases hi:fs[i]? with
   | none=>rw[hi] at h;cases h
   | some q=>
     obtain⟨off,sz,ag⟩:=q
     rw[hi] at h
     simp only at h
     cases hk:((ρa x).known m&&Nat.beq (ρa x).cells.length sz) with
     | false=>rw[hk] at h;cases h
     | true=>
       rw[hk] at h
       simp only at h
       cases hp:putCells off (ρa x).cells cs with
       | none=>rw[hp] at h;cases h
       | some cs1=>
         rw[hp] at h
         simp only[List.map_cons]
         obtain⟨us1,h1,h2,h3⟩:=nc (rest:=ps.map fun p=>(p.1,ρc p.2)) (place:=place) (hpl i off sz ag hi) hk (hρ x) hp hc
         obtain⟨us2,h4,h5,h6⟩:=qR hpl hρ ps cs1 cs' us1 h h2
         exact⟨us2,by rw[h1,h4],h5,by omega⟩
theorem q8{F:Array Field}{fs:List (Nat×Nat×Bool)}(hn:F.size=fs.length)
  (hf:∀(i off sz:Nat) (ag:Bool),fs[i]? = some (off,sz,ag)→∃f j,F[i]? = some f∧f.offset=off∧P.info? f.type=some j∧j.size=sz∧∀w,(isAgg f.type).run P w=.ok ag w) :
  (F.mapM fun f=>(do pure (f.offset,←sizeOf f.type):Sem (Nat×Nat))).run P w=.ok ((fs.map fun p=>(p.1,p.2.1)).toArray) w:=by
 rw[Array.mapM_eq_mapM_toList]
 have key:∀(l:List Field) (fl:List (Nat×Nat×Bool)),l.length=fl.length→
   (∀(i off sz:Nat) (ag:Bool),fl[i]? = some (off,sz,ag)→∃f j,l[i]? = some f∧f.offset=off∧P.info? f.type=some j∧j.size=sz)→
   (l.mapM fun f=>(do pure (f.offset,←sizeOf f.type):Sem (Nat×Nat))).run P w=.ok (fl.map fun p=>(p.1,p.2.1)) w:=by
  intro l
  induction l with
  | nil=>intro fl hl _;cases fl with
    | nil=>simp
    | cons _ _=>simp at hl
  | cons f l ih=>
    intro fl hl hh
    cases fl with
    | nil=>simp at hl
    | cons q fl=>
      obtain⟨off,sz,ag⟩:=q
      obtain⟨f',j,h1,h2,h3,h4⟩:=hh 0 off sz ag rfl
      simp only[List.getElem?_cons_zero,Option.some.injEq] at h1
      subst h1
      have:=ih fl (by simpa using hl) (fun i off sz ag hi=>by simpa using hh (i+1) off sz ag (by simpa using hi))
      simp only[List.mapM_cons,Sem.run_bind,sizeOf,typeInfo,run_program,Result.andThen_ok,h3,Sem.run_pure,List.map_cons]
      simp only[sizeOf,typeInfo] at this
      rw[this]
      simp[h2,h4]
 have:=key F.toList fs (by simpa using hn) (fun i off sz ag hi=>by
  obtain⟨f,j,h1,h2,h3,h4,_⟩:=hf i off sz ag hi
  exact⟨f,j,by simpa using h1,h2,h3,h4⟩)
 simp only[Sem.run_map,this,Result.andThen_ok]
theorem uN{E:PT TI}(hE:fv P E){ρa:Operand→AV}{ρc:Operand→Value}(hρ:∀x,CR w S m (ρa x) (ρc x)){T:TypeId}{ps:List (Nat×Operand)}{r:AV}
  (h:(rF m (E.get T) E.get (ps.map fun p=>(p.1,ρa p.2))).Is r) :
  ∃z,(Instr.build T (ps.map fun p=>(p.1,ρc p.2)).toArray).run P w=.ok z w∧CR w S m r z:=by
 unfold rF at h
 cases ht:E.get T with
 | none=>rw[ht] at h;exact h.elim
 | some ti=>
   rw[ht] at h
   have hO:=hE T ti ht
   obtain⟨i,z,hi1,hi2,hi3,hi4,hzz,hzt⟩:=hO.info
   have hz:=hzz w S m
   clear hzz hzt
   obtain⟨kd,size,bytes,agg,zero,ty,eq⟩:=ti
   cases kd<;>(try simp only at h)<;>try exact h.elim
   case arr n e=>
    have hT:P.underlying T=some (.array n e):=hO.bU (k:=.arr n e) rfl
    cases hte:E.get e with
    | none=>rw[hte] at h;exact h.elim
    | some te=>
      rw[hte] at h
      replace h:=jC h
      cases hf:tY m te.size (ps.map fun p=>(p.1,ρa p.2)) zero with
      | none=>rw[hf] at h;cases h
      | some cs=>
        rw[hf] at h
        cases h
        obtain⟨us',h1,h2,h3⟩:=my hρ ps zero cs z.cells hf hz
        exact⟨.agg us',by simp[Instr.build,zeroValue,typeInfo,hi1,hi4,run_underlying hT,(hE e te hte).iE w,h1],jc.2 ⟨us',rfl,h2⟩⟩
   case struct fs=>
    obtain⟨F,hF,hFs,hf⟩:=hO.bU (k:=.struct fs) rfl
    replace h:=jC h
    cases hfl:yR m fs (ps.map fun p=>(p.1,ρa p.2)) zero with
    | none=>rw[hfl] at h;cases h
    | some cs=>
      rw[hfl] at h
      cases h
      obtain⟨us',h1,h2,h3⟩:=qR (place:=fun i=>((fs.map fun p=>(p.1,p.2.1)).toArray)[i]?) (fun i off sz ag hi=>by simp[hi]) hρ ps zero cs z.cells hfl hz
      refine⟨.agg us',?_,jc.2 ⟨us',rfl,h2⟩⟩
      simp only[Instr.build,Sem.run_bind,zeroValue,typeInfo,run_program,Result.andThen_ok,hi1,hi4,Sem.run_pure,run_underlying hF,q8 hFs hf]
      rw[h1]
      rfl
theorem w9{E:PT TI}(hE:fv P E){s d:TypeId}{x:AV}{v:Value}{r:AV}(hx:CR w S m x v)(h:(ny ai (E.get s) (E.get d) x).Is r) :
  ∃z,(convert s d v).run P w=.ok z w∧CR w S m r z:=by
 unfold ny at h
 cases hs:E.get s with
 | none=>rw[hs] at h;exact h.elim
 | some si=>
   cases hd:E.get d with
   | none=>rw[hs,hd] at h;exact h.elim
   | some di=>
     rw[hs,hd] at h
     have hDd:=hE d di hd
     have hSs:∃td,P.underlying s=some td:=by
      have h1:=(hE s si hs).agg w
      unfold isAgg at h1
      simp only[Sem.run_bind,underlying,run_program,Result.andThen_ok] at h1
      cases hu:P.underlying s with
      | none=>rw[hu] at h1;simp at h1
      | some td=>exact⟨td,rfl⟩
     obtain⟨td,hu⟩:=hSs
     obtain⟨kd,size,bytes,agg,zero,ty,eq⟩:=di
     cases kd<;>cases x<;>(try simp only at h)<;>try exact h.elim
     ·obtain⟨rfl,hn⟩:=bC.1 hx
      cases h
      have hT:P.underlying d=some (.int _):=hDd.bU rfl
      refine⟨_,?_,cX _ _ _ (fh _ _)⟩
      simp[convert,run_underlying hu,run_underlying hT,Conv.intToInt,ai]
     ·obtain⟨rfl,hn⟩:=ez.1 hx
      cases h
      have hT:P.underlying d=some .string:=hDd.bU (k:=.str) rfl
      refine⟨_,?_,ez.2 ⟨rfl,hn⟩⟩
      simp only[convert,Sem.run_bind,run_underlying hu,run_underlying hT,Result.andThen_ok]
      cases td<;>simp
theorem dP{n:Nat}(h:n≤cY):IntKind.i64.has (n:Int):=by
 rw[bX] at h
 have e1:IntKind.i64.min = -9223372036854775808:=by decide
 have e2:IntKind.i64.max=9223372036854775807:=by decide
 constructor<;>omega
theorem yM{E:PT TI}(hE:fv P E)(hW:WR w0 w S m){T rt:TypeId}{ts:Array TypeId}(hts:ts[0]? = some T){x:AV}{v:Value}{r:AV}(hx:CR w S m x v)(h:(Au ai (E.get T) m x).Is r) :
  ∃z,(Builtin.len_ ts rt #[v]).run P w=.ok z w∧CR w S m r z:=by
 unfold Au at h
 cases ht:E.get T with
 | none=>rw[ht] at h;exact h.elim
 | some ti=>
   rw[ht] at h
   have hO:=hE T ti ht
   obtain⟨kd,size,bytes,agg,zero,ty,eq⟩:=ti
   cases kd<;>(try simp only at h)<;>try exact h.elim
   case str=>
    have hT:P.underlying T=some .string:=hO.bU (k:=.str) rfl
    cases x<;>(try simp only at h)<;>try exact h.elim
    rename_i c s
    obtain⟨rfl,hs⟩:=ez.1 hx
    have hsz:(ByteArray.mk s.toArray).size=s.length:=rfl
    have:r=.int .i64 c (s.length:Int):=by cases c<;>exact h
    subst this
    exact⟨.int .i64 s.length,by simp[Builtin.len_,hts,run_underlying hT,goInt,hsz],bC.2 ⟨rfl,dP hs⟩⟩
   case arr n e=>
    have hT:P.underlying T=some (.array n e):=hO.bU (k:=.arr n e) rfl
    cases hb:Nat.ble n 140737488355328 with
    | false=>rw[hb] at h;exact h.elim
    | true=>
      rw[hb] at h
      cases h
      exact⟨.int .i64 n,by simp[Builtin.len_,hts,run_underlying hT,goInt],bC.2 ⟨rfl,dP (Nat.le_of_ble_eq_true hb)⟩⟩
   case slice e=>
    have hT:P.underlying T=some (.slice e):=hO.bU (k:=.slice e) rfl
    have key:∀(a:Option Addr) (n c:Nat),(Builtin.len_ ts rt #[.slice a n c]).run P w=.ok (.int .i64 n) w:=by
     intro a n c;simp[Builtin.len_,hts,run_underlying hT,goInt]
    cases x<;>(try simp only at h)<;>try exact h.elim
    case sl t l=>
     obtain⟨a,cap,e1,h3,h4,_⟩:=bA.1 (iz.1 hx)
     have e2:v=.slice a l.length cap:=by simpa using e1
     cases h
     subst e2
     exact⟨_,key _ _ _,bC.2 ⟨rfl,dP h4⟩⟩
    case bd b=>
     obtain⟨a,rfl,_⟩:=dX.1 hx
     cases h
     exact⟨_,key _ _ _,bC.2 ⟨rfl,dP (Nat.zero_le _)⟩⟩
    case own id=>
     have hb:=hW.box id
     rw[CR] at hx
     cases hm:m.at id<;>rw[hm] at hx h hb<;>(try simp only at hx h)<;>try exact h.elim
     obtain⟨cap,rfl,_⟩:=hx
     cases h
     exact⟨_,key _ _ _,bC.2 ⟨rfl,dP hb.1⟩⟩
    case jD id sz c lo n=>
     have hb:=hW.box id
     rw[CR] at hx
     cases hm:m.at id<;>rw[hm] at hx hb h<;>(try simp only[iJ.eu] at hx h)
     case dead=>exact h.elim
     case arr=>
      obtain⟨l0,n0,cap,a,rfl,rfl,hst,h5,h6,h6',rfl,h8⟩:=hx
      cases h
      exact⟨_,key _ _ _,bC.2 ⟨rfl,dP (by have:=hb.1;omega)⟩⟩
     case flat=>
      obtain⟨l0,n0,cap,a,rfl,rfl,h4,h5,h6,h6',rfl,h8⟩:=hx
      cases h
      exact⟨_,key _ _ _,bC.2 ⟨rfl,dP (by omega)⟩⟩
theorem yk{rt:TypeId}{ts:Array TypeId}{ρa:Operand→AV}{ρc:Operand→Value}(hρ:∀x,CR w S m (ρa x) (ρc x)){xs:Array Operand}{r:AV}(h:(AN ai (xs.toList.map ρa)).Is r) :
  ∃z,(Builtin.min_ ts rt (xs.map ρc)).run P w=.ok z w∧CR w S m r z:=by
 obtain⟨l⟩:=xs
 simp only at h
 unfold AN at h
 match l,h with
 | [x,y],h=>
   have hx:=hρ x
   have hy:=hρ y
   simp only[List.map_cons,List.map_nil] at h
   cases ha:ρa x<;>cases hb:ρa y<;>rw[ha,hb] at h<;>(try simp only at h)<;>try exact h.elim
   rw[ha] at hx
   rw[hb] at hy
   rename_i k c a k' c' b
   obtain⟨e1,h1⟩:=bC.1 hx
   obtain⟨e2,h2⟩:=bC.1 hy
   cases hk:e_ k k' with
   | false=>rw[hk] at h;exact h.elim
   | true=>
     rw[hk] at h
     have:=eD hk;subst this
     cases h
     refine⟨.int k (ai.mn a b),?_,cX k _ (fun A=>A.mn a b) ?_⟩
     ·simp only[List.map_toArray,List.map_cons,List.map_nil,e1,e2]
      exact run_min_int2 w ts rt k k a b
     ·show k.has (if _ then _ else _)
      split
      ·exact h2
      ·exact h1
 | [],h=>exact h.elim
 | [x],h=>revert h;simp only[List.map_cons,List.map_nil];cases ρa x<;>exact fun h=>h.elim
 | x::y::z::l,h=>revert h;simp only[List.map_cons];cases ρa x<;>cases ρa y<;>exact fun h=>h.elim
theorem yr{rt:TypeId}{ts:Array TypeId}{ρa:Operand→AV}{ρc:Operand→Value}(hρ:∀x,CR w S m (ρa x) (ρc x)){xs:Array Operand}{r:AV}(h:(Bb ai (xs.toList.map ρa)).Is r) :
  ∃z,(Builtin.max_ ts rt (xs.map ρc)).run P w=.ok z w∧CR w S m r z:=by
 obtain⟨l⟩:=xs
 simp only at h
 unfold Bb at h
 match l,h with
 | [x,y],h=>
   have hx:=hρ x
   have hy:=hρ y
   simp only[List.map_cons,List.map_nil] at h
   cases ha:ρa x<;>cases hb:ρa y<;>rw[ha,hb] at h<;>(try simp only at h)<;>try exact h.elim
   rw[ha] at hx
   rw[hb] at hy
   rename_i k c a k' c' b
   obtain⟨e1,h1⟩:=bC.1 hx
   obtain⟨e2,h2⟩:=bC.1 hy
   cases hk:e_ k k' with
   | false=>rw[hk] at h;exact h.elim
   | true=>
     rw[hk] at h
     have:=eD hk;subst this
     cases h
     refine⟨.int k (ai.mx a b),?_,cX k _ (fun A=>A.mx a b) ?_⟩
     ·simp only[List.map_toArray,List.map_cons,List.map_nil,e1,e2]
      exact run_max_int2 w ts rt k k a b
     ·show k.has (if _ then _ else _)
      split
      ·exact h2
      ·exact h1
 | [],h=>exact h.elim
 | [x],h=>revert h;simp only[List.map_cons,List.map_nil];cases ρa x<;>exact fun h=>h.elim
 | x::y::z::l,h=>revert h;simp only[List.map_cons];cases ρa x<;>cases ρa y<;>exact fun h=>h.elim
theorem Ap(v:Value):CR w S m (xa v) v:=by
 unfold xa
 cases v<;>(try simp only)<;>try exact du
 case int k n=>
  cases h:(decide (Lh k≤n)&&decide (n≤Lm k)) with
  | false=>exact du
  | true=>
    simp only[Bool.and_eq_true,decide_eq_true_eq] at h
    exact bC.2 ⟨rfl,by rw[←H_];exact h.1,by rw[←Gt];exact h.2⟩
 case bool b=>exact cu.2 rfl
 case string s=>
  cases h:Nat.ble s.data.toList.length 140737488355328 with
  | false=>exact du
  | true=>exact ez.2 ⟨by simp,Nat.le_of_ble_eq_true h⟩
 case pointer a=>cases a with
  | none=>exact fI.2 rfl
  | some a=>exact du
 case slice a n c=>
  cases a with
  | some a=>exact du
  | none=>
    cases n with
    | succ n=>exact du
    | zero=>cases c with
      | succ c=>exact du
      | zero=>exact dX.2 ⟨none,rfl,fun _=>rfl⟩
 case nilFunc=>exact gM.2 rfl
theorem rz{ρa:Operand→AV}{ρc:Operand→Value}(hρ:∀x,CR w S m (ρa x) (ρc x)):∀l:List Operand,bF w S m (l.map ρa) (l.map ρc)
 | []=>bu.2 rfl
 | x::l=>bY.2 ⟨_,_,rfl,hρ x,rz hρ l⟩
theorem Ca{t:Ty}{I:Nat→Prop}{b off:Nat}:∀{x:List t.T},(∀(i:Nat) (y:t.T),x[i]? = some y→∃us,us.length=t.size∧eT w b (off+i*t.size) us∧aP w I t us y)→
  ∃us:List Value,us.length=x.length*t.size∧eT w b off us∧∀(i:Nat) (y:t.T),x[i]? = some y→aP w I t ((us.drop (i*t.size)).take t.size) y:=by
 intro x
 induction x generalizing off with
 | nil=>intro _;exact⟨[],by simp,fun j u hj=>by simp at hj,fun i y hy=>by simp at hy⟩
 | cons y x ih=>
   intro h
   obtain⟨u0,l0,r0,c0⟩:=h 0 y rfl
   obtain⟨u1,l1,r1,c1⟩:=ih (off:=off+t.size) fun i y hy=>by
    obtain⟨us,a1,a2,a3⟩:=h (i+1) y (by simpa using hy)
    exact⟨us,a1,by rw[Nat.succ_mul] at a2;rw[show off+t.size+i*t.size=off+(i*t.size+t.size) from by omega];exact a2,a3⟩
   refine⟨u0++u1,by rw[List.length_append,l0,l1,List.length_cons,Nat.succ_mul];omega,fun j u hj=>?_,fun i z hz=>?_⟩
   ·by_cases hjl:j<u0.length
    ·rw[List.getElem?_append_left hjl] at hj
     have:=r0 j u hj
     simpa using this
    ·rw[List.getElem?_append_right (by omega)] at hj
     have:=r1 _ u hj
     rw[l0] at this
     rw[show off+j=off+t.size+(j-t.size) from by omega]
     exact this
   ·cases i with
    | zero=>
      simp only[List.getElem?_cons_zero,Option.some.injEq] at hz
      subst hz
      simp only[Nat.zero_mul,List.drop_zero]
      rw[List.take_append_of_le_length (by omega),List.take_of_length_le (by omega)]
      exact c0
    | succ i=>
      simp only[List.getElem?_cons_succ] at hz
      have:=c1 i z hz
      rw[show(i+1)*t.size=t.size+i*t.size from by rw[Nat.succ_mul,Nat.add_comm],←List.drop_drop,List.drop_left' l0]
      exact this
def xx(w:World)(I:Nat→Prop)(t:Ty)(v:Value)(y:List t.T):Prop:=
 ∃(a:Option Addr) (cap:Nat) (us:List Value),v=.slice a y.length cap∧y.length≤cY∧us.length=y.length*t.size∧(y.length≠0→∃b off,a=some ⟨b,off,none⟩∧eT w b off us)∧
  (a=none→cap=0)∧y.length≤cap∧∀(i:Nat) (z:t.T),y[i]? = some z→aP w I t ((us.drop (i*t.size)).take t.size) z
theorem xx.Aa{I:Nat→Prop}{t:Ty}{v:Value}{y:List t.T}(h:aP w I (.slice t) [v] y):xx w I t v y:=by
 obtain⟨a,cap,e,h1,h2,h3,h4⟩:=bA.1 h
 have e:v=.slice a y.length cap:=by simpa using e
 by_cases hy:y.length=0
 ·have:y=[]:=List.eq_nil_of_length_eq_zero hy
  subst this
  exact⟨a,cap, [],e,h2,by simp,fun h=>absurd rfl h,h3,h1,fun i z hz=>by simp at hz⟩
 ·obtain⟨b0,off0,us0,ha,_⟩:=h4 0 _ (List.getElem?_eq_getElem (by omega))
  obtain⟨us,l,r,c⟩:=Ca (w:=w) (t:=t) (I:=I) (b:=b0) (off:=off0) (x:=y) fun i z hz=>by
   obtain⟨b,off,us,ha',_,hl,hr,hc⟩:=h4 i z hz
   rw[ha] at ha'
   cases ha'
   exact⟨us,hl,hr,hc⟩
  exact⟨a,cap,us,e,h2,l,fun _=>⟨b0,off0,ha,r⟩,h3,h1,c⟩
theorem eT.heap{w':World}{b off:Nat}{us:List Value}(h:eT w b off us)(hh:w'.heap=w.heap):eT w' b off us:=h.mono (by rw[hh])
theorem gL{sz n:Nat}{a:Option Addr}{len cap:Nat}{us:List Value}(hl:us.length=n*sz)(h:n≠0→∃b off,a=some ⟨b,off,none⟩∧eT w b off us)(w':World)(hh:w'.heap=w.heap) :
  (Builtin.firstCells sz n (.slice a len cap)).run P w'=.ok us.toArray w':=by
 cases a with
 | none=>
   have hn:n=0:=Decidable.byContradiction fun hn=>by obtain⟨b,off,e,_⟩:=h hn;cases e
   subst hn
   have:us=[]:=List.eq_nil_of_length_eq_zero (by omega)
   subst this
   exact run_firstCells_none ..
 | some a=>
   refine run_firstCells_some w' sz n a len cap us hl fun j v hj=>?_
   have hn:n≠0:=fun hn=>by
    subst hn
    have:=(List.getElem?_eq_some_iff.1 hj).1
    omega
   obtain⟨b,off,e,hr⟩:=h hn
   cases e
   have:=hr.heap hh j v hj
   rwa [Addr.add_lit]
theorem foldl_push(ns:List Int):∀s:ByteArray,ns.foldl (fun r n=>r.push (UInt8.ofNat n.toNat)) s=⟨(s.data.toList++ns.map fun n=>UInt8.ofNat n.toNat).toArray⟩:=by
 induction ns with
 | nil=>intro s;simp
 | cons n ns ih=>
   intro s
   rw[List.foldl_cons,ih]
   congr 1
   simp
theorem tq{I:Nat→Prop}:∀{y:List Int} {us:List Value},us.length=y.length→(∀(i:Nat) (z:Int),y[i]? = some z→aP w I (.int .u8) ((us.drop (i*1)).take 1) z)→us=y.map (Value.int .u8)
 | [],us,hl,_=>List.eq_nil_of_length_eq_zero hl
 | z::y, [],hl,_=>by simp at hl
 | z::y,u::us,hl,h=>by
   have h0:=(ju.1 (h 0 z rfl)).1
   simp at h0
   rw[List.map_cons,h0,tq (y:=y) (us:=us) (by simpa using hl) fun i z hz=>by
    have:=h (i+1) z (by simpa using hz)
    simpa using this]
theorem yu{x:Value}{s d e:TypeId}{I:Nat→Prop}{y:List Int}(hs:P.underlying s=some (.slice e))(he:P.underlying e=some (.int .u8))(hd:P.underlying d=some .string)(h:xx w I (.int .u8) x y) :
  (convert s d x).run P w=.ok (.string ⟨(y.map fun n=>UInt8.ofNat n.toNat).toArray⟩) w:=by
 obtain⟨a,cap,us,e0,g1,g2,g3,g4,g5,g6⟩:=h
 have hus:us=y.map (Value.int .u8):=tq (by rw[g2];exact Nat.mul_one _) g6
 subst e0
 refine(run_convert_bytes_string w s d e a (List.length (α:=Int) y) cap hs he hd).trans ?_
 cases a with
 | none=>
   have hc0:=g4 rfl
   have hy0:y=[]:=List.eq_nil_of_length_eq_zero (Nat.le_zero.1 (hc0▸g5))
   subst hy0
   simp[Conv.bytesToString];rfl
 | some a=>
   have hload:(loadCells a (List.length (α:=Int) y)).run P w=.ok (y.map (Value.int .u8)).toArray w:=by
    have:=gL (P:=P) (sz:=1) (len:=y.length) (cap:=cap) (by rw[g2];rfl) g3 w rfl
    rw[Builtin.firstCells,Nat.mul_one] at this
    exact this.trans (by rw[hus])
   exact(run_bytesToString (P:=P) w a (List.length (α:=Int) y) cap y hload).trans (congrArg (fun b=>Result.ok (Value.string b) w) (foldl_push y ByteArray.empty))
theorem yD{I:Nat→Prop}{x:Value}{y:List Int}(h:xx w I (.int .u8) x y):CR w S m (.str false (ai.bytes y)) (.string ⟨(y.map fun n=>UInt8.ofNat n.toNat).toArray⟩):=by
 obtain⟨_,_,_,_,g1,_⟩:=h
 exact ez.2 ⟨rfl,Nat.le_trans (Nat.le_of_eq (List.length_map (α:=Int) (as:=y) fun n=>UInt8.ofNat n.toNat)) g1⟩
theorem xr{R:Type}{E:dE R}(hE:fv P E.ti){s d:TypeId}{t:Ty}{l:List t.T}{x:Value}{tv:TV AV}(hx:CR w S m (.sl t l) x)(h:wN ai (E.ti.get s) (E.ti.get d) E.ti.get t l=some tv){v:AV}(hv:tv.Is v) :
  ∃z,(convert s d x).run P w=.ok z w∧CR w S m v z:=by
 unfold wN at h
 split at h
 ·rename_i e _ _ _ _ _ _ _ _ _ _ _ _ hs hd
  split at h
  ·rename_i _ _ _ _ _ _ he
   split at h
   ·rename_i ht
    have:=Ty.eq_of_beq ht
    subst this
    cases h;cases hv
    have hr:=xx.Aa (iz.1 hx)
    exact⟨_,yu ((hE s _ hs).bU (k:=.slice e) rfl) ((hE e _ he).bU (k:=.int .u8) rfl) ((hE d _ hd).bU (k:=.str) rfl) hr,yD hr⟩
   ·cases h
  ·cases h
 ·cases h
theorem qC{R:Type}{E:dE R}(hE:fv P E.ti)(hW:WR w0 w S m){ρa:Operand→AV}{ρc:Operand→Value}(hρ:∀x,CR w S m (ρa x) (ρc x)){o:Oper}{tv:TV AV}(h:fG ai E ρa m o=some tv){v:AV}(hv:tv.Is v) :
  ∃z,(execOp ρc o).run P w=.ok (.value z) w∧CR w S m v z:=by
 obtain⟨dst,op,ty,pos,after,guard⟩:=o
 unfold fG at h
 cases op<;>simp only at h<;>try (cases h;done)
 case move x=>cases h;cases hv;exact⟨_,rfl,hρ x⟩
 case assign x=>cases h;cases hv;exact⟨_,rfl,hρ x⟩
 case pick c a b=>
  cases h
  have hc:=hρ c
  cases ha:ρa c<;>rw[ha] at hv hc<;>(try simp only at hv)<;>try exact hv.elim
  rename_i kn vb
  have e:=cu.1 hc
  cases kn with
  | true=>
    simp only at hv
    cases vb with
    | true=>cases hv;exact⟨_,by simp[execOp,e,asBool],hρ a⟩
    | false=>cases hv;exact⟨_,by simp[execOp,e,asBool],hρ b⟩
  | false=>
    rcases hv with ⟨hb,hv⟩|⟨hb,hv⟩
    ·subst hb;cases hv;exact⟨_,by simp[execOp,e,asBool],hρ a⟩
    ·subst hb;cases hv;exact⟨_,by simp[execOp,e,asBool],hρ b⟩
 case load t p=>
  cases h
  obtain⟨b,off,u,e,h1,h2⟩:=ov hE hW (hρ p) hv
  exact⟨u,by simp[execOp,Instr.loadAt,e,Instr.sureAddr,h1],h2⟩
 case nilCheck x=>
  cases h
  have hx:=hρ x
  cases ha:ρa x<;>rw[ha] at hv hx<;>(try simp only at hv)<;>try exact hv.elim
  case ptr id off=>
   have hc:=hx
   rw[CR] at hc
   cases hm:m.at id<;>rw[hm] at hv hc<;>(try simp only at hv hc)<;>try exact hv.elim
   cases hv
   exact⟨_,by simp only[execOp,hc];rfl,by rw[←hc];exact hx⟩
  case gY id i off=>
   have hc:=hx
   rw[CR] at hc
   cases hm:m.at id<;>rw[hm] at hv hc<;>(try simp only at hv hc)<;>try exact hv.elim
   cases hv
   obtain⟨k,_,_,hc⟩:=hc
   exact⟨_,by simp only[execOp,hc];rfl,by rw[←hc];exact hx⟩
  case lk t x' off=>
   obtain⟨b,o,us,hc,_⟩:=kM.1 hx
   cases hv
   exact⟨_,by simp only[execOp,hc];rfl,by rw[←hc];exact hx⟩
  case fn f a b=>
   obtain⟨us,vs,hc,_⟩:=mr.1 hx
   cases hv
   exact⟨_,by simp only[execOp,hc];rfl,by rw[←hc];exact hx⟩
 case binOp op t x y t2=>
  cases h
  obtain⟨z,h1,h2⟩:=x8 (w:=w) hE x y (hρ x) (hρ y) hv
  exact⟨z,by simp only[execOp,Sem.run_bind,h1,Result.andThen_ok,Sem.run_pure],h2⟩
 case unOp op t x=>
  cases h
  obtain⟨z,h1,h2⟩:=zD (P:=P) (hρ x) hv
  exact⟨z,by simp[execOp,h1],h2⟩
 case convert s d x=>
  have key:∀{tv:TV AV} {v:AV},tv=ny ai (E.ti.get s) (E.ti.get d) (ρa x)→tv.Is v→∃z,(execOp ρc {dst:=dst,op:=.convert s d x,type:=ty,pos:=pos,after:=after,guard:=guard}).run P w=.ok (.value z) w∧CR w S m v z:=by
   intro tv v he hv
   subst he
   obtain⟨z,h1,h2⟩:=w9 hE (hρ x) hv
   exact⟨z,by simp[execOp,h1],h2⟩
  cases ha:ρa x<;>rw[ha] at h<;>(try simp only at h)<;>try (cases h;done)
  ·cases h;exact key (by rw[ha]) hv
  ·split at h
   ·cases h;exact key (by rw[ha]) hv
   ·cases h
  ·obtain⟨z,h1,h2⟩:=xr hE (by rw[←ha];exact hρ x) h hv
   exact⟨z,by simp[execOp,h1],h2⟩
 case makeFunc fn a c=>
  cases fn<;>simp only at h<;>try (cases h;done)
  cases h;cases hv
  refine⟨.func (.func _) (a.map ρc) (c.map ρc),rfl,mr.2 ⟨_,_,rfl,?_,?_⟩⟩
  ·have:=rz hρ a.toList;simpa using this
  ·have:=rz hρ c.toList;simpa using this
 case slice t x lo hi mx=>
  cases h
  obtain⟨z,h1,h2⟩:=uC hE hW hρ hv
  exact⟨z,by simp[execOp,h1],h2⟩
 case fieldAddr t x i=>
  cases h
  obtain⟨z,h1,h2⟩:=oG hE (hρ x) hv
  exact⟨z,by simp[execOp,h1],h2⟩
 case field t x i=>
  cases h
  obtain⟨z,h1,h2⟩:=uB hE (hρ x) hv
  exact⟨z,by simp[execOp,h1],h2⟩
 case indexAddr t x i=>
  cases h
  obtain⟨z,h1,h2⟩:=nU hE hW (hρ x) (hρ i) hv
  exact⟨z,by simp[execOp,h1],h2⟩
 case index t x i=>
  cases h
  obtain⟨z,h1,h2⟩:=uL hE (hρ x) (hρ i) hv
  exact⟨z,by simp[execOp,h1],h2⟩
 case extract t i=>
  cases h
  have hx:=hρ t
  cases ha:ρa t<;>rw[ha] at hv hx<;>(try simp only at hv)<;>try exact hv.elim
  obtain⟨us,e,hc⟩:=ib.1 hx
  replace hv:=jC hv
  obtain⟨z,h1,h2⟩:=hc.get hv
  have h1:us[i]? = some z:=by simpa using h1
  exact⟨z,by simp[execOp,Instr.extract,e,h1],h2⟩
 case build t ps=>
  cases h
  obtain⟨z,h1,h2⟩:=uN hE hρ hv
  have e:(ps.map fun(i,x)=>(i,ρc x))=(ps.toList.map fun p=>(p.1,ρc p.2)).toArray:=by
   apply Array.ext'
   simp
  exact⟨z,by simp only[execOp,e,Sem.run_bind,h1,Result.andThen_ok,Sem.run_pure],h2⟩
 case call c=>
  obtain⟨callee,args,argTypes⟩:=c
  cases callee<;>(try simp only at h)<;>try (cases h;done)
  rename_i b
  cases b<;>(try simp only at h)<;>try (cases h;done)
  case len=>
   cases h
   obtain⟨l⟩:=args
   obtain⟨tl⟩:=argTypes
   simp only at hv
   match l,tl,hv with
   | [x],t::ts,hv=>
     obtain⟨z,h1,h2⟩:=yM (rt:=ty) (ts:=(t::ts).toArray) hE hW (by simp) (hρ x) hv
     exact⟨z,by simp[execOp,resolve,invoke,builtin,h1],h2⟩
   | [x], [],hv=>exact hv.elim
   | [],_,hv=>exact hv.elim
   | _::_::_,_,hv=>exact hv.elim
  case max=>
   cases h
   obtain⟨z,h1,h2⟩:=yr (P:=P) (rt:=ty) (ts:=argTypes) hρ hv
   exact⟨z,by simp[execOp,resolve,invoke,builtin,h1],h2⟩
  case min=>
   cases h
   obtain⟨z,h1,h2⟩:=yk (P:=P) (rt:=ty) (ts:=argTypes) hρ hv
   exact⟨z,by simp[execOp,resolve,invoke,builtin,h1],h2⟩
end
end Go.Ev
