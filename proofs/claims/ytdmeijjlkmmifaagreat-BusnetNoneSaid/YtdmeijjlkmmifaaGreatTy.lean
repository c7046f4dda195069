/-
  PROVED: the table of the types fits the program. Conditions: none.
-/
import Derived.Test.YtdmeijjlkmmifaaGreatEvC
import Derived.Test.YtdmeijjlkmmifaaGreatProg
import Derived.KernelRfl
set_option linter.unusedVariables false
set_option linter.unusedSimpArgs false
set_option linter.unusedSectionVars false
namespace Go.Ev.M
open Go.Proofs
set_option maxRecDepth 100000
def zi:AV:=.int .i64 true 0
def zb:AV:=.bool true false
def zs:AV:=.gi true
def zL:PT TI:=.leaf
def zF(v:TI):PT TI:=.node .leaf (some v) .leaf
def zN(l:PT TI)(v:TI)(r:PT TI):PT TI:=.node l (some v) r
def zE(l r:PT TI):PT TI:=.node l none r
def ti2:TI:=⟨.int .i64,1,8,false, [zi],some yI,true⟩
def ti3:TI:=ti2
def ti4:TI:=⟨.bool,1,1,false, [zb],some (.bool),true⟩
def ti5:TI:=⟨.int .u8,1,1,false, [.int .u8 true 0],some yU,true⟩
def ti9:TI:=⟨.str,1,16,false, [.str true []],some (.str),true⟩
def avI:TI:=⟨.slice 4,1,24,false, [zs],some (.slice (.bool)),false⟩
def avJ:TI:=⟨.slice 96,1,24,false, [zs],some (.slice (.struct [BY,.slice (.bool),.slice (.bool)])),false⟩
abbrev awh:Ty:=.struct [yI,yI,yI,yI,yI,yI,.slice (.bool),.slice (.struct [BY,.slice (.bool),.slice (.bool)])]
def avK:TI:=⟨.struct [(0,1,false),(1,1,false),(2,1,false),(3,1,false),(4,1,false),(5,1,false),(6,1,false),(7,1,false)],8,96,true, [zi,zi,zi,zi,zi,zi,zs,zs],some (awh),false⟩
def avL:TI:=ti2
abbrev MY:Ty:=.struct [yI,yI,yI,yI,yI,yI,yI]
def atY:TI:=⟨.struct [(0,1,false),(1,1,false),(2,1,false),(3,1,false),(4,1,false),(5,1,false),(6,1,false)],7,56,true, [zi,zi,zi,zi,zi,zi,zi],some (MY),true⟩
def avM:TI:=⟨.slice 31,1,24,false, [zs],some (.slice MY),false⟩
def avN:TI:=⟨.slice 3,1,24,false, [zs],some (BY),false⟩
def avO:TI:=⟨.slice 139,1,24,false, [zs],some (.slice (.struct [yI,yI,yI,yI,yI,yB])),false⟩
abbrev awi:Ty:=.struct [yI,.slice (.bool),BY,BY,BY,BY,.slice (.struct [yI,yI,yI,yI,yI,yB]),.slice MY]
def avP:TI:=⟨.struct [(0,1,false),(1,1,false),(2,1,false),(3,1,false),(4,1,false),(5,1,false),(6,1,false),(7,1,false)],8,176,true, [zi,zs,zs,zs,zs,zs,zs,zs],some (awi),false⟩
def avQ:TI:=⟨.slice 52,1,24,false, [zs],some (.slice (.struct [yI,.struct [yI,yI,.struct [yI,yI,yI,yI,yI],MY,yI,.bool,yI,.struct [yI,yB,.slice (.struct [yB,yI]),yI,yI]]])),false⟩
abbrev OZ:Ty:=.struct [yI,yI,yI,yI,yI]
def avR:TI:=⟨.struct [(0,1,false),(1,1,false),(2,1,false),(3,1,false),(4,1,false)],5,40,true, [zi,zi,zi,zi,zi],some (OZ),true⟩
def avS:TI:=atY
def avT:TI:=⟨.slice 5,1,24,false, [zs],some (yB),false⟩
def avU:TI:=⟨.slice 154,1,24,false, [zs],some (.slice (.struct [yB,yI])),false⟩
abbrev Vx:Ty:=.struct [yI,yB,.slice (.struct [yB,yI]),yI,yI]
def avV:TI:=⟨.struct [(0,1,false),(1,1,false),(2,1,false),(3,1,false),(4,1,false)],5,72,true, [zi,zs,zs,zi,zi],some (Vx),false⟩
abbrev awj:Ty:=.struct [yI,yI,OZ,MY,yI,.bool,yI,Vx]
def avW:TI:=⟨.struct [(0,1,false),(1,1,false),(2,5,true),(7,7,true),(14,1,false),(15,1,false),(16,1,false),(17,5,true)],22,208,true, [zi,zi,zi,zi,zi,zi,zi,zi,zi,zi,zi,zi,zi,zi,zi,zb,zi,zi,zs,zs,zi,zi],some (awj),false⟩
abbrev awk:Ty:=.struct [yI,.struct [yI,yI,OZ,MY,yI,.bool,yI,Vx]]
def avX:TI:=⟨.struct [(0,1,false),(1,22,true)],23,216,true, [zi,zi,zi,zi,zi,zi,zi,zi,zi,zi,zi,zi,zi,zi,zi,zi,zb,zi,zi,zs,zs,zi,zi],some (awk),false⟩
def avY:TI:=⟨.ptr 91,1,8,false, [.jT],none,false⟩
def avZ:TI:=⟨.slice 50,1,24,false, [zs],some (.slice (.struct [yI,yI,OZ,MY,yI,.bool,yI,Vx])),false⟩
def av0:TI:=⟨.slice 78,1,24,false, [zs],some (.slice (.struct [yI,.struct [yI,yI],yI,.struct [yI,yB]])),false⟩
def aua:TI:=⟨.struct [(0,1,false),(1,1,false)],2,16,true, [zi,zi],some (.struct [yI,yI]),true⟩
def av1:TI:=⟨.struct [(0,1,false),(1,1,false)],2,32,true, [zi,zs],some (.struct [yI,yB]),false⟩
abbrev auo:Ty:=.struct [yI,.struct [yI,yI],yI,.struct [yI,yB]]
def av2:TI:=⟨.struct [(0,1,false),(1,2,true),(3,1,false),(4,2,true)],6,64,true, [zi,zi,zi,zi,zi,zs],some (auo),false⟩
def aub:TI:=⟨.int .u64,1,8,false, [.int .u64 true 0],some (.int .u64),true⟩
def av3:TI:=⟨.ptr 160,1,8,false, [.jT],none,false⟩
def av4:TI:=⟨.slice 111,1,24,false, [zs],some (.slice (.struct [.struct [yI,yI,OZ,MY,yI,.bool,yI,Vx],.struct [yI,yI,BY],yI,yI,yI,.bool,.bool,.bool])),false⟩
def av5:TI:=⟨.arr 2 71,2,48,true, [zs,zs],some (.arr 2 (.slice auo)),false⟩
def av6:TI:=⟨.slice 166,1,24,false, [zs],some (.slice (.struct [.struct [yI,yI],yI])),false⟩
def av7:TI:=⟨.struct [(0,1,false),(1,8,true),(9,8,true),(17,1,false),(18,1,false),(19,1,false),(20,1,false),(21,2,true),(23,1,false),(24,1,false)],25,424,true, [zb,zi,zi,zi,zi,zi,zi,zs,zs,zi,zs,zs,zs,zs,zs,zs,zs,zi,zi,.jT,zs,zs,zs,zs,zs],none,false⟩
def av8:TI:=⟨.slice 62,1,24,false, [zs],none,false⟩
abbrev awl:Ty:=.struct [BY,.slice (.bool),.slice (.bool)]
def av9:TI:=⟨.struct [(0,1,false),(1,1,false),(2,1,false)],3,72,true, [zs,zs,zs],some (awl),false⟩
def atC:TI:=⟨.ptr 111,1,8,false, [.jT],none,false⟩
def atD:TI:=⟨.slice 2,1,24,false, [zs],some (BY),false⟩
abbrev ahi:Ty:=.struct [yI,yI,BY]
def atE:TI:=⟨.struct [(0,1,false),(1,1,false),(2,1,false)],3,40,true, [zi,zi,zs],some (ahi),false⟩
abbrev aug:Ty:=.struct [.struct [yI,yI,OZ,MY,yI,.bool,yI,Vx],ahi,yI,yI,yI,.bool,.bool,.bool]
def atF:TI:=⟨.struct [(0,22,true),(22,3,true),(25,1,false),(26,1,false),(27,1,false),(28,1,false),(29,1,false),(30,1,false)],31,280,true, [zi,zi,zi,zi,zi,zi,zi,zi,zi,zi,zi,zi,zi,zi,zi,zb,zi,zi,zs,zs,zi,zi,zi,zi,zs,zi,zi,zi,zb,zb,zb],some (aug),false⟩
abbrev acj:Ty:=.struct [yI,yI,yI,yI]
def atG:TI:=⟨.struct [(0,1,false),(1,1,false),(2,1,false),(3,1,false)],4,32,true, [zi,zi,zi,zi],some (acj),true⟩
abbrev auh:Ty:=.struct [yI,yI,yI,yI,yI,yB]
def atH:TI:=⟨.struct [(0,1,false),(1,1,false),(2,1,false),(3,1,false),(4,1,false),(5,1,false)],6,64,true, [zi,zi,zi,zi,zi,zs],some (auh),false⟩
def atI:TI:=⟨.struct [(0,1,false),(1,1,false)],2,32,true, [zs,zi],some (.struct [yB,yI]),false⟩
def atJ:TI:=⟨.slice 132,1,24,false, [zs],some (.slice acj),false⟩
abbrev aui:Ty:=.struct [.bool,.slice acj,yI]
def atK:TI:=⟨.struct [(0,1,false),(1,1,false),(2,1,false)],3,40,true, [zb,zs,zi],some (aui),false⟩
abbrev auj:Ty:=.struct [.struct [yI,yI],yI]
def atL:TI:=⟨.struct [(0,2,true),(2,1,false)],3,24,true, [zi,zi,zi],some (auj),true⟩
def atM:TI:=⟨.slice 222,1,24,false, [zs],some (.slice (.struct [yI,yI,.struct [yI,yB]])),false⟩
abbrev auk:Ty:=.struct [yI,yI,OZ,yI,yB]
def atN:TI:=⟨.struct [(0,1,false),(1,1,false),(2,5,true),(7,1,false),(8,1,false)],9,88,true, [zi,zi,zi,zi,zi,zi,zi,zi,zs],some (auk),false⟩
def atO:TI:=⟨.arr 2 3,2,16,true, [zi,zi],some (.arr 2 yI),false⟩
abbrev aul:Ty:=.struct [yI,yI,.struct [yI,yB]]
def atP:TI:=⟨.struct [(0,1,false),(1,1,false),(2,2,true)],4,48,true, [zi,zi,zi,zs],some (aul),false⟩
abbrev aum:Ty:=.struct [yI,yI,yI,.struct [yI,yI,OZ,yI,yB],yI]
def atQ:TI:=⟨.struct [(0,1,false),(1,1,false),(2,1,false),(3,9,true),(12,1,false)],13,120,true, [zi,zi,zi,zi,zi,zi,zi,zi,zi,zi,zi,zs,zi],some (aum),false⟩
abbrev aun:Ty:=.struct [.struct [yI,yB],yI]
def ahd:TI:=⟨.struct [(0,2,true),(2,1,false)],3,40,true, [zi,zs,zi],some (aun),false⟩
def atS:TI:=⟨.func,1,8,false, [.s_],none,false⟩
def atT:TI:=⟨.int .u32,1,4,false, [.int .u32 true 0],some (.int .u32),true⟩
def atU:TI:=aub
def atV:TI:=aua
def atW:TI:=⟨.arr 5 304,10,80,true, [zi,zi,zi,zi,zi,zi,zi,zi,zi,zi],some (.arr 5 (.struct [yI,yI])),false⟩
def atX:TI:=⟨.arr 5 3,5,40,true, [zi,zi,zi,zi,zi],some (.arr 5 yI),false⟩
def atZ:TI:=ahd
def at5:TI:=⟨.slice 76,1,24,false, [zs],some (.slice (.struct [yI,yB])),false⟩
def at6:TI:=⟨.arr 8 5,8,8,true, [.int .u8 true 0,.int .u8 true 0,.int .u8 true 0,.int .u8 true 0,.int .u8 true 0,.int .u8 true 0,.int .u8 true 0,.int .u8 true 0],some (.arr 8 yU),false⟩
def at7:TI:=⟨.arr 16 297,16,64,true, [.int .u32 true 0,.int .u32 true 0,.int .u32 true 0,.int .u32 true 0,.int .u32 true 0,.int .u32 true 0,.int .u32 true 0,.int .u32 true 0,.int .u32 true 0,.int .u32 true 0,.int .u32 true 0,.int .u32 true 0,.int .u32 true 0,.int .u32 true 0,.int .u32 true 0,.int .u32 true 0],some (.arr 16 (.int .u32)),false⟩
def iA:PT TI:=(zE (zE (zN (zE (zE (zF atY) (zE zL (zF atF))) (zN (zE (zF av0) zL) avJ (zE (zF av4) zL))) ti3 (zE zL (zE (zE (zE (zF atH) zL) (zF atD)) (zE (zF av7) zL)))) (zN (zN (zE (zF avN) (zE (zE (zE zL (zF at7)) zL) (zE (zE (zF atW) zL) zL))) ti9 (zN (zE zL (zE (zN (zF atT) atM zL) (zE (zF atZ) zL))) avK (zE (zF av6) zL))) ti5 (zE (zE (zN zL avQ (zE zL (zF atQ))) zL) (zE (zN zL avT (zF atE)) zL)))) (zN (zN (zE (zE (zN zL avM (zN (zF atK) av9 zL)) (zN zL avV (zE (zE (zF atV) zL) zL))) (zE zL (zE (zF av5) zL))) ti4 (zE (zE (zN (zE (zF atG) zL) avP (zE (zE (zF atS) zL) zL)) (zN (zF aub) avX (zE (zE (zF atX) zL) zL))) (zE (zN (zN (zE zL (zF at6)) av1 zL) avS (zE (zE (zF atU) zL) zL)) (zE (zN (zE (zF ahd) zL) av8 zL) (zE zL (zE (zF at5) zL)))))) ti2 (zE (zE (zE (zN (zF avZ) avO zL) (zN zL avW (zE (zF atN) zL))) (zN (zN (zF aua) avR (zF atC)) avL (zE (zE (zF atI) zL) zL))) (zE (zN (zE zL (zE (zF atL) zL)) avI (zE (zN zL av3 (zF atO)) zL)) (zE (zN (zF av2) avU zL) (zN (zE (zF atJ) (zF atP)) avY zL))))))
theorem ar:nG Tryz.prog iA:=amG (by kernel_rfl)
abbrev Sd(g:FuncId)(s:aM):Prop:=aM.bH Tryz.prog g s
theorem dK:Tryz.prog.follows .mixedOrders=true:=by kernel_rfl
end Go.Ev.M
