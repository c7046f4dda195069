/- PROVED: the type table fits. Conditions: none. -/
import Derived.Test.YtalmcifclnbpmaaGreatEvC
import Derived.Test.YtalmcifclnbpmaaGreatProg
import Derived.KernelRfl
set_option linter.unusedVariables false
set_option linter.defProp false
set_option linter.unusedSimpArgs false
set_option linter.unusedSectionVars false
namespace Go.Ev.M
open Go.Proofs Go.Proofs.Tryz
set_option maxRecDepth 100000
def zi:AV:=.int .i64 true 0
def zb:AV:=.bool true false
def zs:AV:=.eT true
def zL:PT TI:=.leaf
def zF(v:TI):PT TI:=.node .leaf (some v) .leaf
def zN(l:PT TI)(v:TI)(r:PT TI):PT TI:=.node l (some v) r
def zE(l r:PT TI):PT TI:=.node l none r
def ti2:TI:=⟨.int .i64,1,8,false,[zi],some yI,true⟩
def ti3:TI:=ti2
def ti4:TI:=⟨.bool,1,1,false,[zb],some<|.bool,true⟩
def ti5:TI:=⟨.int .u8,1,1,false,[.int .u8 true 0],some yU,true⟩
def ti9:TI:=⟨.str,1,16,false,[.str true []],some<|.str,true⟩
def axF:TI:=⟨.slice 4,1,24,false,[zs],some<|.slice<|.bool,false⟩
def axG:TI:=⟨.slice 100,1,24,false,[zs],some<|.slice<|.struct [Ce,.slice<|.bool,.slice<|.bool],false⟩
abbrev awd:Ty:=.struct [yI,yI,yI,yI,yI,yI,.slice<|.bool,.slice<|.struct [Ce,.slice<|.bool,.slice<|.bool]]
def axH:TI:=⟨.struct [(0,1,false),(1,1,false),(2,1,false),(3,1,false),(4,1,false),(5,1,false),(6,1,false),(7,1,false)],8,96,true,[zi,zi,zi,zi,zi,zi,zs,zs],some<|awd,false⟩
def axI:TI:=⟨.slice 3,1,24,false,[zs],some<|Ce,false⟩
def axJ:TI:=⟨.slice 154,1,24,false,[zs],some<|.slice<|.struct [yI,yI,yI,yI,yI,yB],false⟩
def axK:TI:=⟨.slice 186,1,24,false,[zs],some<|.slice<|.struct [yI,yI,yI,yI,yI,yI,yI],false⟩
abbrev ayp:Ty:=.struct [yI,.slice<|.bool,Ce,Ce,Ce,Ce,.slice<|.struct [yI,yI,yI,yI,yI,yB],.slice<|.struct [yI,yI,yI,yI,yI,yI,yI]]
def axL:TI:=⟨.struct [(0,1,false),(1,1,false),(2,1,false),(3,1,false),(4,1,false),(5,1,false),(6,1,false),(7,1,false)],8,176,true,[zi,zs,zs,zs,zs,zs,zs,zs],some<|ayp,false⟩
def axM:TI:=⟨.ptr 75,1,8,false,[.gN],none,false⟩
def axN:TI:=ti2
def axO:TI:=⟨.slice 49,1,24,false,[zs],some<|.slice<|.struct [yI,yI,.struct [yI,yI,yI,yI,yI],.struct [yI,yI,yI,yI,yI,yI,yI],yI,.bool,yI,.struct [yI,yB,.slice<|.struct [yB,yI],yI,yI]],false⟩
abbrev Nt:Ty:=.struct [yI,yI,yI,yI,yI]
def axP:TI:=⟨.struct [(0,1,false),(1,1,false),(2,1,false),(3,1,false),(4,1,false)],5,40,true,[zi,zi,zi,zi,zi],some<|Nt,true⟩
abbrev RY:Ty:=.struct [yI,yI,yI,yI,yI,yI,yI]
def avP:TI:=⟨.struct [(0,1,false),(1,1,false),(2,1,false),(3,1,false),(4,1,false),(5,1,false),(6,1,false)],7,56,true,[zi,zi,zi,zi,zi,zi,zi],some<|RY,true⟩
def axQ:TI:=⟨.slice 5,1,24,false,[zs],some<|yB,false⟩
def axR:TI:=⟨.slice 134,1,24,false,[zs],some<|.slice<|.struct [yB,yI],false⟩
abbrev RZ:Ty:=.struct [yI,yB,.slice<|.struct [yB,yI],yI,yI]
def axS:TI:=⟨.struct [(0,1,false),(1,1,false),(2,1,false),(3,1,false),(4,1,false)],5,72,true,[zi,zs,zs,zi,zi],some<|RZ,false⟩
abbrev ayq:Ty:=.struct [yI,yI,Nt,RY,yI,.bool,yI,RZ]
def axT:TI:=⟨.struct [(0,1,false),(1,1,false),(2,5,true),(7,7,true),(14,1,false),(15,1,false),(16,1,false),(17,5,true)],22,208,true,[zi,zi,zi,zi,zi,zi,zi,zi,zi,zi,zi,zi,zi,zi,zi,zb,zi,zi,zs,zs,zi,zi],some<|ayq,false⟩
def axU:TI:=⟨.slice 60,1,24,false,[zs],some<|.slice<|.struct [yI,.struct [yI,yI],yI,.struct [yI,yB]],false⟩
def anS:TI:=⟨.struct [(0,1,false),(1,1,false)],2,16,true,[zi,zi],some<|.struct [yI,yI],true⟩
def axV:TI:=⟨.struct [(0,1,false),(1,1,false)],2,32,true,[zi,zs],some<|.struct [yI,yB],false⟩
abbrev an8:Ty:=.struct [yI,.struct [yI,yI],yI,.struct [yI,yB]]
def axW:TI:=⟨.struct [(0,1,false),(1,2,true),(3,1,false),(4,2,true)],6,64,true,[zi,zi,zi,zi,zi,zs],some<|an8,false⟩
abbrev an9:Ty:=.struct [.bool,yI,yI]
def axX:TI:=⟨.struct [(0,1,false),(1,1,false),(2,1,false)],3,24,true,[zb,zi,zi],some<|an9,true⟩
def axY:TI:=⟨.arr 2 64,6,48,true,[zb,zi,zi,zb,zi,zi],some<|.arr 2 an9,false⟩
def axZ:TI:=⟨.arr 2 3,2,16,true,[zi,zi],some<|.arr 2 yI,false⟩
def ax0:TI:=⟨.arr 2 53,2,48,true,[zs,zs],some<|.arr 2<|.slice an8,false⟩
abbrev ayr:Ty:=.struct [.arr 2 an9,.arr 2 yI,.arr 2<|.slice an8]
def ax1:TI:=⟨.struct [(0,6,true),(6,2,true),(8,2,true)],10,112,true,[zb,zi,zi,zb,zi,zi,zi,zi,zs,zs],some<|ayr,false⟩
def ax2:TI:=⟨.ptr 141,1,8,false,[.gN],none,false⟩
def ax3:TI:=⟨.slice 92,1,24,false,[zs],some<|.slice<|.struct [.struct [yI,yI,Nt,RY,yI,.bool,yI,RZ],.struct [yI,yI,Ce],yI,yI,yI,.bool,.bool,.bool],false⟩
def ax4:TI:=⟨.slice 165,1,24,false,[zs],some<|.slice<|.struct [.struct [yI,yI],yI],false⟩
def ax5:TI:=⟨.slice 86,1,24,false,[zs],some<|.slice<|.struct [yI,.struct [yI,yI,Nt,RY,yI,.bool,yI,RZ]],false⟩
def ax6:TI:=⟨.struct [(0,10,true),(10,1,false),(11,8,true),(19,8,true),(27,1,false),(28,1,false),(29,1,false),(30,1,false),(31,2,true),(33,1,false),(34,1,false)],35,536,true,[zb,zi,zi,zb,zi,zi,zi,zi,zs,zs,zb,zi,zi,zi,zi,zi,zi,zs,zs,zi,zs,zs,zs,zs,zs,zs,zs,zi,zi,.gN,zs,zs,zs,zs,zs],none,false⟩
def ax7:TI:=⟨.slice 33,1,24,false,[zs],none,false⟩
abbrev ays:Ty:=.struct [yI,.struct [yI,yI,Nt,RY,yI,.bool,yI,RZ]]
def ax8:TI:=⟨.struct [(0,1,false),(1,22,true)],23,216,true,[zi,zi,zi,zi,zi,zi,zi,zi,zi,zi,zi,zi,zi,zi,zi,zi,zb,zi,zi,zs,zs,zi,zi],some<|ays,false⟩
def ax9:TI:=⟨.ptr 92,1,8,false,[.gN],none,false⟩
def ax_:TI:=⟨.slice 2,1,24,false,[zs],some<|Ce,false⟩
abbrev awf:Ty:=.struct [yI,yI,Ce]
def aya:TI:=⟨.struct [(0,1,false),(1,1,false),(2,1,false)],3,40,true,[zi,zi,zs],some<|awf,false⟩
abbrev ayt:Ty:=.struct [.struct [yI,yI,Nt,RY,yI,.bool,yI,RZ],awf,yI,yI,yI,.bool,.bool,.bool]
def ayb:TI:=⟨.struct [(0,22,true),(22,3,true),(25,1,false),(26,1,false),(27,1,false),(28,1,false),(29,1,false),(30,1,false)],31,280,true,[zi,zi,zi,zi,zi,zi,zi,zi,zi,zi,zi,zi,zi,zi,zi,zb,zi,zi,zs,zs,zi,zi,zi,zi,zs,zi,zi,zi,zb,zb,zb],some<|ayt,false⟩
abbrev av4:Ty:=.struct [Ce,.slice<|.bool,.slice<|.bool]
def avp:TI:=⟨.struct [(0,1,false),(1,1,false),(2,1,false)],3,72,true,[zs,zs,zs],some<|av4,false⟩
def avq:TI:=⟨.ptr 128,1,8,false,[.gN],none,false⟩
def avr:TI:=anS
abbrev av5:Ty:=.struct [awd,.struct [yI,yI,Nt,RY,yI,.bool,yI,RZ]]
def avs:TI:=⟨.struct [(0,8,true),(8,22,true)],30,304,true,[zi,zi,zi,zi,zi,zi,zs,zs,zi,zi,zi,zi,zi,zi,zi,zi,zi,zi,zi,zi,zi,zi,zi,zb,zi,zi,zs,zs,zi,zi],some<|av5,false⟩
def avt:TI:=⟨.struct [(0,1,false),(1,1,false)],2,32,true,[zs,zi],some<|.struct [yB,yI],false⟩
def aic:TI:=⟨.func,1,8,false,[.tC],none,false⟩
def avu:TI:=⟨.slice 143,1,24,false,[zs],some<|.slice<|.struct [yI,yI,yI,yI],false⟩
abbrev av6:Ty:=.struct [.bool,.slice<|.struct [yI,yI,yI,yI],yI]
def avv:TI:=⟨.struct [(0,1,false),(1,1,false),(2,1,false)],3,40,true,[zb,zs,zi],some<|av6,false⟩
abbrev av7:Ty:=.struct [yI,yI,yI,yI]
def avw:TI:=⟨.struct [(0,1,false),(1,1,false),(2,1,false),(3,1,false)],4,32,true,[zi,zi,zi,zi],some<|av7,true⟩
abbrev av8:Ty:=.struct [yI,yI,yI,yI,yI,yB]
def avx:TI:=⟨.struct [(0,1,false),(1,1,false),(2,1,false),(3,1,false),(4,1,false),(5,1,false)],6,64,true,[zi,zi,zi,zi,zi,zs],some<|av8,false⟩
abbrev av9:Ty:=.struct [.struct [yI,yI],yI]
def avy:TI:=⟨.struct [(0,2,true),(2,1,false)],3,24,true,[zi,zi,zi],some<|av9,true⟩
def avz:TI:=⟨.slice 221,1,24,false,[zs],some<|.slice<|.struct [yI,yI,.struct [yI,yB]],false⟩
abbrev av_:Ty:=.struct [yI,yI,Nt,yI,yB]
def avA:TI:=⟨.struct [(0,1,false),(1,1,false),(2,5,true),(7,1,false),(8,1,false)],9,88,true,[zi,zi,zi,zi,zi,zi,zi,zi,zs],some<|av_,false⟩
def avB:TI:=avP
def aid:TI:=⟨.int .u64,1,8,false,[.int .u64 true 0],some<|.int .u64,true⟩
abbrev awb:Ty:=.struct [yI,yI,.struct [yI,yB]]
def avC:TI:=⟨.struct [(0,1,false),(1,1,false),(2,2,true)],4,48,true,[zi,zi,zi,zs],some<|awb,false⟩
def avD:TI:=⟨.ptr 69,1,8,false,[.gN],none,false⟩
def avE:TI:=aic
abbrev awc:Ty:=.struct [yI,yI,yI,.struct [yI,yI,Nt,yI,yB],yI]
def avF:TI:=⟨.struct [(0,1,false),(1,1,false),(2,1,false),(3,9,true),(12,1,false)],13,120,true,[zi,zi,zi,zi,zi,zi,zi,zi,zi,zi,zi,zs,zi],some<|awc,false⟩
def avG:TI:=⟨.int .u32,1,4,false,[.int .u32 true 0],some<|.int .u32,true⟩
def avH:TI:=aid
def avI:TI:=anS
def avJ:TI:=⟨.arr 5 268,10,80,true,[zi,zi,zi,zi,zi,zi,zi,zi,zi,zi],some<|.arr 5<|.struct [yI,yI],false⟩
def avK:TI:=⟨.arr 5 3,5,40,true,[zi,zi,zi,zi,zi],some<|.arr 5 yI,false⟩
abbrev awe:Ty:=.struct [.struct [yI,yB],yI]
def aie:TI:=⟨.struct [(0,2,true),(2,1,false)],3,40,true,[zi,zs,zi],some<|awe,false⟩
def avL:TI:=aie
def avM:TI:=⟨.slice 58,1,24,false,[zs],some<|.slice<|.struct [yI,yB],false⟩
def avN:TI:=⟨.arr 8 5,8,8,true,[.int .u8 true 0,.int .u8 true 0,.int .u8 true 0,.int .u8 true 0,.int .u8 true 0,.int .u8 true 0,.int .u8 true 0,.int .u8 true 0],some<|.arr 8 yU,false⟩
def avO:TI:=⟨.arr 16 261,16,64,true,[.int .u32 true 0,.int .u32 true 0,.int .u32 true 0,.int .u32 true 0,.int .u32 true 0,.int .u32 true 0,.int .u32 true 0,.int .u32 true 0,.int .u32 true 0,.int .u32 true 0,.int .u32 true 0,.int .u32 true 0,.int .u32 true 0,.int .u32 true 0,.int .u32 true 0,.int .u32 true 0],some<|.arr 16<|.int .u32,false⟩
def iA:PT TI:=(zE (zE (zN (zE (zE zL<|zN (zE (zF avw) zL) axS zL)<|zN (zE (zF ax3) zL) axG<|zE (zN (zE zL<|zF avO) ax9 zL)<|zE (zE (zF aie) zL) zL) ti3<|zE (zE (zE (zF ax0) zL) zL)<|zN (zN (zN (zF avu) ax6 zL) avP zL) axJ zL)<|zN (zN (zE (zN (zF axY) axM<|zE zL<|zF avD)<|zF axT) ti9<|zN (zN (zN (zE zL<|zF avM) ax5 zL) axP zL) axH zL) ti5<|zE (zE (zE (zN (zE (zF avG) zL) ax1 zL)<|zE (zF avy) zL)<|zN zL axU<|zE (zF avA)<|zE (zF avL) zL)<|zE (zN (zE (zN (zF avJ) avv zL) zL) axR<|zE zL<|zF avF)<|zE (zE zL<|zF avC) zL)<|zN (zN (zE (zE (zE (zN (zF avs) axX zL) zL)<|zE (zE (zE (zF avK) zL) zL) zL)<|zE (zE (zN (zE (zF avH) zL) ax4 zL)<|zE (zF avz) zL)<|zN (zF ax_) anS<|zF avq) ti4<|zE (zE (zE zL<|zF avp) zL)<|zN (zN (zN (zE (zF avI) zL) ax7 zL) axQ zL) axK<|zN (zF ayb) axW<|zF avr) ti2<|zE (zE (zE (zN (zN zL axZ<|zF aid) axN zL)<|zE (zE (zE zL<|zF avN) zL) zL)<|zN (zE (zE (zF aic) zL) zL) axI<|zN (zN (zF avx) aya zL) axV<|zE (zF avB) zL)<|zE (zN (zN (zN (zF avt) ax2 zL) axO<|zE zL<|zF avE) axF<|zE (zF ax8) zL)<|zF axL)
def ar:og prog iA:=anW (by kernel_rfl)
abbrev Sd(g:FuncId)(s:aL):Prop:=aL.bp prog g s
def dK:prog.follows .mixedOrders=true:=by kernel_rfl
end Go.Ev.M
