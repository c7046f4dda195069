/- PROVED: the type table fits. Conditions: none. -/
import Derived.Test.YtdmeijjlkmmifaaGreatEvC
import Derived.Test.YtdmeijjlkmmifaaGreatProg
import Derived.KernelRfl
set_option linter.unusedVariables false
set_option linter.defProp false
set_option linter.unusedSimpArgs false
set_option linter.unusedSectionVars false
namespace Go.Ev.M
open Go.Proofs Go.Proofs.Tryz
set_option maxRecDepth 100000
def zi:AV:=.int .i64 true 0
def zb:AV:=.bool true false
def zs:AV:=.fG true
def zL:PT TI:=.leaf
def zF(v:TI):PT TI:=.node .leaf (some v) .leaf
def zN(l:PT TI)(v:TI)(r:PT TI):PT TI:=.node l (some v) r
def zE(l r:PT TI):PT TI:=.node l none r
def ti2:TI:=⟨.int .i64,1,8,false,[zi],some yI,true⟩
def ti3:TI:=ti2
def ti4:TI:=⟨.bool,1,1,false,[zb],some<|.bool,true⟩
def ti5:TI:=⟨.int .u8,1,1,false,[.int .u8 true 0],some yU,true⟩
def ti9:TI:=⟨.str,1,16,false,[.str true []],some<|.str,true⟩
def azm:TI:=⟨.slice 4,1,24,false,[zs],some<|.slice<|.bool,false⟩
def azn:TI:=⟨.slice 96,1,24,false,[zs],some<|.slice<|.struct [Cr,.slice<|.bool,.slice<|.bool],false⟩
abbrev azV:Ty:=.struct [yI,yI,yI,yI,yI,yI,.slice<|.bool,.slice<|.struct [Cr,.slice<|.bool,.slice<|.bool]]
def azo:TI:=⟨.struct [(0,1,false),(1,1,false),(2,1,false),(3,1,false),(4,1,false),(5,1,false),(6,1,false),(7,1,false)],8,96,true,[zi,zi,zi,zi,zi,zi,zs,zs],some<|azV,false⟩
def azp:TI:=ti2
abbrev N7:Ty:=.struct [yI,yI,yI,yI,yI,yI,yI]
def axJ:TI:=⟨.struct [(0,1,false),(1,1,false),(2,1,false),(3,1,false),(4,1,false),(5,1,false),(6,1,false)],7,56,true,[zi,zi,zi,zi,zi,zi,zi],some<|N7,true⟩
def azq:TI:=⟨.slice 31,1,24,false,[zs],some<|.slice N7,false⟩
def azr:TI:=⟨.slice 3,1,24,false,[zs],some<|Cr,false⟩
def azs:TI:=⟨.slice 139,1,24,false,[zs],some<|.slice<|.struct [yI,yI,yI,yI,yI,yB],false⟩
abbrev azW:Ty:=.struct [yI,.slice<|.bool,Cr,Cr,Cr,Cr,.slice<|.struct [yI,yI,yI,yI,yI,yB],.slice N7]
def azt:TI:=⟨.struct [(0,1,false),(1,1,false),(2,1,false),(3,1,false),(4,1,false),(5,1,false),(6,1,false),(7,1,false)],8,176,true,[zi,zs,zs,zs,zs,zs,zs,zs],some<|azW,false⟩
def azu:TI:=⟨.slice 52,1,24,false,[zs],some<|.slice<|.struct [yI,.struct [yI,yI,.struct [yI,yI,yI,yI,yI],N7,yI,.bool,yI,.struct [yI,yB,.slice<|.struct [yB,yI],yI,yI]]],false⟩
abbrev Qv:Ty:=.struct [yI,yI,yI,yI,yI]
def azv:TI:=⟨.struct [(0,1,false),(1,1,false),(2,1,false),(3,1,false),(4,1,false)],5,40,true,[zi,zi,zi,zi,zi],some<|Qv,true⟩
def azw:TI:=axJ
def azx:TI:=⟨.slice 5,1,24,false,[zs],some<|yB,false⟩
def azy:TI:=⟨.slice 154,1,24,false,[zs],some<|.slice<|.struct [yB,yI],false⟩
abbrev W7:Ty:=.struct [yI,yB,.slice<|.struct [yB,yI],yI,yI]
def azz:TI:=⟨.struct [(0,1,false),(1,1,false),(2,1,false),(3,1,false),(4,1,false)],5,72,true,[zi,zs,zs,zi,zi],some<|W7,false⟩
abbrev azX:Ty:=.struct [yI,yI,Qv,N7,yI,.bool,yI,W7]
def azA:TI:=⟨.struct [(0,1,false),(1,1,false),(2,5,true),(7,7,true),(14,1,false),(15,1,false),(16,1,false),(17,5,true)],22,208,true,[zi,zi,zi,zi,zi,zi,zi,zi,zi,zi,zi,zi,zi,zi,zi,zb,zi,zi,zs,zs,zi,zi],some<|azX,false⟩
abbrev azY:Ty:=.struct [yI,.struct [yI,yI,Qv,N7,yI,.bool,yI,W7]]
def azB:TI:=⟨.struct [(0,1,false),(1,22,true)],23,216,true,[zi,zi,zi,zi,zi,zi,zi,zi,zi,zi,zi,zi,zi,zi,zi,zi,zb,zi,zi,zs,zs,zi,zi],some<|azY,false⟩
def azC:TI:=⟨.ptr 91,1,8,false,[.jX],none,false⟩
def azD:TI:=⟨.slice 50,1,24,false,[zs],some<|.slice<|.struct [yI,yI,Qv,N7,yI,.bool,yI,W7],false⟩
def azE:TI:=⟨.slice 78,1,24,false,[zs],some<|.slice<|.struct [yI,.struct [yI,yI],yI,.struct [yI,yB]],false⟩
def axO:TI:=⟨.struct [(0,1,false),(1,1,false)],2,16,true,[zi,zi],some<|.struct [yI,yI],true⟩
def azF:TI:=⟨.struct [(0,1,false),(1,1,false)],2,32,true,[zi,zs],some<|.struct [yI,yB],false⟩
abbrev ax2:Ty:=.struct [yI,.struct [yI,yI],yI,.struct [yI,yB]]
def azG:TI:=⟨.struct [(0,1,false),(1,2,true),(3,1,false),(4,2,true)],6,64,true,[zi,zi,zi,zi,zi,zs],some<|ax2,false⟩
def axP:TI:=⟨.int .u64,1,8,false,[.int .u64 true 0],some<|.int .u64,true⟩
def azH:TI:=⟨.ptr 160,1,8,false,[.jX],none,false⟩
def azI:TI:=⟨.slice 111,1,24,false,[zs],some<|.slice<|.struct [.struct [yI,yI,Qv,N7,yI,.bool,yI,W7],.struct [yI,yI,Cr],yI,yI,yI,.bool,.bool,.bool],false⟩
def azJ:TI:=⟨.arr 2 71,2,48,true,[zs,zs],some<|.arr 2<|.slice ax2,false⟩
def azK:TI:=⟨.slice 166,1,24,false,[zs],some<|.slice<|.struct [.struct [yI,yI],yI],false⟩
def azL:TI:=⟨.struct [(0,1,false),(1,8,true),(9,8,true),(17,1,false),(18,1,false),(19,1,false),(20,1,false),(21,2,true),(23,1,false),(24,1,false)],25,424,true,[zb,zi,zi,zi,zi,zi,zi,zs,zs,zi,zs,zs,zs,zs,zs,zs,zs,zi,zi,.jX,zs,zs,zs,zs,zs],none,false⟩
def azM:TI:=⟨.slice 62,1,24,false,[zs],none,false⟩
abbrev azZ:Ty:=.struct [Cr,.slice<|.bool,.slice<|.bool]
def azN:TI:=⟨.struct [(0,1,false),(1,1,false),(2,1,false)],3,72,true,[zs,zs,zs],some<|azZ,false⟩
def axo:TI:=⟨.ptr 111,1,8,false,[.jX],none,false⟩
def axp:TI:=⟨.slice 2,1,24,false,[zs],some<|Cr,false⟩
abbrev ajc:Ty:=.struct [yI,yI,Cr]
def axq:TI:=⟨.struct [(0,1,false),(1,1,false),(2,1,false)],3,40,true,[zi,zi,zs],some<|ajc,false⟩
abbrev axU:Ty:=.struct [.struct [yI,yI,Qv,N7,yI,.bool,yI,W7],ajc,yI,yI,yI,.bool,.bool,.bool]
def axr:TI:=⟨.struct [(0,22,true),(22,3,true),(25,1,false),(26,1,false),(27,1,false),(28,1,false),(29,1,false),(30,1,false)],31,280,true,[zi,zi,zi,zi,zi,zi,zi,zi,zi,zi,zi,zi,zi,zi,zi,zb,zi,zi,zs,zs,zi,zi,zi,zi,zs,zi,zi,zi,zb,zb,zb],some<|axU,false⟩
abbrev adZ:Ty:=.struct [yI,yI,yI,yI]
def axs:TI:=⟨.struct [(0,1,false),(1,1,false),(2,1,false),(3,1,false)],4,32,true,[zi,zi,zi,zi],some<|adZ,true⟩
abbrev axV:Ty:=.struct [yI,yI,yI,yI,yI,yB]
def axt:TI:=⟨.struct [(0,1,false),(1,1,false),(2,1,false),(3,1,false),(4,1,false),(5,1,false)],6,64,true,[zi,zi,zi,zi,zi,zs],some<|axV,false⟩
def axu:TI:=⟨.struct [(0,1,false),(1,1,false)],2,32,true,[zs,zi],some<|.struct [yB,yI],false⟩
def axv:TI:=⟨.slice 132,1,24,false,[zs],some<|.slice adZ,false⟩
abbrev axW:Ty:=.struct [.bool,.slice adZ,yI]
def axw:TI:=⟨.struct [(0,1,false),(1,1,false),(2,1,false)],3,40,true,[zb,zs,zi],some<|axW,false⟩
abbrev axX:Ty:=.struct [.struct [yI,yI],yI]
def axx:TI:=⟨.struct [(0,2,true),(2,1,false)],3,24,true,[zi,zi,zi],some<|axX,true⟩
def axy:TI:=⟨.slice 222,1,24,false,[zs],some<|.slice<|.struct [yI,yI,.struct [yI,yB]],false⟩
abbrev axY:Ty:=.struct [yI,yI,Qv,yI,yB]
def axz:TI:=⟨.struct [(0,1,false),(1,1,false),(2,5,true),(7,1,false),(8,1,false)],9,88,true,[zi,zi,zi,zi,zi,zi,zi,zi,zs],some<|axY,false⟩
def axA:TI:=⟨.arr 2 3,2,16,true,[zi,zi],some<|.arr 2 yI,false⟩
abbrev axZ:Ty:=.struct [yI,yI,.struct [yI,yB]]
def axB:TI:=⟨.struct [(0,1,false),(1,1,false),(2,2,true)],4,48,true,[zi,zi,zi,zs],some<|axZ,false⟩
abbrev ax0:Ty:=.struct [yI,yI,yI,.struct [yI,yI,Qv,yI,yB],yI]
def axC:TI:=⟨.struct [(0,1,false),(1,1,false),(2,1,false),(3,9,true),(12,1,false)],13,120,true,[zi,zi,zi,zi,zi,zi,zi,zi,zi,zi,zi,zs,zi],some<|ax0,false⟩
abbrev ax1:Ty:=.struct [.struct [yI,yB],yI]
def ai7:TI:=⟨.struct [(0,2,true),(2,1,false)],3,40,true,[zi,zs,zi],some<|ax1,false⟩
def axD:TI:=⟨.func,1,8,false,[.tN],none,false⟩
def axE:TI:=⟨.int .u32,1,4,false,[.int .u32 true 0],some<|.int .u32,true⟩
def axF:TI:=axP
def axG:TI:=axO
def axH:TI:=⟨.arr 5 304,10,80,true,[zi,zi,zi,zi,zi,zi,zi,zi,zi,zi],some<|.arr 5<|.struct [yI,yI],false⟩
def axI:TI:=⟨.arr 5 3,5,40,true,[zi,zi,zi,zi,zi],some<|.arr 5 yI,false⟩
def axK:TI:=ai7
def axL:TI:=⟨.slice 76,1,24,false,[zs],some<|.slice<|.struct [yI,yB],false⟩
def axM:TI:=⟨.arr 8 5,8,8,true,[.int .u8 true 0,.int .u8 true 0,.int .u8 true 0,.int .u8 true 0,.int .u8 true 0,.int .u8 true 0,.int .u8 true 0,.int .u8 true 0],some<|.arr 8 yU,false⟩
def axN:TI:=⟨.arr 16 297,16,64,true,[.int .u32 true 0,.int .u32 true 0,.int .u32 true 0,.int .u32 true 0,.int .u32 true 0,.int .u32 true 0,.int .u32 true 0,.int .u32 true 0,.int .u32 true 0,.int .u32 true 0,.int .u32 true 0,.int .u32 true 0,.int .u32 true 0,.int .u32 true 0,.int .u32 true 0,.int .u32 true 0],some<|.arr 16<|.int .u32,false⟩
def iq:PT TI:=(zE (zE (zN (zE (zE (zF axJ)<|zE zL<|zF axr)<|zN (zE (zF azE) zL) azn<|zE (zF azI) zL) ti3<|zE zL<|zE (zE (zE (zF axt) zL)<|zF axp)<|zE (zF azL) zL)<|zN (zN (zE (zF azr)<|zE (zE (zE zL<|zF axN) zL)<|zE (zE (zF axH) zL) zL) ti9<|zN (zE zL<|zE (zN (zF axE) axy zL)<|zE (zF axK) zL) azo<|zE (zF azK) zL) ti5<|zE (zE (zN zL azu<|zE zL<|zF axC) zL)<|zE (zN zL azx<|zF axq) zL)<|zN (zN (zE (zE (zN zL azq<|zN (zF axw) azN zL)<|zN zL azz<|zE (zE (zF axG) zL) zL)<|zE zL<|zE (zF azJ) zL) ti4<|zE (zE (zN (zE (zF axs) zL) azt<|zE (zE (zF axD) zL) zL)<|zN (zF axP) azB<|zE (zE (zF axI) zL) zL)<|zE (zN (zN (zE zL<|zF axM) azF zL) azw<|zE (zE (zF axF) zL) zL)<|zE (zN (zE (zF ai7) zL) azM zL)<|zE zL<|zE (zF axL) zL) ti2<|zE (zE (zE (zN (zF azD) azs zL)<|zN zL azA<|zE (zF axz) zL)<|zN (zN (zF axO) azv<|zF axo) azp<|zE (zE (zF axu) zL) zL)<|zE (zN (zE zL<|zE (zF axx) zL) azm<|zE (zN zL azH<|zF axA) zL)<|zE (zN (zF azG) azy zL)<|zN (zE (zF axv)<|zF axB) azC zL)
def ax:nW prog iq:=apd (by kernel_rfl)
abbrev Sd(g:FuncId)(s:aK):Prop:=aK.bI prog g s
def dJ:prog.follows .mixedOrders=true:=by kernel_rfl
end Go.Ev.M
