/-
  PROVED: the table of the types fits the program. Conditions: none.
-/
import Derived.Test.YtdmeijjlkmmifaaGreatEvC
import Derived.Test.YtdmeijjlkmmifaaGreatProg
import Derived.KernelRfl
set_option linter.unusedVariables false
set_option linter.unusedSimpArgs false
set_option linter.unusedSectionVars false
namespace Go.Ev.M
open Go.Proofs Go.Proofs.Tryz
set_option maxRecDepth 100000
def zi:AV:=.int .i64 true 0
def zb:AV:=.bool true false
def zs:AV:=.gb true
def zL:PT TI:=.leaf
def zF(v:TI):PT TI:=.node .leaf (some v) .leaf
def zN(l:PT TI)(v:TI)(r:PT TI):PT TI:=.node l (some v) r
def zE(l r:PT TI):PT TI:=.node l none r
def ti2:TI:=⟨.int .i64,1,8,false, [zi],some yI,true⟩
def ti3:TI:=ti2
def ti4:TI:=⟨.bool,1,1,false, [zb],some (.bool),true⟩
def ti5:TI:=⟨.int .u8,1,1,false, [.int .u8 true 0],some yU,true⟩
def ti9:TI:=⟨.str,1,16,false, [.str true []],some (.str),true⟩
def aw2:TI:=⟨.slice 4,1,24,false, [zs],some (.slice (.bool)),false⟩
def aw3:TI:=⟨.slice 96,1,24,false, [zs],some (.slice (.struct [El,.slice (.bool),.slice (.bool)])),false⟩
abbrev axB:Ty:=.struct [yI,yI,yI,yI,yI,yI,.slice (.bool),.slice (.struct [El,.slice (.bool),.slice (.bool)])]
def aw4:TI:=⟨.struct [(0,1,false),(1,1,false),(2,1,false),(3,1,false),(4,1,false),(5,1,false),(6,1,false),(7,1,false)],8,96,true, [zi,zi,zi,zi,zi,zi,zs,zs],some (axB),false⟩
def aw5:TI:=ti2
abbrev M8:Ty:=.struct [yI,yI,yI,yI,yI,yI,yI]
def avc:TI:=⟨.struct [(0,1,false),(1,1,false),(2,1,false),(3,1,false),(4,1,false),(5,1,false),(6,1,false)],7,56,true, [zi,zi,zi,zi,zi,zi,zi],some (M8),true⟩
def aw6:TI:=⟨.slice 31,1,24,false, [zs],some (.slice M8),false⟩
def aw7:TI:=⟨.slice 3,1,24,false, [zs],some (El),false⟩
def aw8:TI:=⟨.slice 139,1,24,false, [zs],some (.slice (.struct [yI,yI,yI,yI,yI,yB])),false⟩
abbrev axC:Ty:=.struct [yI,.slice (.bool),El,El,El,El,.slice (.struct [yI,yI,yI,yI,yI,yB]),.slice M8]
def aw9:TI:=⟨.struct [(0,1,false),(1,1,false),(2,1,false),(3,1,false),(4,1,false),(5,1,false),(6,1,false),(7,1,false)],8,176,true, [zi,zs,zs,zs,zs,zs,zs,zs],some (axC),false⟩
def aw_:TI:=⟨.slice 52,1,24,false, [zs],some (.slice (.struct [yI,.struct [yI,yI,.struct [yI,yI,yI,yI,yI],M8,yI,.bool,yI,.struct [yI,yB,.slice (.struct [yB,yI]),yI,yI]]])),false⟩
abbrev O4:Ty:=.struct [yI,yI,yI,yI,yI]
def axa:TI:=⟨.struct [(0,1,false),(1,1,false),(2,1,false),(3,1,false),(4,1,false)],5,40,true, [zi,zi,zi,zi,zi],some (O4),true⟩
def axb:TI:=avc
def axc:TI:=⟨.slice 5,1,24,false, [zs],some (yB),false⟩
def axd:TI:=⟨.slice 154,1,24,false, [zs],some (.slice (.struct [yB,yI])),false⟩
abbrev VX:Ty:=.struct [yI,yB,.slice (.struct [yB,yI]),yI,yI]
def axe:TI:=⟨.struct [(0,1,false),(1,1,false),(2,1,false),(3,1,false),(4,1,false)],5,72,true, [zi,zs,zs,zi,zi],some (VX),false⟩
abbrev axD:Ty:=.struct [yI,yI,O4,M8,yI,.bool,yI,VX]
def axf:TI:=⟨.struct [(0,1,false),(1,1,false),(2,5,true),(7,7,true),(14,1,false),(15,1,false),(16,1,false),(17,5,true)],22,208,true, [zi,zi,zi,zi,zi,zi,zi,zi,zi,zi,zi,zi,zi,zi,zi,zb,zi,zi,zs,zs,zi,zi],some (axD),false⟩
abbrev axE:Ty:=.struct [yI,.struct [yI,yI,O4,M8,yI,.bool,yI,VX]]
def axg:TI:=⟨.struct [(0,1,false),(1,22,true)],23,216,true, [zi,zi,zi,zi,zi,zi,zi,zi,zi,zi,zi,zi,zi,zi,zi,zi,zb,zi,zi,zs,zs,zi,zi],some (axE),false⟩
def axh:TI:=⟨.ptr 91,1,8,false, [.jB],none,false⟩
def axi:TI:=⟨.slice 50,1,24,false, [zs],some (.slice (.struct [yI,yI,O4,M8,yI,.bool,yI,VX])),false⟩
def axj:TI:=⟨.slice 78,1,24,false, [zs],some (.slice (.struct [yI,.struct [yI,yI],yI,.struct [yI,yB]])),false⟩
def avh:TI:=⟨.struct [(0,1,false),(1,1,false)],2,16,true, [zi,zi],some (.struct [yI,yI]),true⟩
def axk:TI:=⟨.struct [(0,1,false),(1,1,false)],2,32,true, [zi,zs],some (.struct [yI,yB]),false⟩
abbrev avv:Ty:=.struct [yI,.struct [yI,yI],yI,.struct [yI,yB]]
def axl:TI:=⟨.struct [(0,1,false),(1,2,true),(3,1,false),(4,2,true)],6,64,true, [zi,zi,zi,zi,zi,zs],some (avv),false⟩
def avi:TI:=⟨.int .u64,1,8,false, [.int .u64 true 0],some (.int .u64),true⟩
def axm:TI:=⟨.ptr 160,1,8,false, [.jB],none,false⟩
def axn:TI:=⟨.slice 111,1,24,false, [zs],some (.slice (.struct [.struct [yI,yI,O4,M8,yI,.bool,yI,VX],.struct [yI,yI,El],yI,yI,yI,.bool,.bool,.bool])),false⟩
def axo:TI:=⟨.arr 2 71,2,48,true, [zs,zs],some (.arr 2 (.slice avv)),false⟩
def axp:TI:=⟨.slice 166,1,24,false, [zs],some (.slice (.struct [.struct [yI,yI],yI])),false⟩
def axq:TI:=⟨.struct [(0,1,false),(1,8,true),(9,8,true),(17,1,false),(18,1,false),(19,1,false),(20,1,false),(21,2,true),(23,1,false),(24,1,false)],25,424,true, [zb,zi,zi,zi,zi,zi,zi,zs,zs,zi,zs,zs,zs,zs,zs,zs,zs,zi,zi,.jB,zs,zs,zs,zs,zs],none,false⟩
def axr:TI:=⟨.slice 62,1,24,false, [zs],none,false⟩
abbrev axF:Ty:=.struct [El,.slice (.bool),.slice (.bool)]
def axs:TI:=⟨.struct [(0,1,false),(1,1,false),(2,1,false)],3,72,true, [zs,zs,zs],some (axF),false⟩
def auS:TI:=⟨.ptr 111,1,8,false, [.jB],none,false⟩
def auT:TI:=⟨.slice 2,1,24,false, [zs],some (El),false⟩
abbrev ahD:Ty:=.struct [yI,yI,El]
def auU:TI:=⟨.struct [(0,1,false),(1,1,false),(2,1,false)],3,40,true, [zi,zi,zs],some (ahD),false⟩
abbrev avn:Ty:=.struct [.struct [yI,yI,O4,M8,yI,.bool,yI,VX],ahD,yI,yI,yI,.bool,.bool,.bool]
def auV:TI:=⟨.struct [(0,22,true),(22,3,true),(25,1,false),(26,1,false),(27,1,false),(28,1,false),(29,1,false),(30,1,false)],31,280,true, [zi,zi,zi,zi,zi,zi,zi,zi,zi,zi,zi,zi,zi,zi,zi,zb,zi,zi,zs,zs,zi,zi,zi,zi,zs,zi,zi,zi,zb,zb,zb],some (avn),false⟩
abbrev acQ:Ty:=.struct [yI,yI,yI,yI]
def auW:TI:=⟨.struct [(0,1,false),(1,1,false),(2,1,false),(3,1,false)],4,32,true, [zi,zi,zi,zi],some (acQ),true⟩
abbrev avo:Ty:=.struct [yI,yI,yI,yI,yI,yB]
def auX:TI:=⟨.struct [(0,1,false),(1,1,false),(2,1,false),(3,1,false),(4,1,false),(5,1,false)],6,64,true, [zi,zi,zi,zi,zi,zs],some (avo),false⟩
def auY:TI:=⟨.struct [(0,1,false),(1,1,false)],2,32,true, [zs,zi],some (.struct [yB,yI]),false⟩
def auZ:TI:=⟨.slice 132,1,24,false, [zs],some (.slice acQ),false⟩
abbrev avp:Ty:=.struct [.bool,.slice acQ,yI]
def au0:TI:=⟨.struct [(0,1,false),(1,1,false),(2,1,false)],3,40,true, [zb,zs,zi],some (avp),false⟩
abbrev avq:Ty:=.struct [.struct [yI,yI],yI]
def au1:TI:=⟨.struct [(0,2,true),(2,1,false)],3,24,true, [zi,zi,zi],some (avq),true⟩
def au2:TI:=⟨.slice 222,1,24,false, [zs],some (.slice (.struct [yI,yI,.struct [yI,yB]])),false⟩
abbrev avr:Ty:=.struct [yI,yI,O4,yI,yB]
def au3:TI:=⟨.struct [(0,1,false),(1,1,false),(2,5,true),(7,1,false),(8,1,false)],9,88,true, [zi,zi,zi,zi,zi,zi,zi,zi,zs],some (avr),false⟩
def au4:TI:=⟨.arr 2 3,2,16,true, [zi,zi],some (.arr 2 yI),false⟩
abbrev avs:Ty:=.struct [yI,yI,.struct [yI,yB]]
def au5:TI:=⟨.struct [(0,1,false),(1,1,false),(2,2,true)],4,48,true, [zi,zi,zi,zs],some (avs),false⟩
abbrev avt:Ty:=.struct [yI,yI,yI,.struct [yI,yI,O4,yI,yB],yI]
def au6:TI:=⟨.struct [(0,1,false),(1,1,false),(2,1,false),(3,9,true),(12,1,false)],13,120,true, [zi,zi,zi,zi,zi,zi,zi,zi,zi,zi,zi,zs,zi],some (avt),false⟩
abbrev avu:Ty:=.struct [.struct [yI,yB],yI]
def ahy:TI:=⟨.struct [(0,2,true),(2,1,false)],3,40,true, [zi,zs,zi],some (avu),false⟩
def au7:TI:=⟨.func,1,8,false, [.tg],none,false⟩
def au8:TI:=⟨.int .u32,1,4,false, [.int .u32 true 0],some (.int .u32),true⟩
def au9:TI:=avi
def au_:TI:=avh
def ava:TI:=⟨.arr 5 304,10,80,true, [zi,zi,zi,zi,zi,zi,zi,zi,zi,zi],some (.arr 5 (.struct [yI,yI])),false⟩
def avb:TI:=⟨.arr 5 3,5,40,true, [zi,zi,zi,zi,zi],some (.arr 5 yI),false⟩
def avd:TI:=ahy
def ave:TI:=⟨.slice 76,1,24,false, [zs],some (.slice (.struct [yI,yB])),false⟩
def avf:TI:=⟨.arr 8 5,8,8,true, [.int .u8 true 0,.int .u8 true 0,.int .u8 true 0,.int .u8 true 0,.int .u8 true 0,.int .u8 true 0,.int .u8 true 0,.int .u8 true 0],some (.arr 8 yU),false⟩
def avg:TI:=⟨.arr 16 297,16,64,true, [.int .u32 true 0,.int .u32 true 0,.int .u32 true 0,.int .u32 true 0,.int .u32 true 0,.int .u32 true 0,.int .u32 true 0,.int .u32 true 0,.int .u32 true 0,.int .u32 true 0,.int .u32 true 0,.int .u32 true 0,.int .u32 true 0,.int .u32 true 0,.int .u32 true 0,.int .u32 true 0],some (.arr 16 (.int .u32)),false⟩
def iq:PT TI:=(zE (zE (zN (zE (zE (zF avc) (zE zL (zF auV))) (zN (zE (zF axj) zL) aw3 (zE (zF axn) zL))) ti3 (zE zL (zE (zE (zE (zF auX) zL) (zF auT)) (zE (zF axq) zL)))) (zN (zN (zE (zF aw7) (zE (zE (zE zL (zF avg)) zL) (zE (zE (zF ava) zL) zL))) ti9 (zN (zE zL (zE (zN (zF au8) au2 zL) (zE (zF avd) zL))) aw4 (zE (zF axp) zL))) ti5 (zE (zE (zN zL aw_ (zE zL (zF au6))) zL) (zE (zN zL axc (zF auU)) zL)))) (zN (zN (zE (zE (zN zL aw6 (zN (zF au0) axs zL)) (zN zL axe (zE (zE (zF au_) zL) zL))) (zE zL (zE (zF axo) zL))) ti4 (zE (zE (zN (zE (zF auW) zL) aw9 (zE (zE (zF au7) zL) zL)) (zN (zF avi) axg (zE (zE (zF avb) zL) zL))) (zE (zN (zN (zE zL (zF avf)) axk zL) axb (zE (zE (zF au9) zL) zL)) (zE (zN (zE (zF ahy) zL) axr zL) (zE zL (zE (zF ave) zL)))))) ti2 (zE (zE (zE (zN (zF axi) aw8 zL) (zN zL axf (zE (zF au3) zL))) (zN (zN (zF avh) axa (zF auS)) aw5 (zE (zE (zF auY) zL) zL))) (zE (zN (zE zL (zE (zF au1) zL)) aw2 (zE (zN zL axm (zF au4)) zL)) (zE (zN (zF axl) axd zL) (zN (zE (zF auZ) (zF au5)) axh zL))))))
theorem ap:nZ prog iq:=ant (by kernel_rfl)
abbrev Sd(g:FuncId)(s:aK):Prop:=aK.bE prog g s
theorem dE:prog.follows .mixedOrders=true:=by kernel_rfl
end Go.Ev.M
