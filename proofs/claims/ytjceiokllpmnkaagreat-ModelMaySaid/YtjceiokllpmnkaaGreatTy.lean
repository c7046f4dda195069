/-
  PROVED: the table of the types fits the program. Conditions: none.
-/
import Derived.Test.YtjceiokllpmnkaaGreatEvC
import Derived.Test.YtjceiokllpmnkaaGreatProg
import Derived.KernelRfl
set_option linter.unusedVariables false
set_option linter.unusedSimpArgs false
set_option linter.unusedSectionVars false
namespace Go.Ev.M
open Go.Proofs
set_option maxRecDepth 100000
def zSd:AV:=.sl (.int .u8) ([]:List Int)
def zi:AV:=.int .i64 true 0
def zb:AV:=.bool true false
def zs:AV:=.dq true
def zL:PT TI:=.leaf
def zF(v:TI):PT TI:=.node .leaf (some v) .leaf
def zN(l:PT TI)(v:TI)(r:PT TI):PT TI:=.node l (some v) r
def zE(l r:PT TI):PT TI:=.node l none r
def ti2:TI:=⟨.int .i64,1,8,false, [zi],some yI,true⟩
def ti3:TI:=ti2
def ti4:TI:=⟨.bool,1,1,false, [zb],some (.bool),true⟩
def ti5:TI:=⟨.int .u8,1,1,false, [.int .u8 true 0],some yU,true⟩
def ti9:TI:=⟨.str,1,16,false, [.str true []],some (.str),true⟩
def ahV:TI:=⟨.slice 4,1,24,false, [zs],some (.slice (.bool)),false⟩
def agV:TI:=⟨.slice 124,1,24,false, [zs],some (.slice (.struct [BW,.slice (.bool),.slice (.bool)])),false⟩
abbrev ael:Ty:=.struct [yI,yI,yI,yI,yI,yI,.slice (.bool),.slice (.struct [BW,.slice (.bool),.slice (.bool)])]
def ahi:TI:=⟨.struct [(0,1,false),(1,1,false),(2,1,false),(3,1,false),(4,1,false),(5,1,false),(6,1,false),(7,1,false)],8,96,true, [zi,zi,zi,zi,zi,zi,zs,zs],some (ael),false⟩
abbrev Aq:Ty:=.struct [yI,yI,yI,yI,yI]
def agL:TI:=⟨.struct [(0,1,false),(1,1,false),(2,1,false),(3,1,false),(4,1,false)],5,40,true, [zi,zi,zi,zi,zi],some (Aq),true⟩
abbrev zH:Ty:=.struct [yI,yI,yI,yI,yI,yI,yI]
def adD:TI:=⟨.struct [(0,1,false),(1,1,false),(2,1,false),(3,1,false),(4,1,false),(5,1,false),(6,1,false)],7,56,true, [zi,zi,zi,zi,zi,zi,zi],some (zH),true⟩
def ah5:TI:=⟨.slice 5,1,24,false, [zs],some (yB),false⟩
def ahu:TI:=⟨.slice 155,1,24,false, [zs],some (.slice (.struct [yB,yI])),false⟩
abbrev FZ:Ty:=.struct [yI,yB,.slice (.struct [yB,yI]),yI,yI]
def ahm:TI:=⟨.struct [(0,1,false),(1,1,false),(2,1,false),(3,1,false),(4,1,false)],5,72,true, [zi,zs,zs,zi,zi],some (FZ),false⟩
abbrev ag7:Ty:=.struct [yI,yI,Aq,zH,yI,.bool,yI,FZ]
def aid:TI:=⟨.struct [(0,1,false),(1,1,false),(2,5,true),(7,7,true),(14,1,false),(15,1,false),(16,1,false),(17,5,true)],22,208,true, [zi,zi,zi,zi,zi,zi,zi,zi,zi,zi,zi,zi,zi,zi,zi,zb,zi,zi,zs,zs,zi,zi],some (ag7),false⟩
def agZ:TI:=⟨.slice 41,1,24,false, [zs],some (.slice (.slice (.struct [yI,yI,.struct [yI,yB]]))),false⟩
def ag9:TI:=ti2
def aiq:TI:=⟨.slice 147,1,24,false, [zs],some (.slice (.struct [yI,yI,.struct [yI,yB]])),false⟩
abbrev agT:Ty:=.struct [yI,yI,Aq,yI,yB]
def ahL:TI:=⟨.struct [(0,1,false),(1,1,false),(2,5,true),(7,1,false),(8,1,false)],9,88,true, [zi,zi,zi,zi,zi,zi,zi,zi,zs],some (agT),false⟩
abbrev ag1:Ty:=.struct [yI,yI,yI,.struct [yI,yI,Aq,yI,yB],yI]
def ah_:TI:=⟨.struct [(0,1,false),(1,1,false),(2,1,false),(3,9,true),(12,1,false)],13,120,true, [zi,zi,zi,zi,zi,zi,zi,zi,zi,zi,zi,zs,zi],some (ag1),false⟩
def aio:TI:=⟨.slice 3,1,24,false, [zs],some (BW),false⟩
def aiB:TI:=⟨.slice 196,1,24,false, [zs],some (.slice (.struct [yI,yI,yI,yI,yI,yB])),false⟩
def agK:TI:=⟨.slice 66,1,24,false, [zs],some (.slice zH),false⟩
abbrev agI:Ty:=.struct [yI,.slice (.bool),BW,BW,BW,BW,.slice (.struct [yI,yI,yI,yI,yI,yB]),.slice zH]
def aip:TI:=⟨.struct [(0,1,false),(1,1,false),(2,1,false),(3,1,false),(4,1,false),(5,1,false),(6,1,false),(7,1,false)],8,176,true, [zi,zs,zs,zs,zs,zs,zs,zs],some (agI),false⟩
def ahH:TI:=⟨.slice 116,1,24,false, [zs],some (.slice (.struct [yI,.struct [yI,yI,Aq,zH,yI,.bool,yI,FZ]])),false⟩
def aif:TI:=adD
def agH:TI:=⟨.ptr 86,1,8,false, [.fw],none,false⟩
def ahT:TI:=⟨.slice 35,1,24,false, [zs],some (.slice (.struct [yI,yI,Aq,zH,yI,.bool,yI,FZ])),false⟩
abbrev ag8:Ty:=.struct [.bool,ael,.struct [yI,.slice (.bool),BW,BW,BW,BW,.slice (.struct [yI,yI,yI,yI,yI,yB]),.slice zH],.slice (.struct [yI,yI,Aq,zH,yI,.bool,yI,FZ]),.slice (.bool),yI,.slice (.struct [yI,.struct [yI,yI,Aq,zH,yI,.bool,yI,FZ]])]
def ah7:TI:=⟨.struct [(0,1,false),(1,8,true),(9,8,true),(17,1,false),(18,1,false),(19,1,false),(20,1,false)],21,360,true, [zb,zi,zi,zi,zi,zi,zi,zs,zs,zi,zs,zs,zs,zs,zs,zs,zs,zs,zs,zi,zs],some (ag8),false⟩
abbrev aeI:Ty:=.struct [yI,.struct [yI,yI,Aq,zH,yI,.bool,yI,FZ]]
def aeo:TI:=⟨.struct [(0,1,false),(1,22,true)],23,216,true, [zi,zi,zi,zi,zi,zi,zi,zi,zi,zi,zi,zi,zi,zi,zi,zi,zb,zi,zi,zs,zs,zi,zi],some (aeI),false⟩
abbrev agr:Ty:=.struct [BW,.slice (.bool),.slice (.bool)]
def aex:TI:=⟨.struct [(0,1,false),(1,1,false),(2,1,false)],3,72,true, [zs,zs,zs],some (agr),false⟩
def Wa:TI:=⟨.int .u64,1,8,false, [.int .u64 true 0],some (.int .u64),true⟩
def aeE:TI:=⟨.struct [(0,1,false),(1,1,false)],2,32,true, [zi,zs],some (.struct [yI,yB]),false⟩
abbrev Nf:Ty:=.struct [yI,yI,.struct [yI,yB]]
def aes:TI:=⟨.struct [(0,1,false),(1,1,false),(2,2,true)],4,48,true, [zi,zi,zi,zSd],some (Nf),false⟩
def abY:TI:=⟨.struct [(0,1,false),(1,1,false)],2,32,true, [zs,zi],some (.struct [yB,yI]),false⟩
def af9:TI:=⟨.ptr 180,1,8,false, [.fw],none,false⟩
def acA:TI:=⟨.arr 2 147,8,96,true, [zi,zi,zi,zSd,zi,zi,zi,zSd],some (.arr 2 Nf),false⟩
abbrev acB:Ty:=.struct [.slice (.struct [yI,yI,Aq,zH,yI,.bool,yI,FZ]),.slice (.bool),.slice (.bool),.slice (.bool),.arr 2 Nf]
def abT:TI:=⟨.struct [(0,1,false),(1,1,false),(2,1,false),(3,1,false),(4,8,true)],12,192,true, [zs,zs,zs,zs,zi,zi,zi,zSd,zi,zi,zi,zSd],some (acB),false⟩
def afz:TI:=⟨.func,1,8,false, [.kv],none,false⟩
def abq:TI:=⟨.arr 3 181,3,24,true, [.kv,.kv,.kv],none,false⟩
abbrev ae7:Ty:=.struct [yI,yI,yI,yI,yI,yB]
def adO:TI:=⟨.struct [(0,1,false),(1,1,false),(2,1,false),(3,1,false),(4,1,false),(5,1,false)],6,64,true, [zi,zi,zi,zi,zi,zs],some (ae7),false⟩
def agA:TI:=⟨.slice 143,1,24,false, [zs],some (.slice (.struct [yI,yB])),false⟩
def aeG:TI:=⟨.arr 5 3,5,40,true, [zi,zi,zi,zi,zi],some (.arr 5 yI),false⟩
def afD:TI:=⟨.arr 2 3,2,16,true, [zi,zi],some (.arr 2 yI),false⟩
def aek:TI:=Wa
def agk:TI:=⟨.int .u32,1,4,false, [.int .u32 true 0],some (.int .u32),true⟩
abbrev abP:Ty:=.struct [.struct [yI,yB],yI]
def VE:TI:=⟨.struct [(0,2,true),(2,1,false)],3,40,true, [zi,zs,zi],some (abP),false⟩
def aeX:TI:=VE
def afp:TI:=⟨.struct [(0,1,false),(1,1,false)],2,16,true, [zi,zi],some (.struct [yI,yI]),true⟩
def adu:TI:=⟨.arr 5 309,10,80,true, [zi,zi,zi,zi,zi,zi,zi,zi,zi,zi],some (.arr 5 (.struct [yI,yI])),false⟩
def af1:TI:=⟨.arr 8 5,8,8,true, [.int .u8 true 0,.int .u8 true 0,.int .u8 true 0,.int .u8 true 0,.int .u8 true 0,.int .u8 true 0,.int .u8 true 0,.int .u8 true 0],some (.arr 8 yU),false⟩
def aec:TI:=⟨.arr 16 275,16,64,true, [.int .u32 true 0,.int .u32 true 0,.int .u32 true 0,.int .u32 true 0,.int .u32 true 0,.int .u32 true 0,.int .u32 true 0,.int .u32 true 0,.int .u32 true 0,.int .u32 true 0,.int .u32 true 0,.int .u32 true 0,.int .u32 true 0,.int .u32 true 0,.int .u32 true 0,.int .u32 true 0],some (.arr 16 (.int .u32)),false⟩
def fM:PT TI:=(zE (zE (zN (zE (zE (zF ahu) (zE (zE (zF aeE) zL) (zE (zF af9) zL))) (zN (zF ag9) agV (zF agK))) ti3 (zE (zE (zF aid) (zE (zE (zN (zF agk) aes zL) zL) zL)) (zN (zN (zE zL (zE (zF af1) zL)) ahL (zE (zE (zF aeX) zL) (zF afD))) agL (zN (zE (zN (zF VE) abY zL) zL) ahH zL)))) (zN (zN (zE (zF ahm) zL) ti9 (zN (zF aiq) ahi (zF aip))) ti5 (zE (zE (zE zL (zE zL (zF agA))) (zN zL aio (zE (zN (zF afp) afz zL) zL))) (zN (zF ah_) adD zL)))) (zN (zN (zE (zE (zE (zE (zF Wa) zL) zL) zL) (zE (zE zL (zE zL (zF aeG))) zL)) ti4 (zE (zE (zN (zN zL agH (zF adO)) agZ zL) (zE zL (zN (zF abT) aeo zL))) (zE (zE zL (zE zL (zE (zF aec) zL))) (zE zL (zF aex))))) ti2 (zE (zE (zE (zE (zF aif) zL) (zE (zE (zE (zF aek) zL) zL) (zE (zF acA) zL))) (zE (zE (zF ahT) zL) zL)) (zE (zN zL ahV (zN (zF ah7) aiB (zE (zN (zF adu) abq zL) zL))) (zF ah5)))))
theorem ar:iJ Tryz.prog fM:=Xy (by kernel_rfl)
abbrev Sd(g:FuncId)(s:aC):Prop:=aC.Sound Tryz.prog g s
theorem bU:Tryz.prog.follows .mixedOrders=true:=by kernel_rfl
end Go.Ev.M
