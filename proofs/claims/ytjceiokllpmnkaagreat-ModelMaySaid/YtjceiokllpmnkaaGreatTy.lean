/-
  PROVED: the table of the types fits the program. Conditions: none.
-/
import Derived.Test.YtjceiokllpmnkaaGreatEvC
import Derived.Test.YtjceiokllpmnkaaGreatProg
import Derived.KernelRfl
set_option linter.unusedVariables false
set_option linter.unusedSimpArgs false
set_option linter.unusedSectionVars false
namespace Go.Ev.M
open Go.Proofs
set_option maxRecDepth 100000
def zSd:AV:=.sl (.int .u8) ([]:List Int)
def zi:AV:=.int .i64 true 0
def zb:AV:=.bool true false
def zs:AV:=.dn true
def zL:PT TI:=.leaf
def zF(v:TI):PT TI:=.node .leaf (some v) .leaf
def zN(l:PT TI)(v:TI)(r:PT TI):PT TI:=.node l (some v) r
def zE(l r:PT TI):PT TI:=.node l none r
def ti2:TI:=⟨.int .i64,1,8,false, [zi],some yI,true⟩
def ti3:TI:=ti2
def ti4:TI:=⟨.bool,1,1,false, [zb],some (.bool),true⟩
def ti5:TI:=⟨.int .u8,1,1,false, [.int .u8 true 0],some yU,true⟩
def ti9:TI:=⟨.str,1,16,false, [.str true []],some (.str),true⟩
def ahD:TI:=⟨.slice 4,1,24,false, [zs],some (.slice (.bool)),false⟩
def ahz:TI:=⟨.slice 124,1,24,false, [zs],some (.slice (.struct [BO,.slice (.bool),.slice (.bool)])),false⟩
abbrev ad1:Ty:=.struct [yI,yI,yI,yI,yI,yI,.slice (.bool),.slice (.struct [BO,.slice (.bool),.slice (.bool)])]
def agf:TI:=⟨.struct [(0,1,false),(1,1,false),(2,1,false),(3,1,false),(4,1,false),(5,1,false),(6,1,false),(7,1,false)],8,96,true, [zi,zi,zi,zi,zi,zi,zs,zs],some (ad1),false⟩
abbrev AY:Ty:=.struct [yI,yI,yI,yI,yI]
def ahV:TI:=⟨.struct [(0,1,false),(1,1,false),(2,1,false),(3,1,false),(4,1,false)],5,40,true, [zi,zi,zi,zi,zi],some (AY),true⟩
abbrev yG:Ty:=.struct [yI,yI,yI,yI,yI,yI,yI]
def adA:TI:=⟨.struct [(0,1,false),(1,1,false),(2,1,false),(3,1,false),(4,1,false),(5,1,false),(6,1,false)],7,56,true, [zi,zi,zi,zi,zi,zi,zi],some (yG),true⟩
def ahS:TI:=⟨.slice 5,1,24,false, [zs],some (yB),false⟩
def agW:TI:=⟨.slice 155,1,24,false, [zs],some (.slice (.struct [yB,yI])),false⟩
abbrev Eg:Ty:=.struct [yI,yB,.slice (.struct [yB,yI]),yI,yI]
def af_:TI:=⟨.struct [(0,1,false),(1,1,false),(2,1,false),(3,1,false),(4,1,false)],5,72,true, [zi,zs,zs,zi,zi],some (Eg),false⟩
abbrev ag7:Ty:=.struct [yI,yI,AY,yG,yI,.bool,yI,Eg]
def agB:TI:=⟨.struct [(0,1,false),(1,1,false),(2,5,true),(7,7,true),(14,1,false),(15,1,false),(16,1,false),(17,5,true)],22,208,true, [zi,zi,zi,zi,zi,zi,zi,zi,zi,zi,zi,zi,zi,zi,zi,zb,zi,zi,zs,zs,zi,zi],some (ag7),false⟩
def ahd:TI:=ti2
def agi:TI:=⟨.slice 147,1,24,false, [zs],some (.slice (.struct [yI,yI,.struct [yI,yB]])),false⟩
abbrev ag6:Ty:=.struct [yI,yI,AY,yI,yB]
def agI:TI:=⟨.struct [(0,1,false),(1,1,false),(2,5,true),(7,1,false),(8,1,false)],9,88,true, [zi,zi,zi,zi,zi,zi,zi,zi,zs],some (ag6),false⟩
abbrev agY:Ty:=.struct [yI,yI,yI,.struct [yI,yI,AY,yI,yB],yI]
def ah0:TI:=⟨.struct [(0,1,false),(1,1,false),(2,1,false),(3,9,true),(12,1,false)],13,120,true, [zi,zi,zi,zi,zi,zi,zi,zi,zi,zi,zi,zs,zi],some (agY),false⟩
def ah1:TI:=⟨.slice 3,1,24,false, [zs],some (BO),false⟩
def agX:TI:=⟨.slice 196,1,24,false, [zs],some (.slice (.struct [yI,yI,yI,yI,yI,yB])),false⟩
def agH:TI:=⟨.slice 66,1,24,false, [zs],some (.slice yG),false⟩
abbrev ahX:Ty:=.struct [yI,.slice (.bool),BO,BO,BO,BO,.slice (.struct [yI,yI,yI,yI,yI,yB]),.slice yG]
def agz:TI:=⟨.struct [(0,1,false),(1,1,false),(2,1,false),(3,1,false),(4,1,false),(5,1,false),(6,1,false),(7,1,false)],8,176,true, [zi,zs,zs,zs,zs,zs,zs,zs],some (ahX),false⟩
def agP:TI:=⟨.slice 116,1,24,false, [zs],some (.slice (.struct [yI,.struct [yI,yI,AY,yG,yI,.bool,yI,Eg]])),false⟩
def aga:TI:=adA
def ahO:TI:=⟨.ptr 86,1,8,false, [.fv],none,false⟩
def agN:TI:=⟨.slice 35,1,24,false, [zs],some (.slice (.struct [yI,yI,AY,yG,yI,.bool,yI,Eg])),false⟩
abbrev agy:Ty:=.struct [.bool,ad1,.struct [yI,.slice (.bool),BO,BO,BO,BO,.slice (.struct [yI,yI,yI,yI,yI,yB]),.slice yG],.slice (.struct [yI,yI,AY,yG,yI,.bool,yI,Eg]),.slice (.bool),yI,.slice (.struct [yI,.struct [yI,yI,AY,yG,yI,.bool,yI,Eg]])]
def af4:TI:=⟨.struct [(0,1,false),(1,8,true),(9,8,true),(17,1,false),(18,1,false),(19,1,false),(20,1,false)],21,360,true, [zb,zi,zi,zi,zi,zi,zi,zs,zs,zi,zs,zs,zs,zs,zs,zs,zs,zs,zs,zi,zs],some (agy),false⟩
abbrev ac9:Ty:=.struct [yI,.struct [yI,yI,AY,yG,yI,.bool,yI,Eg]]
def afW:TI:=⟨.struct [(0,1,false),(1,22,true)],23,216,true, [zi,zi,zi,zi,zi,zi,zi,zi,zi,zi,zi,zi,zi,zi,zi,zi,zb,zi,zi,zs,zs,zi,zi],some (ac9),false⟩
abbrev adD:Ty:=.struct [BO,.slice (.bool),.slice (.bool)]
def afx:TI:=⟨.struct [(0,1,false),(1,1,false),(2,1,false)],3,72,true, [zs,zs,zs],some (adD),false⟩
def UJ:TI:=⟨.int .u64,1,8,false, [.int .u64 true 0],some (.int .u64),true⟩
def adN:TI:=⟨.struct [(0,1,false),(1,1,false)],2,32,true, [zi,zs],some (.struct [yI,yB]),false⟩
abbrev Mf:Ty:=.struct [yI,yI,.struct [yI,yB]]
def adO:TI:=⟨.struct [(0,1,false),(1,1,false),(2,2,true)],4,48,true, [zi,zi,zi,zSd],some (Mf),false⟩
def adk:TI:=⟨.struct [(0,1,false),(1,1,false)],2,32,true, [zs,zi],some (.struct [yB,yI]),false⟩
def aex:TI:=⟨.ptr 180,1,8,false, [.fv],none,false⟩
def af2:TI:=⟨.arr 2 147,8,96,true, [zi,zi,zi,zSd,zi,zi,zi,zSd],some (.arr 2 Mf),false⟩
abbrev abI:Ty:=.struct [.slice (.struct [yI,yI,AY,yG,yI,.bool,yI,Eg]),.slice (.bool),.slice (.bool),.slice (.bool),.arr 2 Mf]
def adZ:TI:=⟨.struct [(0,1,false),(1,1,false),(2,1,false),(3,1,false),(4,8,true)],12,192,true, [zs,zs,zs,zs,zi,zi,zi,zSd,zi,zi,zi,zSd],some (abI),false⟩
def aes:TI:=⟨.func,1,8,false, [.kv],none,false⟩
def afV:TI:=⟨.arr 3 181,3,24,true, [.kv,.kv,.kv],none,false⟩
abbrev adW:Ty:=.struct [yI,yI,yI,yI,yI,yB]
def acj:TI:=⟨.struct [(0,1,false),(1,1,false),(2,1,false),(3,1,false),(4,1,false),(5,1,false)],6,64,true, [zi,zi,zi,zi,zi,zs],some (adW),false⟩
def aa4:TI:=⟨.slice 143,1,24,false, [zs],some (.slice (.struct [yI,yB])),false⟩
def adl:TI:=⟨.arr 5 3,5,40,true, [zi,zi,zi,zi,zi],some (.arr 5 yI),false⟩
def adq:TI:=⟨.arr 2 3,2,16,true, [zi,zi],some (.arr 2 yI),false⟩
def acO:TI:=UJ
def acA:TI:=⟨.int .u32,1,4,false, [.int .u32 true 0],some (.int .u32),true⟩
abbrev acv:Ty:=.struct [.struct [yI,yB],yI]
def Vp:TI:=⟨.struct [(0,2,true),(2,1,false)],3,40,true, [zi,zs,zi],some (acv),false⟩
def abP:TI:=Vp
def ad0:TI:=⟨.struct [(0,1,false),(1,1,false)],2,16,true, [zi,zi],some (.struct [yI,yI]),true⟩
def aek:TI:=⟨.arr 5 309,10,80,true, [zi,zi,zi,zi,zi,zi,zi,zi,zi,zi],some (.arr 5 (.struct [yI,yI])),false⟩
def ab6:TI:=⟨.arr 8 5,8,8,true, [.int .u8 true 0,.int .u8 true 0,.int .u8 true 0,.int .u8 true 0,.int .u8 true 0,.int .u8 true 0,.int .u8 true 0,.int .u8 true 0],some (.arr 8 yU),false⟩
def aaR:TI:=⟨.arr 16 275,16,64,true, [.int .u32 true 0,.int .u32 true 0,.int .u32 true 0,.int .u32 true 0,.int .u32 true 0,.int .u32 true 0,.int .u32 true 0,.int .u32 true 0,.int .u32 true 0,.int .u32 true 0,.int .u32 true 0,.int .u32 true 0,.int .u32 true 0,.int .u32 true 0,.int .u32 true 0,.int .u32 true 0],some (.arr 16 (.int .u32)),false⟩
def fH:PT TI:=(zE (zE (zN (zE (zE (zF agW) (zE (zE (zF adN) zL) (zE (zF aex) zL))) (zN (zF ahd) ahz (zF agH))) ti3 (zE (zE (zF agB) (zE (zE (zN (zF acA) adO zL) zL) zL)) (zN (zN (zE zL (zE (zF ab6) zL)) agI (zE (zE (zF abP) zL) (zF adq))) ahV (zN (zE (zN (zF Vp) adk zL) zL) agP zL)))) (zN (zN (zE (zF af_) zL) ti9 (zN (zF agi) agf (zF agz))) ti5 (zE (zE (zE zL (zE zL (zF aa4))) (zN zL ah1 (zE (zN (zF ad0) aes zL) zL))) (zN (zF ah0) adA zL)))) (zN (zN (zE (zE (zE (zE (zF UJ) zL) zL) zL) (zE (zE zL (zE zL (zF adl))) zL)) ti4 (zE (zE (zE (zN zL ahO (zF acj)) zL) (zE zL (zN (zF adZ) afW zL))) (zE (zE zL (zE zL (zE (zF aaR) zL))) (zE zL (zF afx))))) ti2 (zE (zE (zE (zE (zF aga) zL) (zE (zE (zE (zF acO) zL) zL) (zE (zF af2) zL))) (zE (zE (zF agN) zL) zL)) (zE (zN zL ahD (zN (zF af4) agX (zE (zN (zF aek) afV zL) zL))) (zF ahS)))))
theorem ar:iH Tryz.prog fH:=Xp (by kernel_rfl)
abbrev Sd(g:FuncId)(s:aA):Prop:=aA.Sound Tryz.prog g s
theorem bR:Tryz.prog.follows .mixedOrders=true:=by kernel_rfl
end Go.Ev.M
