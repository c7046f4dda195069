/-
  PROVED: the table of the types fits the program. Conditions: none.
-/
import Derived.Test.YtjceiokllpmnkaaGreatEvC
import Derived.Test.YtjceiokllpmnkaaGreatProg
import Derived.KernelRfl
set_option linter.unusedVariables false
set_option linter.unusedSimpArgs false
set_option linter.unusedSectionVars false
namespace Go.Ev.M
open Go.Proofs
set_option maxRecDepth 100000
def zSd:AV:=.sl (.int .u8) ([]:List Int)
def zi:AV:=.int .i64 true 0
def zb:AV:=.bool true false
def zs:AV:=.dp true
def zL:PT TI:=.leaf
def zF(v:TI):PT TI:=.node .leaf (some v) .leaf
def zN(l:PT TI)(v:TI)(r:PT TI):PT TI:=.node l (some v) r
def zE(l r:PT TI):PT TI:=.node l none r
def ti2:TI:=⟨.int .i64,1,8,false, [zi],some yI,true⟩
def ti3:TI:=ti2
def ti4:TI:=⟨.bool,1,1,false, [zb],some (.bool),true⟩
def ti5:TI:=⟨.int .u8,1,1,false, [.int .u8 true 0],some yU,true⟩
def ti9:TI:=⟨.str,1,16,false, [.str true []],some (.str),true⟩
def aiv:TI:=⟨.slice 4,1,24,false, [zs],some (.slice (.bool)),false⟩
def ahX:TI:=⟨.slice 124,1,24,false, [zs],some (.slice (.struct [DG,.slice (.bool),.slice (.bool)])),false⟩
abbrev aeo:Ty:=.struct [yI,yI,yI,yI,yI,yI,.slice (.bool),.slice (.struct [DG,.slice (.bool),.slice (.bool)])]
def aiS:TI:=⟨.struct [(0,1,false),(1,1,false),(2,1,false),(3,1,false),(4,1,false),(5,1,false),(6,1,false),(7,1,false)],8,96,true, [zi,zi,zi,zi,zi,zi,zs,zs],some (aeo),false⟩
abbrev B9:Ty:=.struct [yI,yI,yI,yI,yI]
def aik:TI:=⟨.struct [(0,1,false),(1,1,false),(2,1,false),(3,1,false),(4,1,false)],5,40,true, [zi,zi,zi,zi,zi],some (B9),true⟩
abbrev yM:Ty:=.struct [yI,yI,yI,yI,yI,yI,yI]
def aeK:TI:=⟨.struct [(0,1,false),(1,1,false),(2,1,false),(3,1,false),(4,1,false),(5,1,false),(6,1,false)],7,56,true, [zi,zi,zi,zi,zi,zi,zi],some (yM),true⟩
def aiZ:TI:=⟨.slice 5,1,24,false, [zs],some (yB),false⟩
def aia:TI:=⟨.slice 155,1,24,false, [zs],some (.slice (.struct [yB,yI])),false⟩
abbrev GN:Ty:=.struct [yI,yB,.slice (.struct [yB,yI]),yI,yI]
def ah7:TI:=⟨.struct [(0,1,false),(1,1,false),(2,1,false),(3,1,false),(4,1,false)],5,72,true, [zi,zs,zs,zi,zi],some (GN),false⟩
abbrev ajl:Ty:=.struct [yI,yI,B9,yM,yI,.bool,yI,GN]
def aiI:TI:=⟨.struct [(0,1,false),(1,1,false),(2,5,true),(7,7,true),(14,1,false),(15,1,false),(16,1,false),(17,5,true)],22,208,true, [zi,zi,zi,zi,zi,zi,zi,zi,zi,zi,zi,zi,zi,zi,zi,zb,zi,zi,zs,zs,zi,zi],some (ajl),false⟩
def air:TI:=ti2
def ahU:TI:=⟨.slice 147,1,24,false, [zs],some (.slice (.struct [yI,yI,.struct [yI,yB]])),false⟩
abbrev ai0:Ty:=.struct [yI,yI,B9,yI,yB]
def aiP:TI:=⟨.struct [(0,1,false),(1,1,false),(2,5,true),(7,1,false),(8,1,false)],9,88,true, [zi,zi,zi,zi,zi,zi,zi,zi,zs],some (ai0),false⟩
abbrev aiK:Ty:=.struct [yI,yI,yI,.struct [yI,yI,B9,yI,yB],yI]
def ait:TI:=⟨.struct [(0,1,false),(1,1,false),(2,1,false),(3,9,true),(12,1,false)],13,120,true, [zi,zi,zi,zi,zi,zi,zi,zi,zi,zi,zi,zs,zi],some (aiK),false⟩
def aiz:TI:=⟨.slice 3,1,24,false, [zs],some (DG),false⟩
def ajr:TI:=⟨.slice 196,1,24,false, [zs],some (.slice (.struct [yI,yI,yI,yI,yI,yB])),false⟩
def ail:TI:=⟨.slice 66,1,24,false, [zs],some (.slice yM),false⟩
abbrev ai6:Ty:=.struct [yI,.slice (.bool),DG,DG,DG,DG,.slice (.struct [yI,yI,yI,yI,yI,yB]),.slice yM]
def aih:TI:=⟨.struct [(0,1,false),(1,1,false),(2,1,false),(3,1,false),(4,1,false),(5,1,false),(6,1,false),(7,1,false)],8,176,true, [zi,zs,zs,zs,zs,zs,zs,zs],some (ai6),false⟩
def ajk:TI:=⟨.slice 116,1,24,false, [zs],some (.slice (.struct [yI,.struct [yI,yI,B9,yM,yI,.bool,yI,GN]])),false⟩
def ah2:TI:=aeK
def ahJ:TI:=⟨.ptr 86,1,8,false, [.fS],none,false⟩
def ai8:TI:=⟨.slice 35,1,24,false, [zs],some (.slice (.struct [yI,yI,B9,yM,yI,.bool,yI,GN])),false⟩
abbrev ahL:Ty:=.struct [.bool,aeo,.struct [yI,.slice (.bool),DG,DG,DG,DG,.slice (.struct [yI,yI,yI,yI,yI,yB]),.slice yM],.slice (.struct [yI,yI,B9,yM,yI,.bool,yI,GN]),.slice (.bool),yI,.slice (.struct [yI,.struct [yI,yI,B9,yM,yI,.bool,yI,GN]])]
def ajn:TI:=⟨.struct [(0,1,false),(1,8,true),(9,8,true),(17,1,false),(18,1,false),(19,1,false),(20,1,false)],21,360,true, [zb,zi,zi,zi,zi,zi,zi,zs,zs,zi,zs,zs,zs,zs,zs,zs,zs,zs,zs,zi,zs],some (ahL),false⟩
abbrev af7:Ty:=.struct [yI,.struct [yI,yI,B9,yM,yI,.bool,yI,GN]]
def agQ:TI:=⟨.struct [(0,1,false),(1,22,true)],23,216,true, [zi,zi,zi,zi,zi,zi,zi,zi,zi,zi,zi,zi,zi,zi,zi,zi,zb,zi,zi,zs,zs,zi,zi],some (af7),false⟩
abbrev afq:Ty:=.struct [DG,.slice (.bool),.slice (.bool)]
def ae6:TI:=⟨.struct [(0,1,false),(1,1,false),(2,1,false)],3,72,true, [zs,zs,zs],some (afq),false⟩
def W5:TI:=⟨.int .u64,1,8,false, [.int .u64 true 0],some (.int .u64),true⟩
def acu:TI:=⟨.struct [(0,1,false),(1,1,false)],2,32,true, [zi,zs],some (.struct [yI,yB]),false⟩
abbrev N3:Ty:=.struct [yI,yI,.struct [yI,yB]]
def agw:TI:=⟨.struct [(0,1,false),(1,1,false),(2,2,true)],4,48,true, [zi,zi,zi,zSd],some (N3),false⟩
def acm:TI:=⟨.struct [(0,1,false),(1,1,false)],2,32,true, [zs,zi],some (.struct [yB,yI]),false⟩
def aev:TI:=⟨.ptr 180,1,8,false, [.fS],none,false⟩
def adN:TI:=⟨.arr 2 147,8,96,true, [zi,zi,zi,zSd,zi,zi,zi,zSd],some (.arr 2 N3),false⟩
abbrev acB:Ty:=.struct [.slice (.struct [yI,yI,B9,yM,yI,.bool,yI,GN]),.slice (.bool),.slice (.bool),.slice (.bool),.arr 2 N3]
def adr:TI:=⟨.struct [(0,1,false),(1,1,false),(2,1,false),(3,1,false),(4,8,true)],12,192,true, [zs,zs,zs,zs,zi,zi,zi,zSd,zi,zi,zi,zSd],some (acB),false⟩
def aeq:TI:=⟨.func,1,8,false, [.kz],none,false⟩
def aeg:TI:=⟨.arr 3 181,3,24,true, [.kz,.kz,.kz],none,false⟩
abbrev acO:Ty:=.struct [yI,yI,yI,yI,yI,yB]
def agM:TI:=⟨.struct [(0,1,false),(1,1,false),(2,1,false),(3,1,false),(4,1,false),(5,1,false)],6,64,true, [zi,zi,zi,zi,zi,zs],some (acO),false⟩
def ac_:TI:=⟨.slice 143,1,24,false, [zs],some (.slice (.struct [yI,yB])),false⟩
def ad1:TI:=⟨.arr 5 3,5,40,true, [zi,zi,zi,zi,zi],some (.arr 5 yI),false⟩
def adA:TI:=⟨.arr 2 3,2,16,true, [zi,zi],some (.arr 2 yI),false⟩
def ad5:TI:=W5
def ahr:TI:=⟨.int .u32,1,4,false, [.int .u32 true 0],some (.int .u32),true⟩
abbrev adQ:Ty:=.struct [.struct [yI,yB],yI]
def Wv:TI:=⟨.struct [(0,2,true),(2,1,false)],3,40,true, [zi,zs,zi],some (adQ),false⟩
def agu:TI:=Wv
def ae5:TI:=⟨.struct [(0,1,false),(1,1,false)],2,16,true, [zi,zi],some (.struct [yI,yI]),true⟩
def afT:TI:=⟨.arr 5 309,10,80,true, [zi,zi,zi,zi,zi,zi,zi,zi,zi,zi],some (.arr 5 (.struct [yI,yI])),false⟩
def afR:TI:=⟨.arr 8 5,8,8,true, [.int .u8 true 0,.int .u8 true 0,.int .u8 true 0,.int .u8 true 0,.int .u8 true 0,.int .u8 true 0,.int .u8 true 0,.int .u8 true 0],some (.arr 8 yU),false⟩
def adf:TI:=⟨.arr 16 275,16,64,true, [.int .u32 true 0,.int .u32 true 0,.int .u32 true 0,.int .u32 true 0,.int .u32 true 0,.int .u32 true 0,.int .u32 true 0,.int .u32 true 0,.int .u32 true 0,.int .u32 true 0,.int .u32 true 0,.int .u32 true 0,.int .u32 true 0,.int .u32 true 0,.int .u32 true 0,.int .u32 true 0],some (.arr 16 (.int .u32)),false⟩
def fQ:PT TI:=(zE (zE (zN (zE (zE (zF aia) (zE (zE (zF acu) zL) (zE (zF aev) zL))) (zN (zF air) ahX (zF ail))) ti3 (zE (zE (zF aiI) (zE (zE (zN (zF ahr) agw zL) zL) zL)) (zN (zN (zE zL (zE (zF afR) zL)) aiP (zE (zE (zF agu) zL) (zF adA))) aik (zN (zE (zN (zF Wv) acm zL) zL) ajk zL)))) (zN (zN (zE (zF ah7) zL) ti9 (zN (zF ahU) aiS (zF aih))) ti5 (zE (zE (zE zL (zE zL (zF ac_))) (zN zL aiz (zE (zN (zF ae5) aeq zL) zL))) (zN (zF ait) aeK zL)))) (zN (zN (zE (zE (zE (zE (zF W5) zL) zL) zL) (zE (zE zL (zE zL (zF ad1))) zL)) ti4 (zE (zE (zE (zN zL ahJ (zF agM)) zL) (zE zL (zN (zF adr) agQ zL))) (zE (zE zL (zE zL (zE (zF adf) zL))) (zE zL (zF ae6))))) ti2 (zE (zE (zE (zE (zF ah2) zL) (zE (zE (zE (zF ad5) zL) zL) (zE (zF adN) zL))) (zE (zE (zF ai8) zL) zL)) (zE (zN zL aiv (zN (zF ajn) ajr (zE (zN (zF afT) aeg zL) zL))) (zF aiZ)))))
theorem ap:iV Tryz.prog fQ:=aan (by kernel_rfl)
abbrev Sd(g:FuncId)(s:ax):Prop:=ax.Sound Tryz.prog g s
theorem bR:Tryz.prog.follows .mixedOrders=true:=by kernel_rfl
end Go.Ev.M
