/-
  PROVED: the table of the types fits the program. Conditions: none.
-/
import Derived.Test.YteldjjjcdpnnbaaEvC
import Derived.Test.YteldjjjcdpnnbaaProg
import Derived.KernelRfl
set_option linter.unusedVariables false
set_option linter.unusedSimpArgs false
set_option linter.unusedSectionVars false
namespace Go.Ev.M
open Go.Proofs
set_option maxRecDepth 100000
def zi:AV:=.int .i64 true 0
def zb:AV:=.bool true false
def zs:AV:=.du true
def zL:PT TI:=.leaf
def zF(v:TI):PT TI:=.node .leaf (some v) .leaf
def zN(l:PT TI)(v:TI)(r:PT TI):PT TI:=.node l (some v) r
def zE(l r:PT TI):PT TI:=.node l none r
def gp:TI:=⟨.func,1,8,false, [.gZ],none,false⟩
def MF:TI:=⟨.int .i64,1,8,false, [zi],some yI,true⟩
def O1:TI:=MF
def OL:TI:=⟨.bool,1,1,false, [zb],some (.bool),true⟩
def OV:TI:=⟨.int .u8,1,1,false, [.int .u8 true 0],some yU,true⟩
abbrev OO:Ty:=.struct [yI,yI,.bool,.int .u8]
def OQ:TI:=⟨.struct [(0,1,false),(1,1,false),(2,1,false),(3,1,false)],4,24,true, [zi,zi,zb,.int .u8 true 0],some (OO),false⟩
def OZ:TI:=⟨.str,1,16,false, [.str true []],some (.str),true⟩
def GL:TI:=⟨.int .u64,1,8,false, [.int .u64 true 0],some (.int .u64),true⟩
abbrev LY:Ty:=.struct [.str,.int .u64]
def Mw:TI:=⟨.struct [(0,1,false),(1,1,false)],2,24,true, [.str true [],.int .u64 true 0],some (LY),false⟩
def Mr:TI:=⟨.ptr 114,1,8,false, [.cy],none,false⟩
def K0:TI:=⟨.ptr 117,1,8,false, [.cy],none,false⟩
def LG:TI:=⟨.ptr 126,1,8,false, [.cy],none,false⟩
def Kz:TI:=⟨.struct [(0,1,false)],1,8,true, [.cy],none,false⟩
def LJ:TI:=⟨.int .i32,1,4,false, [.int .i32 true 0],some (.int .i32),true⟩
abbrev Af:Ty:=.struct [yI,yI,yI,yI,yI]
def KW:TI:=⟨.struct [(0,1,false),(1,1,false),(2,1,false),(3,1,false),(4,1,false)],5,40,true, [zi,zi,zi,zi,zi],some (Af),false⟩
def Mi:TI:=⟨.struct [(0,1,false),(1,1,false),(2,1,false),(3,1,false),(4,1,false)],5,40,true, [zi,zi,zi,zi,zi],some (Af),true⟩
abbrev ID:Ty:=.struct [yI,yI,yI,yI,yI,yI,yI]
def KQ:TI:=⟨.struct [(0,1,false),(1,1,false),(2,1,false),(3,1,false),(4,1,false),(5,1,false),(6,1,false)],7,56,true, [zi,zi,zi,zi,zi,zi,zi],some (ID),false⟩
def Mu:TI:=⟨.struct [(0,1,false),(1,1,false),(2,1,false),(3,1,false),(4,1,false),(5,1,false),(6,1,false)],7,56,true, [zi,zi,zi,zi,zi,zi,zi],some (ID),true⟩
def KI:TI:=⟨.slice 5,1,24,false, [zs],some (yB),false⟩
abbrev LQ:Ty:=.struct [yI,yI,Af,yI,yB]
def Lx:TI:=⟨.struct [(0,1,false),(1,1,false),(2,5,true),(7,1,false),(8,1,false)],9,88,true, [zi,zi,zi,zi,zi,zi,zi,zi,zs],some (LQ),false⟩
abbrev Lp:Ty:=.struct [yI,yI,Af,yI,yB]
def M_:TI:=⟨.struct [(0,1,false),(1,1,false),(2,5,true),(7,1,false),(8,1,false)],9,88,true, [zi,zi,zi,zi,zi,zi,zi,zi,zs],some (Lp),false⟩
def II:TI:=⟨.struct [(0,1,false),(1,1,false)],2,32,true, [zi,zs],some (.struct [yI,yB]),false⟩
def L5:TI:=II
abbrev JZ:Ty:=.struct [yI,yI,.struct [yI,yB]]
def IG:TI:=⟨.struct [(0,1,false),(1,1,false),(2,2,true)],4,48,true, [zi,zi,zi,zs],some (JZ),false⟩
def Kv:TI:=IG
def Ku:TI:=MF
def MO:TI:=gp
def Mc:TI:=gp
def LM:TI:=gp
def MS:TI:=gp
def MQ:TI:=⟨.slice 3,1,24,false, [zs],some (Kt),false⟩
def K7:TI:=gp
def KY:TI:=⟨.slice 32,1,24,false, [zs],some (.slice JZ),false⟩
abbrev M9:Ty:=.struct [yI,yI,yI,.struct [yI,yI,Af,yI,yB],yI]
def M3:TI:=⟨.struct [(0,1,false),(1,1,false),(2,1,false),(3,9,true),(12,1,false)],13,120,true, [zi,zi,zi,zi,zi,zi,zi,zi,zi,zi,zi,zs,zi],some (M9),false⟩
abbrev Ks:Ty:=.struct [yI,yI,yI,.struct [yI,yI,Af,yI,yB],yI]
def Lu:TI:=⟨.struct [(0,1,false),(1,1,false),(2,1,false),(3,9,true),(12,1,false)],13,120,true, [zi,zi,zi,zi,zi,zi,zi,zi,zi,zi,zi,zs,zi],some (Ks),false⟩
def KU:TI:=gp
def M7:TI:=gp
def K_:TI:=gp
def M6:TI:=gp
def M0:TI:=gp
def KG:TI:=gp
def Ly:TI:=gp
def MN:TI:=gp
def L4:TI:=gp
def Mf:TI:=⟨.slice 30,1,24,false, [zs],some (.slice (.struct [yI,yB])),false⟩
def Ms:TI:=gp
def LD:TI:=gp
def ME:TI:=GL
def Ll:TI:=gp
def Me:TI:=gp
def LO:TI:=gp
def Ml:TI:=gp
def MH:TI:=gp
def KS:TI:=gp
def MV:TI:=gp
def MZ:TI:=gp
def L1:TI:=GL
def Lc:TI:=⟨.int .u32,1,4,false, [.int .u32 true 0],some (.int .u32),true⟩
def Mk:TI:=gp
def Lw:TI:=⟨.slice 4,1,24,false, [zs],some (.slice (.bool)),false⟩
def Lv:TI:=gp
def Lb:TI:=gp
def K3:TI:=gp
def Mj:TI:=gp
def Lj:TI:=⟨.arr 5 3,5,40,true, [zi,zi,zi,zi,zi],some (.arr 5 yI),false⟩
def Kx:TI:=gp
def KD:TI:=⟨.arr 2 3,2,16,true, [zi,zi],some (.arr 2 yI),false⟩
def Lh:TI:=gp
def M1:TI:=gp
def Lm:TI:=gp
def MC:TI:=gp
def KR:TI:=gp
def KJ:TI:=⟨.ptr 89,1,8,false, [.cy],none,false⟩
abbrev MR:Ty:=.struct [.struct [yI,yB],yI]
def JK:TI:=⟨.struct [(0,2,true),(2,1,false)],3,40,true, [zi,zs,zi],some (MR),false⟩
def K5:TI:=JK
def Lg:TI:=gp
def KB:TI:=gp
def K4:TI:=gp
def LN:TI:=gp
def LV:TI:=gp
def Lk:TI:=gp
def LU:TI:=⟨.arr 8 5,8,8,true, [.int .u8 true 0,.int .u8 true 0,.int .u8 true 0,.int .u8 true 0,.int .u8 true 0,.int .u8 true 0,.int .u8 true 0,.int .u8 true 0],some (.arr 8 yU),false⟩
def J6:TI:=gp
def IZ:TI:=gp
def Jk:TI:=gp
def Jo:TI:=gp
def IP:TI:=gp
def Jg:TI:=gp
def It:TI:=gp
def Ik:TI:=⟨.arr 16 69,16,64,true, [.int .u32 true 0,.int .u32 true 0,.int .u32 true 0,.int .u32 true 0,.int .u32 true 0,.int .u32 true 0,.int .u32 true 0,.int .u32 true 0,.int .u32 true 0,.int .u32 true 0,.int .u32 true 0,.int .u32 true 0,.int .u32 true 0,.int .u32 true 0,.int .u32 true 0,.int .u32 true 0],some (.arr 16 (.int .u32)),false⟩
def I5:TI:=gp
def Jr:TI:=gp
def JP:TI:=⟨.ptr 107,1,8,false, [.cy],none,false⟩
def IU:TI:=gp
def Ja:TI:=gp
def Il:TI:=⟨.struct [(0,1,false),(1,1,false),(2,1,false),(3,1,false)],4,40,true, [.cy,.cy,.cy,.str true []],none,false⟩
def IY:TI:=⟨.arr 0 16,0,0,true, [],none,false⟩
def JW:TI:=⟨.struct [(0,0,true)],0,0,true, [],none,false⟩
def Jw:TI:=gp
def JB:TI:=gp
def Ir:TI:=⟨.ptr 5,1,8,false, [.cy],none,false⟩
def IA:TI:=⟨.struct [(0,1,false),(1,1,false),(2,1,false),(3,1,false),(4,1,false),(5,1,false),(6,1,false),(7,1,false),(8,1,false),(9,1,false),(10,1,false)],11,48,true, [.int .u64 true 0,.int .u64 true 0,.int .u32 true 0,.int .u8 true 0,.int .u8 true 0,.int .u8 true 0,.int .u8 true 0,.gZ,.cy,.int .i32 true 0,.int .i32 true 0],none,false⟩
def tA:PT TI:=(zE (zN (zN (zN (zN (zF IG) Mr (zN (zF KD) K_ (zF IU))) OQ (zN (zN (zF Mk) MQ (zF Jo)) Mi (zE (zF KJ) zL))) O1 (zE (zE (zN (zF MZ) MO (zF LU)) (zN (zF M1) Ly (zF IY))) (zN (zN (zF K3) Lu (zF Ik)) Lx (zN (zF Lg) Ll zL)))) gp (zN (zN (zN (zN (zF KS) Ku (zF LV)) LG (zN (zF Lh) M0 (zF Il))) OZ (zN (zN (zF Lv) KY (zF Jg)) Mu (zN (zF K5) LD (zF JB)))) OV (zN (zN (zN (zF Lc) LM (zF IZ)) LJ (zN (zF MC) L4 zL)) Mw (zN (zN (zF Lj) KU (zF Jr)) II (zN zL LO (zF IA)))))) (zN (zN (zE (zN (zN (zF MH) Kv (zF LN)) K0 (zN zL M6 (zF Ja))) (zN (zN (zF Lw) K7 (zF IP)) KQ (zN (zF JK) Ms zL))) OL (zN (zE (zN (zF L1) Mc (zF J6)) (zN (zF Lm) MN (zF JW))) GL (zN (zE (zF Mj) (zF I5)) M_ (zN (zF KB) Me zL)))) MF (zE (zE (zN (zE (zF MV) (zF Lk)) Kz (zF KG)) (zN (zN (zF Lb) M3 (zF It)) KI (zN zL ME (zF Ir)))) (zE (zN (zN zL MS (zF Jk)) KW (zN (zF KR) Mf (zF Jw))) (zN (zN (zF Kx) M7 (zF JP)) L5 (zN (zF K4) Ml zL))))))
theorem aJ:ek Try.prog tA:=G_ (by kernel_rfl)
abbrev Sd(g:FuncId)(s:aH):Prop:=aH.Sound Try.prog g s
theorem iC:Try.prog.follows .mixedOrders=true:=by kernel_rfl
end Go.Ev.M
