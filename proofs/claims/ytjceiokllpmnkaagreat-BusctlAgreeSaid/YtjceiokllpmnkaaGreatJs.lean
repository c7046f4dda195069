/-
  PROVED: what metronomeref17 computes, and the statement JudgeSlots of its function. Conditions: none.
-/
import Derived.Test.YtjceiokllpmnkaaGreatJa
import Derived.Test.YtjceiokllpmnkaaGreatDb
namespace Go.Ev.M
open Go.Proofs
set_option maxRecDepth 100000
set_option linter.unusedVariables false
set_option linter.unusedSimpArgs false
open Go.Ev.Pl
def t64(A:bu)(aKind:Int)(aWhich:Int)(aChan:Int)(aFKind:Int)(aFReq:Int)(aFCTime:Int)(aFCPos:Int)(aFCMode:Int)(aFCNext:Int)(aFCMember:Int)(aFFrom:Int)(aFData:List Int)(aAt:Int)(bKind:Int)(bWhich:Int)(bChan:Int)(bFKind:Int)(bFReq:Int)(bFCTime:Int)(bFCPos:Int)(bFCMode:Int)(bFCNext:Int)(bFCMember:Int)(bFFrom:Int)(bFData:List Int)(bAt:Int):LT Bool Empty:=.br (A.c .eql aKind bKind) (.br (A.c .eql aWhich bWhich) (.br (A.c .eql aChan bChan) (.need (A.k (@tt ((Int×Int×(Int×Int×Int×Int×Int)×Int×List Int)×(Int×Int×(Int×Int×Int×Int×Int)×Int×List Int))) ((aFKind,aFReq,(aFCTime,aFCPos,aFCMode,aFCNext,aFCMember),aFFrom,aFData),bFKind,bFReq,(bFCTime,bFCPos,bFCMode,bFCNext,bFCMember),bFFrom,bFData)) (.br (A.k M0 ((aFKind,aFReq,(aFCTime,aFCPos,aFCMode,aFCNext,aFCMember),aFFrom,aFData),bFKind,bFReq,(bFCTime,bFCPos,bFCMode,bFCNext,bFCMember),bFFrom,bFData)) (.ret (A.c .eql aAt bAt)) (.ret false))) (.ret false)) (.ret false)) (.ret false)
def G0:((Int×Int×Int×(Int×Int×(Int×Int×Int×Int×Int)×Int×List Int)×Int)×(Int×Int×Int×(Int×Int×(Int×Int×Int×Int×Int)×Int×List Int)×Int))→Bool:=fun((aKind,aWhich,aChan,(aFKind,aFReq,(aFCTime,aFCPos,aFCMode,aFCNext,aFCMember),aFFrom,aFData),aAt),bKind,bWhich,bChan,(bFKind,bFReq,(bFCTime,bFCPos,bFCMode,bFCNext,bFCMember),bFFrom,bFData),bAt)=>(t64 ah aKind aWhich aChan aFKind aFReq aFCTime aFCPos aFCMode aFCNext aFCMember aFFrom aFData aAt bKind bWhich bChan bFKind bFReq bFCTime bFCPos bFCMode bFCNext bFCMember bFFrom bFData bAt).val (Ty.bV [.bool])
def WG:aC:=⟨[(.struct [yI,yI,yI,(.struct [yI,yI,(.struct [yI,yI,yI,yI,yI]),yI,yB]),yI]),(.struct [yI,yI,yI,(.struct [yI,yI,(.struct [yI,yI,yI,yI,yI]),yI,yB]),yI])], [.bool],(@tt ((Int×Int×Int×(Int×Int×(Int×Int×Int×Int×Int)×Int×List Int)×Int)×(Int×Int×Int×(Int×Int×(Int×Int×Int×Int×Int)×Int×List Int)×Int))),G0⟩
theorem XN:Sd 16 WG:=aK au dC true 49 [] (fun A ((aKind,aWhich,aChan,(aFKind,aFReq,(aFCTime,aFCPos,aFCMode,aFCNext,aFCMember),aFFrom,aFData),aAt),bKind,bWhich,bChan,(bFKind,bFReq,(bFCTime,bFCPos,bFCMode,bFCNext,bFCMember),bFFrom,bFData),bAt)=>t64 A aKind aWhich aChan aFKind aFReq aFCTime aFCPos aFCMode aFCNext aFCMember aFFrom aFData aAt bKind bWhich bChan bFKind bFReq bFCTime bFCPos bFCMode bFCNext bFCMember bFFrom bFData bAt) (fc Tryz.func16 fz) (sc X_ sz) (fun(((aKind,aWhich,aChan,(aFKind,aFReq,(aFCTime,aFCPos,aFCMode,aFCNext,aFCMember),aFFrom,aFData),aAt),bKind,bWhich,bChan,(bFKind,bFReq,(bFCTime,bFCPos,bFCMode,bFCNext,bFCMember),bFFrom,bFData),bAt):(Int×Int×Int×(Int×Int×(Int×Int×Int×Int×Int)×Int×List Int)×Int)×(Int×Int×Int×(Int×Int×(Int×Int×Int×Int×Int)×Int×List Int)×Int)) hp h=>by
 show(t64 ah aKind aWhich aChan aFKind aFReq aFCTime aFCPos aFCMode aFCNext aFCMember aFFrom aFData aAt bKind bWhich bChan bFKind bFReq bFCTime bFCPos bFCMode bFCNext bFCMember bFFrom bFData bAt).pre=true
 simp[t64,LT.pre,al,cB])
end Go.Ev.M
