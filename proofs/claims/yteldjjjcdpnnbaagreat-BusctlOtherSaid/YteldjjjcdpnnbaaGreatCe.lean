/-
  PROVED: what Own, End and Tick of busctl and of metronomeref18 compute. Conditions: none.
-/
import Derived.Test.YteldjjjcdpnnbaaGreatCc
namespace Go.Ev.M
open Go.Proofs
set_option maxRecDepth 100000
set_option linter.unusedVariables false
set_option linter.unusedSimpArgs false
open Go.Ev.Pl
def N7:kU:=(0,0,(0,0,0,0,0),0,([]:List Int))
open Go.Ev.Pl
open Go.Ev.Pl
def Xq(m:au)(k n:Int):Int:=aj.n yI (aj.n bg m.2.2.2.2.2.2.2 k:Mode).1 n
theorem KM{m:au}{n:Int}(hm:dY m=true)(h1:0≤n∧n≤m.1-1)(x:Mode)(hx:gD m x=true):0≤x.1.getD n.toNat 0∧x.1.getD n.toNat 0≤8:=by
 have hl:=kK hx
 have hc:=(gZ hm).2.2.1
 simp only[gD,Bool.and_eq_true] at hx
 have ha:=hx.2
 have l1:m.2.2.2.2.2.2.1.length=x.1.length:=by omega
 have l2:x.2.1.length=x.1.length:=by omega
 rw[oF l1 l2,Bool.and_eq_true] at ha
 have hi:n.toNat<x.1.length:=by omega
 rw[List.getD_eq_getElem?_getD,List.getElem?_eq_getElem hi]
 have:=List.all_eq_true.1 ha.1 _ (List.getElem_mem hi)
 simpa using this
theorem Nx{m:au}{k n:Int}(hm:dY m=true)(h1:0≤n∧n≤m.1-1)(h2:0≤k∧k<ek m):0≤Xq m k n∧Xq m k n≤8:=KM hm h1 _ (pH hm h2.1 h2.2)
open Go.Ev.Pl
open Go.Ev.Pl
theorem Hd{x:List UInt8}:aj.z .eql x x=true:=by show(x==x)=true;simp
theorem qJ{x:Int}:aj.c .eql x x=true:=by rw[aZ];simp
end Go.Ev.M
