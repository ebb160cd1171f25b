/- The walk of package arctrig's circle at all angles, and of the comparison of a point's direction. -/
import Derived.Test.YtknhbpnclokciaaZArcs
import Derived.Test.YtknhbpnclokciaaZKp
import Derived.Deep.RegionHeld3
import Derived.Deep.Light
set_option linter.unusedVariables false
set_option linter.unusedSimpArgs false
namespace Alm
def jT (x y:Int) (k:Nat):Bool:=decide (k=0) || (if k=2700000 then decide (x<=y) else decide (sN k*x.toNat<=cN k*y.toNat))
end Alm
namespace Go.Proofs.Ytknhbpnclokciaa
open Go.RowKit Alm
end Go.Proofs.Ytknhbpnclokciaa
namespace Alm
def oO (px py qx qy:Int):Bool:=decide (py*qx<=px*qy)
def qX (x y:Int):Int:=if 0<x/\0<=y then x else if 0<y then y else if x<0 then -x else -y
def qY (x y:Int):Int:=if 0<x/\0<=y then y else if 0<y then -x else if x<0 then -y else x
def qT (x y:Int):Int:=if 0<x/\0<=y then 0 else if 0<y then 5400000 else if x<0 then 10800000 else 16200000
def nT (x y:Int):Nat->Nat->Nat->Nat
 | 0,lo,_=>lo
 | f+1,lo,hi=>if lo+1<hi then (if jT x y ((lo+hi)/2) then nT x y f ((lo+hi)/2) hi else nT x y f lo ((lo+hi)/2)) else lo
def iW (x y:Int):Nat:=nT (qX x y) (qY x y) 23 0 5400000
def fU (x y:Int):Int:=qT x y+(iW x y:Int)
def iw (x y:Int):Bool:=(decide (iW x y=0)&&decide (qY x y=0)) || (decide (iW x y=2700000)&&decide (qX x y=qY x y))
end Alm
namespace Go.Proofs.Ytknhbpnclokciaa
open Go.RowKit Alm
