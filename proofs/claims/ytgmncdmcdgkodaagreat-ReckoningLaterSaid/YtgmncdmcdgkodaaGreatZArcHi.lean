/- The walk of package arctrig's circle at all angles, and of the comparison of a point's direction. -/
import Derived.Test.YtgmncdmcdgkodaaGreatZArcs
import Derived.Test.YtgmncdmcdgkodaaGreatZKp
import Derived.Deep.RegionHeld3
import Derived.Deep.Light
import Derived.Test.YtgmncdmcdgkodaaGreatZWides
import Derived.Deep.DeepCutAuto
set_option linter.unusedVariables false
set_option linter.unusedSimpArgs false
namespace Alm
def FQ (x y:Int) (k:Nat):Bool:=decide (k=0) || (if k=2700000 then decide (x<=y) else decide (sN k*x.toNat<=cN k*y.toNat))
end Alm
namespace Go.Proofs.YtgmncdmcdgkodaaGreat
open Go.RowKit Alm
end Go.Proofs.YtgmncdmcdgkodaaGreat
namespace Alm
def H7 (px py qx qy:Int):Bool:=decide (py*qx<=px*qy)
def qX (x y:Int):Int:=if 0<x/\0<=y then x else if 0<y then y else if x<0 then -x else -y
def qY (x y:Int):Int:=if 0<x/\0<=y then y else if 0<y then -x else if x<0 then -y else x
def qT (x y:Int):Int:=if 0<x/\0<=y then 0 else if 0<y then 5400000 else if x<0 then 10800000 else 16200000
def FK (x y:Int):Nat->Nat->Nat->Nat
 | 0,lo,_=>lo
 | f+1,lo,hi=>if lo+1<hi then (if FQ x y ((lo+hi)/2) then FK x y f ((lo+hi)/2) hi else FK x y f lo ((lo+hi)/2)) else lo
def FJ (x y:Int):Nat:=FK (qX x y) (qY x y) 23 0 5400000
def Hr (x y:Int):Int:=qT x y+(FJ x y:Int)
def IM (x y:Int):Bool:=(decide (FJ x y=0)&&decide (qY x y=0)) || (decide (FJ x y=2700000)&&decide (qX x y=qY x y))
end Alm
namespace Go.Proofs.YtgmncdmcdgkodaaGreat
open Go.RowKit Alm
end Go.Proofs.YtgmncdmcdgkodaaGreat
namespace Alm
def cX (xl xh:Int) (k:Nat):Int:=if k<2 then xl else xh
def cY (yl yh:Int) (k:Nat):Int:=if k%2=0 then yl else yh
def nH (xl xh yl yh:Int):Nat->Int × Int
 | 0=>(xl,yl)
 | k+1=>if H7 (cX xl xh k) (cY yl yh k) (nH xl xh yl yh k).1 (nH xl xh yl yh k).2 then (cX xl xh k,cY yl yh k) else nH xl xh yl yh k
def ow (xl xh yl yh:Int):Nat->Int × Int
 | 0=>(xl,yl)
 | k+1=>if H7 (ow xl xh yl yh k).1 (ow xl xh yl yh k).2 (cX xl xh k) (cY yl yh k) then (cX xl xh k,cY yl yh k) else ow xl xh yl yh k
def E5 (yl yh xl xh:Int):Bool:=decide (xl<=0/\0<=xh/\yl<=0/\0<=yh)
def ET (yl yh xl xh:Int):Int:=if E5 yl yh xl xh then 0 else Hr (nH xl xh yl yh 4).1 (nH xl xh yl yh 4).2
def upE (lo hi:Int) (e:Bool):Int:=(if hi<lo then hi+21600000 else hi)+if e then 0 else 1
def Hm (yl yh xl xh:Int):Int:=if E5 yl yh xl xh then 21600000 else upE (ET yl yh xl xh) (Hr (ow xl xh yl yh 4).1 (ow xl xh yl yh 4).2) (IM (ow xl xh yl yh 4).1 (ow xl xh yl yh 4).2)
end Alm
namespace Go.Proofs.YtgmncdmcdgkodaaGreat
open Go.RowKit Alm
