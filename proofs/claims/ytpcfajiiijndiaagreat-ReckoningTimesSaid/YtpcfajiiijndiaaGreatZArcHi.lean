/- The walk of package arctrig's circle at all angles, and of the comparison of a point's direction. -/
import Derived.Test.YtpcfajiiijndiaaGreatZArcs
import Derived.Test.YtpcfajiiijndiaaGreatZKp
import Derived.Deep.RegionHeld3
import Derived.Deep.Light
import Derived.Test.YtpcfajiiijndiaaGreatZWides
import Derived.Deep.DeepCutAuto
set_option linter.unusedVariables false
set_option linter.unusedSimpArgs false
namespace Alm
def EW (x y:Int) (k:Nat):Bool:=decide (k=0) || (if k=2700000 then decide (x<=y) else decide (sN k*x.toNat<=cN k*y.toNat))
end Alm
namespace Go.Proofs.YtpcfajiiijndiaaGreat
open Go.RowKit Alm
end Go.Proofs.YtpcfajiiijndiaaGreat
namespace Alm
def Gu (px py qx qy:Int):Bool:=decide (py*qx<=px*qy)
def qX (x y:Int):Int:=if 0<x/\0<=y then x else if 0<y then y else if x<0 then -x else -y
def qY (x y:Int):Int:=if 0<x/\0<=y then y else if 0<y then -x else if x<0 then -y else x
def qT (x y:Int):Int:=if 0<x/\0<=y then 0 else if 0<y then 5400000 else if x<0 then 10800000 else 16200000
def Eg (x y:Int):Nat->Nat->Nat->Nat
 | 0,lo,_=>lo
 | f+1,lo,hi=>if lo+1<hi then (if EW x y ((lo+hi)/2) then Eg x y f ((lo+hi)/2) hi else Eg x y f lo ((lo+hi)/2)) else lo
def Eu (x y:Int):Nat:=Eg (qX x y) (qY x y) 23 0 5400000
def FZ (x y:Int):Int:=qT x y+(Eu x y:Int)
def GK (x y:Int):Bool:=(decide (Eu x y=0)&&decide (qY x y=0)) || (decide (Eu x y=2700000)&&decide (qX x y=qY x y))
end Alm
namespace Go.Proofs.YtpcfajiiijndiaaGreat
open Go.RowKit Alm
end Go.Proofs.YtpcfajiiijndiaaGreat
namespace Alm
def cX (xl xh:Int) (k:Nat):Int:=if k<2 then xl else xh
def cY (yl yh:Int) (k:Nat):Int:=if k%2=0 then yl else yh
def mK (xl xh yl yh:Int):Nat->Int × Int
 | 0=>(xl,yl)
 | k+1=>if Gu (cX xl xh k) (cY yl yh k) (mK xl xh yl yh k).1 (mK xl xh yl yh k).2 then (cX xl xh k,cY yl yh k) else mK xl xh yl yh k
def lX (xl xh yl yh:Int):Nat->Int × Int
 | 0=>(xl,yl)
 | k+1=>if Gu (lX xl xh yl yh k).1 (lX xl xh yl yh k).2 (cX xl xh k) (cY yl yh k) then (cX xl xh k,cY yl yh k) else lX xl xh yl yh k
def DF (yl yh xl xh:Int):Bool:=decide (xl<=0/\0<=xh/\yl<=0/\0<=yh)
def DN (yl yh xl xh:Int):Int:=if DF yl yh xl xh then 0 else FZ (mK xl xh yl yh 4).1 (mK xl xh yl yh 4).2
def upE (lo hi:Int) (e:Bool):Int:=(if hi<lo then hi+21600000 else hi)+if e then 0 else 1
def Gr (yl yh xl xh:Int):Int:=if DF yl yh xl xh then 21600000 else upE (DN yl yh xl xh) (FZ (lX xl xh yl yh 4).1 (lX xl xh yl yh 4).2) (GK (lX xl xh yl yh 4).1 (lX xl xh yl yh 4).2)
end Alm
namespace Go.Proofs.YtpcfajiiijndiaaGreat
open Go.RowKit Alm
