/- The walk of the direction of a box. -/
import Derived.Test.YtknhbpnclokciaaZArcHi
import Derived.Test.YtknhbpnclokciaaZWides
import Derived.Deep.DeepCutAuto
set_option linter.unusedVariables false
set_option linter.unusedSimpArgs false
namespace Alm
def cX (xl xh:Int) (k:Nat):Int:=if k<2 then xl else xh
def cY (yl yh:Int) (k:Nat):Int:=if k%2=0 then yl else yh
def aL (xl xh yl yh:Int):Nat->Int × Int
 | 0=>(xl,yl)
 | k+1=>if oO (cX xl xh k) (cY yl yh k) (aL xl xh yl yh k).1 (aL xl xh yl yh k).2 then (cX xl xh k,cY yl yh k) else aL xl xh yl yh k
def aY (xl xh yl yh:Int):Nat->Int × Int
 | 0=>(xl,yl)
 | k+1=>if oO (aY xl xh yl yh k).1 (aY xl xh yl yh k).2 (cX xl xh k) (cY yl yh k) then (cX xl xh k,cY yl yh k) else aY xl xh yl yh k
def jf (yl yh xl xh:Int):Bool:=decide (xl<=0/\0<=xh/\yl<=0/\0<=yh)
def fB (yl yh xl xh:Int):Int:=if jf yl yh xl xh then 0 else fU (aL xl xh yl yh 4).1 (aL xl xh yl yh 4).2
def upE (lo hi:Int) (e:Bool):Int:=(if hi<lo then hi+21600000 else hi)+if e then 0 else 1
def gG (yl yh xl xh:Int):Int:=if jf yl yh xl xh then 21600000 else upE (fB yl yh xl xh) (fU (aY xl xh yl yh 4).1 (aY xl xh yl yh 4).2) (iw (aY xl xh yl yh 4).1 (aY xl xh yl yh 4).2)
end Alm
namespace Go.Proofs.Ytknhbpnclokciaa
open Go.RowKit Alm
