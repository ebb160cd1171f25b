/- The contracts of the reference of package fixed: least, most, floor. -/
import Derived.Test.YtbcnifkfaknnaaaGreatZWides
import Derived.Test.YtbcnifkfaknnaaaGreatZKp
import Derived.Deep.Light
import Derived.BigRegion
set_option linter.unusedVariables false
set_option linter.unusedSimpArgs false
namespace Go.Proofs.YtbcnifkfaknnaaaGreat
open Go.RowKit Alm
end Go.Proofs.YtbcnifkfaknnaaaGreat
namespace Alm
def Zk (lo hi:Int):Int:=if -2147483648<=lo/\lo<=hi/\hi<=2147483648 then lo else 0
def Zx (lo hi:Int):Int:=if -2147483648<=lo/\lo<=hi/\hi<=2147483648 then hi else 0
def ZZ (lo hi:Int):Int:=if -2147483648<=lo/\lo<=hi/\hi<=2147483648 then 0 else 5
def mn4 (a b c d:Int):Int:=min (min (min (a*c) (a*d)) (b*c)) (b*d)
def mx4 (a b c d:Int):Int:=max (max (max (a*c) (a*d)) (b*c)) (b*d)
def Zp (a b c d:Int):Int:=mn4 a b c d/1073741824
def ZI (a b c d:Int):Int:=-((-(mx4 a b c d))/1073741824)
end Alm
namespace Go.Proofs.YtbcnifkfaknnaaaGreat
open Go.RowKit Alm
end Go.Proofs.YtbcnifkfaknnaaaGreat
namespace Go.Proofs.YtbcnifkfaknnaaaGreat
open Go.RowKit Alm
end Go.Proofs.YtbcnifkfaknnaaaGreat
namespace Go.Proofs.YtbcnifkfaknnaaaGreat
open Go.RowKit Alm
end Go.Proofs.YtbcnifkfaknnaaaGreat
namespace Alm
def rtF:Nat->Int->Int->Int
 | 0,k,_=>k
 | j+1,k,n=>if (k+2^j)*(k+2^j)<=n then rtF j (k+2^j) n else rtF j k n
def rtV (n:Int):Int:=rtF 32 0 n
end Alm
namespace Go.Proofs.YtbcnifkfaknnaaaGreat
open Go.RowKit Alm
end Go.Proofs.YtbcnifkfaknnaaaGreat
namespace Alm
def sqL (a b:Int):Int:=(if a<=0/\0<=b then 0 else min (a*a) (b*b))/1073741824
def sqH (a b:Int):Int:=-((-(max (a*a) (b*b)))/1073741824)
def rtL (a b:Int):Int:=rtV (max 0 a*1073741824)
def rtH (a b:Int):Int:=if rtV (b*1073741824)*rtV (b*1073741824)<b*1073741824 then rtV (b*1073741824)+1 else rtV (b*1073741824)
end Alm
namespace Go.Proofs.YtbcnifkfaknnaaaGreat
open Go.RowKit Alm
end Go.Proofs.YtbcnifkfaknnaaaGreat
namespace Go.Proofs.YtbcnifkfaknnaaaGreat
open Go.RowKit Alm
