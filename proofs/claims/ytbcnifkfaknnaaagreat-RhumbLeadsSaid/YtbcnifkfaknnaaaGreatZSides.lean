/- The reference's quick look at the side of a point. -/
import Derived.Test.YtbcnifkfaknnaaaGreatZKp
import Derived.Test.YtbcnifkfaknnaaaGreatZDirs
import Derived.Test.YtbcnifkfaknnaaaGreatZRefA
import Derived.Test.YtbcnifkfaknnaaaGreatZSp
import Derived.Deep.QuietTactic
import Derived.BigQuiet
import Derived.Deep.DeepCutAuto
import Derived.Deep.RegionHeld3
import Derived.Deep.Light
import Derived.Test.YtbcnifkfaknnaaaGreatZTrigs
import Derived.Test.YtbcnifkfaknnaaaGreatZVecs
import Derived.Test.YtbcnifkfaknnaaaGreatZSxL
import Derived.IntWalk
set_option linter.unusedVariables false
set_option linter.unusedSimpArgs false
namespace Alm
def tS (k:Nat):Rat:=if k<=2700000 then zs k else zc (5400000-k)
def tC (k:Nat):Rat:=if k<=2700000 then zc k else zs (5400000-k)
end Alm
namespace Go.Proofs.YtbcnifkfaknnaaaGreat
open Go.RowKit Alm Sx
end Go.Proofs.YtbcnifkfaknnaaaGreat
namespace Go.Proofs.YtbcnifkfaknnaaaGreat
open Go.RowKit Alm
def du (k:Nat):Rat:=1/((BB^k:Nat):Rat)
end Go.Proofs.YtbcnifkfaknnaaaGreat
namespace Go.Proofs.YtbcnifkfaknnaaaGreat
open Go.RowKit Alm
end Go.Proofs.YtbcnifkfaknnaaaGreat
namespace Go.Proofs.YtbcnifkfaknnaaaGreat
open Go.RowKit Alm
end Go.Proofs.YtbcnifkfaknnaaaGreat
namespace Alm
end Alm
namespace Go.Proofs.YtbcnifkfaknnaaaGreat
open Go.RowKit Alm
end Go.Proofs.YtbcnifkfaknnaaaGreat
namespace Alm
end Alm
namespace Go.Proofs.YtbcnifkfaknnaaaGreat
open Go.RowKit Alm
end Go.Proofs.YtbcnifkfaknnaaaGreat
namespace Go.Proofs.YtbcnifkfaknnaaaGreat
open Go.RowKit Alm
def NZ (v:Int):Nat->Int->Int->Int
 | 0,lo,_=>lo
 | f+1,lo,hi=>if 1<hi-lo then (if Sb ((lo+hi)/2) v<=0 then NZ v f ((lo+hi)/2) hi else NZ v f lo ((lo+hi)/2)) else lo
def Rz (v:Int):Int:=NZ v 24 (-5400000) 5400001
end Go.Proofs.YtbcnifkfaknnaaaGreat
namespace Go.Proofs.YtbcnifkfaknnaaaGreat
open Go.RowKit Alm
end Go.Proofs.YtbcnifkfaknnaaaGreat
namespace Alm
end Alm
namespace Go.Proofs.YtbcnifkfaknnaaaGreat
open Go.RowKit Alm
end Go.Proofs.YtbcnifkfaknnaaaGreat
namespace Go.Proofs.YtbcnifkfaknnaaaGreat
open Go.RowKit Alm Sx
end Go.Proofs.YtbcnifkfaknnaaaGreat
namespace Go.Proofs.YtbcnifkfaknnaaaGreat
open Go.RowKit Alm Sx
end Go.Proofs.YtbcnifkfaknnaaaGreat
namespace Go.Proofs.YtbcnifkfaknnaaaGreat
open Go.RowKit Alm Sx
def ZN (a:Int):Int:=Rz (max a (-1073741824))
def Z5 (b:Int):Int:=-Rz (-(min b 1073741824))
def UM (a b:Int):Int:=if a<=1073741824/\-1073741824<=b then 0 else 2
