/- The reference's quick look at the side of a point. -/
import Derived.Test.YtgmncdmcdgkodaaGreatZBigs
import Derived.Test.YtgmncdmcdgkodaaGreatZDirs
import Derived.Test.YtgmncdmcdgkodaaGreatZRefA
import Derived.Test.YtgmncdmcdgkodaaGreatZSp
import Derived.Deep.QuietTactic
import Derived.BigQuiet
import Derived.Deep.DeepCutAuto
import Derived.Deep.RegionHeld3
import Derived.Test.YtgmncdmcdgkodaaGreatZKp
import Derived.Deep.Light
import Derived.Test.YtgmncdmcdgkodaaGreatZTrigs
import Derived.Test.YtgmncdmcdgkodaaGreatZVecs
import Derived.Test.YtgmncdmcdgkodaaGreatZSxL
import Derived.IntWalk
set_option linter.unusedVariables false
set_option linter.unusedSimpArgs false
namespace Alm
end Alm
namespace Go.Proofs.YtgmncdmcdgkodaaGreat
open Go.RowKit Alm Sx
end Go.Proofs.YtgmncdmcdgkodaaGreat
namespace Go.Proofs.YtgmncdmcdgkodaaGreat
open Go.RowKit Alm
end Go.Proofs.YtgmncdmcdgkodaaGreat
namespace Go.Proofs.YtgmncdmcdgkodaaGreat
open Go.RowKit Alm
end Go.Proofs.YtgmncdmcdgkodaaGreat
namespace Go.Proofs.YtgmncdmcdgkodaaGreat
open Go.RowKit Alm
end Go.Proofs.YtgmncdmcdgkodaaGreat
namespace Alm
end Alm
namespace Go.Proofs.YtgmncdmcdgkodaaGreat
open Go.RowKit Alm
end Go.Proofs.YtgmncdmcdgkodaaGreat
namespace Alm
end Alm
namespace Go.Proofs.YtgmncdmcdgkodaaGreat
open Go.RowKit Alm
end Go.Proofs.YtgmncdmcdgkodaaGreat
namespace Go.Proofs.YtgmncdmcdgkodaaGreat
open Go.RowKit Alm
def Co (v:Int):Nat->Int->Int->Int
 | 0,lo,_=>lo
 | f+1,lo,hi=>if 1<hi-lo then (if F8 ((lo+hi)/2) v<=0 then Co v f ((lo+hi)/2) hi else Co v f lo ((lo+hi)/2)) else lo
def Fs (v:Int):Int:=Co v 24 (-5400000) 5400001
end Go.Proofs.YtgmncdmcdgkodaaGreat
namespace Go.Proofs.YtgmncdmcdgkodaaGreat
open Go.RowKit Alm
end Go.Proofs.YtgmncdmcdgkodaaGreat
namespace Alm
end Alm
namespace Go.Proofs.YtgmncdmcdgkodaaGreat
open Go.RowKit Alm
end Go.Proofs.YtgmncdmcdgkodaaGreat
namespace Go.Proofs.YtgmncdmcdgkodaaGreat
open Go.RowKit Alm Sx
end Go.Proofs.YtgmncdmcdgkodaaGreat
namespace Go.Proofs.YtgmncdmcdgkodaaGreat
open Go.RowKit Alm Sx
end Go.Proofs.YtgmncdmcdgkodaaGreat
namespace Go.Proofs.YtgmncdmcdgkodaaGreat
open Go.RowKit Alm Sx
def I1 (a:Int):Int:=Fs (max a (-1073741824))
def IY (b:Int):Int:=-Fs (-(min b 1073741824))
def Gb (a b:Int):Int:=if a<=1073741824/\-1073741824<=b then 0 else 2
