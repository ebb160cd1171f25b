/- The walks of the reference's rough sine, and of the searches that only guess. -/
import Derived.Test.YtpcfajiiijndiaaGreatZKp
import Derived.Deep.Light
import Derived.BigQuiet
import Derived.Deep.QuietTactic
import Derived.Test.YtpcfajiiijndiaaGreatZSides
import Derived.Test.YtpcfajiiijndiaaGreatZTrigs
import Derived.Test.YtpcfajiiijndiaaGreatZDirs
import Derived.Test.YtpcfajiiijndiaaGreatZRefA
import Derived.Test.YtpcfajiiijndiaaGreatZVecs
import Derived.Test.YtpcfajiiijndiaaGreatZSp
import Derived.Test.YtpcfajiiijndiaaGreatZSxL
import Derived.IntWalk
set_option linter.unusedVariables false
set_option linter.unusedSimpArgs false
namespace Alm
end Alm
namespace Go.Proofs.YtpcfajiiijndiaaGreat
open Go.RowKit Alm
end Go.Proofs.YtpcfajiiijndiaaGreat
namespace Alm
end Alm
namespace Go.Proofs.YtpcfajiiijndiaaGreat
open Go.RowKit Alm
end Go.Proofs.YtpcfajiiijndiaaGreat
namespace Go.Proofs.YtpcfajiiijndiaaGreat
open Go.RowKit Alm
def zU (v:Int):Nat->Int->Int->Int
 | 0,lo,_=>lo
 | f+1,lo,hi=>if 1<hi-lo then (if Ez ((lo+hi)/2) v<=0 then zU v f ((lo+hi)/2) hi else zU v f lo ((lo+hi)/2)) else lo
def Ed (v:Int):Int:=zU v 24 (-5400000) 5400001
end Go.Proofs.YtpcfajiiijndiaaGreat
namespace Go.Proofs.YtpcfajiiijndiaaGreat
open Go.RowKit Alm
end Go.Proofs.YtpcfajiiijndiaaGreat
namespace Alm
end Alm
namespace Go.Proofs.YtpcfajiiijndiaaGreat
open Go.RowKit Alm
end Go.Proofs.YtpcfajiiijndiaaGreat
namespace Go.Proofs.YtpcfajiiijndiaaGreat
open Go.RowKit Alm Sx
end Go.Proofs.YtpcfajiiijndiaaGreat
namespace Go.Proofs.YtpcfajiiijndiaaGreat
open Go.RowKit Alm Sx
end Go.Proofs.YtpcfajiiijndiaaGreat
namespace Go.Proofs.YtpcfajiiijndiaaGreat
open Go.RowKit Alm Sx
def GN (a:Int):Int:=Ed (max a (-1073741824))
def He (b:Int):Int:=-Ed (-(min b 1073741824))
def FC (a b:Int):Int:=if a<=1073741824/\-1073741824<=b then 0 else 2
