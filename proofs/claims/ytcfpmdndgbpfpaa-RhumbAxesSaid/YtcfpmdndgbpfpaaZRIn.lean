/- The walks of the reference's rough sine, and of the searches that only guess. -/
import Derived.Test.YtcfpmdndgbpfpaaZKp
import Derived.Deep.Light
import Derived.BigQuiet
import Derived.Deep.QuietTactic
import Derived.Test.YtcfpmdndgbpfpaaZSides
import Derived.Test.YtcfpmdndgbpfpaaZTrigs
import Derived.Test.YtcfpmdndgbpfpaaZDirs
import Derived.Test.YtcfpmdndgbpfpaaZRefA
import Derived.Test.YtcfpmdndgbpfpaaZVecs
import Derived.Test.YtcfpmdndgbpfpaaZSp
import Derived.Test.YtcfpmdndgbpfpaaZSxL
import Derived.IntWalk
set_option linter.unusedVariables false
set_option linter.unusedSimpArgs false
namespace Alm
end Alm
namespace Go.Proofs.Ytcfpmdndgbpfpaa
open Go.RowKit Alm
end Go.Proofs.Ytcfpmdndgbpfpaa
namespace Alm
end Alm
namespace Go.Proofs.Ytcfpmdndgbpfpaa
open Go.RowKit Alm
end Go.Proofs.Ytcfpmdndgbpfpaa
namespace Go.Proofs.Ytcfpmdndgbpfpaa
open Go.RowKit Alm
def F5 (v:Int):Nat->Int->Int->Int
 | 0,lo,_=>lo
 | f+1,lo,hi=>if 1<hi-lo then (if NN ((lo+hi)/2) v<=0 then F5 v f ((lo+hi)/2) hi else F5 v f lo ((lo+hi)/2)) else lo
def Mo (v:Int):Int:=F5 v 24 (-5400000) 5400001
end Go.Proofs.Ytcfpmdndgbpfpaa
namespace Go.Proofs.Ytcfpmdndgbpfpaa
open Go.RowKit Alm
end Go.Proofs.Ytcfpmdndgbpfpaa
namespace Alm
end Alm
namespace Go.Proofs.Ytcfpmdndgbpfpaa
open Go.RowKit Alm
end Go.Proofs.Ytcfpmdndgbpfpaa
namespace Go.Proofs.Ytcfpmdndgbpfpaa
open Go.RowKit Alm Sx
end Go.Proofs.Ytcfpmdndgbpfpaa
namespace Go.Proofs.Ytcfpmdndgbpfpaa
open Go.RowKit Alm Sx
end Go.Proofs.Ytcfpmdndgbpfpaa
namespace Go.Proofs.Ytcfpmdndgbpfpaa
open Go.RowKit Alm Sx
def TJ (a:Int):Int:=Mo (max a (-1073741824))
def Ua (b:Int):Int:=-Mo (-(min b 1073741824))
def Oz (a b:Int):Int:=if a<=1073741824/\-1073741824<=b then 0 else 2
