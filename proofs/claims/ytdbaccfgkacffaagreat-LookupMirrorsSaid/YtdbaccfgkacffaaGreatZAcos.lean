/- The contract of arctrig.Acos for an interval that has cosines. -/
import Derived.Test.YtdbaccfgkacffaaGreatZSpC
import Derived.Test.YtdbaccfgkacffaaGreatZSxL
import Derived.IntWalk
set_option linter.unusedVariables false
set_option linter.unusedSimpArgs false
namespace Go.Proofs.YtdbaccfgkacffaaGreat
open Go.RowKit Alm Sx
def ad8 (a2:Int):Int:=5400000+bW (-(adt a2 1073741824))
def adG (a1:Int):Int:=5400000-bW (adv a1 (-1073741824))
