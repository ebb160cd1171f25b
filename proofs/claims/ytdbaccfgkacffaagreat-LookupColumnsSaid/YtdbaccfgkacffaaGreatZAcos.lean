/- The contract of arctrig.Acos for an interval that has cosines. -/
import Derived.Test.YtdbaccfgkacffaaGreatZSpC
import Derived.Test.YtdbaccfgkacffaaGreatZSxL
import Derived.IntWalk
set_option linter.unusedVariables false
set_option linter.unusedSimpArgs false
namespace Go.Proofs.YtdbaccfgkacffaaGreat
open Go.RowKit Alm Sx
def adn (a2:Int):Int:=5400000+bU (-(adx a2 1073741824))
def ac6 (a1:Int):Int:=5400000-bU (adm a1 (-1073741824))
