/- The contract of arctrig.Acos for an interval that has cosines. -/
import Derived.Test.YtoniodlcogpdbaaGreatZSpC
import Derived.Test.YtoniodlcogpdbaaGreatZSxL
import Derived.IntWalk
set_option linter.unusedVariables false
set_option linter.unusedSimpArgs false
namespace Go.Proofs.YtoniodlcogpdbaaGreat
open Go.RowKit Alm Sx
def adD (a2:Int):Int:=5400000+bU (-(adm a2 1073741824))
def adn (a1:Int):Int:=5400000-bU (adz a1 (-1073741824))
