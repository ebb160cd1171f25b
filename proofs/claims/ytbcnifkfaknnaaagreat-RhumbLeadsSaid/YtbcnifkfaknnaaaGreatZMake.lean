/- The contracts of package fixed's Make and of the reference's, for positive divisors. -/
import Derived.Test.YtbcnifkfaknnaaaGreatZFixed2
import Derived.Test.YtbcnifkfaknnaaaGreatZVecs
import Derived.Deep.Light
import Derived.Test.YtbcnifkfaknnaaaGreatZSides
set_option linter.unusedVariables false
set_option linter.unusedSimpArgs false
namespace Alm
def MkP (x d:Int):Prop:=(0<d/\d<=1099511627776)/\(-1099511627776<=x/\x<=1099511627776)/\((-4294967296<=x/\x<=4294967296)∨(-d<=x/\x<=d))
end Alm
namespace Go.Proofs.YtbcnifkfaknnaaaGreat
open Go.RowKit Alm
end Go.Proofs.YtbcnifkfaknnaaaGreat
namespace Go.Proofs.YtbcnifkfaknnaaaGreat
open Go.RowKit Alm Sx
