/- The contracts of the reference's functions on integers and intervals. -/
import Derived.Test.YtbcnifkfaknnaaaGreatZVecs
import Derived.Test.YtbcnifkfaknnaaaGreatZFixed2
import Derived.Test.YtbcnifkfaknnaaaGreatZKp
set_option linter.unusedVariables false
set_option linter.unusedSimpArgs false
namespace Go.Proofs.YtbcnifkfaknnaaaGreat
open Go.RowKit Alm
end Go.Proofs.YtbcnifkfaknnaaaGreat
namespace Go.Proofs.YtbcnifkfaknnaaaGreat
open Go.RowKit Alm
