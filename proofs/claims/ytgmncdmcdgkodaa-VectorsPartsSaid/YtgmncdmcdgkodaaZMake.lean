/- The contracts of package fixed's Make and of the reference's, for positive divisors. -/
import Derived.Test.YtgmncdmcdgkodaaZWidesB
import Derived.Test.YtgmncdmcdgkodaaZVecs
import Derived.Deep.Light
import Derived.Test.YtgmncdmcdgkodaaZSides
set_option linter.unusedVariables false
set_option linter.unusedSimpArgs false
namespace Alm
end Alm
namespace Go.Proofs.Ytgmncdmcdgkodaa
open Go.RowKit Alm
end Go.Proofs.Ytgmncdmcdgkodaa
namespace Go.Proofs.Ytgmncdmcdgkodaa
open Go.RowKit Alm Sx
