/- The contracts of the reference's functions on integers and intervals. -/
import Derived.Test.YtgmncdmcdgkodaaZVecs
import Derived.Test.YtgmncdmcdgkodaaZFixed2
import Derived.Test.YtgmncdmcdgkodaaZKp
set_option linter.unusedVariables false
set_option linter.unusedSimpArgs false
namespace Go.Proofs.Ytgmncdmcdgkodaa
open Go.RowKit Alm
end Go.Proofs.Ytgmncdmcdgkodaa
namespace Go.Proofs.Ytgmncdmcdgkodaa
open Go.RowKit Alm
