/- Plain numbers: the triangle, mirrored. -/
import Derived.Test.YtgmncdmcdgkodaaZCosP
import Derived.Test.YtgmncdmcdgkodaaZMir
import Derived.Test.YtgmncdmcdgkodaaZSgn
set_option linter.unusedVariables false
set_option linter.unusedSimpArgs false
namespace Go.Proofs.Ytgmncdmcdgkodaa
open Go.RowKit Alm Sx
