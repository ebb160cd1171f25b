/- Plain integers: greater sines have greater arcsines. -/
import Derived.Test.YtgmncdmcdgkodaaZIso
import Derived.Test.YtgmncdmcdgkodaaZSides
set_option linter.unusedVariables false
set_option linter.unusedSimpArgs false
namespace Go.Proofs.Ytgmncdmcdgkodaa
open Go.RowKit Alm Sx
