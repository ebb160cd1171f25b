/- Plain: angles between unit vectors. -/
import Derived.Test.YtgmncdmcdgkodaaZVrP
set_option linter.unusedVariables false
set_option linter.unusedSimpArgs false
namespace Go.Proofs.Ytgmncdmcdgkodaa
open Go.RowKit Alm Sx
