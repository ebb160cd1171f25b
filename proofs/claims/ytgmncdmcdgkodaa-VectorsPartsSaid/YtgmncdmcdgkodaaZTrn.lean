/- Plain numbers: what Turn makes of an arc. -/
import Derived.Test.YtgmncdmcdgkodaaZSxL
import Derived.IntWalk
set_option linter.unusedVariables false
set_option linter.unusedSimpArgs false
namespace Go.Proofs.Ytgmncdmcdgkodaa
open Go.RowKit Sx
