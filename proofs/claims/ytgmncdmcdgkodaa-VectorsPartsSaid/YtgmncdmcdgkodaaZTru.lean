/- The sine grows by more than all errors: the arcsine of an interval that holds a sine holds its angle. -/
import Derived.Test.YtgmncdmcdgkodaaZUAdd
import Derived.Test.YtgmncdmcdgkodaaZSides
import Derived.Test.YtgmncdmcdgkodaaZSgn
set_option linter.unusedVariables false
set_option linter.unusedSimpArgs false
namespace Go.Proofs.Ytgmncdmcdgkodaa
open Alm Sx
