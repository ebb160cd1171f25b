/- The contracts of package fixed: Scale, Quotient. -/
import Derived.Test.YtgmncdmcdgkodaaZWidesB
import Derived.Test.YtgmncdmcdgkodaaZWides
import Derived.Test.YtgmncdmcdgkodaaZKp
set_option linter.unusedVariables false
set_option linter.unusedSimpArgs false
namespace Go.Proofs.Ytgmncdmcdgkodaa
open Go.RowKit Alm
