/- The contracts of package fixed: Scale, Quotient. -/
import Derived.Test.YtknhbpnclokciaaZWides
import Derived.Test.YtknhbpnclokciaaZKp
set_option linter.unusedVariables false
set_option linter.unusedSimpArgs false
namespace Go.Proofs.Ytknhbpnclokciaa
open Go.RowKit Alm
