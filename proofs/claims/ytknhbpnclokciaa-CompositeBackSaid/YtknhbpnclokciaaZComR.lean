/- The contracts of reach and leg of composite sailing, and of the reference's. -/
import Derived.Test.YtknhbpnclokciaaZComN
import Derived.Test.YtknhbpnclokciaaZRef1
set_option linter.unusedVariables false
set_option linter.unusedSimpArgs false
namespace Go.Proofs.Ytknhbpnclokciaa
open Go.RowKit Alm Sx
