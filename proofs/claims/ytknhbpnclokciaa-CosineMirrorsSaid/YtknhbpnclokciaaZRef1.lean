/- The contracts of the reference's functions on integers and intervals. -/
import Derived.Test.YtknhbpnclokciaaZVecs
import Derived.Test.YtknhbpnclokciaaZFixed2
import Derived.Test.YtknhbpnclokciaaZKp
set_option linter.unusedVariables false
set_option linter.unusedSimpArgs false
namespace Go.Proofs.Ytknhbpnclokciaa
open Go.RowKit Alm
end Go.Proofs.Ytknhbpnclokciaa
namespace Go.Proofs.Ytknhbpnclokciaa
open Go.RowKit Alm
