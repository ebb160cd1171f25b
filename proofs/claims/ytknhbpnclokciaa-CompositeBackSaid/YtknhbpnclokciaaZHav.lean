/- The contracts of the haversine and its inverse, and of the reference's. -/
import Derived.Test.YtknhbpnclokciaaZAco
set_option linter.unusedVariables false
set_option linter.unusedSimpArgs false
namespace Go.Proofs.Ytknhbpnclokciaa
open Go.RowKit Alm Sx
