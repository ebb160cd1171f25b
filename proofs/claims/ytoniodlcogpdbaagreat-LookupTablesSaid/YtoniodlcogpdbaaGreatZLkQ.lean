/- Small functions of the reference's solution by tables. -/
import Derived.Test.YtoniodlcogpdbaaGreatZLkP
set_option linter.unusedVariables false
set_option linter.unusedSimpArgs false
namespace Go.Proofs.YtoniodlcogpdbaaGreat
open Go.RowKit Alm Sx
