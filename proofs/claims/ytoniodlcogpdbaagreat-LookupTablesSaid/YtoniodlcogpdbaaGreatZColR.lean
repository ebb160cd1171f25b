/- Walks of LookupColumns over contracts: the reference's solution from two columns. -/
import Derived.Test.YtoniodlcogpdbaaGreatZColW
import Derived.Deep.DeepCutAuto
set_option linter.unusedVariables false
set_option linter.unusedSimpArgs false
namespace Go.Proofs.YtoniodlcogpdbaaGreat
open Go.RowKit Alm Sx
