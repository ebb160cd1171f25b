/- The contract of package arctrig's Asin. -/
import Derived.Test.YtcfpmdndgbpfpaaZRIn
set_option linter.unusedVariables false
set_option linter.unusedSimpArgs false
namespace Go.Proofs.Ytcfpmdndgbpfpaa
open Go.RowKit Alm Sx
