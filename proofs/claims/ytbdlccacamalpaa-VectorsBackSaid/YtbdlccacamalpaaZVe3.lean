/- The contracts of vectors.Of and Local where an arc is not valid. -/
import Derived.Test.YtbdlccacamalpaaZVe2
set_option linter.unusedVariables false
set_option linter.unusedSimpArgs false
namespace Go.Proofs.Ytbdlccacamalpaa
open Go.RowKit Alm Sx
