/- Plain: parts of positions lead to parts of vectors, local coordinates and places. -/
import Derived.Test.YtbdlccacamalpaaZVrQ
import Derived.Test.YtbdlccacamalpaaZVe2
import Derived.Test.YtbdlccacamalpaaZInc
set_option linter.unusedVariables false
set_option linter.unusedSimpArgs false
namespace Go.Proofs.Ytbdlccacamalpaa
open Go.RowKit Alm Sx
