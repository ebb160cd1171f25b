/- Plain numbers: the triangle, mirrored. -/
import Derived.Test.YtbdlccacamalpaaZCosP
import Derived.Test.YtbdlccacamalpaaZMir
import Derived.Test.YtbdlccacamalpaaZSgn
set_option linter.unusedVariables false
set_option linter.unusedSimpArgs false
namespace Go.Proofs.Ytbdlccacamalpaa
open Go.RowKit Alm Sx
