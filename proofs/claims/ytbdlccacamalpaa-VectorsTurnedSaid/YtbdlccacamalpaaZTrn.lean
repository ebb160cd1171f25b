/- Plain numbers: what Turn makes of an arc. -/
import Derived.Test.YtbdlccacamalpaaZSxL
import Derived.IntWalk
set_option linter.unusedVariables false
set_option linter.unusedSimpArgs false
namespace Go.Proofs.Ytbdlccacamalpaa
open Go.RowKit Sx
