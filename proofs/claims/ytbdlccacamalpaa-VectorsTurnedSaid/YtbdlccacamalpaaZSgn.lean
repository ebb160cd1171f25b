/- Plain numbers: the signs of enclosures, what half a turn makes of them. -/
import Derived.Test.YtbdlccacamalpaaZUnit
set_option linter.unusedVariables false
set_option linter.unusedSimpArgs false
namespace Go.Proofs.Ytbdlccacamalpaa
open Go.RowKit Alm Sx
