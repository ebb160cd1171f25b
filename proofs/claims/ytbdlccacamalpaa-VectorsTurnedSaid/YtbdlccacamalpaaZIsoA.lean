/- Plain integers: greater sines have greater arcsines. -/
import Derived.Test.YtbdlccacamalpaaZIso
import Derived.Test.YtbdlccacamalpaaZSides
set_option linter.unusedVariables false
set_option linter.unusedSimpArgs false
namespace Go.Proofs.Ytbdlccacamalpaa
open Go.RowKit Alm Sx
