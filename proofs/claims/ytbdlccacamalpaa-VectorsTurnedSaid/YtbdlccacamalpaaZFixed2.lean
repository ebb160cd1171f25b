/- The contracts of package fixed: Scale, Quotient. -/
import Derived.Test.YtbdlccacamalpaaZWidesB
import Derived.Test.YtbdlccacamalpaaZWides
import Derived.Test.YtbdlccacamalpaaZKp
set_option linter.unusedVariables false
set_option linter.unusedSimpArgs false
namespace Go.Proofs.Ytbdlccacamalpaa
open Go.RowKit Alm
