/- The contracts of the reference's functions on integers and intervals. -/
import Derived.Test.YtbdlccacamalpaaZVecs
import Derived.Test.YtbdlccacamalpaaZFixed2
import Derived.Test.YtbdlccacamalpaaZKp
set_option linter.unusedVariables false
set_option linter.unusedSimpArgs false
namespace Go.Proofs.Ytbdlccacamalpaa
open Go.RowKit Alm
end Go.Proofs.Ytbdlccacamalpaa
namespace Go.Proofs.Ytbdlccacamalpaa
open Go.RowKit Alm
