/- The contracts of package fixed's Make and of the reference's, for positive divisors. -/
import Derived.Test.YtbdlccacamalpaaZWidesB
import Derived.Test.YtbdlccacamalpaaZVecs
import Derived.Deep.Light
import Derived.Test.YtbdlccacamalpaaZSides
set_option linter.unusedVariables false
set_option linter.unusedSimpArgs false
namespace Alm
end Alm
namespace Go.Proofs.Ytbdlccacamalpaa
open Go.RowKit Alm
end Go.Proofs.Ytbdlccacamalpaa
namespace Go.Proofs.Ytbdlccacamalpaa
open Go.RowKit Alm Sx
