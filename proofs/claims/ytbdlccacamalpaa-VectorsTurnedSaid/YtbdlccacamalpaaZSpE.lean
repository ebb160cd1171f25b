/- More known functions: products with integers, small roots. -/
import Derived.Test.YtbdlccacamalpaaZSpN
import Derived.Test.YtbdlccacamalpaaZRef1
import Derived.Test.YtbdlccacamalpaaZMake
import Derived.Deep.Light
set_option linter.unusedVariables false
set_option linter.unusedSimpArgs false
namespace Alm
end Alm
namespace Go.Proofs.Ytbdlccacamalpaa
open Go.RowKit Alm Sx
