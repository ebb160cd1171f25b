/- What of UnM only some laws need. -/
import Derived.Test.YtbdlccacamalpaaZUnit
set_option linter.unusedVariables false
set_option linter.unusedSimpArgs false
namespace Alm
end Alm
namespace Go.Proofs.Ytbdlccacamalpaa
open Alm Sx
