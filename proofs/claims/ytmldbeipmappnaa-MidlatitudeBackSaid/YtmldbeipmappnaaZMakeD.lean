/- What of Make only some laws need. -/
import Derived.Test.YtmldbeipmappnaaZMake
set_option linter.unusedVariables false
set_option linter.unusedSimpArgs false
namespace Alm
end Alm
namespace Go.Proofs.Ytmldbeipmappnaa
open Go.RowKit Alm
