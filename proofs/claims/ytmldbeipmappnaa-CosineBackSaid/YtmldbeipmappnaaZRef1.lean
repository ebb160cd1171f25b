/- The contracts of the reference's functions on integers and intervals. -/
import Derived.Test.YtmldbeipmappnaaZVecs
import Derived.Test.YtmldbeipmappnaaZFixed2
import Derived.Test.YtmldbeipmappnaaZKp
set_option linter.unusedVariables false
set_option linter.unusedSimpArgs false
namespace Go.Proofs.Ytmldbeipmappnaa
open Go.RowKit Alm
end Go.Proofs.Ytmldbeipmappnaa
namespace Go.Proofs.Ytmldbeipmappnaa
open Go.RowKit Alm
