/- Plain numbers: the triangle, mirrored. -/
import Derived.Test.YtmldbeipmappnaaZCosP
import Derived.Test.YtmldbeipmappnaaZMir
import Derived.Test.YtmldbeipmappnaaZSgn
set_option linter.unusedVariables false
set_option linter.unusedSimpArgs false
namespace Go.Proofs.Ytmldbeipmappnaa
open Go.RowKit Alm Sx
