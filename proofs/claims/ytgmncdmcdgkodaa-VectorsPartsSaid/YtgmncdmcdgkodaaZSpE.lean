/- More known functions: products with integers, small roots. -/
import Derived.Test.YtgmncdmcdgkodaaZSpN
import Derived.Test.YtgmncdmcdgkodaaZRef1
import Derived.Test.YtgmncdmcdgkodaaZMake
import Derived.Deep.Light
set_option linter.unusedVariables false
set_option linter.unusedSimpArgs false
namespace Alm
end Alm
namespace Go.Proofs.Ytgmncdmcdgkodaa
open Go.RowKit Alm Sx
