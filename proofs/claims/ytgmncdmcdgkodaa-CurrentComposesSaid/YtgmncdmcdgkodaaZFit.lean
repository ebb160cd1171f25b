/- fx of the enclosures (what of SpN only some laws need). -/
import Derived.Test.YtgmncdmcdgkodaaZSpN
import Derived.Test.YtgmncdmcdgkodaaZWidesB
set_option linter.unusedVariables false
set_option linter.unusedSimpArgs false
namespace Go.Proofs.Ytgmncdmcdgkodaa
open Go.RowKit Alm Sx
theorem DW (a b:Int):fxV ((di 5 [a,b]).getD 0 0) ((di 5 [a,b]).getD 1 0)=true:=LC _ _
theorem EG (a b:Int):fxV ((di 6 [a,b]).getD 0 0) ((di 6 [a,b]).getD 1 0)=true:=LC _ _
