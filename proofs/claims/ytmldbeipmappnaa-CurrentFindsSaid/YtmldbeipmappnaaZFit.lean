/- fx of the enclosures (what of SpN only some laws need). -/
import Derived.Test.YtmldbeipmappnaaZSpN
import Derived.Test.YtmldbeipmappnaaZWidesB
set_option linter.unusedVariables false
set_option linter.unusedSimpArgs false
namespace Go.Proofs.Ytmldbeipmappnaa
open Go.RowKit Alm Sx
theorem Lc (a b:Int):fxV ((aC 5 [a,b]).getD 0 0) ((aC 5 [a,b]).getD 1 0)=true:=UL _ _
theorem Kw (a b:Int):fxV ((aC 6 [a,b]).getD 0 0) ((aC 6 [a,b]).getD 1 0)=true:=UL _ _
