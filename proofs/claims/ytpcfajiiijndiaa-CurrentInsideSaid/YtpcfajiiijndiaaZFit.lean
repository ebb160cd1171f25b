/- fx of the enclosures (what of SpN only some laws need). -/
import Derived.Test.YtpcfajiiijndiaaZSpN
import Derived.Test.YtpcfajiiijndiaaZWidesB
set_option linter.unusedVariables false
set_option linter.unusedSimpArgs false
namespace Go.Proofs.Ytpcfajiiijndiaa
open Go.RowKit Alm Sx
theorem Gj (a b:Int):fxV ((cB 5 [a,b]).getD 0 0) ((cB 5 [a,b]).getD 1 0)=true:=OE _ _
theorem EI (a b:Int):fxV ((cB 6 [a,b]).getD 0 0) ((cB 6 [a,b]).getD 1 0)=true:=OE _ _
