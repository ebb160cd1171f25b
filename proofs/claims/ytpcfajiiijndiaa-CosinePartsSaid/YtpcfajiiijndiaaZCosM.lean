/- Plain numbers: the triangle, mirrored. -/
import Derived.Test.YtpcfajiiijndiaaZCosP
import Derived.Test.YtpcfajiiijndiaaZMir
import Derived.Test.YtpcfajiiijndiaaZSgn
set_option linter.unusedVariables false
set_option linter.unusedSimpArgs false
namespace Go.Proofs.Ytpcfajiiijndiaa
open Go.RowKit Alm Sx
theorem Bo (a b c d e f:Int):((azY c d e f).1<=(azY c d e f).2/\-2147483648<=(azY c d e f).1/\(azY c d e f).2<=2147483648)/\((azX a b c d e f).1<=(azX a b c d e f).2/\-2147483648<=(azX a b c d e f).1/\(azX a b c d e f).2<=2147483648):=by
 have y:=WC (U_M (U_C c d) (U_S e f)).2.2;have x:=(dR _ _).1 (U_D (U_M (U_S c d) (U_C a b)).2.2 (U_M (U_M (U_C c d) (U_C e f)).2.2 (U_S a b)).2.2).2.2;unfold U at y;unfold azY azX;omega
