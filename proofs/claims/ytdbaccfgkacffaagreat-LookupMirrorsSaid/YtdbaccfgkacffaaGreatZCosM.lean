/- Plain numbers: the triangle, mirrored. -/
import Derived.Test.YtdbaccfgkacffaaGreatZCosP
import Derived.Test.YtdbaccfgkacffaaGreatZMir
import Derived.Test.YtdbaccfgkacffaaGreatZSgn
set_option linter.unusedVariables false
set_option linter.unusedSimpArgs false
namespace Go.Proofs.YtdbaccfgkacffaaGreat
open Go.RowKit Alm Sx
theorem TM (c d e f:Int) (h:e<=f):azY c d (-f) (-e)=uN (azY c d e f):=by
 unfold azY;rw [acL e f h,abw (U_C c d) (U_S e f)]
theorem R5 (a b c d e f:Int) (h:e<=f):azX a b c d (-f) (-e)=azX a b c d e f:=by
 unfold azX;rw [abS e f h]
theorem X8 (a b c d e f:Int):((azY c d e f).1<=(azY c d e f).2/\-2147483648<=(azY c d e f).1/\(azY c d e f).2<=2147483648)/\((azX a b c d e f).1<=(azX a b c d e f).2/\-2147483648<=(azX a b c d e f).1/\(azX a b c d e f).2<=2147483648):=by
 have y:=WX (U_M (U_C c d) (U_S e f)).2.2;have x:=(bR _ _).1 (U_D (U_M (U_S c d) (U_C a b)).2.2 (U_M (U_M (U_C c d) (U_C e f)).2.2 (U_S a b)).2.2).2.2;unfold U at y;unfold azY azX;omega
theorem NS (a b c d e f:Int) (h:e<=f):(azV a b c d (-f) (-e)).getD 0 0=-(azV a b c d e f).getD 1 0%21600000/\(azV a b c d (-f) (-e)).getD 1 0=(azV a b c d (-f) (-e)).getD 0 0+((azV a b c d e f).getD 1 0-(azV a b c d e f).getD 0 0):=by
 rw [(iU a b c d (-f) (-e)).1,(iU a b c d (-f) (-e)).2.1,(iU a b c d e f).1,(iU a b c d e f).2.1,TM c d e f h,R5 a b c d e f h];have B:=X8 a b c d e f;exact Np B.1.1 B.2.1 ⟨B.1.2.1,B.1.2.2⟩ ⟨B.2.2.1,B.2.2.2⟩
