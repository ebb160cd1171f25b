/- The contracts of greatcircle.Inverse and of the reference's Course and Distance. -/
import Derived.Test.YtknhbpnclokciaaZHav
import Derived.Test.YtknhbpnclokciaaZUAdd
set_option linter.unusedVariables false
set_option linter.unusedSimpArgs false
namespace Alm
end Alm
namespace Go.Proofs.Ytknhbpnclokciaa
open Go.RowKit Alm Sx
def sgd (n:Int):Int:=if n%21600000>=10800000 then n%21600000-21600000 else n%21600000
theorem jb (n:Int):-10800000<=sgd n/\sgd n<10800000:=by unfold sgd;split<;>omega
abbrev PtV (a b:Int):Prop:=(-5400000<=a/\a<=5400000)/\(-10800000<=b/\b<10800000)
theorem bi {n:Int} (h:-100000000<=n/\n<=100000000):dI n n=true:=(jF _ _).2 (by omega)
