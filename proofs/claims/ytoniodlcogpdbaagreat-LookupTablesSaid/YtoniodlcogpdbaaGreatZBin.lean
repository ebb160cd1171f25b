/- Plain integers: the directions of a part of a box lie within those of the box. -/
import Derived.Test.YtoniodlcogpdbaaGreatZMir
import Derived.Test.YtoniodlcogpdbaaGreatZUnMB
set_option linter.unusedVariables false
set_option linter.unusedSimpArgs false
namespace Alm
end Alm
namespace Go.Proofs.YtoniodlcogpdbaaGreat
open Go.RowKit Alm Sx
theorem Xd (m n:Int) (h:m%21600000=n%21600000):bLo m=bLo n/\bHi m=bHi n:=by
 have e:au m=au n:=h;unfold bLo bHi dm aI;rw [e];exact ⟨rfl,rfl⟩
