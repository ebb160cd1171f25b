/- Plain integers: parts of arguments lead to parts of results: sine and cosine, product, sum, difference, arcsine. -/
import Derived.Test.YtbdlccacamalpaaZUnMB
import Derived.Test.YtbdlccacamalpaaZBin
set_option linter.unusedVariables false
set_option linter.unusedSimpArgs false
namespace Go.Proofs.Ytbdlccacamalpaa
open Go.RowKit Alm Sx
theorem Ji (m n:Int) (h:m%21600000=n%21600000):bLo m=bLo n/\bHi m=bHi n:=by
 have e:ai m=ai n:=h;unfold bLo bHi bi aC;rw [e];exact ⟨rfl,rfl⟩
