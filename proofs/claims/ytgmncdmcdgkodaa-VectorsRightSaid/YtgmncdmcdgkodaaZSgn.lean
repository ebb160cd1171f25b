/- Plain numbers: the signs of enclosures, what half a turn makes of them. -/
import Derived.Test.YtgmncdmcdgkodaaZUnit
set_option linter.unusedVariables false
set_option linter.unusedSimpArgs false
namespace Go.Proofs.Ytgmncdmcdgkodaa
open Go.RowKit Alm Sx
theorem JZ (a b c d:Int):dV a b c d=dV c d a b/\dW a b c d=dW c d a b:=by
 have x1:=Int.mul_comm a c;have x2:=Int.mul_comm a d;have x3:=Int.mul_comm b c;have x4:=Int.mul_comm b d;have e1:mn4 a b c d=mn4 c d a b:=by unfold mn4;rw [x1,x2,x3,x4];omega
 have e2:mx4 a b c d=mx4 c d a b:=by unfold mx4;rw [x1,x2,x3,x4];omega
 unfold dV dW;rw [e1,e2];exact ⟨rfl,rfl⟩
