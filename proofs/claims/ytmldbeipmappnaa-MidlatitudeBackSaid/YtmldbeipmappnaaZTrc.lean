/- Intervals that hold a true number and are narrow: sums, products, squares and roots of such. -/
import Derived.Test.YtmldbeipmappnaaZUAdd
import Derived.Test.YtmldbeipmappnaaZIso
import Derived.Test.YtmldbeipmappnaaZSgn
set_option linter.unusedVariables false
set_option linter.unusedSimpArgs false
namespace Go.Proofs.Ytmldbeipmappnaa
open Go.RowKit Alm Sx
def Tr (p:IV) (x:Rat) (k:Int) (e:Rat):Prop:=p.1<=p.2/\p.2-p.1<=k/\InE p.1 p.2 x e
theorem aiD {L H:Int} (h:-2147483648<=L/\L<=H/\H<=2147483648):rP L H=L/\tF L H=H/\oZ L H=0:=by
 unfold rP tF oZ;rw [if_pos h,if_pos h,if_pos h];exact ⟨rfl,rfl,rfl⟩
