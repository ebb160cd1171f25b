/- The contracts of the reference's quick sines. -/
import Derived.Test.YtmldbeipmappnaaZVecs
import Derived.Test.YtmldbeipmappnaaZNums
set_option linter.unusedVariables false
set_option linter.unusedSimpArgs false
namespace Go.Proofs.Ytmldbeipmappnaa
open Go.RowKit Alm
end Go.Proofs.Ytmldbeipmappnaa
namespace Go.Proofs.Ytmldbeipmappnaa
open Go.RowKit Alm
theorem ahX (r:Nat) (h:r<=2700000):(0<=Za r/\Za r<=4611686018427387904)/\(0<=aby r/\aby r<=4611686018427387904):=by
 have key:∀ m T s j:Nat,s<=2^62->0<=aN m T s j/\aN m T s j<=T:=by
  intro m
  induction m with
  | zero=>intro T s j hs;simp [aN]
  | succ m ih =>
   intro T s j hs;rw [Qu];have i:=ih (ma T s/((j+1)*(j+2))) s (j+2) hs;have h1:=C8 T s hs;have h2:=Nat.div_le_self (ma T s) ((j+1)*(j+2));generalize ma T s/((j+1)*(j+2))=T1 at *
   omega
 have a:=key 34 (xq r) (Ky r) 1 (Im r h);have b:=key 34 (2^62) (Ky r) 0 (Im r h);have c:=Py r h;unfold Za aby;omega
end Go.Proofs.Ytmldbeipmappnaa
namespace Go.Proofs.Ytmldbeipmappnaa
open Go.RowKit Alm
end Go.Proofs.Ytmldbeipmappnaa
namespace Go.Proofs.Ytmldbeipmappnaa
open Go.RowKit Alm
end Go.Proofs.Ytmldbeipmappnaa
namespace Go.Proofs.Ytmldbeipmappnaa
open Go.RowKit Alm
def ah3 (lo hi:Int):Int:=bU (lo+5400000) (hi+5400000)
def ah4 (lo hi:Int):Int:=bW (lo+5400000) (hi+5400000)
