/- The contracts of the reference's quick sines. -/
import Derived.Test.YtcfpmdndgbpfpaaZVecs
import Derived.Test.YtcfpmdndgbpfpaaZNums
set_option linter.unusedVariables false
set_option linter.unusedSimpArgs false
namespace Go.Proofs.Ytcfpmdndgbpfpaa
open Go.RowKit Alm
end Go.Proofs.Ytcfpmdndgbpfpaa
namespace Go.Proofs.Ytcfpmdndgbpfpaa
open Go.RowKit Alm
theorem wY (r:Nat) (h:r<=2700000):(0<=Ng r/\Ng r<=4611686018427387904)/\(0<=NI r/\NI r<=4611686018427387904):=by
 have key:∀ m T s j:Nat,s<=2^62->0<=aN m T s j/\aN m T s j<=T:=by
  intro m
  induction m with
  | zero=>intro T s j hs;simp [aN]
  | succ m ih =>
   intro T s j hs;rw [LX];have i:=ih (jv T s/((j+1)*(j+2))) s (j+2) hs;have h1:=zM T s hs;have h2:=Nat.div_le_self (jv T s) ((j+1)*(j+2));generalize jv T s/((j+1)*(j+2))=T1 at *
   omega
 have a:=key 34 (xq r) (E8 r) 1 (Ca r h);have b:=key 34 (2^62) (E8 r) 0 (Ca r h);have c:=I7 r h;unfold Ng NI;omega
end Go.Proofs.Ytcfpmdndgbpfpaa
namespace Go.Proofs.Ytcfpmdndgbpfpaa
open Go.RowKit Alm
end Go.Proofs.Ytcfpmdndgbpfpaa
namespace Go.Proofs.Ytcfpmdndgbpfpaa
open Go.RowKit Alm
end Go.Proofs.Ytcfpmdndgbpfpaa
namespace Go.Proofs.Ytcfpmdndgbpfpaa
open Go.RowKit Alm
