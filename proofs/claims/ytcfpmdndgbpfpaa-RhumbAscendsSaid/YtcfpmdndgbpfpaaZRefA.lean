/- The contracts of the reference's quick sines. -/
import Derived.Test.YtcfpmdndgbpfpaaZVecs
import Derived.Test.YtcfpmdndgbpfpaaZNums
set_option linter.unusedVariables false
set_option linter.unusedSimpArgs false
namespace Go.Proofs.Ytcfpmdndgbpfpaa
open Go.RowKit Alm
end Go.Proofs.Ytcfpmdndgbpfpaa
namespace Go.Proofs.Ytcfpmdndgbpfpaa
open Go.RowKit Alm
theorem IU (r:Nat) (h:r<=2700000):(0<=GG r/\GG r<=4611686018427387904)/\(0<=GK r/\GK r<=4611686018427387904):=by
 have key:∀ m T s j:Nat,s<=2^62->0<=aN m T s j/\aN m T s j<=T:=by
  intro m
  induction m with
  | zero=>intro T s j hs;simp [aN]
  | succ m ih =>
   intro T s j hs;rw [En];have i:=ih (gV T s/((j+1)*(j+2))) s (j+2) hs;have h1:=su T s hs;have h2:=Nat.div_le_self (gV T s) ((j+1)*(j+2));generalize gV T s/((j+1)*(j+2))=T1 at *
   omega
 have a:=key 34 (xq r) (zm r) 1 (xS r h);have b:=key 34 (2^62) (zm r) 0 (xS r h);have c:=Ay r h;unfold GG GK;omega
end Go.Proofs.Ytcfpmdndgbpfpaa
namespace Go.Proofs.Ytcfpmdndgbpfpaa
open Go.RowKit Alm
end Go.Proofs.Ytcfpmdndgbpfpaa
namespace Go.Proofs.Ytcfpmdndgbpfpaa
open Go.RowKit Alm
end Go.Proofs.Ytcfpmdndgbpfpaa
namespace Go.Proofs.Ytcfpmdndgbpfpaa
open Go.RowKit Alm
