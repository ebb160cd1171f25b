/- The contracts of the reference's quick sines. -/
import Derived.Test.YtgmncdmcdgkodaaZVecs
import Derived.Test.YtgmncdmcdgkodaaZNums
set_option linter.unusedVariables false
set_option linter.unusedSimpArgs false
namespace Go.Proofs.Ytgmncdmcdgkodaa
open Go.RowKit Alm
end Go.Proofs.Ytgmncdmcdgkodaa
namespace Go.Proofs.Ytgmncdmcdgkodaa
open Go.RowKit Alm
theorem q_bd (r:Nat) (h:r<=2700000):(0<=Ik r/\Ik r<=4611686018427387904)/\(0<=KO r/\KO r<=4611686018427387904):=by
 have key:∀ m T s j:Nat,s<=2^62->0<=aN m T s j/\aN m T s j<=T:=by
  intro m
  induction m with
  | zero=>intro T s j hs;simp [aN]
  | succ m ih =>
   intro T s j hs;rw [FH];have i:=ih (jk T s/((j+1)*(j+2))) s (j+2) hs;have h1:=wG T s hs;have h2:=Nat.div_le_self (jk T s) ((j+1)*(j+2));generalize jk T s/((j+1)*(j+2))=T1 at *
   omega
 have a:=key 34 (xq r) (BR r) 1 (zR r h);have b:=key 34 (2^62) (BR r) 0 (zR r h);have c:=Dt r h;unfold Ik KO;omega
end Go.Proofs.Ytgmncdmcdgkodaa
namespace Go.Proofs.Ytgmncdmcdgkodaa
open Go.RowKit Alm
end Go.Proofs.Ytgmncdmcdgkodaa
namespace Go.Proofs.Ytgmncdmcdgkodaa
open Go.RowKit Alm
end Go.Proofs.Ytgmncdmcdgkodaa
namespace Go.Proofs.Ytgmncdmcdgkodaa
open Go.RowKit Alm
