/- The contracts of the reference's quick sines. -/
import Derived.Test.YtbcnifkfaknnaaaGreatZVecs
import Derived.Test.YtbcnifkfaknnaaaGreatZNums
set_option linter.unusedVariables false
set_option linter.unusedSimpArgs false
namespace Go.Proofs.YtbcnifkfaknnaaaGreat
open Go.RowKit Alm
end Go.Proofs.YtbcnifkfaknnaaaGreat
namespace Go.Proofs.YtbcnifkfaknnaaaGreat
open Go.RowKit Alm
theorem q_bd (r:Nat) (h:r<=2700000):(0<=T9 r/\T9 r<=4611686018427387904)/\(0<=Ut r/\Ut r<=4611686018427387904):=by
 have key:∀ m T s j:Nat,s<=2^62->0<=aN m T s j/\aN m T s j<=T:=by
  intro m
  induction m with
  | zero=>intro T s j hs;simp [aN]
  | succ m ih =>
   intro T s j hs;rw [Po];have i:=ih (kZ T s/((j+1)*(j+2))) s (j+2) hs;have h1:=Bc T s hs;have h2:=Nat.div_le_self (kZ T s) ((j+1)*(j+2));generalize kZ T s/((j+1)*(j+2))=T1 at *
   omega
 have a:=key 34 (xq r) (Jp r) 1 (GQ r h);have b:=key 34 (2^62) (Jp r) 0 (GQ r h);have c:=Kr r h;unfold T9 Ut;omega
end Go.Proofs.YtbcnifkfaknnaaaGreat
namespace Go.Proofs.YtbcnifkfaknnaaaGreat
open Go.RowKit Alm
end Go.Proofs.YtbcnifkfaknnaaaGreat
namespace Go.Proofs.YtbcnifkfaknnaaaGreat
open Go.RowKit Alm
end Go.Proofs.YtbcnifkfaknnaaaGreat
namespace Go.Proofs.YtbcnifkfaknnaaaGreat
open Go.RowKit Alm
