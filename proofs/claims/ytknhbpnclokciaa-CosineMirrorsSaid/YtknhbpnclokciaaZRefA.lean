/- The contracts of the reference's quick sines. -/
import Derived.Test.YtknhbpnclokciaaZVecs
import Derived.Test.YtknhbpnclokciaaZNums
set_option linter.unusedVariables false
set_option linter.unusedSimpArgs false
namespace Go.Proofs.Ytknhbpnclokciaa
open Go.RowKit Alm
end Go.Proofs.Ytknhbpnclokciaa
namespace Go.Proofs.Ytknhbpnclokciaa
open Go.RowKit Alm
theorem Ap (r:Nat) (h:r<=2700000):(0<=jw r/\jw r<=4611686018427387904)/\(0<=jy r/\jy r<=4611686018427387904):=by
 have key:∀ m T s j:Nat,s<=2^62->0<=aN m T s j/\aN m T s j<=T:=by
  intro m
  induction m with
  | zero=>intro T s j hs;simp [aN]
  | succ m ih =>
   intro T s j hs;rw [nA];have i:=ih (ax T s/((j+1)*(j+2))) s (j+2) hs;have h1:=iV T s hs;have h2:=Nat.div_le_self (ax T s) ((j+1)*(j+2));generalize ax T s/((j+1)*(j+2))=T1 at *
   omega
 have a:=key 34 (xq r) (dm r) 1 (vw r h);have b:=key 34 (2^62) (dm r) 0 (vw r h);have c:=Ep r h;unfold jw jy;omega
end Go.Proofs.Ytknhbpnclokciaa
namespace Go.Proofs.Ytknhbpnclokciaa
open Go.RowKit Alm
end Go.Proofs.Ytknhbpnclokciaa
namespace Go.Proofs.Ytknhbpnclokciaa
open Go.RowKit Alm
