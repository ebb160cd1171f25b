/- The contracts of the reference's quick sines. -/
import Derived.Test.YtpcfajiiijndiaaZVecs
import Derived.Test.YtpcfajiiijndiaaZNums
set_option linter.unusedVariables false
set_option linter.unusedSimpArgs false
namespace Go.Proofs.Ytpcfajiiijndiaa
open Go.RowKit Alm
end Go.Proofs.Ytpcfajiiijndiaa
namespace Go.Proofs.Ytpcfajiiijndiaa
open Go.RowKit Alm
theorem q_bd (r:Nat) (h:r<=2700000):(0<=SA r/\SA r<=4611686018427387904)/\(0<=Q9 r/\Q9 r<=4611686018427387904):=by
 have key:∀ m T s j:Nat,s<=2^62->0<=aN m T s j/\aN m T s j<=T:=by
  intro m
  induction m with
  | zero=>intro T s j hs;simp [aN]
  | succ m ih =>
   intro T s j hs;rw [MS];have i:=ih (kz T s/((j+1)*(j+2))) s (j+2) hs;have h1:=Ak T s hs;have h2:=Nat.div_le_self (kz T s) ((j+1)*(j+2));generalize kz T s/((j+1)*(j+2))=T1 at *
   omega
 have a:=key 34 (xq r) (Fx r) 1 (CG r h);have b:=key 34 (2^62) (Fx r) 0 (CG r h);have c:=JG r h;unfold SA Q9;omega
end Go.Proofs.Ytpcfajiiijndiaa
namespace Go.Proofs.Ytpcfajiiijndiaa
open Go.RowKit Alm
end Go.Proofs.Ytpcfajiiijndiaa
namespace Go.Proofs.Ytpcfajiiijndiaa
open Go.RowKit Alm
