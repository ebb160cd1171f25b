/- The contracts of the reference's quick sines. -/
import Derived.Test.YtbdlccacamalpaaZVecs
import Derived.Test.YtbdlccacamalpaaZNums
set_option linter.unusedVariables false
set_option linter.unusedSimpArgs false
namespace Go.Proofs.Ytbdlccacamalpaa
open Go.RowKit Alm
end Go.Proofs.Ytbdlccacamalpaa
namespace Go.Proofs.Ytbdlccacamalpaa
open Go.RowKit Alm
theorem q_bd (r:Nat) (h:r<=2700000):(0<=JV r/\JV r<=4611686018427387904)/\(0<=LF r/\LF r<=4611686018427387904):=by
 have key:∀ m T s j:Nat,s<=2^62->0<=aN m T s j/\aN m T s j<=T:=by
  intro m
  induction m with
  | zero=>intro T s j hs;simp [aN]
  | succ m ih =>
   intro T s j hs;rw [H8];have i:=ih (jy T s/((j+1)*(j+2))) s (j+2) hs;have h1:=wR T s hs;have h2:=Nat.div_le_self (jy T s) ((j+1)*(j+2));generalize jy T s/((j+1)*(j+2))=T1 at *
   omega
 have a:=key 34 (xq r) (BQ r) 1 (Ab r h);have b:=key 34 (2^62) (BQ r) 0 (Ab r h);have c:=EP r h;unfold JV LF;omega
end Go.Proofs.Ytbdlccacamalpaa
namespace Go.Proofs.Ytbdlccacamalpaa
open Go.RowKit Alm
end Go.Proofs.Ytbdlccacamalpaa
namespace Go.Proofs.Ytbdlccacamalpaa
open Go.RowKit Alm
end Go.Proofs.Ytbdlccacamalpaa
namespace Go.Proofs.Ytbdlccacamalpaa
open Go.RowKit Alm
