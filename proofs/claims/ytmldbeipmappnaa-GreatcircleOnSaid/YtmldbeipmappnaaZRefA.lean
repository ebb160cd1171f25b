/- The contracts of the reference's quick sines. -/
import Derived.Test.YtmldbeipmappnaaZVecs
import Derived.Test.YtmldbeipmappnaaZNums
set_option linter.unusedVariables false
set_option linter.unusedSimpArgs false
namespace Go.Proofs.Ytmldbeipmappnaa
open Go.RowKit Alm
end Go.Proofs.Ytmldbeipmappnaa
namespace Go.Proofs.Ytmldbeipmappnaa
open Go.RowKit Alm
theorem q_bd (r:Nat) (h:r<=2700000):(0<=Rx r/\Rx r<=4611686018427387904)/\(0<=Q6 r/\Q6 r<=4611686018427387904):=by
 have key:∀ m T s j:Nat,s<=2^62->0<=aN m T s j/\aN m T s j<=T:=by
  intro m
  induction m with
  | zero=>intro T s j hs;simp [aN]
  | succ m ih =>
   intro T s j hs;rw [KW];have i:=ih (jR T s/((j+1)*(j+2))) s (j+2) hs;have h1:=zW T s hs;have h2:=Nat.div_le_self (jR T s) ((j+1)*(j+2));generalize jR T s/((j+1)*(j+2))=T1 at *
   omega
 have a:=key 34 (xq r) (Gd r) 1 (Eu r h);have b:=key 34 (2^62) (Gd r) 0 (Eu r h);have c:=J3 r h;unfold Rx Q6;omega
end Go.Proofs.Ytmldbeipmappnaa
namespace Go.Proofs.Ytmldbeipmappnaa
open Go.RowKit Alm
end Go.Proofs.Ytmldbeipmappnaa
namespace Go.Proofs.Ytmldbeipmappnaa
open Go.RowKit Alm
end Go.Proofs.Ytmldbeipmappnaa
namespace Go.Proofs.Ytmldbeipmappnaa
open Go.RowKit Alm
