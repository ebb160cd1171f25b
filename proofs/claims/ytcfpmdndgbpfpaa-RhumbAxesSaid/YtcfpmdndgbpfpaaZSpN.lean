/- The known functions of the symbolic runs: the reference's sine and cosine. -/
import Derived.Test.YtcfpmdndgbpfpaaZSp
import Derived.Test.YtcfpmdndgbpfpaaZRefA
import Derived.Test.YtcfpmdndgbpfpaaZRIn
import Derived.Test.YtcfpmdndgbpfpaaZSxL
set_option linter.unusedVariables false
set_option linter.unusedSimpArgs false
namespace Go.Proofs.Ytcfpmdndgbpfpaa
open Go.RowKit Alm Sx
end Go.Proofs.Ytcfpmdndgbpfpaa
namespace Go.Proofs.Ytcfpmdndgbpfpaa
open Go.RowKit Alm Sx
end Go.Proofs.Ytcfpmdndgbpfpaa
namespace Go.Proofs.Ytcfpmdndgbpfpaa
open Go.RowKit Alm Sx
structure Qt (X:Cx):Prop where
 sem:∀ (f:Nat) (xs:List Int),f<=8->X.sem f xs=Gr f xs
 pre:∀ (f:Nat) (xs:List Int),f<=8∨f=20->preB f xs->X.pre f xs
theorem Qt.at {X:Cx} (L:Qt X) {v:Nat->Int} {r:Rf} {f i:Nat} {xs:List Rf} (hf:f<=8) (h:r.val v=(Nd.app f i xs).val X v):r.val v=(Gr f (xs.map (Rf.val v))).getD i 0:=by
 rw [h];simp only [Nd.val];rw [L.sem _ _ hf]
