/- Plain integers: greater sines have greater arcsines. -/
import Derived.Test.YtmldbeipmappnaaZIso
import Derived.Test.YtmldbeipmappnaaZSides
set_option linter.unusedVariables false
set_option linter.unusedSimpArgs false
namespace Go.Proofs.Ytmldbeipmappnaa
open Go.RowKit Alm Sx
theorem Kz (u v:Int) (h:u<=v):bR u<=bR v:=by
 obtain ⟨a1,a2,a3,a4⟩:=dE u;obtain ⟨b1,b2,b3,b4⟩:=dE v;rcases Int.lt_or_le (bR v) (bR u) with g|g
 . exfalso;have m:=(jB (bR v+1) (bR u) (by omega) (by omega) a2).2
   omega
 . exact g
