/- A part of a triangle has its altitude and its directions within those of the triangle. -/
import Derived.Test.YtgmncdmcdgkodaaZCosM
import Derived.Test.YtgmncdmcdgkodaaZIsoA
import Derived.Test.YtgmncdmcdgkodaaZTrn
set_option linter.unusedVariables false
set_option linter.unusedSimpArgs false
namespace Go.Proofs.Ytgmncdmcdgkodaa
open Alm Sx
theorem QD {a b n x y z r q:Int} (h:-1099511627776<=a/\a<=b/\b<=1099511627776) (hn:0<=n/\n<=4294967295) (e1:x=IntKind.i64.wrap n) (e2:y=IntKind.i64.wrap (b-a)) (e3:z=IntKind.i64.wrap (y+1)) (e4:r=Int.tmod x z) (e5:q=IntKind.i64.wrap (a+r)):z≠0/\a<=q/\q<=b:=by
 rw [Go.IntWalk.i64_in _ (by omega)] at e1 e2
 subst e1 e2;rw [Go.IntWalk.i64_in _ (by omega)] at e3
 subst e3;rw [Int.tmod_eq_emod_of_nonneg hn.1] at e4;have h1:=Int.emod_nonneg x (show b-a+1≠0 by omega)
 have h2:=Int.emod_lt_of_pos x (show 0<b-a+1 by omega)
 rw [Go.IntWalk.i64_in _ (by omega)] at e5
 omega
