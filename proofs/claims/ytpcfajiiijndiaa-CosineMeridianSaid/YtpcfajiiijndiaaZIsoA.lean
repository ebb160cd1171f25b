/- Plain integers: greater sines have greater arcsines. -/
import Derived.Test.YtpcfajiiijndiaaZBin
import Derived.Test.YtpcfajiiijndiaaZRIn
set_option linter.unusedVariables false
set_option linter.unusedSimpArgs false
namespace Go.Proofs.Ytpcfajiiijndiaa
open Go.RowKit Alm Sx
theorem vG (u v:Int) (h:u<=v):bE u<=bE v:=by
 obtain ⟨a1,a2,a3,a4⟩:=dO u;obtain ⟨b1,b2,b3,b4⟩:=dO v;rcases Int.lt_or_le (bE v) (bE u) with g|g
 . exfalso;have m:=(nK (bE v+1) (bE u) (by omega) (by omega) a2).2
   omega
 . exact g
theorem Ja (a b a' b':Int) (h1:a<=a') (h2:b'<=b):qA a<=qA a'/\nY b'<=nY b:=by
 have p:=vG (max a (-1073741824)) (max a' (-1073741824)) (by omega)
 have q:=vG (-(min b 1073741824)) (-(min b' 1073741824)) (by omega)
 unfold qA nY;omega
