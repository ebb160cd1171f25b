/- Plain integers: greater sines have greater arcsines. -/
import Derived.Test.YtmldbeipmappnaaZIso
import Derived.Test.YtmldbeipmappnaaZSides
import Derived.Test.YtmldbeipmappnaaZSxL
import Derived.IntWalk
import Derived.Test.YtmldbeipmappnaaZCosM
set_option linter.unusedVariables false
set_option linter.unusedSimpArgs false
namespace Go.Proofs.Ytmldbeipmappnaa
open Go.RowKit Alm Sx
theorem Kz (u v:Int) (h:u<=v):bR u<=bR v:=by
 obtain ⟨a1,a2,a3,a4⟩:=dE u;obtain ⟨b1,b2,b3,b4⟩:=dE v;rcases Int.lt_or_le (bR v) (bR u) with g|g
 . exfalso;have m:=(jB (bR v+1) (bR u) (by omega) (by omega) a2).2
   omega
 . exact g
theorem afn (a b a' b':Int) (h1:a<=a') (h2:b'<=b):qw a<=qw a'/\qV b'<=qV b:=by
 have p:=Kz (max a (-1073741824)) (max a' (-1073741824)) (by omega)
 have q:=Kz (-(min b 1073741824)) (-(min b' 1073741824)) (by omega)
 unfold qw qV;omega
end Go.Proofs.Ytmldbeipmappnaa
namespace Go.Proofs.Ytmldbeipmappnaa
open Go.RowKit Sx
end Go.Proofs.Ytmldbeipmappnaa
namespace Go.Proofs.Ytmldbeipmappnaa
open Alm Sx
theorem afV {a b c d e f a' b' c' d' e' f':Int} (h1:a<=a'/\a'<=b'/\b'<=b) (h2:c<=c'/\c'<=d'/\d'<=d) (h3:e<=e'/\e'<=f'/\f'<=f):Pt (VB a' b' c' d' e' f') (VB a b c d e f) :=
 ahZ (U_M (U_S a b) (U_S c d)).2.2 (U_M (U_M (U_C a b) (U_C c d)).2.2 (U_C e f)).2.2 (U_M (U_S a' b') (U_S c' d')).2.2 (U_M (U_M (U_C a' b') (U_C c' d')).2.2 (U_C e' f')).2.2
  (agK (U_S a b) (U_S c d) (U_S a' b') (U_S c' d') (acj h1) (acj h2))
  (agK (U_M (U_C a b) (U_C c d)).2.2 (U_C e f) (U_M (U_C a' b') (U_C c' d')).2.2 (U_C e' f') (agK (U_C a b) (U_C c d) (U_C a' b') (U_C c' d') (ae6 h1) (ae6 h2)) (ae6 h3))
theorem aft {a b c d e f a' b' c' d' e' f':Int} (h1:a<=a'/\a'<=b'/\b'<=b) (h2:c<=c'/\c'<=d'/\d'<=d) (h3:e<=e'/\e'<=f'/\f'<=f) :
 (eF a b c d e f).getD 0 0<=(eF a' b' c' d' e' f').getD 0 0/\(eF a' b' c' d' e' f').getD 1 0<=(eF a b c d e f).getD 1 0:=by
 rw [(eB a b c d e f).1,(eB a b c d e f).2.1,(eB a' b' c' d' e' f').1,(eB a' b' c' d' e' f').2.1];have h:=afV h1 h2 h3;exact afn _ _ _ _ h.1 h.2.2
