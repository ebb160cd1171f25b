/- The contracts of CrossTrack of both sides. -/
import Derived.Test.YtmldbeipmappnaaZVer
set_option linter.unusedVariables false
set_option linter.unusedSimpArgs false
namespace Go.Proofs.Ytmldbeipmappnaa
open Go.RowKit Alm Sx
def cN (a b c d m n:Int):IV:=uM (uS ((aP a b m n).getD 0 0) ((aP a b m n).getD 1 0)) (uS ((aX a b m n).getD 0 0-(aX a b c d).getD 1 0) ((aX a b m n).getD 1 0-(aX a b c d).getD 0 0))
def VF (a b c d m n:Int):List Int:=if PtV m n then (if PtV a b/\PtV c d then (if crA a b c d then [0,0,21] else [qw (cN a b c d m n).1,qV (cN a b c d m n).2,0]) else [0,0,1]) else [0,0,1]
