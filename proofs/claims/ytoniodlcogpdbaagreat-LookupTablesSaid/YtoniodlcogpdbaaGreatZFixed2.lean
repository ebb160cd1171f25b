/- The contracts of package fixed: Scale, Quotient. -/
import Derived.Test.YtoniodlcogpdbaaGreatZWidesB
import Derived.Test.YtoniodlcogpdbaaGreatZWides
import Derived.Test.YtoniodlcogpdbaaGreatZKp
set_option linter.unusedVariables false
set_option linter.unusedSimpArgs false
namespace Go.Proofs.YtoniodlcogpdbaaGreat
open Go.RowKit Alm
def ade (lo hi n:Int):Int:=min (qFl lo n 1073741824) (qFl hi n 1073741824)
def adO (lo hi n:Int):Int:=max (qCe lo n 1073741824) (qCe hi n 1073741824)
