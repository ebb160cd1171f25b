/- The contracts of package fixed: Scale, Quotient. -/
import Derived.Test.YtknhbpnclokciaaZWidesB
import Derived.Test.YtknhbpnclokciaaZWides
import Derived.Test.YtknhbpnclokciaaZKp
set_option linter.unusedVariables false
set_option linter.unusedSimpArgs false
namespace Go.Proofs.Ytknhbpnclokciaa
open Go.RowKit Alm
def sD (lo hi n:Int):Int:=min (qFl lo n 1073741824) (qFl hi n 1073741824)
def rZ (lo hi n:Int):Int:=max (qCe lo n 1073741824) (qCe hi n 1073741824)
