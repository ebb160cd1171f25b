/- The contracts of package fixed: Scale, Quotient. -/
import Derived.Test.YtdbaccfgkacffaaGreatZWidesB
import Derived.Test.YtdbaccfgkacffaaGreatZWides
import Derived.Test.YtdbaccfgkacffaaGreatZKp
set_option linter.unusedVariables false
set_option linter.unusedSimpArgs false
namespace Go.Proofs.YtdbaccfgkacffaaGreat
open Go.RowKit Alm
def adv (lo hi n:Int):Int:=min (qFl lo n 1073741824) (qFl hi n 1073741824)
def adt (lo hi n:Int):Int:=max (qCe lo n 1073741824) (qCe hi n 1073741824)
