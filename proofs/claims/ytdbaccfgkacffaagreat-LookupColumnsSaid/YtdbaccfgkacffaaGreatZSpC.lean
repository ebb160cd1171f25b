/- The known functions of the symbolic runs of layer 43: quotients, arcsines. -/
import Derived.Test.YtdbaccfgkacffaaGreatZSp
import Derived.Test.YtdbaccfgkacffaaGreatZRIn
set_option linter.unusedVariables false
set_option linter.unusedSimpArgs false
namespace Go.Proofs.YtdbaccfgkacffaaGreat
open Go.RowKit Alm Sx
def adx (a b:Int):Int:=if b<a then b else a
def adm (a b:Int):Int:=if b>a then b else a
