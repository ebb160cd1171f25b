/- The known functions of the symbolic runs of layer 43: quotients, arcsines. -/
import Derived.Test.YtoniodlcogpdbaaGreatZSp
import Derived.Test.YtoniodlcogpdbaaGreatZRIn
set_option linter.unusedVariables false
set_option linter.unusedSimpArgs false
namespace Go.Proofs.YtoniodlcogpdbaaGreat
open Go.RowKit Alm Sx
def adm (a b:Int):Int:=if b<a then b else a
def adz (a b:Int):Int:=if b>a then b else a
