/- The contracts of altitude, azimuth and Valid of the cosine formula, and of the reference's. -/
import Derived.Test.YtbdlccacamalpaaZUnMB
import Derived.Test.YtbdlccacamalpaaZSpE
import Derived.Test.YtbdlccacamalpaaZUnit
set_option linter.unusedVariables false
set_option linter.unusedSimpArgs false
namespace Go.Proofs.Ytbdlccacamalpaa
open Go.RowKit Alm Sx
def QC (a b c d e f:Int):Prop:=(-5400000<=a/\a<=b/\b<=5400000)/\(-5400000<=c/\c<=d/\d<=5400000)/\(-1099511627776<=e/\e<=f/\f<=1099511627776)
instance (a b c d e f:Int):Decidable (QC a b c d e f):=by unfold QC;infer_instance
