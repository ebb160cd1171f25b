/- The contracts of altitude, azimuth and Valid of the cosine formula, and of the reference's. -/
import Derived.Test.YtgmncdmcdgkodaaZUnMB
import Derived.Test.YtgmncdmcdgkodaaZSpE
import Derived.Test.YtgmncdmcdgkodaaZUnit
set_option linter.unusedVariables false
set_option linter.unusedSimpArgs false
namespace Go.Proofs.Ytgmncdmcdgkodaa
open Go.RowKit Alm Sx
def UA (a b c d e f:Int):Prop:=(-5400000<=a/\a<=b/\b<=5400000)/\(-5400000<=c/\c<=d/\d<=5400000)/\(-1099511627776<=e/\e<=f/\f<=1099511627776)
instance (a b c d e f:Int):Decidable (UA a b c d e f):=by unfold UA;infer_instance
