/- The contracts of the reference's functions on integers and intervals. -/
import Derived.Test.YtpcfajiiijndiaaZVecs
import Derived.Test.YtpcfajiiijndiaaZFixed2
import Derived.Test.YtpcfajiiijndiaaZKp
set_option linter.unusedVariables false
set_option linter.unusedSimpArgs false
namespace Go.Proofs.Ytpcfajiiijndiaa
open Go.RowKit Alm
end Go.Proofs.Ytpcfajiiijndiaa
namespace Go.Proofs.Ytpcfajiiijndiaa
open Go.RowKit Alm
