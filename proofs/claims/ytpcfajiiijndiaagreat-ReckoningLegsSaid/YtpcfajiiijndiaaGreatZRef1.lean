/- The contracts of the reference's functions on integers and intervals. -/
import Derived.Test.YtpcfajiiijndiaaGreatZVecs
import Derived.Test.YtpcfajiiijndiaaGreatZFixed2
import Derived.Test.YtpcfajiiijndiaaGreatZKp
set_option linter.unusedVariables false
set_option linter.unusedSimpArgs false
namespace Go.Proofs.YtpcfajiiijndiaaGreat
open Go.RowKit Alm
end Go.Proofs.YtpcfajiiijndiaaGreat
namespace Go.Proofs.YtpcfajiiijndiaaGreat
open Go.RowKit Alm
