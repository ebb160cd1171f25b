/- The contracts of the reference's Sin and Cos, and of its Departure. -/
import Derived.Test.YtpcfajiiijndiaaZRefA
set_option linter.unusedVariables false
set_option linter.unusedSimpArgs false
namespace Go.Proofs.Ytpcfajiiijndiaa
open Go.RowKit Alm
