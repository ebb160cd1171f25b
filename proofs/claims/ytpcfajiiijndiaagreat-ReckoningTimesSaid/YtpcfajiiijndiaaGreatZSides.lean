/- The reference's quick look at the side of a point. -/
import Derived.Test.YtpcfajiiijndiaaGreatZBigs
import Derived.Test.YtpcfajiiijndiaaGreatZDirs
import Derived.Test.YtpcfajiiijndiaaGreatZRefA
import Derived.Test.YtpcfajiiijndiaaGreatZSp
import Derived.Deep.QuietTactic
import Derived.BigQuiet
import Derived.Deep.DeepCutAuto
import Derived.Deep.RegionHeld3
set_option linter.unusedVariables false
set_option linter.unusedSimpArgs false
namespace Alm
end Alm
namespace Go.Proofs.YtpcfajiiijndiaaGreat
open Go.RowKit Alm Sx
end Go.Proofs.YtpcfajiiijndiaaGreat
namespace Go.Proofs.YtpcfajiiijndiaaGreat
open Go.RowKit Alm
end Go.Proofs.YtpcfajiiijndiaaGreat
namespace Go.Proofs.YtpcfajiiijndiaaGreat
open Go.RowKit Alm
end Go.Proofs.YtpcfajiiijndiaaGreat
namespace Go.Proofs.YtpcfajiiijndiaaGreat
open Go.RowKit Alm
