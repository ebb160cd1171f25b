/- The contracts of the reference's quick sines. -/
import Derived.Test.YtgmncdmcdgkodaaGreatZVecs
import Derived.Test.YtgmncdmcdgkodaaGreatZNums
set_option linter.unusedVariables false
set_option linter.unusedSimpArgs false
namespace Go.Proofs.YtgmncdmcdgkodaaGreat
open Go.RowKit Alm
end Go.Proofs.YtgmncdmcdgkodaaGreat
namespace Go.Proofs.YtgmncdmcdgkodaaGreat
open Go.RowKit Alm
end Go.Proofs.YtgmncdmcdgkodaaGreat
namespace Go.Proofs.YtgmncdmcdgkodaaGreat
open Go.RowKit Alm
end Go.Proofs.YtgmncdmcdgkodaaGreat
namespace Go.Proofs.YtgmncdmcdgkodaaGreat
open Go.RowKit Alm
end Go.Proofs.YtgmncdmcdgkodaaGreat
namespace Go.Proofs.YtgmncdmcdgkodaaGreat
open Go.RowKit Alm
def bn (lo hi:Int):Int:=fK (lo+5400000) (hi+5400000)
def aY (lo hi:Int):Int:=fM (lo+5400000) (hi+5400000)
