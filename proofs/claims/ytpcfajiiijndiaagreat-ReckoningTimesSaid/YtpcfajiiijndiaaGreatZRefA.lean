/- The contracts of the reference's quick sines. -/
import Derived.Test.YtpcfajiiijndiaaGreatZVecs
import Derived.Test.YtpcfajiiijndiaaGreatZNums
set_option linter.unusedVariables false
set_option linter.unusedSimpArgs false
namespace Go.Proofs.YtpcfajiiijndiaaGreat
open Go.RowKit Alm
end Go.Proofs.YtpcfajiiijndiaaGreat
namespace Go.Proofs.YtpcfajiiijndiaaGreat
open Go.RowKit Alm
end Go.Proofs.YtpcfajiiijndiaaGreat
namespace Go.Proofs.YtpcfajiiijndiaaGreat
open Go.RowKit Alm
end Go.Proofs.YtpcfajiiijndiaaGreat
namespace Go.Proofs.YtpcfajiiijndiaaGreat
open Go.RowKit Alm
end Go.Proofs.YtpcfajiiijndiaaGreat
namespace Go.Proofs.YtpcfajiiijndiaaGreat
open Go.RowKit Alm
def aZ (lo hi:Int):Int:=fC (lo+5400000) (hi+5400000)
def aV (lo hi:Int):Int:=fA (lo+5400000) (hi+5400000)
