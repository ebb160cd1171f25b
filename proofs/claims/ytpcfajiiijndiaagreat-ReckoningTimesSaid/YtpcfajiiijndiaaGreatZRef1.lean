/- The contracts of the reference's functions on integers and intervals. -/
import Derived.Test.YtpcfajiiijndiaaGreatZVecs
import Derived.Test.YtpcfajiiijndiaaGreatZFixed2
import Derived.Test.YtpcfajiiijndiaaGreatZKp
set_option linter.unusedVariables false
set_option linter.unusedSimpArgs false
namespace Go.Proofs.YtpcfajiiijndiaaGreat
open Go.RowKit Alm
theorem sw (lo hi:Int) (w:World) :
 Calls Tryz.prog 17 #[.agg #[.int .i64 lo,.int .i64 hi]] w fun e w'=>e=.returned (.bool (aL lo hi))/\Below w.heap.size w w':=by
 go_enter Tryz.func17,Tryz.ntmps17;go_wp2
 all_goals
  go_ret;exact ⟨bY (by unfold aL;rw [Bool.eq_iff_iff];simp<;>omega),by go_grown⟩
end Go.Proofs.YtpcfajiiijndiaaGreat
namespace Go.Proofs.YtpcfajiiijndiaaGreat
open Go.RowKit Alm
