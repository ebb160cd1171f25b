/- The contracts of the reference's functions on integers and intervals. -/
import Derived.Test.YtgmncdmcdgkodaaGreatZVecs
import Derived.Test.YtgmncdmcdgkodaaGreatZFixed2
import Derived.Test.YtgmncdmcdgkodaaGreatZKp
set_option linter.unusedVariables false
set_option linter.unusedSimpArgs false
namespace Go.Proofs.YtgmncdmcdgkodaaGreat
open Go.RowKit Alm
theorem kT (lo hi:Int) (w:World) :
 Calls Tryz.prog 10 #[.agg #[.int .i64 lo,.int .i64 hi]] w fun e w'=>e=.returned (.bool (aC lo hi))/\Below w.heap.size w w':=by
 go_enter Tryz.func10,Tryz.ntmps10;go_wp2
 all_goals
  go_ret;exact ⟨bV (by unfold aC;rw [Bool.eq_iff_iff];simp<;>omega),by go_grown⟩
end Go.Proofs.YtgmncdmcdgkodaaGreat
namespace Go.Proofs.YtgmncdmcdgkodaaGreat
open Go.RowKit Alm
