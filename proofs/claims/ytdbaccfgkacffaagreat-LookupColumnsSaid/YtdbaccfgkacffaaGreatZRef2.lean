/- The contracts of the reference's Scale and Product. -/
import Derived.Test.YtdbaccfgkacffaaGreatZRef1
set_option linter.unusedVariables false
set_option linter.unusedSimpArgs false
namespace Go.Proofs.YtdbaccfgkacffaaGreat
open Go.RowKit Alm
theorem uY (x n d:Int):qFl x (-n) d=-qCe x n d:=by unfold qFl qCe;rw [Int.mul_neg,Int.neg_neg]
