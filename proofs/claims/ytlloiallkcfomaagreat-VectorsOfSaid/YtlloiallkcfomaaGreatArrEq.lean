/- '==' on arrays of four words. -/
import Derived.Test.YtlloiallkcfomaaGreatBits
import Derived.Laws.StructEq
set_option linter.unusedVariables false
set_option linter.unusedSimpArgs false
namespace Go.Proofs.YtlloiallkcfomaaGreat
open Go.RowKit
theorem u64_eq (w : World) (d : Nat) (a b : Int) : (Op.equalIn (d + 1) /-T-/ 166 (.int .u64 a) (.int .u64 b)).run Tryz.prog w = .ok (a == b) w := run_equalIn_int w d _ .u64 .u64 _ _ Tryz.underlying166
theorem arr_eq_in (w : World) (d : Nat) (hu : ∀ w (a b : Int), (Op.equalIn d /-T-/ 166 (.int .u64 a) (.int .u64 b)).run Tryz.prog w = .ok (a == b) w) (a0 a1 a2 a3 b0 b1 b2 b3 : Int) : (Op.equalIn (d + 1) /-T-/ 177 (.agg #[.int .u64 a0, .int .u64 a1, .int .u64 a2, .int .u64 a3]) (.agg #[.int .u64 b0, .int .u64 b1, .int .u64 b2, .int .u64 b3])).run Tryz.prog w = .ok (a0 == b0 && (a1 == b1 && (a2 == b2 && a3 == b3))) w := by
  have hs : ∀ w, (sizeOf /-T-/ 166).run Tryz.prog w = .ok 1 w := fun _ => by kernel_rfl
  have hg : ∀ w, (isAgg /-T-/ 166).run Tryz.prog w = .ok false w := fun _ => by kernel_rfl
  simp only [Op.equalIn, Sem.run_bind, run_underlying Tryz.underlying177, Result.andThen_ok, hs]
  simp [Std.Legacy.Range.forIn_eq_forIn_range', Std.Legacy.Range.size, List.range', part, hg, hu]
  by_cases h0 : a0 = b0 <;> by_cases h1 : a1 = b1 <;> by_cases h2 : a2 = b2 <;> by_cases h3 : a3 = b3 <;> simp [h0, h1, h2, h3, hu, hg, part]
theorem arr_neq (w : World) (a0 a1 a2 a3 b0 b1 b2 b3 : Int) : (binOp .neq /-T-/ 177 (.agg #[.int .u64 a0, .int .u64 a1, .int .u64 a2, .int .u64 a3]) (.agg #[.int .u64 b0, .int .u64 b1, .int .u64 b2, .int .u64 b3])).run Tryz.prog w = .ok (.bool (!(a0 == b0 && (a1 == b1 && (a2 == b2 && a3 == b3))))) w := by
  rw [run_neq_struct, arr_eq_in w 9999 (fun w a b => u64_eq w 9998 a b)]; rfl
end Go.Proofs.YtlloiallkcfomaaGreat
