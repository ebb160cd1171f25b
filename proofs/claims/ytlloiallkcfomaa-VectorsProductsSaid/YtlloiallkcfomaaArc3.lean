/- The contracts of package arctrig's numbers: comparison, pi. -/
import Derived.Test.YtlloiallkcfomaaArc2
set_option linter.unusedVariables false
set_option linter.unusedSimpArgs false
namespace Go.Proofs.Ytlloiallkcfomaa
open Go.RowKit Alm
theorem ret_boolA {a b : Bool} (h : a = b) : Ending.returned (.bool a) = .returned (.bool b) := by rw [h]
set_option maxRecDepth 100000 in
set_option maxHeartbeats 1000000 in
theorem less_0 (a0 a1 a2 a3 b0 b1 b2 b3 : Int) (w : World) (h : a0 ≠ b0) :
    Calls Try.prog 168 #[.agg #[.int .u64 a0, .int .u64 a1, .int .u64 a2, .int .u64 a3], .agg #[.int .u64 b0, .int .u64 b1, .int .u64 b2, .int .u64 b3]] w fun e w' => e = .returned (.bool (decide (a0 < b0))) ∧ Below w.heap.size w w' := by
  have h1 : (a0 != b0) = true := by simpa using h
  have h2 : (a0 == b0) = false := by simpa using h
  have h3 : decide (a0 = b0) = false := by simpa using h
  clear h
  go_enter Try.func168, Try.ntmps168
  go_wp2
  refine wp_loop_rounds 5 ?_
  rw [rounds_succ]
  go_wp2
  go_region
  go_wp2
  go_region
  go_wp2
  go_ret
  exact ⟨rfl, by go_grown⟩
set_option maxRecDepth 100000 in
set_option maxHeartbeats 1000000 in
theorem less_1 (a0 a1 a2 a3 b1 b2 b3 : Int) (w : World) (h : a1 ≠ b1) :
    Calls Try.prog 168 #[.agg #[.int .u64 a0, .int .u64 a1, .int .u64 a2, .int .u64 a3], .agg #[.int .u64 a0, .int .u64 b1, .int .u64 b2, .int .u64 b3]] w fun e w' => e = .returned (.bool (decide (a1 < b1))) ∧ Below w.heap.size w w' := by
  have h1 : (a1 != b1) = true := by simpa using h
  have h2 : (a1 == b1) = false := by simpa using h
  have h3 : decide (a1 = b1) = false := by simpa using h
  clear h
  go_enter Try.func168, Try.ntmps168
  go_wp2
  refine wp_loop_rounds 5 ?_
  rw [rounds_succ]
  go_wp2
  go_region
  go_wp2
  rw [rounds_succ]
  go_wp2
  go_region
  go_wp2
  go_region
  go_wp2
  go_ret
  exact ⟨rfl, by go_grown⟩
set_option maxRecDepth 100000 in
set_option maxHeartbeats 1000000 in
theorem less_2 (a0 a1 a2 a3 b2 b3 : Int) (w : World) (h : a2 ≠ b2) :
    Calls Try.prog 168 #[.agg #[.int .u64 a0, .int .u64 a1, .int .u64 a2, .int .u64 a3], .agg #[.int .u64 a0, .int .u64 a1, .int .u64 b2, .int .u64 b3]] w fun e w' => e = .returned (.bool (decide (a2 < b2))) ∧ Below w.heap.size w w' := by
  have h1 : (a2 != b2) = true := by simpa using h
  have h2 : (a2 == b2) = false := by simpa using h
  have h3 : decide (a2 = b2) = false := by simpa using h
  clear h
  go_enter Try.func168, Try.ntmps168
  go_wp2
  refine wp_loop_rounds 5 ?_
  rw [rounds_succ]
  go_wp2
  go_region
  go_wp2
  rw [rounds_succ]
  go_wp2
  go_region
  go_wp2
  rw [rounds_succ]
  go_wp2
  go_region
  go_wp2
  go_region
  go_wp2
  go_ret
  exact ⟨rfl, by go_grown⟩
set_option maxRecDepth 100000 in
set_option maxHeartbeats 1000000 in
theorem less_3 (a0 a1 a2 a3 b3 : Int) (w : World) (h : a3 ≠ b3) :
    Calls Try.prog 168 #[.agg #[.int .u64 a0, .int .u64 a1, .int .u64 a2, .int .u64 a3], .agg #[.int .u64 a0, .int .u64 a1, .int .u64 a2, .int .u64 b3]] w fun e w' => e = .returned (.bool (decide (a3 < b3))) ∧ Below w.heap.size w w' := by
  have h1 : (a3 != b3) = true := by simpa using h
  have h2 : (a3 == b3) = false := by simpa using h
  have h3 : decide (a3 = b3) = false := by simpa using h
  clear h
  go_enter Try.func168, Try.ntmps168
  go_wp2
  refine wp_loop_rounds 5 ?_
  rw [rounds_succ]
  go_wp2
  go_region
  go_wp2
  rw [rounds_succ]
  go_wp2
  go_region
  go_wp2
  rw [rounds_succ]
  go_wp2
  go_region
  go_wp2
  rw [rounds_succ]
  go_wp2
  go_region
  go_wp2
  go_region
  go_wp2
  go_ret
  exact ⟨rfl, by go_grown⟩
set_option maxRecDepth 100000 in
set_option maxHeartbeats 1000000 in
theorem less_4 (a0 a1 a2 a3 : Int) (w : World) :
    Calls Try.prog 168 #[.agg #[.int .u64 a0, .int .u64 a1, .int .u64 a2, .int .u64 a3], .agg #[.int .u64 a0, .int .u64 a1, .int .u64 a2, .int .u64 a3]] w fun e w' => e = .returned (.bool false) ∧ Below w.heap.size w w' := by
  go_enter Try.func168, Try.ntmps168
  go_wp2
  refine wp_loop_rounds 5 ?_
  rw [rounds_succ]
  go_wp2
  go_region
  go_wp2
  rw [rounds_succ]
  go_wp2
  go_region
  go_wp2
  rw [rounds_succ]
  go_wp2
  go_region
  go_wp2
  rw [rounds_succ]
  go_wp2
  go_region
  go_wp2
  rw [rounds_succ]
  go_wp2
  go_ret
  exact ⟨rfl, by go_grown⟩
theorem c_aless (A B : Nat) (hA : A < W) (hB : B < W) (w : World) :
    Calls Try.prog 168 #[.agg #[.int .u64 (nl A 0), .int .u64 (nl A 1), .int .u64 (nl A 2), .int .u64 (nl A 3)], .agg #[.int .u64 (nl B 0), .int .u64 (nl B 1), .int .u64 (nl B 2), .int .u64 (nl B 3)]] w fun e w' =>
      e = .returned (.bool (decide (A < B))) ∧ Below w.heap.size w w' := by
  rw [← lexB_nl A B hA hB]
  generalize nl A 0 = a0 at *
  generalize nl A 1 = a1 at *
  generalize nl A 2 = a2 at *
  generalize nl A 3 = a3 at *
  generalize nl B 0 = b0 at *
  generalize nl B 1 = b1 at *
  generalize nl B 2 = b2 at *
  generalize nl B 3 = b3 at *
  by_cases h0 : a0 = b0
  · subst h0
    by_cases h1 : a1 = b1
    · subst h1
      by_cases h2 : a2 = b2
      · subst h2
        by_cases h3 : a3 = b3
        · subst h3
          exact (less_4 a0 a1 a2 a3 w).mono fun e w' ⟨he, hb⟩ => ⟨by rw [he]; exact ret_boolA (by unfold lexB; simp), hb⟩
        · exact (less_3 a0 a1 a2 a3 b3 w h3).mono fun e w' ⟨he, hb⟩ => ⟨by rw [he]; exact ret_boolA (by unfold lexB; simp), hb⟩
      · exact (less_2 a0 a1 a2 a3 b2 b3 w h2).mono fun e w' ⟨he, hb⟩ => ⟨by rw [he]; exact ret_boolA (by unfold lexB; simp [h2]), hb⟩
    · exact (less_1 a0 a1 a2 a3 b1 b2 b3 w h1).mono fun e w' ⟨he, hb⟩ => ⟨by rw [he]; exact ret_boolA (by unfold lexB; simp [h1]), hb⟩
  · exact (less_0 a0 a1 a2 a3 b0 b1 b2 b3 w h0).mono fun e w' ⟨he, hb⟩ => ⟨by rw [he]; exact ret_boolA (by unfold lexB; simp [h0]), hb⟩
theorem PiA_lt : PiA < W := by unfold PiA W; decide +kernel
theorem c_api (w : World) :
    Calls Try.prog 176 #[] w fun e w' => e = .returned (.agg #[.int .u64 (nl PiA 0), .int .u64 (nl PiA 1), .int .u64 (nl PiA 2), .int .u64 (nl PiA 3)]) ∧ Below w.heap.size w w' := by
  have e0 : nl PiA 0 = 3 := by unfold nl PiA; decide +kernel
  have e1 : nl PiA 1 = 2611923443488327891 := by unfold nl PiA; decide +kernel
  have e2 : nl PiA 2 = 1376283091369227076 := by unfold nl PiA; decide +kernel
  have e3 : nl PiA 3 = 11820040416388919760 := by unfold nl PiA; decide +kernel
  rw [e0, e1, e2, e3]
  clear e0 e1 e2 e3
  go_enter Try.func176, Try.ntmps176
  go_wp2
  refine bodyPost_ret (by simp [results, Try.results176, go_sem]; try rfl) rfl ⟨rfl, by go_grown⟩
end Go.Proofs.Ytlloiallkcfomaa
