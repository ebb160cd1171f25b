/- The contract of the reference's Exact. -/
import Derived.Test.YtlloiallkcfomaaGreatRef4
set_option linter.unusedVariables false
set_option linter.unusedSimpArgs false
namespace Go.Proofs.YtlloiallkcfomaaGreat
open Go.RowKit Alm
theorem exact_not (n m : Int) (neg : Bool) (w : World) (ht : n.tmod 21600000 = if neg then m - 21600000 else m) (h0 : 0 ≤ m) (h1 : m < 21600000) (hm : m % 1800000 ≠ 0) :
    Calls Tryz.prog 194 #[.int .i64 n] w fun e w' => e = .returned (.tuple #[.int .i64 0, .bool false]) ∧ Below w.heap.size w w' := by
  have hb : (m % 1800000 == 0) = false := by simpa using hm
  have hb2 : (m % 1800000 != 0) = true := by simpa using hm
  cases neg
  all_goals
    simp only [if_true, if_false, Bool.false_eq_true] at ht
    go_enter Tryz.func194, Tryz.ntmps194
    go_wp2
    go_ret2
    exact ⟨rfl, by go_grown⟩
set_option maxHeartbeats 1000000 in
theorem exact_0 (n : Int) (w : World) (ht : n.tmod 21600000 = 0 ∨ n.tmod 21600000 = (-21600000)) :
    Calls Tryz.prog 194 #[.int .i64 n] w fun e w' => e = .returned (.tuple #[.int .i64 0, .bool true]) ∧ Below w.heap.size w w' := by
  rcases ht with ht | ht
  all_goals
    go_enter Tryz.func194, Tryz.ntmps194
    go_wp2
    go_ret2
    exact ⟨rfl, by go_grown⟩
set_option maxHeartbeats 1000000 in
theorem exact_1 (n : Int) (w : World) (ht : n.tmod 21600000 = 1800000 ∨ n.tmod 21600000 = (-19800000)) :
    Calls Tryz.prog 194 #[.int .i64 n] w fun e w' => e = .returned (.tuple #[.int .i64 536870912, .bool true]) ∧ Below w.heap.size w w' := by
  rcases ht with ht | ht
  all_goals
    go_enter Tryz.func194, Tryz.ntmps194
    go_wp2
    go_ret2
    exact ⟨rfl, by go_grown⟩
set_option maxHeartbeats 1000000 in
theorem exact_2 (n : Int) (w : World) (ht : n.tmod 21600000 = 3600000 ∨ n.tmod 21600000 = (-18000000)) :
    Calls Tryz.prog 194 #[.int .i64 n] w fun e w' => e = .returned (.tuple #[.int .i64 0, .bool false]) ∧ Below w.heap.size w w' := by
  rcases ht with ht | ht
  all_goals
    go_enter Tryz.func194, Tryz.ntmps194
    go_wp2
    go_ret2
    exact ⟨rfl, by go_grown⟩
set_option maxHeartbeats 1000000 in
theorem exact_3 (n : Int) (w : World) (ht : n.tmod 21600000 = 5400000 ∨ n.tmod 21600000 = (-16200000)) :
    Calls Tryz.prog 194 #[.int .i64 n] w fun e w' => e = .returned (.tuple #[.int .i64 1073741824, .bool true]) ∧ Below w.heap.size w w' := by
  rcases ht with ht | ht
  all_goals
    go_enter Tryz.func194, Tryz.ntmps194
    go_wp2
    go_ret2
    exact ⟨rfl, by go_grown⟩
set_option maxHeartbeats 1000000 in
theorem exact_4 (n : Int) (w : World) (ht : n.tmod 21600000 = 7200000 ∨ n.tmod 21600000 = (-14400000)) :
    Calls Tryz.prog 194 #[.int .i64 n] w fun e w' => e = .returned (.tuple #[.int .i64 0, .bool false]) ∧ Below w.heap.size w w' := by
  rcases ht with ht | ht
  all_goals
    go_enter Tryz.func194, Tryz.ntmps194
    go_wp2
    go_ret2
    exact ⟨rfl, by go_grown⟩
set_option maxHeartbeats 1000000 in
theorem exact_5 (n : Int) (w : World) (ht : n.tmod 21600000 = 9000000 ∨ n.tmod 21600000 = (-12600000)) :
    Calls Tryz.prog 194 #[.int .i64 n] w fun e w' => e = .returned (.tuple #[.int .i64 536870912, .bool true]) ∧ Below w.heap.size w w' := by
  rcases ht with ht | ht
  all_goals
    go_enter Tryz.func194, Tryz.ntmps194
    go_wp2
    go_ret2
    exact ⟨rfl, by go_grown⟩
set_option maxHeartbeats 1000000 in
theorem exact_6 (n : Int) (w : World) (ht : n.tmod 21600000 = 10800000 ∨ n.tmod 21600000 = (-10800000)) :
    Calls Tryz.prog 194 #[.int .i64 n] w fun e w' => e = .returned (.tuple #[.int .i64 0, .bool true]) ∧ Below w.heap.size w w' := by
  rcases ht with ht | ht
  all_goals
    go_enter Tryz.func194, Tryz.ntmps194
    go_wp2
    go_ret2
    exact ⟨rfl, by go_grown⟩
set_option maxHeartbeats 1000000 in
theorem exact_7 (n : Int) (w : World) (ht : n.tmod 21600000 = 12600000 ∨ n.tmod 21600000 = (-9000000)) :
    Calls Tryz.prog 194 #[.int .i64 n] w fun e w' => e = .returned (.tuple #[.int .i64 (-536870912), .bool true]) ∧ Below w.heap.size w w' := by
  rcases ht with ht | ht
  all_goals
    go_enter Tryz.func194, Tryz.ntmps194
    go_wp2
    go_ret2
    exact ⟨rfl, by go_grown⟩
set_option maxHeartbeats 1000000 in
theorem exact_8 (n : Int) (w : World) (ht : n.tmod 21600000 = 14400000 ∨ n.tmod 21600000 = (-7200000)) :
    Calls Tryz.prog 194 #[.int .i64 n] w fun e w' => e = .returned (.tuple #[.int .i64 0, .bool false]) ∧ Below w.heap.size w w' := by
  rcases ht with ht | ht
  all_goals
    go_enter Tryz.func194, Tryz.ntmps194
    go_wp2
    go_ret2
    exact ⟨rfl, by go_grown⟩
set_option maxHeartbeats 1000000 in
theorem exact_9 (n : Int) (w : World) (ht : n.tmod 21600000 = 16200000 ∨ n.tmod 21600000 = (-5400000)) :
    Calls Tryz.prog 194 #[.int .i64 n] w fun e w' => e = .returned (.tuple #[.int .i64 (-1073741824), .bool true]) ∧ Below w.heap.size w w' := by
  rcases ht with ht | ht
  all_goals
    go_enter Tryz.func194, Tryz.ntmps194
    go_wp2
    go_ret2
    exact ⟨rfl, by go_grown⟩
set_option maxHeartbeats 1000000 in
theorem exact_10 (n : Int) (w : World) (ht : n.tmod 21600000 = 18000000 ∨ n.tmod 21600000 = (-3600000)) :
    Calls Tryz.prog 194 #[.int .i64 n] w fun e w' => e = .returned (.tuple #[.int .i64 0, .bool false]) ∧ Below w.heap.size w w' := by
  rcases ht with ht | ht
  all_goals
    go_enter Tryz.func194, Tryz.ntmps194
    go_wp2
    go_ret2
    exact ⟨rfl, by go_grown⟩
set_option maxHeartbeats 1000000 in
theorem exact_11 (n : Int) (w : World) (ht : n.tmod 21600000 = 19800000 ∨ n.tmod 21600000 = (-1800000)) :
    Calls Tryz.prog 194 #[.int .i64 n] w fun e w' => e = .returned (.tuple #[.int .i64 (-536870912), .bool true]) ∧ Below w.heap.size w w' := by
  rcases ht with ht | ht
  all_goals
    go_enter Tryz.func194, Tryz.ntmps194
    go_wp2
    go_ret2
    exact ⟨rfl, by go_grown⟩
theorem turn_of (n c : Int) (h : wrapTurn n = c) : n.tmod 21600000 = c ∨ n.tmod 21600000 = c - 21600000 := by
  obtain ⟨h1, h2, h3, h4⟩ := tmod_turn n
  subst h
  by_cases h : 0 ≤ n.tmod 21600000
  · exact .inl (h1 h)
  · exact .inr (h2 (by omega))
theorem fold_of (n c : Int) (h : wrapTurn n = c) : foldQ n = (if 5400000 < (if 10800000 < c then c - 10800000 else c) then 10800000 - (if 10800000 < c then c - 10800000 else c) else (if 10800000 < c then c - 10800000 else c)) ∧ south n = decide (10800000 < c) := by
  subst h; exact ⟨rfl, rfl⟩
theorem bLo_of (n c : Int) (h : wrapTurn n = c) : bLo n = if decide (10800000 < c) then -(sinV (if 5400000 < (if 10800000 < c then c - 10800000 else c) then 10800000 - (if 10800000 < c then c - 10800000 else c) else (if 10800000 < c then c - 10800000 else c)) + if sinE (if 5400000 < (if 10800000 < c then c - 10800000 else c) then 10800000 - (if 10800000 < c then c - 10800000 else c) else (if 10800000 < c then c - 10800000 else c)) then 0 else 1) else sinV (if 5400000 < (if 10800000 < c then c - 10800000 else c) then 10800000 - (if 10800000 < c then c - 10800000 else c) else (if 10800000 < c then c - 10800000 else c)) := by
  subst h; rfl
/-- what Exact gives -/
def exR (n : Int) : Value := if sinE (foldQ n) then .tuple #[.int .i64 (bLo n), .bool true] else .tuple #[.int .i64 0, .bool false]
theorem c_Exact (n : Int) (w : World) :
    Calls Tryz.prog 194 #[.int .i64 n] w fun e w' => e = .returned (exR n) ∧ Below w.heap.size w w' := by
  obtain ⟨h1, h2, h3, h4⟩ := tmod_turn n
  by_cases hm : wrapTurn n % 1800000 = 0
  · have hk : wrapTurn n = 0 ∨ wrapTurn n = 1800000 ∨ wrapTurn n = 3600000 ∨ wrapTurn n = 5400000 ∨ wrapTurn n = 7200000 ∨ wrapTurn n = 9000000 ∨ wrapTurn n = 10800000 ∨ wrapTurn n = 12600000 ∨ wrapTurn n = 14400000 ∨ wrapTurn n = 16200000 ∨ wrapTurn n = 18000000 ∨ wrapTurn n = 19800000 := by omega
    unfold exR
    rcases hk with h | h | h | h | h | h | h | h | h | h | h | h
    · rw [(fold_of n _ h).1, bLo_of n _ h]; exact exact_0 n w (turn_of n _ h)
    · rw [(fold_of n _ h).1, bLo_of n _ h]; exact exact_1 n w (turn_of n _ h)
    · rw [(fold_of n _ h).1, bLo_of n _ h]; exact exact_2 n w (turn_of n _ h)
    · rw [(fold_of n _ h).1, bLo_of n _ h]; exact exact_3 n w (turn_of n _ h)
    · rw [(fold_of n _ h).1, bLo_of n _ h]; exact exact_4 n w (turn_of n _ h)
    · rw [(fold_of n _ h).1, bLo_of n _ h]; exact exact_5 n w (turn_of n _ h)
    · rw [(fold_of n _ h).1, bLo_of n _ h]; exact exact_6 n w (turn_of n _ h)
    · rw [(fold_of n _ h).1, bLo_of n _ h]; exact exact_7 n w (turn_of n _ h)
    · rw [(fold_of n _ h).1, bLo_of n _ h]; exact exact_8 n w (turn_of n _ h)
    · rw [(fold_of n _ h).1, bLo_of n _ h]; exact exact_9 n w (turn_of n _ h)
    · rw [(fold_of n _ h).1, bLo_of n _ h]; exact exact_10 n w (turn_of n _ h)
    · rw [(fold_of n _ h).1, bLo_of n _ h]; exact exact_11 n w (turn_of n _ h)
  · have e : exR n = .tuple #[.int .i64 0, .bool false] := by
      have hf : sinE (foldQ n) = false := by
        rw [(fold_of n _ rfl).1]
        unfold sinE
        generalize wrapTurn n = c at *
        split <;> split <;> simp <;> omega
      unfold exR; rw [hf]; rfl
    rw [e]
    by_cases h : 0 ≤ n.tmod 21600000
    · exact exact_not n (wrapTurn n) false w (by rw [h1 h]; rfl) h3 h4 hm
    · exact exact_not n (wrapTurn n) true w (by rw [h2 (by omega)]; rfl) h3 h4 hm
end Go.Proofs.YtlloiallkcfomaaGreat
