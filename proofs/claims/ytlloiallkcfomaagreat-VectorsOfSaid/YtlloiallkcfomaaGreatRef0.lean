/- The contracts of the reference of package fixed: least, most, floor. -/
import Derived.Test.YtlloiallkcfomaaGreatMid3
import Derived.Test.YtlloiallkcfomaaGreatKeep
set_option linter.unusedVariables false
set_option linter.unusedSimpArgs false
namespace Go.Proofs.YtlloiallkcfomaaGreat
open Go.RowKit Alm
theorem c_Least (a b : Int) (w : World) :
    Calls Tryz.prog 107 #[.int .i64 a, .int .i64 b] w fun e w' => e = .returned (.int .i64 (min a b)) ∧ w = w' := by
  go_enter Tryz.func107, Tryz.ntmps107
  go_wp2
  all_goals
    go_ret
    exact ⟨ret_int (by go_light; omega), rfl⟩
theorem c_Most (a b : Int) (w : World) :
    Calls Tryz.prog 108 #[.int .i64 a, .int .i64 b] w fun e w' => e = .returned (.int .i64 (max a b)) ∧ w = w' := by
  go_enter Tryz.func108, Tryz.ntmps108
  go_wp2
  all_goals
    go_ret
    exact ⟨ret_int (by go_light; omega), rfl⟩
theorem tdiv_floor (a b : Int) (hb : 0 < b) : (a.tmod b < 0 → a.tdiv b - 1 = a / b) ∧ (0 ≤ a.tmod b → a.tdiv b = a / b) := by
  have h1 := Int.mul_tdiv_add_tmod a b
  have h2 := Int.tmod_lt_of_pos a hb
  have h3 : -b < a.tmod b := by
    by_cases ha : 0 ≤ a
    · have := Int.tmod_nonneg b ha; omega
    · have h := Int.neg_tmod (-a) b
      rw [Int.neg_neg] at h
      have := Int.tmod_lt_of_pos (-a) hb
      omega
  constructor
  · intro h
    have e : a = b * (a.tdiv b - 1) + (a.tmod b + b) := by grind
    have := div_key b (a.tdiv b - 1) (a.tmod b + b) hb (by omega) (by omega)
    rw [← e] at this; omega
  · intro h
    have := div_key b (a.tdiv b) (a.tmod b) hb h h2
    rw [h1] at this; omega
theorem tdiv_bd (a b : Int) (hb : 0 < b) (M : Int) (h1 : -M ≤ a) (h2 : a ≤ M) : -M ≤ a.tdiv b ∧ a.tdiv b ≤ M := by
  have hM : 0 ≤ M := by omega
  have h : (a.tdiv b).natAbs = a.natAbs / b.natAbs := Int.natAbs_tdiv a b
  have h3 : a.natAbs / b.natAbs ≤ a.natAbs := Nat.div_le_self _ _
  generalize a.natAbs / b.natAbs = q at *
  omega
theorem c_r4Floor (a b : Int) (w : World) (h1 : -4611686018427387904 ≤ a) (h2 : a ≤ 4611686018427387904) (hb : 0 < b) (hb2 : b ≤ 4611686018427387904) :
    Calls Tryz.prog 159 #[.int .i64 a, .int .i64 b] w fun e w' => e = .returned (.int .i64 (a / b)) ∧ w = w' := by
  have hf := Lib.hid (tdiv_floor a b hb)
  obtain ⟨t1, t2⟩ := tdiv_bd a b hb 4611686018427387904 h1 h2
  have hbz : ¬ b = 0 := by omega
  generalize hF : a / b = F at *
  have HF := Lib.hid hF; clear hF
  go_enter Tryz.func159, Tryz.ntmps159
  go_wp2
  · go_ret
    exact ⟨ret_int (hf.out.1 (by assumption)), rfl⟩
  · go_ret
    exact ⟨ret_int (hf.out.2 (by assumption)), rfl⟩
theorem div_bd (P y B : Int) (hy : 0 < y) (h1 : -B ≤ P) (h2 : P ≤ B) : -B ≤ P / y ∧ P / y ≤ B := by
  have hb := qFl_bd P 1 y B (by omega) (by simp; omega)
  unfold qFl at hb; rw [Int.mul_one] at hb; omega
end Go.Proofs.YtlloiallkcfomaaGreat
