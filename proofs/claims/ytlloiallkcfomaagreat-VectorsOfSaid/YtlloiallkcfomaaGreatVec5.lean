/- The contract of package fixed's root of an integer. -/
import Derived.Test.YtlloiallkcfomaaGreatVec2
import Derived.Deep.Light
set_option linter.unusedVariables false
set_option linter.unusedSimpArgs false
namespace Alm
/-- the root, by its bits -/
def rtF : Nat → Int → Int → Int
  | 0, k, _ => k
  | j + 1, k, n => if (k + 2^j) * (k + 2^j) ≤ n then rtF j (k + 2^j) n else rtF j k n
def rtV (n : Int) : Int := rtF 32 0 n
theorem rtF_succ (j : Nat) (k n : Int) : rtF (j + 1) k n = if (k + 2^j) * (k + 2^j) ≤ n then rtF j (k + 2^j) n else rtF j k n := rfl
theorem rtF_is (j : Nat) (k n : Int) (h0 : 0 ≤ k) (h1 : k * k ≤ n) (h2 : n < (k + 2^j) * (k + 2^j)) : 0 ≤ rtF j k n ∧ rtF j k n * rtF j k n ≤ n ∧ n < (rtF j k n + 1) * (rtF j k n + 1) := by
  induction j generalizing k with
  | zero => simpa [rtF] using ⟨h0, h1, h2⟩
  | succ j ih =>
    rw [rtF_succ]
    have hp : (0 : Int) < 2^j := Int.pow_pos (by decide)
    have e : (2 : Int)^(j + 1) = 2^j + 2^j := by rw [Int.pow_succ]; omega
    rw [e] at h2
    split
    · rename_i h
      exact ih (k + 2^j) (by omega) h (by rw [show k + 2^j + 2^j = k + (2^j + 2^j) by omega]; exact h2)
    · rename_i h
      exact ih k h0 h1 (by omega)
theorem rtV_is (n : Int) (h0 : 0 ≤ n) (h1 : n ≤ 2305843009213693952) : 0 ≤ rtV n ∧ rtV n * rtV n ≤ n ∧ n < (rtV n + 1) * (rtV n + 1) :=
  rtF_is 32 0 n (by omega) (by omega) (by simp; omega)
/-- what holds in the loop -/
def RtI (n k b : Int) : Prop := ∃ j : Nat, j ≤ 32 ∧ b = (if j = 0 then 0 else 2^(j - 1)) ∧ rtF j k n = rtV n ∧ 0 ≤ k ∧ k * k ≤ n ∧ (j = 32 → k = 0)
theorem sq_le (k M : Int) (hM : 0 ≤ M) (h0 : 0 ≤ k) (h : k * k ≤ M * M) : k ≤ M := by
  apply Decidable.byContradiction
  intro hn
  have h1 : (M + 1) * (M + 1) ≤ k * k := Int.mul_le_mul (by omega) (by omega) (by omega) (by omega)
  have : (M + 1) * (M + 1) = M * M + 2 * M + 1 := by grind
  omega
theorem rtI_bd {n k b : Int} (h : RtI n k b) (hn : n ≤ 2305843009213693952) : 0 ≤ b ∧ b ≤ 2147483648 ∧ 0 ≤ k ∧ k ≤ 1518500250 ∧ 0 ≤ (k + b) * (k + b) ∧ (k + b) * (k + b) ≤ 6737000000000000000 := by
  obtain ⟨j, hj, hb, _, h0, h1, h2⟩ := h
  have hk : k ≤ 1518500250 := sq_le k 1518500250 (by omega) h0 (by omega)
  by_cases e : j = 32
  · subst e
    obtain rfl := h2 rfl
    simp at hb; subst hb
    omega
  · have hb2 : 0 ≤ b ∧ b ≤ 1073741824 := by
      rw [hb]; split
      · omega
      · have hp : (2 : Int)^(j - 1) ≤ 2^30 := by
          have := Nat.pow_le_pow_right (show 0 < 2 by omega) (show j - 1 ≤ 30 by omega)
          exact_mod_cast this
        have hp0 : (0 : Int) < 2^(j - 1) := Int.pow_pos (by decide)
        omega
    have m := Int.mul_le_mul (show k + b ≤ 2592242074 by omega) (show k + b ≤ 2592242074 by omega) (by omega) (by omega)
    have m0 := Int.mul_nonneg (show 0 ≤ k + b by omega) (show 0 ≤ k + b by omega)
    omega
theorem rtI_next {n k b : Int} (h : RtI n k b) (hb : 0 < b) : ((k + b) * (k + b) ≤ n → RtI n (k + b) (b / 2)) ∧ (n < (k + b) * (k + b) → 2305843009213693952 < 4611686018427387904 → RtI n k (b / 2)) := by
  obtain ⟨j, hj, hb2, hr, h0, h1, h2⟩ := h
  cases j with
  | zero => simp at hb2; omega
  | succ j =>
    simp at hb2
    subst hb2
    have e2 : (2 : Int)^j / 2 = if j = 0 then 0 else 2^(j - 1) := by
      cases j with
      | zero => rfl
      | succ j => simp [Int.pow_succ]
    rw [rtF_succ] at hr
    constructor
    · intro hc
      rw [if_pos hc] at hr
      exact ⟨j, by omega, e2, hr, by have : (0 : Int) < 2^j := Int.pow_pos (by decide); omega, hc, by omega⟩
    · intro hc _
      rw [if_neg (by omega)] at hr
      exact ⟨j, by omega, e2, hr, h0, h1, by omega⟩
theorem rtI_done {n k : Int} (h : RtI n k 0) : k = rtV n := by
  obtain ⟨j, hj, hb2, hr, h0, h1, h2⟩ := h
  cases j with
  | zero => exact hr
  | succ j => simp at hb2; have : (0 : Int) < 2^j := Int.pow_pos (by decide); omega
end Alm
namespace Go.Proofs.YtlloiallkcfomaaGreat
open Go.RowKit Alm
set_option maxRecDepth 100000 in
theorem c_root (n : Int) (w : World) (h0 : 0 ≤ n) (h1 : n ≤ 2305843009213693952) :
    Calls Tryz.prog 164 #[.int .i64 n] w fun e w' => e = .returned (.int .i64 (rtV n)) ∧ w = w' := by
  have R0 : Hid (RtI n 0 2147483648) := ⟨32, by omega, by simp, rfl, by omega, by omega, fun _ => rfl⟩
  have H1 := Lib.hid h1
  clear h1
  go_enter Tryz.func164, Tryz.ntmps164
  go_wp2
  go_loop [3, 4] (fun v3 v4 => ∃ k b : Int, v3 = .int .i64 k ∧ v4 = .int .i64 b ∧ RtI n k b) (fun _ v4 => (intOf v4).toNat)
  case atStart => exact ⟨0, 2147483648, rfl, rfl, R0.out⟩
  case round =>
    obtain ⟨k, b, rfl, rfl, hI⟩ := hrel
    obtain ⟨b1, b2, b3, b4, b5, b6⟩ := rtI_bd hI H1.out
    have HI := Lib.hid hI; clear hI R0
    by_cases hb : 0 < b
    · have NX := Lib.hid (rtI_next HI.out hb)
      clear HI
      by_cases hc : (k + b) * (k + b) ≤ n
      · go_wp2
        go_light
        exact ⟨⟨k + b, b / 2, rfl, rfl, NX.out.1 hc⟩, by simp only [intOf]; omega⟩
      · have hc2 : n < (k + b) * (k + b) := by omega
        go_wp2
        go_light
        exact ⟨⟨k, b / 2, rfl, rfl, NX.out.2 hc2 (by omega)⟩, by simp only [intOf]; omega⟩
    · have hb0 : b = 0 := by omega
      subst hb0
      have FIN := Lib.hid (rtI_done HI.out)
      go_wp2
      go_ret
      exact ⟨ret_int FIN.out, rfl⟩
end Go.Proofs.YtlloiallkcfomaaGreat
