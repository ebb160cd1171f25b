/- Plain numbers: a round of the reference's quick series. -/
import Derived.Test.YtlloiallkcfomaaGreatNum12
set_option linter.unusedVariables false
namespace Alm
theorem q_round (i j0 d : Nat) (T sq : Nat) (S tot : Int) (hj : j0 ≤ 1) (hd : d = j0 + 1 + 4 * i) (hs : sq ≤ 2^62) (e : S + aN (34 - 2 * i) T sq (j0 + 4 * i) = tot) (h : T * 16^i ≤ 2^62) (hS : 0 ≤ S) (hST : S + T ≤ 4611686018427387904) (hT : 0 < T) :
    d ≤ 70 ∧ highN T sq / (d * (d + 1)) ≤ T ∧ highN (highN T sq / (d * (d + 1))) sq / ((d + 2) * (d + 3)) < T ∧ (d + 4 = j0 + 1 + 4 * (i + 1)) ∧
    (S + T - (highN T sq / (d * (d + 1)) : Nat)) + aN (34 - 2 * (i + 1)) (highN (highN T sq / (d * (d + 1))) sq / ((d + 2) * (d + 3))) sq (j0 + 4 * (i + 1)) = tot ∧
    highN (highN T sq / (d * (d + 1))) sq / ((d + 2) * (d + 3)) * 16^(i + 1) ≤ 2^62 ∧ 0 ≤ S + T - (highN T sq / (d * (d + 1)) : Nat) ∧
    S + T - (highN T sq / (d * (d + 1)) : Nat) + (highN (highN T sq / (d * (d + 1))) sq / ((d + 2) * (d + 3)) : Nat) ≤ 4611686018427387904 := by
  have hi : i ≤ 15 := by
    apply Decidable.byContradiction
    intro hn
    have h1 : 16^16 ≤ 16^i := Nat.pow_le_pow_right (by omega) (by omega)
    have h2 : 1 * 16^i ≤ T * 16^i := Nat.mul_le_mul_right _ hT
    omega
  have k1 := highN_le T sq hs
  have hD1 : 2 ≤ d * (d + 1) := Nat.mul_le_mul (show 1 ≤ d by omega) (show 2 ≤ d + 1 by omega)
  have hD2 : 12 ≤ (d + 2) * (d + 3) := Nat.mul_le_mul (show 3 ≤ d + 2 by omega) (show 4 ≤ d + 3 by omega)
  have t1 : highN T sq / (d * (d + 1)) * 2 ≤ T := by
    have a := Nat.div_mul_le_self (highN T sq) (d * (d + 1))
    have b : highN T sq / (d * (d + 1)) * 2 ≤ highN T sq / (d * (d + 1)) * (d * (d + 1)) := Nat.mul_le_mul_left _ hD1
    omega
  generalize hT1 : highN T sq / (d * (d + 1)) = T1 at *
  have k2 := highN_le T1 sq hs
  have t2 : highN T1 sq / ((d + 2) * (d + 3)) * 12 ≤ T1 := by
    have a := Nat.div_mul_le_self (highN T1 sq) ((d + 2) * (d + 3))
    have b : highN T1 sq / ((d + 2) * (d + 3)) * 12 ≤ highN T1 sq / ((d + 2) * (d + 3)) * ((d + 2) * (d + 3)) := Nat.mul_le_mul_left _ hD2
    omega
  generalize hT2 : highN T1 sq / ((d + 2) * (d + 3)) = T2 at *
  refine ⟨by omega, by omega, by omega, by omega, ?_, ?_, by omega, by omega⟩
  · have e34 : 34 - 2 * i = (34 - 2 * (i + 1)) + 1 + 1 := by omega
    rw [e34, aN_succ, aN_succ] at e
    have f1 : (j0 + 4 * i + 1) * (j0 + 4 * i + 2) = d * (d + 1) := by
      rw [show j0 + 4 * i + 1 = d by omega, show j0 + 4 * i + 2 = d + 1 by omega]
    have f2 : (j0 + 4 * i + 2 + 1) * (j0 + 4 * i + 2 + 2) = (d + 2) * (d + 3) := by
      rw [show j0 + 4 * i + 2 + 1 = d + 2 by omega, show j0 + 4 * i + 2 + 2 = d + 3 by omega]
    rw [f1, hT1, f2, hT2, show j0 + 4 * i + 2 + 2 = j0 + 4 * (i + 1) by omega] at e
    omega
  · have : T2 * 16 * 16^i ≤ T * 16^i := Nat.mul_le_mul_right _ (by omega)
    have e2 : T2 * 16^(i + 1) = T2 * 16 * 16^i := by rw [Nat.pow_succ]; grind
    omega
end Alm
