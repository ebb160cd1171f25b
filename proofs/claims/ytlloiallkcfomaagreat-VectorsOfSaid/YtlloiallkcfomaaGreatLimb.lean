/- Plain numbers: a number of 256 bits and its four limbs. -/
import Derived.Test.YtlloiallkcfomaaGreatNums
import Derived.Test.YtlloiallkcfomaaGreatMulM
set_option linter.unusedVariables false
namespace Alm
/-- limb k of a number, the first one first -/
def nl (A k : Nat) : Int := ((A / 2^(64 * (3 - k)) % 2^64 : Nat) : Int)
theorem nl_U (A k : Nat) : LU (nl A k) := by
  unfold LU nl
  have : A / 2^(64 * (3 - k)) % 2^64 < 2^64 := Nat.mod_lt _ (by decide)
  omega
theorem nl_vals (A : Nat) : nl A 0 = ((A / 6277101735386680763835789423207666416102355444464034512896 % 18446744073709551616 : Nat) : Int) ∧ nl A 1 = ((A / 340282366920938463463374607431768211456 % 18446744073709551616 : Nat) : Int) ∧
    nl A 2 = ((A / 18446744073709551616 % 18446744073709551616 : Nat) : Int) ∧ nl A 3 = ((A % 18446744073709551616 : Nat) : Int) := by
  refine ⟨rfl, rfl, rfl, ?_⟩; simp [nl]
theorem V4_nl (A : Nat) (h : A < W) : V4 (nl A) = (A : Int) := by
  obtain ⟨h0, h1, h2, h3⟩ := nl_vals A
  unfold V4; rw [h0, h1, h2, h3]
  have h : A < 115792089237316195423570985008687907853269984665640564039457584007913129639936 := by
    have : W = 115792089237316195423570985008687907853269984665640564039457584007913129639936 := by unfold W; decide +kernel
    omega
  omega
theorem nl_of (r : Nat → Int) (hr : ∀ k, k < 4 → LU (r k)) (A : Nat) (h : V4 r = (A : Int)) : r 0 = nl A 0 ∧ r 1 = nl A 1 ∧ r 2 = nl A 2 ∧ r 3 = nl A 3 := by
  obtain ⟨h0, h1, h2, h3⟩ := nl_vals A
  have a0 := hr 0 (by omega); have a1 := hr 1 (by omega); have a2 := hr 2 (by omega); have a3 := hr 3 (by omega)
  rw [h0, h1, h2, h3]
  unfold V4 LU at *
  omega
theorem mulN_tot (A B : Nat) (hA : A < W) (hB : B < W) : tot (nl A) (nl B) 4 / 2^128 = (mulN A B : Int) := by
  have hf := tot_full (nl A) (nl B)
  rw [V4_nl A hA, V4_nl B hB] at hf
  have hr : rest (nl A) (nl B) = ((2^64 * ((A / 2^64 % 2^64) * (B % 2^64) + (A % 2^64) * (B / 2^64 % 2^64)) + (A % 2^64) * (B % 2^64) : Nat) : Int) := by
    obtain ⟨_, _, h2, h3⟩ := nl_vals A
    obtain ⟨_, _, g2, g3⟩ := nl_vals B
    unfold rest; rw [h2, h3, g2, g3]
    norm_cast
  have hlt := rest_lt (A / 2^64 % 2^64) (A % 2^64) (B / 2^64 % 2^64) (B % 2^64) (Nat.mod_lt _ (by decide)) (Nat.mod_lt _ (by decide)) (Nat.mod_lt _ (by decide)) (Nat.mod_lt _ (by decide))
  have hW : W = 115792089237316195423570985008687907853269984665640564039457584007913129639936 := by unfold W; decide +kernel
  have hle : 0 ≤ tot (nl A) (nl B) 4 := by
    have m0 := tot_mono (nl A) (nl B) (fun k _ => nl_U A k) (fun k _ => nl_U B k) 0
    have m1 := tot_mono (nl A) (nl B) (fun k _ => nl_U A k) (fun k _ => nl_U B k) 1
    have m2 := tot_mono (nl A) (nl B) (fun k _ => nl_U A k) (fun k _ => nl_U B k) 2
    have m3 := tot_mono (nl A) (nl B) (fun k _ => nl_U A k) (fun k _ => nl_U B k) 3
    have : tot (nl A) (nl B) 0 = 0 := rfl
    simp only [Nat.reduceAdd] at *
    omega
  have hm : mulN A B = (A * B - (2^64 * ((A / 2^64 % 2^64) * (B % 2^64) + (A % 2^64) * (B / 2^64 % 2^64)) + (A % 2^64) * (B % 2^64))) / W := by unfold mulN; rfl
  rw [hr] at hf
  rw [hm, hW]
  generalize 2^64 * ((A / 2^64 % 2^64) * (B % 2^64) + (A % 2^64) * (B / 2^64 % 2^64)) + (A % 2^64) * (B % 2^64) = R at *
  generalize tot (nl A) (nl B) 4 = t at *
  have e : (A : Int) * B = ((A * B : Nat) : Int) := by norm_cast
  rw [e] at hf
  generalize A * B = P at *
  omega
theorem mulN_lt_W (A B : Nat) (hA : A < W) (hB : B < W) : mulN A B < W := by
  have := mulN_lt A B hA (by omega); omega
end Alm
