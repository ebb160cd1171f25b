/- Plain numbers: the product of two numbers of four limbs, all partial products. -/
import Derived.Test.YtlloiallkcfomaaGreatLimb
import Derived.Test.YtlloiallkcfomaaGreatArcNum
set_option linter.unusedVariables false
namespace Alm
/-- the weight of a place of eight -/
def w8 : Nat → Int
  | 0 => 726838724295606890549323807888004534353641360687318060281490199180639288113397923326191050713763565560762521606266177933534601628614656 | 1 => 39402006196394479212279040100143613805079739270465446667948293404245721771497210611414266254884915640806627990306816 | 2 => 2135987035920910082395021706169552114602704522356652769947041607822219725780640550022962086936576 | 3 => 2^256 | 4 => 2^192 | 5 => 2^128 | 6 => 2^64 | 7 => 1 | _ => 0
def V8 (o : Nat → Int) : Int := o 0 * w8 0 + o 1 * w8 1 + o 2 * w8 2 + o 3 * w8 3 + o 4 * w8 4 + o 5 * w8 5 + o 6 * w8 6 + o 7 * w8 7
theorem V8_upd (o : Nat → Int) (p : Nat) (v : Int) (hp : p ≤ 7) : V8 (upd o p v) = V8 o + (v - o p) * w8 p := by
  have : p = 0 ∨ p = 1 ∨ p = 2 ∨ p = 3 ∨ p = 4 ∨ p = 5 ∨ p = 6 ∨ p = 7 := by omega
  rcases this with rfl | rfl | rfl | rfl | rfl | rfl | rfl | rfl <;> simp only [V8, upd] <;> simp (decide := true) only [if_true, if_false] <;> grind
theorem w8_succ (p : Nat) (hp : p < 7) : w8 p = 18446744073709551616 * w8 (p + 1) := by
  have : p = 0 ∨ p = 1 ∨ p = 2 ∨ p = 3 ∨ p = 4 ∨ p = 5 ∨ p = 6 := by omega
  rcases this with rfl | rfl | rfl | rfl | rfl | rfl | rfl <;> rfl
/-- the weight of a place of four -/
def h4 : Nat → Int
  | 0 => 2^192 | 1 => 2^128 | 2 => 2^64 | 3 => 1 | _ => 0
theorem w8_h4 (i k : Nat) (hi : i ≤ 3) (hk : k ≤ 3) : w8 (i + k + 1) = h4 i * h4 k := by
  have a : i = 0 ∨ i = 1 ∨ i = 2 ∨ i = 3 := by omega
  have b : k = 0 ∨ k = 1 ∨ k = 2 ∨ k = 3 := by omega
  rcases a with rfl | rfl | rfl | rfl <;> rcases b with rfl | rfl | rfl | rfl <;> rfl
/-- the last m limbs -/
def lastM (b : Nat → Int) : Nat → Int
  | 0 => 0
  | m + 1 => lastM b m + b (3 - m) * h4 (3 - m)
theorem lastM_4 (b : Nat → Int) : lastM b 4 = V4 b := by
  simp [lastM, V4, h4]; omega
/-- one product is added -/
theorem mul8_step (a b o : Nat → Int) (i j : Nat) (c hi lo s1 c1 s2 c2 : Int) (hi3 : i ≤ 3) (hj3 : j ≤ 3)
    (e0 : lo = a i * b j - 18446744073709551616 * hi) (e1 : s1 = lo + o (i + j + 1) - 18446744073709551616 * c1) (e2 : s2 = s1 + c - 18446744073709551616 * c2)
    (T : Int) (h : V8 o + c * w8 (i + j + 1) = T + a i * h4 i * lastM b (3 - j)) :
    V8 (upd o (i + j + 1) s2) + (hi + c1 + c2) * w8 (i + j) = T + a i * h4 i * lastM b (3 - j + 1) := by
  rw [V8_upd o _ _ (by omega), w8_succ (i + j) (by omega)]
  simp only [lastM]
  have e3 : 3 - (3 - j) = j := by omega
  have e4 := w8_h4 i j hi3 hj3
  rw [e3]
  rw [e4] at h ⊢
  generalize h4 i = x at *
  generalize h4 j = y at *
  generalize V8 o = v at *
  generalize lastM b (3 - j) = r at *
  subst e2 e1 e0
  grind
/-- the end of a row -/
theorem mul8_row (a b o : Nat → Int) (i : Nat) (c : Int) (hi3 : i ≤ 3) (h0 : o i = 0)
    (h : V8 o + c * w8 i = lastM a (3 - i) * V4 b + a i * h4 i * lastM b 4) : V8 (upd o i c) = lastM a (3 - i + 1) * V4 b := by
  rw [V8_upd o _ _ (by omega), h0]
  simp only [lastM_4] at h
  simp only [lastM]
  have e3 : 3 - (3 - i) = i := by omega
  rw [e3]
  grind
theorem V8_nonneg (o : Nat → Int) (ho : ∀ k, k < 8 → LU (o k)) : 0 ≤ V8 o := by
  have h0 := ho 0 (by omega); have h1 := ho 1 (by omega); have h2 := ho 2 (by omega); have h3 := ho 3 (by omega); have h4 := ho 4 (by omega); have h5 := ho 5 (by omega); have h6 := ho 6 (by omega); have h7 := ho 7 (by omega)
  simp only [LU, V8, w8] at *; omega
/-- the four places from the second one on -/
theorem V8_mid (o : Nat → Int) (ho : ∀ k, k < 8 → LU (o k)) (A B : Nat) (h : V8 o = (A : Int) * B) (hs : A * B < 2^448) :
    V4 (fun k => o (k + 1)) = (mulA A B : Int) := by
  have h0 := ho 0 (by omega); have h1 := ho 1 (by omega); have h2 := ho 2 (by omega); have h3 := ho 3 (by omega); have h4 := ho 4 (by omega); have h5 := ho 5 (by omega); have h6 := ho 6 (by omega); have h7 := ho 7 (by omega)
  have e : (A : Int) * B = ((A * B : Nat) : Int) := by norm_cast
  rw [e] at h
  unfold mulA
  rw [QA_val]
  generalize A * B = P at *
  simp only [LU, V8, V4, w8, Nat.zero_add, Nat.reduceAdd] at *
  omega
end Alm
