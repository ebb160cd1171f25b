/- Plain numbers: the product of two numbers of four limbs, some partial products left out. -/
set_option linter.unusedVariables false
namespace Alm

def upd (o : Nat → Int) (i : Nat) (v : Int) : Nat → Int := fun k => if k = i then v else o k
/-- the weight of a place of six; of the place before the first one: 6 -/
def wt : Nat → Int
  | 0 => 2135987035920910082395021706169552114602704522356652769947041607822219725780640550022962086936576 | 1 => 2^256 | 2 => 2^192 | 3 => 2^128 | 4 => 2^64 | 5 => 1 | _ => 0
def V6 (o : Nat → Int) : Int := o 0 * wt 0 + o 1 * wt 1 + o 2 * wt 2 + o 3 * wt 3 + o 4 * wt 4 + o 5 * wt 5
theorem V6_upd (o : Nat → Int) (p : Nat) (v : Int) (hp : p ≤ 5) : V6 (upd o p v) = V6 o + (v - o p) * wt p := by
  have : p = 0 ∨ p = 1 ∨ p = 2 ∨ p = 3 ∨ p = 4 ∨ p = 5 := by omega
  rcases this with rfl | rfl | rfl | rfl | rfl | rfl <;> simp only [V6, upd] <;> simp (decide := true) only [if_true, if_false] <;> grind
theorem wt_succ (p : Nat) (hp : p < 5) : wt p = 18446744073709551616 * wt (p + 1) := by
  have : p = 0 ∨ p = 1 ∨ p = 2 ∨ p = 3 ∨ p = 4 := by omega
  rcases this with rfl | rfl | rfl | rfl | rfl <;> rfl

/-- the partial products -/
def pf (a b : Nat → Int) (i j : Nat) : Int := if i + j ≤ 4 then a i * b j * wt (i + j + 1) else 0
def rp (a b : Nat → Int) (i : Nat) : Nat → Int
  | 0 => 0
  | m + 1 => rp a b i m + pf a b i (3 - m)
def tot (a b : Nat → Int) : Nat → Int
  | 0 => 0
  | n + 1 => tot a b n + rp a b (3 - n) 4
def LU (x : Int) : Prop := 0 ≤ x ∧ x < 18446744073709551616
theorem wt_nonneg (p : Nat) : 0 ≤ wt p := by
  unfold wt; split <;> decide
theorem pf_nonneg (a b : Nat → Int) (ha : ∀ k, k < 4 → LU (a k)) (hb : ∀ k, k < 4 → LU (b k)) (i j : Nat) (hi : i < 4) (hj : j < 4) : 0 ≤ pf a b i j := by
  unfold pf; split
  · exact Int.mul_nonneg (Int.mul_nonneg (ha i hi).1 (hb j hj).1) (wt_nonneg _)
  · omega
theorem rp_nonneg (a b : Nat → Int) (ha : ∀ k, k < 4 → LU (a k)) (hb : ∀ k, k < 4 → LU (b k)) (i m : Nat) (hi : i < 4) : 0 ≤ rp a b i m := by
  induction m with
  | zero => simp [rp]
  | succ m ih => simp only [rp]; have := pf_nonneg a b ha hb i (3 - m) hi (by omega); omega
theorem tot_mono (a b : Nat → Int) (ha : ∀ k, k < 4 → LU (a k)) (hb : ∀ k, k < 4 → LU (b k)) (n : Nat) : tot a b n ≤ tot a b (n + 1) := by
  have := rp_nonneg a b ha hb (3 - n) 4 (by omega)
  simp only [tot]; omega
def V4 (a : Nat → Int) : Int := a 0 * 2^192 + a 1 * 2^128 + a 2 * 2^64 + a 3
def rest (a b : Nat → Int) : Int := 2^64 * (a 2 * b 3 + a 3 * b 2) + a 3 * b 3
theorem tot_full (a b : Nat → Int) : tot a b 4 * 2^128 + rest a b = V4 a * V4 b := by
  simp [tot, rp, pf, wt, V4, rest]; grind
theorem tot_lt (a b : Nat → Int) (ha : ∀ k, k < 4 → LU (a k)) (hb : ∀ k, k < 4 → LU (b k)) (n : Nat) (hn : n ≤ 4) : tot a b n < 39402006196394479212279040100143613805079739270465446667948293404245721771497210611414266254884915640806627990306816 := by
  have m0 := tot_mono a b ha hb 0
  have m1 := tot_mono a b ha hb 1
  have m2 := tot_mono a b ha hb 2
  have m3 := tot_mono a b ha hb 3
  have h4 : tot a b 4 < 39402006196394479212279040100143613805079739270465446667948293404245721771497210611414266254884915640806627990306816 := by
    have hf := tot_full a b
    have hr : 0 ≤ rest a b := by
      have := Int.mul_nonneg (ha 2 (by omega)).1 (hb 3 (by omega)).1
      have := Int.mul_nonneg (ha 3 (by omega)).1 (hb 2 (by omega)).1
      have := Int.mul_nonneg (ha 3 (by omega)).1 (hb 3 (by omega)).1
      unfold rest; omega
    have va : 0 ≤ V4 a ∧ V4 a < 2^256 := by
      have := ha 0 (by omega); have := ha 1 (by omega); have := ha 2 (by omega); have := ha 3 (by omega)
      unfold LU V4 at *; omega
    have vb : 0 ≤ V4 b ∧ V4 b < 2^256 := by
      have := hb 0 (by omega); have := hb 1 (by omega); have := hb 2 (by omega); have := hb 3 (by omega)
      unfold LU V4 at *; omega
    have hm : V4 a * V4 b ≤ (2^256 - 1) * (2^256 - 1) := Int.mul_le_mul (by omega) (by omega) vb.1 (by omega)
    generalize V4 a * V4 b = p at *
    generalize rest a b = r at *
    generalize tot a b 4 = t at *
    omega
  have : n = 0 ∨ n = 1 ∨ n = 2 ∨ n = 3 ∨ n = 4 := by omega
  simp only [Nat.reduceAdd] at *
  rcases this with rfl | rfl | rfl | rfl | rfl <;> omega

/-- one product is added -/
theorem mul_step (a b o : Nat → Int) (n i j : Nat) (c hi lo s1 c1 s2 c2 : Int) (hj : i + j ≤ 4) (hi3 : i ≤ 3) (hj3 : j ≤ 3)
    (e0 : lo = a i * b j - 18446744073709551616 * hi) (e1 : s1 = o (i + j + 1) + lo - 18446744073709551616 * c1) (e2 : s2 = s1 + c - 18446744073709551616 * c2)
    (h : V6 o + c * wt (i + j + 1) = tot a b n + rp a b i (3 - j)) :
    V6 (upd o (i + j + 1) s2) + (hi + c1 + c2) * wt (i + j) = tot a b n + rp a b i (3 - j + 1) := by
  rw [V6_upd o _ _ (by omega), wt_succ (i + j) (by omega)]
  simp only [rp]
  have e3 : 3 - (3 - j) = j := by omega
  have e4 : pf a b i j = a i * b j * wt (i + j + 1) := by unfold pf; rw [if_pos hj]
  rw [e3, e4]
  generalize wt (i + j + 1) = w at *
  generalize V6 o = v at *
  generalize rp a b i (3 - j) = r at *
  generalize tot a b n = t at *
  generalize a i * b j = p at *
  subst e2 e1 e0
  grind

/-- the carries stay within 64 bits -/
theorem mul_carry (x y op c hi lo s1 c1 s2 c2 : Int) (hx : LU x) (hy : LU y) (ho : LU op) (hc : LU c) (hs : LU s2)
    (e0 : lo = x * y - 18446744073709551616 * hi) (e1 : s1 = op + lo - 18446744073709551616 * c1) (e2 : s2 = s1 + c - 18446744073709551616 * c2) : hi + c1 + c2 < 18446744073709551616 := by
  unfold LU at *
  have hm : x * y ≤ 18446744073709551615 * 18446744073709551615 := Int.mul_le_mul (by omega) (by omega) hy.1 (by omega)
  generalize x * y = p at *
  omega

/-- a place that is left out -/
theorem mul_skip (a b o : Nat → Int) (n i j : Nat) (c : Int) (hj : ¬ i + j ≤ 4) (hj3 : j ≤ 3)
    (h : V6 o + c * wt (i + j + 1) = tot a b n + rp a b i (3 - j)) (hc : c = 0) :
    V6 o + c * wt (i + j) = tot a b n + rp a b i (3 - j + 1) := by
  simp only [rp]
  have e3 : 3 - (3 - j) = j := by omega
  have e4 : pf a b i j = 0 := by unfold pf; rw [if_neg hj]
  rw [e3, e4]; subst hc; omega

/-- a carry is added -/
theorem mul_up (o : Nat → Int) (k : Nat) (c s c' t : Int) (hk : k ≤ 3) (e : s = o k + c - 18446744073709551616 * c') (h : V6 o + c * wt k = t) :
    V6 (upd o k s) + c' * (18446744073709551616 * wt k) = t := by
  rw [V6_upd o k s (by omega)]
  subst e; grind
theorem wt_pred (k : Nat) (hk : k ≤ 3) (h0 : 0 < k) : 18446744073709551616 * wt k = wt (k - 1) := by
  have := wt_succ (k - 1) (by omega)
  rw [show k - 1 + 1 = k by omega] at this; omega
theorem V6_nonneg (o : Nat → Int) (ho : ∀ k, k < 6 → LU (o k)) : 0 ≤ V6 o := by
  have h0 := ho 0 (by omega); have h1 := ho 1 (by omega); have h2 := ho 2 (by omega); have h3 := ho 3 (by omega); have h4 := ho 4 (by omega); have h5 := ho 5 (by omega)
  simp only [LU, V6, wt] at *; omega
/-- no carry is left before the first place -/
theorem mul_top (o : Nat → Int) (ho : ∀ k, k < 6 → LU (o k)) (c t : Int) (ht : t < 39402006196394479212279040100143613805079739270465446667948293404245721771497210611414266254884915640806627990306816) (hc : 0 ≤ c) (h : V6 o + c * (18446744073709551616 * wt 0) = t) : c = 0 := by
  have := V6_nonneg o ho
  simp only [wt] at h; omega
/-- what the first four places say -/
theorem V6_V4 (o : Nat → Int) (ho : ∀ k, k < 6 → LU (o k)) : V4 o = V6 o / 2^128 := by
  have h0 := ho 0 (by omega); have h1 := ho 1 (by omega); have h2 := ho 2 (by omega); have h3 := ho 3 (by omega); have h4 := ho 4 (by omega); have h5 := ho 5 (by omega)
  simp only [LU, V6, V4, wt] at *; omega
end Alm
