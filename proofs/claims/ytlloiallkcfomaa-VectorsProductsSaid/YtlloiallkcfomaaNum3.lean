import Derived.Test.YtlloiallkcfomaaNum2
namespace Alm

theorem mul_bd (a b A B : Rat) (h1 : -A ≤ a) (h2 : a ≤ A) (h3 : -B ≤ b) (h4 : b ≤ B) : -(A * B) ≤ a * b ∧ a * b ≤ A * B := by
  have k1 : 0 ≤ (A - a) * (B + b) := Rat.mul_nonneg (by grind) (by grind)
  have k2 : 0 ≤ (A + a) * (B - b) := Rat.mul_nonneg (by grind) (by grind)
  have k3 : 0 ≤ (A - a) * (B - b) := Rat.mul_nonneg (by grind) (by grind)
  have k4 : 0 ≤ (A + a) * (B + b) := Rat.mul_nonneg (by grind) (by grind)
  constructor <;> grind

/-- 1 - y / ((j + 1) (j + 2)) (1 - ..) -/
def hr : Nat → Nat → Rat → Rat
  | 0, _, _ => 1
  | m + 1, j, y => 1 - y / (((j + 1) * (j + 2) : Nat) : Rat) * hr m (j + 2) y

theorem natR_pos (n : Nat) (h : 0 < n) : (0 : Rat) < (n : Rat) := by exact_mod_cast h
theorem natR_nonneg (n : Nat) : (0 : Rat) ≤ (n : Rat) := by exact_mod_cast Nat.zero_le n
theorem natR_le (m n : Nat) (h : m ≤ n) : (m : Rat) ≤ (n : Rat) := by exact_mod_cast h

theorem quot_bd (y : Rat) (D : Nat) (hD : 2 ≤ D) (h0 : 0 ≤ y) (h1 : y ≤ 1) : 0 ≤ y / (D : Rat) ∧ y / (D : Rat) ≤ 1/2 ∧ y / (D : Rat) * (D : Rat) = y := by
  have hd : (2 : Rat) ≤ (D : Rat) := by exact_mod_cast hD
  have hm : y / (D : Rat) * (D : Rat) = y := Rat.div_mul_cancel (by grind)
  generalize y / (D : Rat) = z at *
  have hz : 0 ≤ z := by
    rcases Rat.le_total (a := 0) (b := z) with h | h
    · exact h
    · have := Rat.mul_nonneg (show 0 ≤ -z by grind) (show 0 ≤ (D : Rat) - 1 by grind)
      grind
  have h2 := Rat.mul_nonneg hz (show 0 ≤ (D : Rat) - 2 by grind)
  refine ⟨hz, by grind, hm⟩

theorem hr_bd (m j : Nat) (y : Rat) (h0 : 0 ≤ y) (h1 : y ≤ 1) : 1/2 ≤ hr m j y ∧ hr m j y ≤ 1 := by
  induction m generalizing j with
  | zero => simp only [hr]; grind
  | succ m ih =>
    have i := ih (j + 2)
    have q := quot_bd y ((j+1)*(j+2)) (by have := Nat.mul_le_mul (show 1 ≤ j + 1 by omega) (show 2 ≤ j + 2 by omega); omega) h0 h1
    simp only [hr]
    generalize y / (((j + 1) * (j + 2) : Nat) : Rat) = z at *
    have := mul_bd z (hr m (j+2) y) (1/2) 1 (by grind) (by grind) (by grind) (by grind)
    have := Rat.mul_nonneg q.1 (show 0 ≤ hr m (j+2) y by grind)
    grind

/-! the polynomials, by that form -/
def theta : Rat := (th : Rat) / (K320 : Rat)

def exactC : Nat → Nat → Int → Bool
  | 0, _, _ => true
  | m + 1, k, a => (a * th % (K320 * ((k + 1 : Nat) : Int)) == 0) && exactC m (k + 1) (a * th / (K320 * ((k + 1 : Nat) : Int)))

theorem step_exact (a d : Int) (h : a * th % d = 0) : (a * th / d) * d = a * th := by
  have := Int.emod_add_mul_ediv (a * th) d
  have h2 : d * (a * th / d) = a * th := by omega
  rw [Int.mul_comm]; exact h2

theorem theta_mul : theta * (K320 : Rat) = (th : Rat) := Rat.div_mul_cancel (by decide +kernel)

theorem alt_coefs (m : Nat) (k : Nat) (a n : Int) (h : exactC (2 * m) k a = true) :
    ((alt (coefs (2 * m + 1) k a) (n * n) : Int) : Rat) = (a : Rat) * hr m k ((n * theta) * (n * theta)) ∧
    ((alt (coefs (2 * m + 2) k a) (n * n) : Int) : Rat) = (a : Rat) * hr m k ((n * theta) * (n * theta)) := by
  induction m generalizing k a with
  | zero => constructor <;> (simp [coefs, alt, hr]; try grind)
  | succ m ih =>
    have e0 : 2 * (m + 1) = 2 * m + 1 + 1 := by omega
    rw [e0] at h ⊢
    simp only [exactC, Bool.and_eq_true, beq_iff_eq] at h
    obtain ⟨h1, h2, h3⟩ := h
    have i := ih (k + 1 + 1) _ h3
    have s1 := step_exact _ _ h1
    have s2 := step_exact _ _ h2
    generalize ha1 : a * th / (K320 * ((k + 1 : Nat) : Int)) = a1 at *
    generalize ha2 : a1 * th / (K320 * ((k + 1 + 1 : Nat) : Int)) = a2 at *
    have r1 : ((a1 * (K320 * ((k + 1 : Nat) : Int)) : Int) : Rat) = ((a * th : Int) : Rat) := by rw [s1]
    have r2 : ((a2 * (K320 * ((k + 1 + 1 : Nat) : Int)) : Int) : Rat) = ((a1 * th : Int) : Rat) := by rw [s2]
    simp only [Rat.intCast_mul, Rat.intCast_natCast] at r1 r2
    rw [← theta_mul] at r1 r2
    have ht : (K320 : Rat) ≠ 0 := by decide +kernel
    have hk1R : ((k + 1 : Nat) : Rat) ≠ 0 := by have := natR_pos (k+1) (by omega); grind
    have hk2R : ((k + 1 + 1 : Nat) : Rat) ≠ 0 := by have := natR_pos (k+1+1) (by omega); grind
    have key : (n : Rat) * n * (a2 : Rat) = (a : Rat) * ((n * theta) * (n * theta) / (((k + 1) * (k + 2) : Nat) : Rat)) := by
      have hD : (((k + 1) * (k + 2) : Nat) : Rat) = ((k + 1 : Nat) : Rat) * ((k + 1 + 1 : Nat) : Rat) := by
        rw [Rat.natCast_mul]
      rw [hD]
      generalize (K320 : Rat) = T at *
      generalize ((k + 1 : Nat) : Rat) = u at *
      generalize ((k + 1 + 1 : Nat) : Rat) = v at *
      have c1 : (a1 : Rat) * u = a * theta := by
        have : ((a1 : Rat) * u - a * theta) * T = 0 := by grind
        rcases Rat.mul_eq_zero.1 this with h | h
        · grind
        · exact absurd h ht
      have c2 : (a2 : Rat) * v = a1 * theta := by
        have : ((a2 : Rat) * v - a1 * theta) * T = 0 := by grind
        rcases Rat.mul_eq_zero.1 this with h | h
        · grind
        · exact absurd h ht
      have huv : u * v ≠ 0 := by
        intro h; rcases Rat.mul_eq_zero.1 h with h | h
        · exact hk1R h
        · exact hk2R h
      have hq := Rat.div_mul_cancel (a := (n * theta) * (n * theta)) (b := u * v) huv
      generalize (n * theta) * (n * theta) / (u * v) = q at *
      have : ((n : Rat) * n * (a2 : Rat) - a * q) * (u * v) = 0 := by
        have e1 : ((n : Rat) * n * (a2 : Rat) - a * q) * (u * v) = n * n * (a2 * v) * u - a * (q * (u * v)) := by grind
        rw [e1, hq, c2]
        have e2 : (n : Rat) * n * (a1 * theta) * u = n * n * theta * (a1 * u) := by grind
        rw [e2, c1]; grind
      rcases Rat.mul_eq_zero.1 this with h | h
      · grind
      · exact absurd h huv
    have fin : ∀ X : Int, (X : Rat) = (a2 : Rat) * hr m (k + 2) ((n * theta) * (n * theta)) →
        ((a - n * n * X : Int) : Rat) = (a : Rat) * hr (m + 1) k ((n * theta) * (n * theta)) := by
      intro X hX
      simp only [Rat.intCast_sub, Rat.intCast_mul, hX, hr]
      have : (n : Rat) * n * (a2 * hr m (k + 2) ((n * theta) * (n * theta))) = (n * n * a2) * hr m (k + 2) ((n * theta) * (n * theta)) := by grind
      rw [this, key]; grind
    constructor
    · have e : coefs (2 * m + 1 + 1 + 1) k a = a :: a1 :: coefs (2 * m + 1) (k + 1 + 1) a2 := by
        simp only [coefs, ha1, ha2]
      rw [e]; simp only [alt]; exact fin _ i.1
    · have e : coefs (2 * m + 1 + 1 + 2) k a = a :: a1 :: coefs (2 * m + 2) (k + 1 + 1) a2 := by
        simp only [coefs, ha1, ha2]
      rw [e]; simp only [alt]; exact fin _ i.2

theorem exact_c : exactC 68 0 L0 = true := by decide +kernel
theorem exact_s : (L0 * th % (K320 * ((0 + 1 : Nat) : Int)) == 0 && exactC 68 1 (L0 * th / (K320 * ((0 + 1 : Nat) : Int)))) = true := by decide +kernel

theorem pc_hr (n : Nat) : pc n = hr 34 0 ((n * theta) * (n * theta)) := by
  have h := (alt_coefs 34 0 L0 n exact_c).2
  have e : ((ev cP n : Int) : Rat) = (L0 : Rat) * hr 34 0 ((n * theta) * (n * theta)) := by
    have : ev cP n = alt (coefs (2 * 34 + 2) 0 L0) (n * n) := by
      unfold cP; rw [ev_altP]; unfold A0; rfl
    rw [this, h]; rfl
  rw [← pc_mul] at e
  have : (pc n - hr 34 0 ((n * theta) * (n * theta))) * (L0 : Rat) = 0 := by grind
  rcases Rat.mul_eq_zero.1 this with h | h
  · grind
  · exact absurd h L0R_ne

theorem ps_hr (n : Nat) : ps n = n * theta * hr 34 1 ((n * theta) * (n * theta)) := by
  have hx := exact_s
  simp only [Bool.and_eq_true, beq_iff_eq] at hx
  have h := (alt_coefs 34 1 _ n hx.2).1
  have s1 := step_exact _ _ hx.1
  generalize ha1 : L0 * th / (K320 * ((0 + 1 : Nat) : Int)) = a1 at *
  have r1 : ((a1 * (K320 * ((0 + 1 : Nat) : Int)) : Int) : Rat) = ((L0 * th : Int) : Rat) := by rw [s1]
  have hl : (((0 + 1 : Nat) : Int) : Rat) = 1 := rfl
  rw [Rat.intCast_mul, Rat.intCast_mul, Rat.intCast_mul, hl, Rat.mul_one, ← theta_mul] at r1
  have ht : (K320 : Rat) ≠ 0 := by decide +kernel
  have c1 : (a1 : Rat) = L0 * theta := by
    generalize (K320 : Rat) = T at *
    have : ((a1 : Rat) - L0 * theta) * T = 0 := by grind
    rcases Rat.mul_eq_zero.1 this with h | h
    · grind
    · exact absurd h ht
  have e : ((ev sP n : Int) : Rat) = (L0 : Rat) * (n * theta * hr 34 1 ((n * theta) * (n * theta))) := by
    have : ev sP n = n * alt (coefs (2 * 34 + 1) 1 a1) (n * n) := by
      unfold sP; simp only [ev]; rw [ev_altP]; unfold A0; simp only [coefs, List.tail, ha1]; grind
    rw [this, Rat.intCast_mul, h, c1]; simp only [Rat.intCast_natCast]; grind
  rw [← ps_mul] at e
  have : (ps n - n * theta * hr 34 1 ((n * theta) * (n * theta))) * (L0 : Rat) = 0 := by grind
  rcases Rat.mul_eq_zero.1 this with h | h
  · grind
  · exact absurd h L0R_ne
attribute [irreducible] hr theta
end Alm
