import Derived.Test.YtlloiallkcfomaaNum1
namespace Alm

def c1 : Rat := (c1n : Rat) / (dd : Rat)
def s1 : Rat := (s1n : Rat) / (dd : Rat)

theorem ddR_pos : (0 : Rat) < (dd : Rat) := by exact_mod_cast dd_pos
theorem ddR_ne : (dd : Rat) ≠ 0 := by have := ddR_pos; grind
theorem c1_mul : c1 * (dd : Rat) = (c1n : Rat) := Rat.div_mul_cancel ddR_ne
theorem s1_mul : s1 * (dd : Rat) = (s1n : Rat) := Rat.div_mul_cancel ddR_ne
theorem unit1 : c1 * c1 + s1 * s1 = 1 := by
  have h : ((c1n * c1n + s1n * s1n : Int) : Rat) = ((dd * dd : Int) : Rat) := by rw [unit_int]
  simp only [Rat.intCast_add, Rat.intCast_mul] at h
  rw [← c1_mul, ← s1_mul] at h
  have h2 : (c1 * c1 + s1 * s1 - 1) * ((dd : Rat) * dd) = 0 := by grind
  rcases Rat.mul_eq_zero.1 h2 with h3 | h3
  · grind
  · rcases Rat.mul_eq_zero.1 h3 with h4 | h4 <;> exact absurd h4 ddR_ne

/-- the powers of the point: (cosine, sine) of n steps -/
def zz : Nat → Rat × Rat
  | 0 => (1, 0)
  | n + 1 => ((zz n).1 * c1 - (zz n).2 * s1, (zz n).2 * c1 + (zz n).1 * s1)
def zc (n : Nat) : Rat := (zz n).1
def zs (n : Nat) : Rat := (zz n).2
theorem zc_zero : zc 0 = 1 := rfl
theorem zs_zero : zs 0 = 0 := rfl
theorem zc_succ (n : Nat) : zc (n + 1) = zc n * c1 - zs n * s1 := rfl
theorem zs_succ (n : Nat) : zs (n + 1) = zs n * c1 + zc n * s1 := rfl
theorem zunit (n : Nat) : zc n * zc n + zs n * zs n = 1 := by
  induction n with
  | zero => simp [zc_zero, zs_zero]; grind
  | succ n ih => rw [zc_succ, zs_succ]; have := unit1; grind
theorem zadd (m n : Nat) : zc (m + n) = zc m * zc n - zs m * zs n ∧ zs (m + n) = zs m * zc n + zc m * zs n := by
  induction n with
  | zero => simp [zc_zero, zs_zero]; grind
  | succ n ih => rw [← Nat.add_assoc, zc_succ, zs_succ, zc_succ, zs_succ, ih.1, ih.2]; grind

theorem sq_nonneg (x : Rat) : 0 ≤ x * x := by
  rcases Rat.le_total (a := 0) (b := x) with h | h
  · exact Rat.mul_nonneg h h
  · have : 0 ≤ (-x) * (-x) := Rat.mul_nonneg (by grind) (by grind)
    grind
theorem abs_of_sq (x b : Rat) (hb : 0 ≤ b) (h : x * x ≤ b * b) : -b ≤ x ∧ x ≤ b := by
  constructor
  · rcases Rat.le_total (a := -b) (b := x) with h1 | h1
    · exact h1
    · have h2 : 0 ≤ (-b - x) * (-b - x) := sq_nonneg _
      rcases Rat.le_iff_lt_or_eq.1 h1 with h3 | h3
      · have : 0 < (-b - x) * ((-x) + b) := Rat.mul_pos (by grind) (by grind)
        grind
      · grind
  · rcases Rat.le_total (a := x) (b := b) with h1 | h1
    · exact h1
    · rcases Rat.le_iff_lt_or_eq.1 h1 with h3 | h3
      · have : 0 < (x - b) * (x + b) := Rat.mul_pos (by grind) (by grind)
        grind
      · grind
theorem sq_le_of_abs (x b : Rat) (h1 : -b ≤ x) (h2 : x ≤ b) : x * x ≤ b * b := by
  have : 0 ≤ (b - x) * (b + x) := Rat.mul_nonneg (by grind) (by grind)
  grind
theorem zs_le (n : Nat) : -1 ≤ zs n ∧ zs n ≤ 1 := by
  apply abs_of_sq _ 1 (by decide); have := zunit n; have := sq_nonneg (zc n); grind
theorem zc_le (n : Nat) : -1 ≤ zc n ∧ zc n ≤ 1 := by
  apply abs_of_sq _ 1 (by decide); have := zunit n; have := sq_nonneg (zs n); grind

/-- the polynomials' values -/
def ps (n : Nat) : Rat := (ev sP n : Rat) / (L0 : Rat)
def pc (n : Nat) : Rat := (ev cP n : Rat) / (L0 : Rat)
theorem L0R_pos : (0 : Rat) < (L0 : Rat) := by exact_mod_cast L0_pos
theorem L0R_ne : (L0 : Rat) ≠ 0 := by have := L0R_pos; grind
theorem ps_mul (n : Nat) : ps n * (L0 : Rat) = (ev sP n : Rat) := Rat.div_mul_cancel L0R_ne
theorem pc_mul (n : Nat) : pc n * (L0 : Rat) = (ev cP n : Rat) := Rat.div_mul_cancel L0R_ne

def d256 : Rat := 1 / (2^256 : Int)
theorem d256_mul : d256 * ((2^256 : Int) : Rat) = 1 := by
  unfold d256; apply Rat.div_mul_cancel; decide
theorem d256_pos : 0 < d256 := by
  unfold d256; decide +kernel

/-- an integer relation as one of rationals: from |D| * 2^256 ≤ P, x * P = D to |x| ≤ 2^-256 -/
theorem small_of (x : Rat) (D P : Int) (hP : 0 < P) (hx : x * (P : Rat) = (D : Rat)) (h : (D.natAbs : Int) * 2^256 ≤ P) : -d256 ≤ x ∧ x ≤ d256 := by
  have hp : (0 : Rat) < (P : Rat) := by exact_mod_cast hP
  have k1 : D * 2^256 ≤ P := by omega
  have k2 : -P ≤ D * 2^256 := by omega
  have e1 : ((D * 2^256 : Int) : Rat) ≤ ((P : Int) : Rat) := by exact_mod_cast k1
  have e2 : ((-P : Int) : Rat) ≤ ((D * 2^256 : Int) : Rat) := by exact_mod_cast k2
  rw [Rat.intCast_mul, ← hx] at e1 e2
  rw [Rat.intCast_neg] at e2
  have hq := d256_mul
  have hd := d256_pos
  generalize ((2^256 : Int) : Rat) = T at *
  generalize (P : Rat) = Q at *
  have e3 := Rat.mul_le_mul_of_nonneg_right e1 (show 0 ≤ d256 by grind)
  have e4 := Rat.mul_le_mul_of_nonneg_right e2 (show 0 ≤ d256 by grind)
  have e5 : x * Q * T * d256 = x * Q := by grind
  rw [e5] at e3 e4
  constructor
  · apply Rat.le_of_mul_le_mul_right (c := Q) _ hp; grind
  · apply Rat.le_of_mul_le_mul_right (c := Q) _ hp; grind

theorem ps_step (n : Nat) (h : n < 2700000) : -d256 ≤ ps (n+1) - (ps n * c1 + pc n * s1) ∧ ps (n+1) - (ps n * c1 + pc n * s1) ≤ d256 := by
  apply small_of _ (ev dS n) (dd * L0) (Int.mul_pos dd_pos L0_pos)
  · have e : ev dS n = dd * ev sP (n + 1) - (c1n * ev sP n + s1n * ev cP n) := by
      simp only [dS, ev_addP, ev_smulP, ev_shiftP]; grind
    rw [e]
    simp only [Rat.intCast_sub, Rat.intCast_add, Rat.intCast_mul]
    rw [← ps_mul n, ← pc_mul n, ← c1_mul, ← s1_mul]
    have e2 : ((ev sP ((n : Int) + 1) : Int) : Rat) = ps (n+1) * (L0 : Rat) := by rw [ps_mul]; norm_cast
    rw [e2]; grind
  · have h1 := ev_le dS n M0 (by omega) (by unfold M0; omega)
    have h2 := dS_small
    omega

theorem pc_step (n : Nat) (h : n < 2700000) : -d256 ≤ pc (n+1) - (pc n * c1 - ps n * s1) ∧ pc (n+1) - (pc n * c1 - ps n * s1) ≤ d256 := by
  apply small_of _ (ev dC n) (dd * L0) (Int.mul_pos dd_pos L0_pos)
  · have e : ev dC n = dd * ev cP (n + 1) - (c1n * ev cP n - s1n * ev sP n) := by
      simp only [dC, ev_addP, ev_smulP, ev_shiftP]; grind
    rw [e]
    simp only [Rat.intCast_sub, Rat.intCast_mul]
    rw [← ps_mul n, ← pc_mul n, ← c1_mul, ← s1_mul]
    have e2 : ((ev cP ((n : Int) + 1) : Int) : Rat) = pc (n+1) * (L0 : Rat) := by rw [pc_mul]; norm_cast
    rw [e2]; grind
  · have h1 := ev_le dC n M0 (by omega) (by unfold M0; omega)
    have h2 := dC_small
    omega

/-- the errors' squares grow no faster than the square of the steps -/
theorem grow (N es ec ds dc a b d : Rat) (hN : 0 ≤ N) (hu : a * a + b * b = 1) (hd : ds * ds + dc * dc ≤ d * d)
    (h : es * es + ec * ec ≤ N * N * (d * d)) :
    (es * a + ec * b + ds) * (es * a + ec * b + ds) + (ec * a - es * b + dc) * (ec * a - es * b + dc) ≤ (N + 1) * (N + 1) * (d * d) := by
  rcases Rat.le_iff_lt_or_eq.1 hN with h0 | h0
  · -- N |u + v|^2 ≤ (N + 1) |u|^2 + N (N + 1) |v|^2
    have q1 := sq_nonneg (es * a + ec * b - N * ds)
    have q2 := sq_nonneg (ec * a - es * b - N * dc)
    have hu2 : (es * a + ec * b) * (es * a + ec * b) + (ec * a - es * b) * (ec * a - es * b) = es * es + ec * ec := by
      have : (es * a + ec * b) * (es * a + ec * b) + (ec * a - es * b) * (ec * a - es * b) = (es * es + ec * ec) * (a * a + b * b) := by grind
      rw [this, hu]; grind
    apply Rat.le_of_mul_le_mul_left (c := N) _ h0
    rw [← hu2] at h
    generalize es * a + ec * b = u at *
    generalize ec * a - es * b = v at *
    clear hu2 hu
    have m1 := Rat.mul_le_mul_of_nonneg_left h (show 0 ≤ N + 1 by grind)
    have m2 := Rat.mul_le_mul_of_nonneg_left hd (show 0 ≤ N * (N + 1) by exact Rat.mul_nonneg hN (by grind))
    grind
  · subst h0
    have : es * es + ec * ec ≤ 0 := by grind
    have h1 := sq_nonneg es
    have h2 := sq_nonneg ec
    have e1 : es * es = 0 := by grind
    have e2 : ec * ec = 0 := by grind
    have e3 : es = 0 := by rcases Rat.mul_eq_zero.1 e1 with h | h <;> exact h
    have e4 : ec = 0 := by rcases Rat.mul_eq_zero.1 e2 with h | h <;> exact h
    subst e3 e4; grind

def d255 : Rat := 2 * d256
theorem d_sq (x y : Rat) (hx : -d256 ≤ x ∧ x ≤ d256) (hy : -d256 ≤ y ∧ y ≤ d256) : x * x + y * y ≤ d255 * d255 := by
  have h1 := sq_le_of_abs x _ hx.1 hx.2
  have h2 := sq_le_of_abs y _ hy.1 hy.2
  have h3 := sq_nonneg d256
  unfold d255; grind

theorem near_sq (n : Nat) (h : n ≤ 2700000) : (ps n - zs n) * (ps n - zs n) + (pc n - zc n) * (pc n - zc n) ≤ ((n : Rat) * (n : Rat)) * (d255 * d255) := by
  induction n with
  | zero =>
    have e1 : ps 0 = 0 := by unfold ps; rw [show ((0 : Nat) : Int) = 0 from rfl, start.1]; simp; grind
    have e2 : pc 0 = 1 := by
      unfold pc; rw [show ((0 : Nat) : Int) = 0 from rfl, start.2]
      have := L0R_ne
      rw [Rat.div_def, Rat.mul_inv_cancel _ this]
    rw [e1, e2, zs_zero, zc_zero]; grind
  | succ n ih =>
    have ih := ih (by omega)
    have hs := ps_step n (by omega)
    have hc := pc_step n (by omega)
    have g := grow (n : Rat) (ps n - zs n) (pc n - zc n) (ps (n+1) - (ps n * c1 + pc n * s1)) (pc (n+1) - (pc n * c1 - ps n * s1)) c1 s1 d255 (by exact_mod_cast Nat.zero_le n) unit1 (d_sq _ _ hs hc) ih
    have e1 : (ps n - zs n) * c1 + (pc n - zc n) * s1 + (ps (n+1) - (ps n * c1 + pc n * s1)) = ps (n+1) - zs (n+1) := by rw [zs_succ]; grind
    have e2 : (pc n - zc n) * c1 - (ps n - zs n) * s1 + (pc (n+1) - (pc n * c1 - ps n * s1)) = pc (n+1) - zc (n+1) := by rw [zc_succ]; grind
    rw [e1, e2] at g
    have e3 : ((n + 1 : Nat) : Rat) = (n : Rat) + 1 := by norm_cast
    rw [e3]; exact g

/-- 2^-230 -/
def d230 : Rat := ((2^26 : Int) : Rat) * d256
theorem near (n : Nat) (h : n ≤ 2700000) : (-d230 ≤ ps n - zs n ∧ ps n - zs n ≤ d230) ∧ (-d230 ≤ pc n - zc n ∧ pc n - zc n ≤ d230) := by
  have g := near_sq n h
  have hn : (n : Rat) ≤ ((2^25 : Int) : Rat) := by
    have : (n : Int) ≤ 2^25 := by omega
    exact_mod_cast this
  have hn0 : (0 : Rat) ≤ (n : Rat) := by exact_mod_cast Nat.zero_le n
  have hd := d256_pos
  have hb : 0 ≤ d230 := by unfold d230; exact Rat.mul_nonneg (by decide) (by grind)
  have hle : (n : Rat) * (n : Rat) * (d255 * d255) ≤ d230 * d230 := by
    have := sq_le_of_abs ((n : Rat) * d255) d230 (by
      have := Rat.mul_nonneg hn0 (show 0 ≤ d255 by unfold d255; grind)
      grind) (by
      have := Rat.mul_le_mul_of_nonneg_right hn (show 0 ≤ d255 by unfold d255; grind)
      unfold d230; unfold d255 at *
      have e : ((2^26 : Int) : Rat) = ((2^25 : Int) : Rat) * 2 := by decide +kernel
      rw [e]; grind)
    grind
  have q1 := sq_nonneg (ps n - zs n)
  have q2 := sq_nonneg (pc n - zc n)
  exact ⟨abs_of_sq _ _ hb (by grind), abs_of_sq _ _ hb (by grind)⟩
end Alm
