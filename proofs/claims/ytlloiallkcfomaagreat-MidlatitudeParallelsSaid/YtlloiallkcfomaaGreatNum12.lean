/- Plain numbers: the reference's quick sines are near the true ones. -/
import Derived.Test.YtlloiallkcfomaaGreatNum11
set_option linter.unusedVariables false
namespace Alm
/-- the product of two numbers up to 2^62, divided by 2^62, as the reference works it out -/
def highN (a b : Nat) : Nat := (a / 2147483648) * (b / 2147483648) + (a / 2147483648) * (b % 2147483648) / 2147483648 + (a % 2147483648) * (b / 2147483648) / 2147483648
theorem highN_bd (a b : Nat) : highN a b * 2^62 ≤ a * b ∧ a * b < (highN a b + 3) * 2^62 := by
  have ha := Nat.div_add_mod a 2147483648
  have hb := Nat.div_add_mod b 2147483648
  have la := Nat.mod_lt a (show 2147483648 > 0 by decide)
  have lb := Nat.mod_lt b (show 2147483648 > 0 by decide)
  unfold highN
  generalize a / 2147483648 = a1 at *
  generalize a % 2147483648 = a0 at *
  generalize b / 2147483648 = b1 at *
  generalize b % 2147483648 = b0 at *
  subst ha hb
  have h1 := Nat.div_add_mod (a1 * b0) 2147483648
  have h2 := Nat.div_add_mod (a0 * b1) 2147483648
  have l1 := Nat.mod_lt (a1 * b0) (show 2147483648 > 0 by decide)
  have l2 := Nat.mod_lt (a0 * b1) (show 2147483648 > 0 by decide)
  have h0 : a0 * b0 ≤ 2147483647 * 2147483647 := Nat.mul_le_mul (by omega) (by omega)
  have e : (2147483648 * a1 + a0) * (2147483648 * b1 + b0) = 4611686018427387904 * (a1 * b1) + 2147483648 * (a1 * b0) + 2147483648 * (a0 * b1) + a0 * b0 := by grind
  rw [e]
  generalize a1 * b0 / 2147483648 = q1 at *
  generalize a1 * b0 % 2147483648 = r1 at *
  generalize a0 * b1 / 2147483648 = q2 at *
  generalize a0 * b1 % 2147483648 = r2 at *
  generalize a1 * b0 = m1 at *
  generalize a0 * b1 = m2 at *
  generalize a1 * b1 = m3 at *
  generalize a0 * b0 = m4 at *
  constructor <;> omega
theorem highN_le (a b : Nat) (h : b ≤ 2^62) : highN a b ≤ a := by
  have h1 := (highN_bd a b).1
  have h2 : a * b ≤ a * 2^62 := Nat.mul_le_mul_left _ h
  exact Nat.le_of_mul_le_mul_right (Nat.le_trans h1 h2) (by decide)
theorem highN_zero (b : Nat) : highN 0 b = 0 := by simp [highN]
attribute [irreducible] highN
/-- an angle of an eighth of a turn at most, in radians, times 2^62 -/
def xq (r : Nat) : Nat := r * 2620088056 * 512 + r * 658911831 / 4194304
def e62 : Rat := 1 / ((2^62 : Int) : Rat)
theorem e62_pos : 0 < e62 := by unfold e62; decide +kernel
theorem e62_mul : ((2^62 : Nat) : Rat) * e62 = 1 := by unfold e62; decide +kernel
theorem theta84 : (5626596257239020119 : Rat) * e62 ≤ theta * 4194304 ∧ theta * 4194304 ≤ 5626596257239020120 * e62 := by unfold e62 theta; constructor <;> decide +kernel
theorem xq_near (r : Nat) (h : r ≤ 2700000) : -(2 * e62) ≤ (xq r : Rat) * e62 - r * theta ∧ (xq r : Rat) * e62 - r * theta ≤ 0 := by
  have h1 : xq r * 4194304 ≤ r * 5626596257239020119 ∧ r * 5626596257239020119 ≤ xq r * 4194304 + 4194304 := by unfold xq; omega
  have g1 := natR_le _ _ h1.1
  have g2 := natR_le _ _ h1.2
  rw [Rat.natCast_add] at g2
  rw [Rat.natCast_mul, Rat.natCast_mul] at g1 g2
  have hp := e62_pos
  have t := theta84
  have hr0 := natR_nonneg r
  have hr : (r : Rat) ≤ 4194304 := by exact_mod_cast (show r ≤ 4194304 by omega)
  have c1 : ((4194304 : Nat) : Rat) = 4194304 := rfl
  have c2 : ((5626596257239020119 : Nat) : Rat) = 5626596257239020119 := rfl
  rw [c1, c2] at g1 g2
  generalize (xq r : Rat) = x at *
  generalize (r : Rat) = r at *
  generalize e62 = e at *
  generalize theta = t at *
  have k1 := Rat.mul_le_mul_of_nonneg_right g1 (Rat.le_of_lt hp)
  have k2 := Rat.mul_le_mul_of_nonneg_right g2 (Rat.le_of_lt hp)
  have m1 := Rat.mul_le_mul_of_nonneg_left t.1 hr0
  have m2 := Rat.mul_le_mul_of_nonneg_left t.2 hr0
  have m3 := Rat.mul_le_mul_of_nonneg_right hr (Rat.le_of_lt hp)
  constructor <;> grind
theorem xq_le (r : Nat) (h : r ≤ 2700000) : xq r ≤ 2^62 := by unfold xq; omega
/-- the square -/
def sq62 (r : Nat) : Nat := highN (xq r) (xq r)
theorem sq62_le (r : Nat) (h : r ≤ 2700000) : sq62 r ≤ 2^62 := by unfold sq62; have := highN_le (xq r) (xq r) (xq_le r h); have := xq_le r h; omega
theorem high_rat (a b : Nat) : (highN a b : Rat) * e62 ≤ (a * e62) * (b * e62) ∧ (a * e62) * (b * e62) ≤ (highN a b : Rat) * e62 + 3 * e62 := by
  obtain ⟨h1, h2⟩ := highN_bd a b
  have g1 := natR_le _ _ h1
  have g2 := natR_le _ _ (Nat.le_of_lt h2)
  rw [Rat.natCast_mul, Rat.natCast_mul] at g1 g2
  have e2 : ((highN a b + 3 : Nat) : Rat) = (highN a b : Rat) + 3 := by norm_cast
  rw [e2] at g2
  have hw := e62_mul
  have hd := e62_pos
  generalize (highN a b : Rat) = m at *
  generalize ((2^62 : Nat) : Rat) = w at *
  generalize e62 = d at *
  have hdd : 0 ≤ d * d := sq_nonneg d
  have k1 := Rat.mul_le_mul_of_nonneg_right g1 hdd
  have k2 := Rat.mul_le_mul_of_nonneg_right g2 hdd
  have e1 : m * w * (d * d) = m * d * (w * d) := by grind
  have e3 : (m + 3) * w * (d * d) = (m + 3) * d * (w * d) := by grind
  rw [e1, hw] at k1
  rw [e3, hw] at k2
  constructor <;> grind
theorem sq62_near (r : Nat) (h : r ≤ 2700000) : 0 ≤ (r * theta) * (r * theta) ∧ (r * theta) * (r * theta) ≤ 16/25 ∧ 0 ≤ (r : Rat) * theta ∧ (r : Rat) * theta ≤ 4/5 ∧
    -(7 * e62) ≤ (sq62 r : Rat) * e62 - (r * theta) * (r * theta) ∧ (sq62 r : Rat) * e62 - (r * theta) * (r * theta) ≤ 0 := by
  have hx := xq_near r h
  have hm := high_rat (xq r) (xq r)
  have hd := e62_pos
  have hn : (r : Rat) ≤ 2700000 := by exact_mod_cast h
  have hn0 := natR_nonneg r
  have ht := theta_bd
  have hxn : 0 ≤ (xq r : Rat) * e62 := Rat.mul_nonneg (natR_nonneg _) (Rat.le_of_lt hd)
  have x1 : (r : Rat) * theta ≤ 4/5 := by
    have := Rat.mul_le_mul_of_nonneg_right hn (show 0 ≤ theta by grind); grind
  have x0 : 0 ≤ (r : Rat) * theta := Rat.mul_nonneg hn0 (by grind)
  have hs : (sq62 r : Rat) = (highN (xq r) (xq r) : Rat) := rfl
  rw [hs]
  generalize (highN (xq r) (xq r) : Rat) = M at *
  generalize (xq r : Rat) * e62 = X at *
  generalize (r : Rat) * theta = x at *
  generalize e62 = d at *
  have t2 := mul_bd x x (4/5) (4/5) (by grind) x1 (by grind) x1
  have p1 := Rat.mul_nonneg (show 0 ≤ x - X by grind) (show 0 ≤ x + X by grind)
  have t := mul_bd (x - X) (x + X) (2 * d) 2 (by grind) (by grind) (by grind) (by grind)
  refine ⟨sq_nonneg _, by grind, x0, x1, by grind, by grind⟩
/-- the alternating sum -/
def aN : Nat → Nat → Nat → Nat → Int
  | 0, T, _, _ => T
  | m + 1, T, s, j => T - aN m (highN T s / ((j + 1) * (j + 2))) s (j + 2)
theorem aN_succ (m T s j : Nat) : aN (m + 1) T s j = T - aN m (highN T s / ((j + 1) * (j + 2))) s (j + 2) := rfl
theorem aN_zero (m s j : Nat) : aN m 0 s j = 0 := by
  induction m generalizing j with
  | zero => rfl
  | succ m ih => simp only [aN, highN_zero, Nat.zero_div, ih]; rfl
theorem divD_rat (Y D : Nat) (hD : 0 < D) : ((Y / D : Nat) : Rat) * D ≤ Y ∧ (Y : Rat) ≤ ((Y / D : Nat) : Rat) * D + D := by
  have h1 := Nat.div_mul_le_self Y D
  have h2 := Nat.lt_div_mul_add (a := Y) hD
  have g1 := natR_le _ _ h1
  have g2 := natR_le _ _ (Nat.le_of_lt h2)
  rw [Rat.natCast_mul] at g1
  rw [Rat.natCast_add, Rat.natCast_mul] at g2
  exact ⟨g1, g2⟩
/-- one term from the one before it -/
theorem term_near (T s D : Nat) (hD : 2 ≤ D) (t y c : Rat) (hc0 : 0 ≤ c) (hc : c ≤ 10 * e62) (h0 : 0 ≤ t) (h1 : t ≤ 1) (hy0 : 0 ≤ y) (hy1 : y ≤ 16/25)
    (hs1 : -(7 * e62) ≤ (s : Rat) * e62 - y) (hs2 : (s : Rat) * e62 - y ≤ 0) (e1 : -c ≤ (T : Rat) * e62 - t) (e2 : (T : Rat) * e62 - t ≤ c) :
    -((16/25 * c + 10 * e62) + D * e62) ≤ (((highN T s / D : Nat) : Rat) * e62 - t * (y / (D : Rat))) * D ∧ (((highN T s / D : Nat) : Rat) * e62 - t * (y / (D : Rat))) * D ≤ 16/25 * c := by
  have hd := e62_pos
  have hq := quot_bd y D hD hy0 (by grind)
  have hm := high_rat T s
  have hv := divD_rat (highN T s) D (by omega)
  have hsn : 0 ≤ (s : Rat) * e62 := Rat.mul_nonneg (natR_nonneg _) (Rat.le_of_lt hd)
  have hDr : (2 : Rat) ≤ (D : Rat) := by exact_mod_cast hD
  generalize ((highN T s / D : Nat) : Rat) = Q at *
  generalize (highN T s : Rat) = H at *
  obtain ⟨q1, q2, q3⟩ := hq
  generalize (D : Rat) = D at *
  generalize y / D = z at *
  generalize (T : Rat) = T at *
  generalize (s : Rat) * e62 = S at *
  generalize e62 = d at *
  have v1 := Rat.mul_le_mul_of_nonneg_right hv.1 (Rat.le_of_lt hd)
  have v2 := Rat.mul_le_mul_of_nonneg_right hv.2 (Rat.le_of_lt hd)
  have t1 := mul_bd (T * d - t) S c (16/25) e1 e2 (by grind) (by grind)
  have t2 := Rat.mul_nonneg h0 (show 0 ≤ y - S by grind)
  have t3 := Rat.mul_nonneg (show 0 ≤ 1 - t by grind) (show 0 ≤ y - S by grind)
  have q4 : t * z * D = t * y := by grind
  constructor <;> grind
theorem aN_near (m j T s : Nat) (hj : 2 ≤ j) (t y : Rat) (h0 : 0 ≤ t) (h1 : t ≤ 1) (hy0 : 0 ≤ y) (hy1 : y ≤ 16/25)
    (hs1 : -(7 * e62) ≤ (s : Rat) * e62 - y) (hs2 : (s : Rat) * e62 - y ≤ 0) (e1 : -(3 * e62) ≤ (T : Rat) * e62 - t) (e2 : (T : Rat) * e62 - t ≤ 3 * e62) :
    -(3 * (m + 1 : Nat) * e62) ≤ (aN m T s j : Rat) * e62 - t * hr m j y ∧ (aN m T s j : Rat) * e62 - t * hr m j y ≤ 3 * (m + 1 : Nat) * e62 := by
  induction m generalizing j T t with
  | zero =>
    have hh : hr 0 j y = 1 := by unfold hr; rfl
    have ha : ((aN 0 T s j : Int) : Rat) = (T : Rat) := rfl
    rw [hh, ha]
    have : ((0 + 1 : Nat) : Rat) = 1 := rfl
    rw [this]
    constructor <;> grind
  | succ m ih =>
    have hd := e62_pos
    have hD : 12 ≤ (j+1)*(j+2) := Nat.mul_le_mul (show 3 ≤ j + 1 by omega) (show 4 ≤ j + 2 by omega)
    have tn := term_near T s ((j+1)*(j+2)) (by omega) t y (3 * e62) (by grind) (by grind) h0 h1 hy0 hy1 hs1 hs2 e1 e2
    have hq := quot_bd y ((j+1)*(j+2)) (by omega) hy0 (by grind)
    have hDr : (12 : Rat) ≤ (((j+1)*(j+2) : Nat) : Rat) := by exact_mod_cast hD
    have hh : hr (m + 1) j y = 1 - y / (((j + 1) * (j + 2) : Nat) : Rat) * hr m (j + 2) y := by simp only [hr]
    have ha : ((aN (m + 1) T s j : Int) : Rat) = (T : Rat) - (aN m (highN T s / ((j + 1) * (j + 2))) s (j + 2) : Rat) := by
      simp only [aN, Rat.intCast_sub]; rfl
    have i := ih (j + 2) (highN T s / ((j+1)*(j+2))) (by omega) (t * (y / (((j+1)*(j+2) : Nat) : Rat)))
    have em : ((m + 1 + 1 : Nat) : Rat) = ((m + 1 : Nat) : Rat) + 1 := by norm_cast
    rw [hh, ha, em]
    clear ih hh ha em
    generalize (aN m (highN T s / ((j + 1) * (j + 2))) s (j + 2) : Rat) = A at *
    generalize ((highN T s / ((j + 1) * (j + 2)) : Nat) : Rat) = Q at *
    generalize hr m (j + 2) y = H at *
    generalize (((j+1)*(j+2) : Nat) : Rat) = D at *
    obtain ⟨q1, q2, q3⟩ := hq
    generalize y / D = z at *
    generalize ((m + 1 : Nat) : Rat) = M at *
    generalize (T : Rat) = T at *
    have tz := mul_bd t z 1 (1/2) (by grind) h1 (by grind) q2
    have tz0 := Rat.mul_nonneg h0 q1
    generalize e62 = d at *
    have et : t * (1 - z * H) = t - t * z * H := by grind
    rw [et]; clear et
    generalize t * z = w at *
    have b1 : Q * d - w ≤ 3 * d := by
      rcases Rat.le_total (a := Q * d - w) (b := 3 * d) with h | h
      · exact h
      · have := Rat.mul_nonneg (show 0 ≤ (Q * d - w) - 3 * d by grind) (show 0 ≤ D - 12 by grind)
        have := Rat.mul_nonneg (show 0 ≤ d by grind) (show 0 ≤ D - 12 by grind)
        grind
    have b2 : -(3 * d) ≤ Q * d - w := by
      rcases Rat.le_total (a := -(3 * d)) (b := Q * d - w) with h | h
      · exact h
      · have := Rat.mul_nonneg (show 0 ≤ -(3 * d) - (Q * d - w) by grind) (show 0 ≤ D - 12 by grind)
        have := Rat.mul_nonneg (show 0 ≤ d by grind) (show 0 ≤ D - 12 by grind)
        grind
    have i2 := i tz0 (by grind) b2 b1
    constructor <;> grind
/-- the sine, and the cosine, of an angle up to an eighth of a turn, times 2^62 -/
def qSin (r : Nat) : Int := aN 34 (xq r) (sq62 r) 1
def qCos (r : Nat) : Int := aN 34 (2^62) (sq62 r) 0
theorem qSin_near (r : Nat) (h : r ≤ 2700000) : -(110 * e62) ≤ (qSin r : Rat) * e62 - ps r ∧ (qSin r : Rat) * e62 - ps r ≤ 110 * e62 := by
  obtain ⟨y0, y1, x0, x1, s1, s2⟩ := sq62_near r h
  obtain ⟨a1, a2⟩ := xq_near r h
  have hd := e62_pos
  have tn := term_near (xq r) (sq62 r) 6 (by omega) (r * theta) _ (2 * e62) (by grind) (by grind) x0 (by grind) y0 y1 s1 s2 (by grind) (by grind)
  have hq := quot_bd ((r * theta) * (r * theta)) 6 (by omega) y0 (by grind)
  have hh : hr 34 1 ((r * theta) * (r * theta)) = 1 - (r * theta) * (r * theta) / ((6 : Nat) : Rat) * hr 33 3 ((r * theta) * (r * theta)) := by simp only [hr]
  have ha : ((qSin r : Int) : Rat) = (xq r : Rat) - (aN 33 (highN (xq r) (sq62 r) / 6) (sq62 r) 3 : Rat) := by
    have e : qSin r = ((xq r : Nat) : Int) - aN 33 (highN (xq r) (sq62 r) / 6) (sq62 r) 3 := by
      show aN (33 + 1) (xq r) (sq62 r) 1 = _
      rw [aN_succ]
    rw [e, Rat.intCast_sub]; rfl
  have i := aN_near 33 3 (highN (xq r) (sq62 r) / 6) (sq62 r) (by omega) ((r * theta) * ((r * theta) * (r * theta) / ((6 : Nat) : Rat))) ((r * theta) * (r * theta))
  rw [ps_hr, hh, ha]
  clear hh ha
  have c6 : ((6 : Nat) : Rat) = 6 := rfl
  have c34 : ((33 + 1 : Nat) : Rat) = 34 := rfl
  rw [c34] at i
  rw [c6] at *
  obtain ⟨q1, q2, q3⟩ := hq
  generalize (aN 33 (highN (xq r) (sq62 r) / 6) (sq62 r) 3 : Rat) = A at *
  generalize ((highN (xq r) (sq62 r) / 6 : Nat) : Rat) = Q at *
  generalize hr 33 3 ((r * theta) * (r * theta)) = H at *
  generalize (r : Rat) * theta * (r * theta) / 6 = z at *
  generalize (xq r : Rat) = X at *
  generalize (sq62 r : Rat) = S at *
  generalize (r : Rat) * theta = x at *
  have tz := mul_bd x z 1 (1/2) (by grind) (by grind) (by grind) q2
  have tz0 := Rat.mul_nonneg x0 q1
  generalize e62 = d at *
  have i2 := i tz0 (by grind) y0 y1 s1 s2 (by grind) (by grind)
  constructor <;> grind
theorem qCos_near (r : Nat) (h : r ≤ 2700000) : -(110 * e62) ≤ (qCos r : Rat) * e62 - pc r ∧ (qCos r : Rat) * e62 - pc r ≤ 110 * e62 := by
  obtain ⟨y0, y1, x0, x1, s1, s2⟩ := sq62_near r h
  have hd := e62_pos
  have hw := e62_mul
  have tn := term_near (2^62) (sq62 r) 2 (by omega) 1 _ 0 (by grind) (by grind) (by grind) (by grind) y0 y1 s1 s2 (by rw [hw]; grind) (by rw [hw]; grind)
  have hq := quot_bd ((r * theta) * (r * theta)) 2 (by omega) y0 (by grind)
  have hh : hr 34 0 ((r * theta) * (r * theta)) = 1 - (r * theta) * (r * theta) / ((2 : Nat) : Rat) * hr 33 2 ((r * theta) * (r * theta)) := by simp only [hr]
  have tn2 := term_near (highN (2^62) (sq62 r) / 2) (sq62 r) 12 (by omega) (1 * ((r * theta) * (r * theta) / ((2 : Nat) : Rat))) _ (6 * e62) (by grind) (by grind) (by grind) (by grind) y0 y1 s1 s2
  have hq2 := quot_bd ((r * theta) * (r * theta)) 12 (by omega) y0 (by grind)
  have hh2 : hr 33 2 ((r * theta) * (r * theta)) = 1 - (r * theta) * (r * theta) / ((12 : Nat) : Rat) * hr 32 4 ((r * theta) * (r * theta)) := by simp only [hr]
  have ha : ((qCos r : Int) : Rat) = ((2^62 : Nat) : Rat) - ((highN (2^62) (sq62 r) / 2 : Nat) : Rat) + (aN 32 (highN (highN (2^62) (sq62 r) / 2) (sq62 r) / 12) (sq62 r) 4 : Rat) := by
    have e : qCos r = ((2^62 : Nat) : Int) - ((highN (2^62) (sq62 r) / 2 : Nat) : Int) + aN 32 (highN (highN (2^62) (sq62 r) / 2) (sq62 r) / 12) (sq62 r) 4 := by
      show aN (32 + 1 + 1) (2^62) (sq62 r) 0 = _
      rw [aN_succ, aN_succ]
      simp only [Nat.reduceAdd, Nat.reduceMul]
      generalize aN 32 _ _ _ = A
      omega
    rw [e, Rat.intCast_add, Rat.intCast_sub]; rfl
  have i := aN_near 32 4 (highN (highN (2^62) (sq62 r) / 2) (sq62 r) / 12) (sq62 r) (by omega) (1 * ((r * theta) * (r * theta) / ((2 : Nat) : Rat)) * ((r * theta) * (r * theta) / ((12 : Nat) : Rat))) ((r * theta) * (r * theta))
  rw [pc_hr, hh, hh2, ha]
  clear hh hh2 ha
  have c2 : ((2 : Nat) : Rat) = 2 := rfl
  have c12 : ((12 : Nat) : Rat) = 12 := rfl
  have c33 : ((32 + 1 : Nat) : Rat) = 33 := rfl
  rw [c33] at i
  rw [c12] at *
  rw [c2] at *
  obtain ⟨q1, q2, q3⟩ := hq
  obtain ⟨p1, p2, p3⟩ := hq2
  generalize (aN 32 (highN (highN (2^62) (sq62 r) / 2) (sq62 r) / 12) (sq62 r) 4 : Rat) = A at *
  generalize ((highN (highN (2^62) (sq62 r) / 2) (sq62 r) / 12 : Nat) : Rat) = Q2 at *
  generalize ((highN (2^62) (sq62 r) / 2 : Nat) : Rat) = Q at *
  generalize hr 32 4 ((r * theta) * (r * theta)) = H at *
  generalize (r : Rat) * theta * (r * theta) / 2 = z at *
  generalize (r : Rat) * theta * (r * theta) / 12 = z2 at *
  generalize (sq62 r : Rat) = S at *
  generalize ((2^62 : Nat) : Rat) = X at *
  generalize (r : Rat) * theta = x at *
  generalize e62 = d at *
  have tn2 := tn2 (by grind) (by grind)
  have tz := mul_bd z z2 1 (1/2) (by grind) (by grind) (by grind) p2
  have tz0 := Rat.mul_nonneg q1 p1
  have i2 := i (by grind) (by grind) y0 y1 s1 s2 (by grind) (by grind)
  constructor <;> grind
theorem d230_e62 : d230 ≤ e62 := by unfold d230 d256 e62; decide +kernel
/-- a number near to a value, rounded down with a doubt of 256 -/
theorem quick_fl (s : Rat) (V q : Int) (hq : FlR s q) (h1 : -(200 * e62) ≤ V * e62 - s) (h2 : V * e62 - s ≤ 200 * e62) : q * 4294967296 + 500 ≤ V ∧ V + 500 ≤ (q + 1) * 4294967296 := by
  obtain ⟨a, b⟩ := hq
  have e1 : u30 = 4294967296 * e62 := by unfold u30 e62; decide +kernel
  have e2 : mg = 768 * e62 := by unfold mg e62; decide +kernel
  have hd := e62_pos
  rw [e1, e2] at a b
  have g1 : ((q * 4294967296 + 500 : Int) : Rat) ≤ ((V : Int) : Rat) := by
    rw [Rat.intCast_add, Rat.intCast_mul]
    have c1 : ((4294967296 : Int) : Rat) = 4294967296 := rfl
    have c2 : ((500 : Int) : Rat) = 500 := rfl
    rw [c1, c2]
    generalize (q : Rat) = r at *
    generalize (V : Rat) = V at *
    generalize e62 = d at *
    have : (r * 4294967296 + 500) * d ≤ V * d := by grind
    exact Rat.le_of_mul_le_mul_right this hd
  have g2 : ((V + 500 : Int) : Rat) ≤ (((q + 1) * 4294967296 : Int) : Rat) := by
    rw [Rat.intCast_add, Rat.intCast_mul, Rat.intCast_add]
    have c1 : ((4294967296 : Int) : Rat) = 4294967296 := rfl
    have c2 : ((500 : Int) : Rat) = 500 := rfl
    have c3 : ((1 : Int) : Rat) = 1 := rfl
    rw [c1, c2, c3]
    generalize (q : Rat) = r at *
    generalize (V : Rat) = V at *
    generalize e62 = d at *
    have : (V + 500) * d ≤ ((r + 1) * 4294967296) * d := by grind
    exact Rat.le_of_mul_le_mul_right this hd
  exact ⟨Rat.intCast_le_intCast.1 g1, Rat.intCast_le_intCast.1 g2⟩
/-- the quick sine against the program's -/
theorem qSin_fl (r : Nat) (h : r ≤ 2700000) (h0 : r ≠ 0) (h1 : r ≠ 1800000) : ((sinW r / 2^226 : Nat) : Int) * 4294967296 + 500 ≤ qSin r ∧ qSin r + 500 ≤ (((sinW r / 2^226 : Nat) : Int) + 1) * 4294967296 := by
  obtain ⟨q, hq⟩ := fl_sin r h h0 h1
  rw [sinW_fl r h q hq]
  obtain ⟨a, b⟩ := qSin_near r h
  obtain ⟨⟨c, d⟩, _⟩ := near r h
  have := d230_e62
  apply quick_fl (zs r) _ _ hq <;> grind
theorem qCos_fl (r : Nat) (h : r ≤ 2700000) (h0 : r ≠ 0) : ((cosW r % W / 2^226 : Nat) : Int) * 4294967296 + 500 ≤ qCos r ∧ qCos r + 500 ≤ (((cosW r % W / 2^226 : Nat) : Int) + 1) * 4294967296 := by
  obtain ⟨q, hq⟩ := fl_cos r h h0
  rw [cosW_fl r h q hq]
  obtain ⟨a, b⟩ := qCos_near r h
  obtain ⟨_, c, d⟩ := near r h
  have := d230_e62
  apply quick_fl (zc r) _ _ hq <;> grind
end Alm
