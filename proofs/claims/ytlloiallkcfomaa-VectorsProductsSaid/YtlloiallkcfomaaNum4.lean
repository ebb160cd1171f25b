import Derived.Test.YtlloiallkcfomaaNum3
set_option linter.unusedVariables false
namespace Alm

theorem natR_sub (a b : Nat) (h : b ≤ a) : ((a - b : Nat) : Rat) = (a : Rat) - (b : Rat) := by
  have e : ((a - b + b : Nat) : Rat) = (a : Rat) := by rw [Nat.sub_add_cancel h]
  rw [Rat.natCast_add] at e; grind

/-- 2^256 -/
def W : Nat := 2^256
theorem W_pos : 0 < W := by decide +kernel

/-- the product as the program works it out: three of sixteen products of limbs are left out -/
def mulN (A B : Nat) : Nat :=
  (A * B - (2^64 * ((A / 2^64 % 2^64) * (B % 2^64) + (A % 2^64) * (B / 2^64 % 2^64)) + (A % 2^64) * (B % 2^64))) / W

theorem rest_lt (a b c d : Nat) (ha : a < 2^64) (hb : b < 2^64) (hc : c < 2^64) (hd : d < 2^64) :
    2^64 * (a * d + b * c) + b * d < W := by
  have h1 : a * d ≤ 2^64 * 2^64 := Nat.mul_le_mul (by omega) (by omega)
  have h2 : b * c ≤ 2^64 * 2^64 := Nat.mul_le_mul (by omega) (by omega)
  have h3 : b * d ≤ 2^64 * 2^64 := Nat.mul_le_mul (by omega) (by omega)
  unfold W; omega

theorem mulN_bd (A B : Nat) : mulN A B * W ≤ A * B ∧ A * B < (mulN A B + 2) * W := by
  have hr := rest_lt (A / 2^64 % 2^64) (A % 2^64) (B / 2^64 % 2^64) (B % 2^64) (Nat.mod_lt _ (by decide)) (Nat.mod_lt _ (by decide)) (Nat.mod_lt _ (by decide)) (Nat.mod_lt _ (by decide))
  unfold mulN
  generalize 2^64 * ((A / 2^64 % 2^64) * (B % 2^64) + (A % 2^64) * (B / 2^64 % 2^64)) + (A % 2^64) * (B % 2^64) = R at *
  generalize A * B = P
  have hW := W_pos
  generalize W = V at *
  have h1 := Nat.div_mul_le_self (P - R) V
  have h2 := Nat.lt_div_mul_add (a := P - R) hW
  constructor
  · omega
  · have : ((P - R) / V + 2) * V = (P - R) / V * V + V + V := by grind
    omega

theorem mulN_lt (A B : Nat) (hA : A < W) (hB : B ≤ W) : mulN A B ≤ A := by
  have h := (mulN_bd A B).1
  have h2 : A * B ≤ A * W := Nat.mul_le_mul_left A hB
  exact Nat.le_of_mul_le_mul_right (Nat.le_trans h h2) W_pos

def lessR : Nat → Nat → Nat → Nat
  | 0, _, _ => 0
  | m + 1, j, Y => Y / ((j + 1) * (j + 2)) - mulN (Y / ((j + 1) * (j + 2))) (lessR m (j + 2) Y)

theorem lessR_le (m j Y : Nat) (hY : Y < W) : lessR m j Y ≤ Y := by
  cases m with
  | zero => simp [lessR]
  | succ m => simp only [lessR]; have := Nat.div_le_self Y ((j+1)*(j+2)); omega

/-! in rationals, over 2^256 -/
theorem W_d : (W : Rat) * d256 = 1 := by
  have h := d256_mul
  have e : (W : Rat) = ((2^256 : Int) : Rat) := by unfold W; decide +kernel
  rw [e]; grind

theorem mulN_rat (A B : Nat) : (mulN A B : Rat) * d256 ≤ (A * d256) * (B * d256) ∧ (A * d256) * (B * d256) ≤ (mulN A B : Rat) * d256 + 2 * d256 := by
  obtain ⟨h1, h2⟩ := mulN_bd A B
  have g1 : ((mulN A B * W : Nat) : Rat) ≤ ((A * B : Nat) : Rat) := natR_le _ _ h1
  have g2 : ((A * B : Nat) : Rat) ≤ (((mulN A B + 2) * W : Nat) : Rat) := natR_le _ _ (by omega)
  have e2 : ((mulN A B + 2 : Nat) : Rat) = (mulN A B : Rat) + 2 := by norm_cast
  rw [Rat.natCast_mul, Rat.natCast_mul] at g1 g2
  rw [e2] at g2
  generalize (mulN A B : Rat) = m at *
  have hw := W_d
  have hd := d256_pos
  generalize (W : Rat) = w at *
  generalize d256 = d at *
  have hdd : 0 ≤ d * d := sq_nonneg d
  have k1 := Rat.mul_le_mul_of_nonneg_right g1 hdd
  have k2 := Rat.mul_le_mul_of_nonneg_right g2 hdd
  have e1 : m * w * (d * d) = m * d * (w * d) := by grind
  have e3 : (m + 2) * w * (d * d) = (m + 2) * d * (w * d) := by grind
  rw [e1, hw] at k1
  rw [e3, hw] at k2
  constructor <;> grind

theorem div_rat (Y D : Nat) (hD : 0 < D) (y : Rat) : ((Y / D : Nat) : Rat) * D * d256 ≤ Y * d256 ∧ Y * d256 ≤ ((Y / D : Nat) : Rat) * D * d256 + D * d256 := by
  have h1 := Nat.div_mul_le_self Y D
  have h2 := Nat.lt_div_mul_add (a := Y) hD
  have g1 : ((Y / D * D : Nat) : Rat) ≤ (Y : Rat) := natR_le _ _ h1
  have g2 : (Y : Rat) ≤ ((Y / D * D + D : Nat) : Rat) := natR_le _ _ (by omega)
  rw [Rat.natCast_mul] at g1
  rw [Rat.natCast_add, Rat.natCast_mul] at g2
  have hd := d256_pos
  have k1 := Rat.mul_le_mul_of_nonneg_right g1 (show 0 ≤ d256 by grind)
  have k2 := Rat.mul_le_mul_of_nonneg_right g2 (show 0 ≤ d256 by grind)
  exact ⟨by grind, by grind⟩

theorem lessR_near (m j Y : Nat) (y : Rat) (hY : Y < W) (h0 : 0 ≤ y) (h1 : y ≤ 1)
    (e1 : -(8 * d256) ≤ Y * d256 - y) (e2 : Y * d256 - y ≤ 8 * d256) :
    -(64 * d256) ≤ (lessR m j Y : Rat) * d256 - (1 - hr m j y) ∧ (lessR m j Y : Rat) * d256 - (1 - hr m j y) ≤ 64 * d256 := by
  have hd := d256_pos
  induction m generalizing j with
  | zero => simp only [lessR, hr]; constructor <;> grind
  | succ m ih =>
    have i := ih (j + 2)
    have hbd := hr_bd m (j+2) y h0 h1
    have hD : 2 ≤ (j+1)*(j+2) := by have := Nat.mul_le_mul (show 1 ≤ j + 1 by omega) (show 2 ≤ j + 2 by omega); omega
    have q := quot_bd y ((j+1)*(j+2)) hD h0 h1
    have qq := div_rat Y ((j+1)*(j+2)) (by omega) y
    have hm := mulN_rat (Y / ((j+1)*(j+2))) (lessR m (j+2) Y)
    have hle : mulN (Y / ((j+1)*(j+2))) (lessR m (j+2) Y) ≤ Y / ((j+1)*(j+2)) := by
      apply mulN_lt
      · have := Nat.div_le_self Y ((j+1)*(j+2)); omega
      · have := lessR_le m (j+2) Y hY; omega
    have hv1 : lessR m (j+2) Y ≤ W := by have := lessR_le m (j+2) Y hY; omega
    have hv := natR_le _ _ hv1
    have hv0 := natR_nonneg (lessR m (j+2) Y)
    simp only [lessR, hr]
    rw [natR_sub _ _ hle]
    have hDr : (2 : Rat) ≤ (((j+1)*(j+2) : Nat) : Rat) := by exact_mod_cast hD
    generalize hqN : ((Y / ((j+1)*(j+2)) : Nat) : Rat) = qN at *
    generalize (mulN (Y / ((j+1)*(j+2))) (lessR m (j+2) Y) : Rat) = pN at *
    generalize (lessR m (j+2) Y : Rat) = v at *
    generalize (((j+1)*(j+2) : Nat) : Rat) = D at *
    generalize hr m (j+2) y = H at *
    obtain ⟨q1, q2, q3⟩ := q
    generalize y / D = z at *
    have hw := W_d
    generalize d256 = d at *
    -- the quotient is near: |qN d - z| ≤ 5 d
    have a1 : (qN * d - z) * D ≤ 8 * d := by grind
    have a2 : -(8 * d) - D * d ≤ (qN * d - z) * D := by grind
    have b1 : qN * d - z ≤ 5 * d := by
      rcases Rat.le_total (a := qN * d - z) (b := 5 * d) with h | h
      · exact h
      · have := Rat.mul_nonneg (show 0 ≤ (qN * d - z) - 5 * d by grind) (show 0 ≤ D - 2 by grind)
        have := Rat.mul_nonneg (show 0 ≤ d by grind) (show 0 ≤ D - 2 by grind)
        grind
    have b2 : -(5 * d) ≤ qN * d - z := by
      rcases Rat.le_total (a := -(5 * d)) (b := qN * d - z) with h | h
      · exact h
      · have := Rat.mul_nonneg (show 0 ≤ -(5*d) - (qN * d - z) by grind) (show 0 ≤ D - 2 by grind)
        have := Rat.mul_nonneg (show 0 ≤ d by grind) (show 0 ≤ D - 2 by grind)
        grind
    have vd1 : v * d ≤ 1 := by have := Rat.mul_le_mul_of_nonneg_right hv (show 0 ≤ d by grind); grind
    have vd0 : 0 ≤ v * d := Rat.mul_nonneg hv0 (by grind)
    have t1 := mul_bd (qN * d - z) (1 - v * d) (5 * d) 1 b2 b1 (by grind) (by grind)
    have t2 := mul_bd z (v * d - (1 - H)) (1/2) (64 * d) (by grind) (by grind) (by grind) (by grind)
    constructor <;> grind

/-! the angle in radians -/
def PiN : Nat := 3 * 2^256 + 0x243F6A8885A308D313198A2E03707344A4093822299F31D0082EFA98EC4E6C89
def radN (n : Nat) : Nat := n * PiN / 10800000

theorem pi_near : (PiN : Int) * 2^64 - th * 10800000 ≤ 2^64 ∧ -(2^64) ≤ (PiN : Int) * 2^64 - th * 10800000 := by decide +kernel

theorem theta_bd : 0 < theta ∧ theta * 2700000 ≤ 4/5 := by
  unfold theta; constructor <;> decide +kernel

theorem theta_pi : -d256 ≤ (PiN : Rat) * d256 - theta * 10800000 ∧ (PiN : Rat) * d256 - theta * 10800000 ≤ d256 := by
  unfold theta d256; constructor <;> decide +kernel

theorem radN_near (n : Nat) (h : n ≤ 2700000) : -(2 * d256) ≤ (radN n : Rat) * d256 - n * theta ∧ (radN n : Rat) * d256 - n * theta ≤ 2 * d256 := by
  have q := div_rat (n * PiN) 10800000 (by omega) 0
  have hp := theta_pi
  have hd := d256_pos
  have hn : (n : Rat) ≤ 2700000 := by exact_mod_cast h
  have hn0 := natR_nonneg n
  unfold radN
  rw [Rat.natCast_mul] at q
  have e : ((10800000 : Nat) : Rat) = 10800000 := rfl
  rw [e] at q
  generalize ((n * PiN / 10800000 : Nat) : Rat) = r at *
  generalize (PiN : Rat) = P at *
  generalize d256 = d at *
  have t := mul_bd (n : Rat) (P * d - theta * 10800000) 2700000 d (by grind) hn hp.1 hp.2
  constructor <;> grind

theorem radN_lt (n : Nat) (h : n ≤ 2700000) : radN n < W := by
  have : n * PiN ≤ 2700000 * PiN := Nat.mul_le_mul_right _ h
  have h2 : 2700000 * PiN < 10800000 * W := by decide +kernel
  unfold radN
  apply Nat.div_lt_of_lt_mul; omega

attribute [irreducible] mulN lessR radN W PiN

/-- the sine of an angle up to an eighth of a turn, and the cosine, times 2^256 -/
def sinW (n : Nat) : Nat := radN n - mulN (radN n) (lessR 34 1 (mulN (radN n) (radN n)))
def cosW (n : Nat) : Nat := W - lessR 34 0 (mulN (radN n) (radN n))

theorem sq_near (n : Nat) (h : n ≤ 2700000) : mulN (radN n) (radN n) < W ∧ 0 ≤ (n * theta) * (n * theta) ∧ (n * theta) * (n * theta) ≤ 1 ∧
    -(8 * d256) ≤ (mulN (radN n) (radN n) : Rat) * d256 - (n * theta) * (n * theta) ∧ (mulN (radN n) (radN n) : Rat) * d256 - (n * theta) * (n * theta) ≤ 8 * d256 := by
  have hr := radN_near n h
  have hl := radN_lt n h
  have hm := mulN_rat (radN n) (radN n)
  have hlt := mulN_lt (radN n) (radN n) hl (by omega)
  have hd := d256_pos
  have hn : (n : Rat) ≤ 2700000 := by exact_mod_cast h
  have hn0 := natR_nonneg n
  have ht := theta_bd
  have x1 : (n : Rat) * theta ≤ 4/5 := by
    have := Rat.mul_le_mul_of_nonneg_right hn (show 0 ≤ theta by grind); grind
  have x0 : 0 ≤ (n : Rat) * theta := Rat.mul_nonneg hn0 (by grind)
  have hd1 : d256 ≤ 1/100 := by unfold d256; decide +kernel
  generalize (mulN (radN n) (radN n) : Rat) = M at *
  generalize (radN n : Rat) = X at *
  generalize (n : Rat) * theta = x at *
  have t := mul_bd (X * d256 - x) (X * d256 + x) (2 * d256) 2 hr.1 hr.2 (by grind) (by grind)
  have t2 := mul_bd x x (4/5) (4/5) (by grind) x1 (by grind) x1
  refine ⟨by omega, sq_nonneg _, by grind, by grind, by grind⟩

theorem sinW_near (n : Nat) (h : n ≤ 2700000) : -(100 * d256) ≤ (sinW n : Rat) * d256 - ps n ∧ (sinW n : Rat) * d256 - ps n ≤ 100 * d256 := by
  obtain ⟨hY, y0, y1, e1, e2⟩ := sq_near n h
  have hl := lessR_near 34 1 _ _ hY y0 y1 e1 e2
  have hb := hr_bd 34 1 _ y0 y1
  have hrr := radN_near n h
  have hrl := radN_lt n h
  have hlw := lessR_le 34 1 _ hY
  have hm := mulN_rat (radN n) (lessR 34 1 (mulN (radN n) (radN n)))
  have hle := mulN_lt (radN n) (lessR 34 1 (mulN (radN n) (radN n))) hrl (by omega)
  have hv := natR_le _ W (show lessR 34 1 (mulN (radN n) (radN n)) ≤ W by omega)
  have hv0 := natR_nonneg (lessR 34 1 (mulN (radN n) (radN n)))
  unfold sinW
  rw [natR_sub _ _ hle, ps_hr]
  have hd := d256_pos
  have hn : (n : Rat) ≤ 2700000 := by exact_mod_cast h
  have hn0 := natR_nonneg n
  have ht := theta_bd
  have x1 : (n : Rat) * theta ≤ 4/5 := by
    have := Rat.mul_le_mul_of_nonneg_right hn (show 0 ≤ theta by grind); grind
  have x0 : 0 ≤ (n : Rat) * theta := Rat.mul_nonneg hn0 (by grind)
  have hw := W_d
  generalize hr 34 1 ((n * theta) * (n * theta)) = H at *
  generalize (mulN (radN n) (lessR 34 1 (mulN (radN n) (radN n))) : Rat) = M at *
  generalize (lessR 34 1 (mulN (radN n) (radN n)) : Rat) = v at *
  generalize (radN n : Rat) = X at *
  generalize (n : Rat) * theta = x at *
  generalize d256 = d at *
  have vd1 : v * d ≤ 1 := by have := Rat.mul_le_mul_of_nonneg_right hv (show 0 ≤ d by grind); grind
  have vd0 : 0 ≤ v * d := Rat.mul_nonneg hv0 (by grind)
  have t1 := mul_bd (X * d - x) (1 - v * d) (2 * d) 1 hrr.1 hrr.2 (by grind) (by grind)
  have t2 := mul_bd x (v * d - (1 - H)) 1 (64 * d) (by grind) (by grind) (by grind) (by grind)
  constructor <;> grind

theorem cosW_near (n : Nat) (h : n ≤ 2700000) : -(100 * d256) ≤ (cosW n : Rat) * d256 - pc n ∧ (cosW n : Rat) * d256 - pc n ≤ 100 * d256 := by
  obtain ⟨hY, y0, y1, e1, e2⟩ := sq_near n h
  have hl := lessR_near 34 0 _ _ hY y0 y1 e1 e2
  have hlw := lessR_le 34 0 _ hY
  have hc : cosW n = W - lessR 34 0 (mulN (radN n) (radN n)) := rfl
  rw [hc, pc_hr]
  have hw := W_d
  have hd := d256_pos
  have hle : lessR 34 0 (mulN (radN n) (radN n)) ≤ W := Nat.le_trans hlw (Nat.le_of_lt hY)
  clear hc hlw hY
  generalize hr 34 0 ((n * theta) * (n * theta)) = H at *
  generalize lessR 34 0 (mulN (radN n) (radN n)) = l at *
  have e := natR_sub W l hle
  rw [e]
  constructor <;> grind
attribute [irreducible] sinW cosW
end Alm
