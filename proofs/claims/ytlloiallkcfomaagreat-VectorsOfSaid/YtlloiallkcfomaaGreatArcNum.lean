/- Plain numbers: the sine and the cosine of package arctrig, with 192 binary digits behind the point. -/
import Derived.Test.YtlloiallkcfomaaGreatNums
set_option linter.unusedVariables false
namespace Alm
/-- 2^192 -/
def QA : Nat := 2^192
theorem QA_val : QA = 6277101735386680763835789423207666416102355444464034512896 := by unfold QA; decide +kernel
def PiA : Nat := 3 * 2^192 + 0x243F6A8885A308D313198A2E03707344A4093822299F31D0
def mulA (A B : Nat) : Nat := A * B / QA
def radA (n : Nat) : Nat := n * PiA / 10800000
/-- a series from a term on: m more terms -/
def serA : Nat → Nat → Nat → Nat → Int
  | 0, T, _, _ => T
  | m + 1, T, Y, j => T - serA m (mulA T Y / ((j + 1) * (j + 2))) Y (j + 2)
theorem serA_zero (m Y j : Nat) : serA m 0 Y j = 0 := by
  induction m generalizing j with
  | zero => rfl
  | succ m ih =>
    have e : mulA 0 Y / ((j + 1) * (j + 2)) = 0 := by unfold mulA; simp
    simp only [serA, e, ih]; rfl
def d192 : Rat := 1 / (2^192 : Int)
theorem d192_pos : 0 < d192 := by unfold d192; decide +kernel
theorem QA_d : (QA : Rat) * d192 = 1 := by unfold QA d192; decide +kernel
theorem divA_rat (Y D : Nat) (hD : 0 < D) : ((Y / D : Nat) : Rat) * D ≤ Y ∧ (Y : Rat) ≤ ((Y / D : Nat) : Rat) * D + D := by
  have h1 := Nat.div_mul_le_self Y D
  have h2 := Nat.lt_div_mul_add (a := Y) hD
  have g1 : ((Y / D * D : Nat) : Rat) ≤ (Y : Rat) := natR_le _ _ h1
  have g2 : (Y : Rat) ≤ ((Y / D * D + D : Nat) : Rat) := natR_le _ _ (by omega)
  rw [Rat.natCast_mul] at g1
  rw [Rat.natCast_add, Rat.natCast_mul] at g2
  exact ⟨g1, g2⟩
theorem mulA_rat (A B : Nat) : (mulA A B : Rat) * d192 ≤ (A * d192) * (B * d192) ∧ (A * d192) * (B * d192) ≤ (mulA A B : Rat) * d192 + d192 := by
  have h := divA_rat (A * B) QA (by rw [QA_val]; omega)
  rw [Rat.natCast_mul] at h
  unfold mulA
  have hw := QA_d
  have hd := d192_pos
  generalize ((A * B / QA : Nat) : Rat) = m at *
  generalize (QA : Rat) = w at *
  generalize d192 = d at *
  have hdd : 0 ≤ d * d := sq_nonneg d
  have k1 := Rat.mul_le_mul_of_nonneg_right h.1 hdd
  have k2 := Rat.mul_le_mul_of_nonneg_right h.2 hdd
  have e1 : m * w * (d * d) = m * d * (w * d) := by grind
  have e3 : (m * w + w) * (d * d) = (m * d + d) * (w * d) := by grind
  rw [e1, hw] at k1
  rw [e3, hw] at k2
  constructor <;> grind
/-- the next term -/
theorem next_near (T Y D : Nat) (y z : Rat) (hD : 2 ≤ D) (hT : (T : Rat) * d192 ≤ 1) (h0 : 0 ≤ y) (h1 : y ≤ 1) (hz : y / (D : Rat) = z)
    (e1 : -(8 * d192) ≤ Y * d192 - y) (e2 : Y * d192 - y ≤ 8 * d192) :
    -(6 * d192) ≤ ((mulA T Y / D : Nat) : Rat) * d192 - T * d192 * z ∧ ((mulA T Y / D : Nat) : Rat) * d192 - T * d192 * z ≤ 6 * d192 := by
  have hm := mulA_rat T Y
  have hq := divA_rat (mulA T Y) D (by omega)
  have q := quot_bd y D hD h0 h1
  rw [hz] at q
  have hDr : (2 : Rat) ≤ (D : Rat) := by exact_mod_cast hD
  have hd := d192_pos
  have hT0 := natR_nonneg T
  generalize ((mulA T Y / D : Nat) : Rat) = u at *
  generalize (mulA T Y : Rat) = M at *
  generalize (D : Rat) = D at *
  generalize d192 = d at *
  have t0 : 0 ≤ (T : Rat) * d := Rat.mul_nonneg hT0 (by grind)
  generalize (T : Rat) * d = t at *
  obtain ⟨q1, q2, q3⟩ := q
  have k1 := Rat.mul_le_mul_of_nonneg_right hq.1 (show 0 ≤ d by grind)
  have k2 := Rat.mul_le_mul_of_nonneg_right hq.2 (show 0 ≤ d by grind)
  have m1 := mul_bd t (Y * d - y) 1 (8 * d) (by grind) hT e1 e2
  generalize (Y : Rat) * d = Yd at *
  -- (u d - t z) D is within 8 d and - 9 d - D d
  have a1 : (u * d - t * z) * D ≤ 8 * d := by
    have : t * z * D = t * y := by rw [← q3]; grind
    grind
  have a2 : -(9 * d) - D * d ≤ (u * d - t * z) * D := by
    have : t * z * D = t * y := by rw [← q3]; grind
    grind
  constructor
  · rcases Rat.le_total (a := -(6 * d)) (b := u * d - t * z) with h | h
    · exact h
    · have := Rat.mul_nonneg (show 0 ≤ -(6*d) - (u * d - t * z) by grind) (show 0 ≤ D - 2 by grind)
      have := Rat.mul_nonneg (show 0 ≤ d by grind) (show 0 ≤ D - 2 by grind)
      grind
  · rcases Rat.le_total (a := u * d - t * z) (b := 6 * d) with h | h
    · exact h
    · have := Rat.mul_nonneg (show 0 ≤ (u * d - t * z) - 6 * d by grind) (show 0 ≤ D - 2 by grind)
      have := Rat.mul_nonneg (show 0 ≤ d by grind) (show 0 ≤ D - 2 by grind)
      grind
theorem term_le (T Y D : Nat) (hY : Y ≤ QA) (hD : 0 < D) : mulA T Y / D ≤ T / D := by
  apply Nat.div_le_div_right
  unfold mulA
  apply Nat.div_le_of_le_mul
  rw [Nat.mul_comm QA]
  exact Nat.mul_le_mul_left _ hY
theorem serA_near (m T Y j : Nat) (y : Rat) (hT : T ≤ QA) (hY : Y ≤ QA) (h0 : 0 ≤ y) (h1 : y ≤ 1)
    (e1 : -(8 * d192) ≤ Y * d192 - y) (e2 : Y * d192 - y ≤ 8 * d192) :
    -((m : Rat) * (6 * d192)) ≤ (serA m T Y j : Rat) * d192 - T * d192 * hr m j y ∧ (serA m T Y j : Rat) * d192 - T * d192 * hr m j y ≤ (m : Rat) * (6 * d192) := by
  have hd := d192_pos
  induction m generalizing T j with
  | zero => simp only [serA, hr]; rw [Rat.intCast_natCast]; constructor <;> grind
  | succ m ih =>
    have hD : 2 ≤ (j+1)*(j+2) := by have := Nat.mul_le_mul (show 1 ≤ j + 1 by omega) (show 2 ≤ j + 2 by omega); omega
    have hle : mulA T Y / ((j+1)*(j+2)) ≤ T := Nat.le_trans (term_le T Y _ hY (by omega)) (Nat.div_le_self _ _)
    have i := ih (mulA T Y / ((j+1)*(j+2))) (j + 2) (by omega)
    have hT1 : (T : Rat) * d192 ≤ 1 := by
      have := Rat.mul_le_mul_of_nonneg_right (natR_le _ _ hT) (show 0 ≤ d192 by grind)
      have := QA_d; grind
    have n := next_near T Y ((j+1)*(j+2)) y _ hD hT1 h0 h1 rfl e1 e2
    have hb := hr_bd m (j+2) y h0 h1
    simp only [serA, hr]
    rw [Rat.intCast_sub, Rat.intCast_natCast]
    have em : ((m + 1 : Nat) : Rat) = (m : Rat) + 1 := by norm_cast
    rw [em]
    generalize (serA m (mulA T Y / ((j+1)*(j+2))) Y (j+2) : Rat) = S at *
    generalize ((mulA T Y / ((j+1)*(j+2)) : Nat) : Rat) = u at *
    generalize y / (((j+1)*(j+2) : Nat) : Rat) = z at *
    generalize hr m (j+2) y = H at *
    generalize (m : Rat) = mm at *
    generalize (T : Rat) = t at *
    generalize d192 = d at *
    have t1 := mul_bd (u * d - t * d * z) H (6 * d) 1 n.1 n.2 (by grind) (by grind)
    constructor <;> grind
theorem thetaA_pi : -d192 ≤ (PiA : Rat) * d192 - theta * 10800000 ∧ (PiA : Rat) * d192 - theta * 10800000 ≤ d192 := by
  unfold theta d192; constructor <;> decide +kernel
theorem radA_near (n : Nat) (h : n ≤ 2700000) : -(2 * d192) ≤ (radA n : Rat) * d192 - n * theta ∧ (radA n : Rat) * d192 - n * theta ≤ 2 * d192 := by
  have q := divA_rat (n * PiA) 10800000 (by omega)
  have hp := thetaA_pi
  have hd := d192_pos
  have hn : (n : Rat) ≤ 2700000 := by exact_mod_cast h
  have hn0 := natR_nonneg n
  unfold radA
  rw [Rat.natCast_mul] at q
  have e : ((10800000 : Nat) : Rat) = 10800000 := rfl
  rw [e] at q
  generalize ((n * PiA / 10800000 : Nat) : Rat) = r at *
  generalize (PiA : Rat) = P at *
  generalize d192 = d at *
  have k1 := Rat.mul_le_mul_of_nonneg_right q.1 (show 0 ≤ d by grind)
  have k2 := Rat.mul_le_mul_of_nonneg_right q.2 (show 0 ≤ d by grind)
  have t := mul_bd (n : Rat) (P * d - theta * 10800000) 2700000 d (by grind) hn hp.1 hp.2
  constructor <;> grind
theorem radA_lt (n : Nat) (h : n ≤ 2700000) : radA n < QA := by
  have : n * PiA ≤ 2700000 * PiA := Nat.mul_le_mul_right _ h
  have h2 : 2700000 * PiA < 10800000 * QA := by decide +kernel
  unfold radA
  apply Nat.div_lt_of_lt_mul; omega
def sqA (n : Nat) : Nat := mulA (radA n) (radA n)
def sinA (n : Nat) : Int := serA 34 (radA n) (sqA n) 1
def cosA (n : Nat) : Int := serA 34 QA (sqA n) 0
theorem mulA_lt (A B : Nat) (hA : A < QA) (hB : B ≤ QA) : mulA A B < QA := by
  have : mulA A B ≤ A := by
    unfold mulA
    apply Nat.div_le_of_le_mul
    rw [Nat.mul_comm QA]
    exact Nat.mul_le_mul_left _ hB
  omega
theorem sqA_near (n : Nat) (h : n ≤ 2700000) : sqA n < QA ∧ 0 ≤ (n * theta) * (n * theta) ∧ (n * theta) * (n * theta) ≤ 1 ∧
    -(8 * d192) ≤ (sqA n : Rat) * d192 - (n * theta) * (n * theta) ∧ (sqA n : Rat) * d192 - (n * theta) * (n * theta) ≤ 8 * d192 := by
  have hr := radA_near n h
  have hl := radA_lt n h
  have hm := mulA_rat (radA n) (radA n)
  have hlt := mulA_lt (radA n) (radA n) hl (by omega)
  have hd := d192_pos
  have hn : (n : Rat) ≤ 2700000 := by exact_mod_cast h
  have hn0 := natR_nonneg n
  have ht := theta_bd
  have x1 : (n : Rat) * theta ≤ 4/5 := by
    have := Rat.mul_le_mul_of_nonneg_right hn (show 0 ≤ theta by grind); grind
  have x0 : 0 ≤ (n : Rat) * theta := Rat.mul_nonneg hn0 (by grind)
  have hd1 : d192 ≤ 1/100 := by unfold d192; decide +kernel
  unfold sqA
  generalize (mulA (radA n) (radA n) : Rat) = M at *
  generalize (radA n : Rat) = X at *
  generalize (n : Rat) * theta = x at *
  generalize d192 = d at *
  have t := mul_bd (X * d - x) (X * d + x) (2 * d) 2 hr.1 hr.2 (by grind) (by grind)
  have t2 := mul_bd x x (4/5) (4/5) (by grind) x1 (by grind) x1
  refine ⟨hlt, sq_nonneg _, by grind, by grind, by grind⟩
theorem sinA_near (n : Nat) (h : n ≤ 2700000) : -(210 * d192) ≤ (sinA n : Rat) * d192 - ps n ∧ (sinA n : Rat) * d192 - ps n ≤ 210 * d192 := by
  obtain ⟨hY, y0, y1, e1, e2⟩ := sqA_near n h
  have hl := serA_near 34 (radA n) (sqA n) 1 _ (Nat.le_of_lt (radA_lt n h)) (Nat.le_of_lt hY) y0 y1 e1 e2
  have hb := hr_bd 34 1 _ y0 y1
  have hrr := radA_near n h
  unfold sinA
  rw [ps_hr]
  have e34 : ((34 : Nat) : Rat) = 34 := rfl
  rw [e34] at hl
  have hd := d192_pos
  generalize hr 34 1 ((n * theta) * (n * theta)) = H at *
  generalize (serA 34 (radA n) (sqA n) 1 : Rat) = M at *
  generalize (radA n : Rat) = X at *
  generalize (n : Rat) * theta = x at *
  generalize d192 = d at *
  have t1 := mul_bd (X * d - x) H (2 * d) 1 hrr.1 hrr.2 (by grind) (by grind)
  constructor <;> grind
theorem cosA_near (n : Nat) (h : n ≤ 2700000) : -(210 * d192) ≤ (cosA n : Rat) * d192 - pc n ∧ (cosA n : Rat) * d192 - pc n ≤ 210 * d192 := by
  obtain ⟨hY, y0, y1, e1, e2⟩ := sqA_near n h
  have hl := serA_near 34 QA (sqA n) 0 _ (Nat.le_refl _) (Nat.le_of_lt hY) y0 y1 e1 e2
  have hw := QA_d
  unfold cosA
  rw [pc_hr]
  have e34 : ((34 : Nat) : Rat) = 34 := rfl
  rw [e34] at hl
  rw [hw] at hl
  have hd := d192_pos
  generalize hr 34 0 ((n * theta) * (n * theta)) = H at *
  generalize (serA 34 QA (sqA n) 0 : Rat) = M at *
  generalize d192 = d at *
  constructor <;> grind
theorem d230_192 : d230 ≤ d192 := by unfold d230 d256 d192; decide +kernel
theorem sinA_z (n : Nat) (h : n ≤ 2700000) : -(220 * d192) ≤ (sinA n : Rat) * d192 - zs n ∧ (sinA n : Rat) * d192 - zs n ≤ 220 * d192 := by
  have a := sinA_near n h; have b := (near n h).1; have c := d230_192; have d := d192_pos; grind
theorem cosA_z (n : Nat) (h : n ≤ 2700000) : -(220 * d192) ≤ (cosA n : Rat) * d192 - zc n ∧ (cosA n : Rat) * d192 - zc n ≤ 220 * d192 := by
  have a := cosA_near n h; have b := (near n h).2; have c := d230_192; have d := d192_pos; grind
/-! the loop -/
/-- the bounds of the terms -/
def bndT : Nat → Nat
  | 0 => QA
  | i + 1 => bndT i / ((2 * i + 1) * (2 * i + 2))
theorem bndT_end : bndT 34 = 0 := by decide +kernel
/-- what holds at the head of the loop: the whole sum R, the sum so far, the last term, its number, the sign of the next one -/
def SerI (R : Int) (F Y s T n : Nat) (mi : Bool) : Prop :=
  ∃ m, m ≤ 34 ∧ T ≤ bndT (34 - m) ∧ 2 * (34 - m) ≤ n ∧ n ≤ 2 * (34 - m) + 1 ∧ T ≤ QA ∧ F ≤ QA ∧
    (if mi then R = s + (serA m T Y n - T) ∧ T ≤ s ∧ s ≤ F else R = s - (serA m T Y n - T) ∧ s + T ≤ F)
theorem serI_start (F Y n : Nat) (hF : F ≤ QA) (hn : n ≤ 1) : SerI (serA 34 F Y n) F Y F F n true :=
  ⟨34, by omega, hF, by omega, by omega, hF, hF, by simp; omega⟩
theorem serI_done {R : Int} {F Y s n : Nat} {mi : Bool} (h : SerI R F Y s 0 n mi) : R = s := by
  obtain ⟨m, _, _, _, _, _, _, h⟩ := h
  rw [serA_zero] at h
  cases mi <;> simp at h <;> omega
theorem serI_next {R : Int} {F Y s T n : Nat} {mi : Bool} (hY : Y ≤ QA) (h : SerI R F Y s T n mi) (hT : 0 < T) :
    n ≤ 67 ∧ mulA T Y / ((n + 1) * (n + 2)) < T ∧ (if mi then mulA T Y / ((n + 1) * (n + 2)) ≤ s ∧ SerI R F Y (s - mulA T Y / ((n + 1) * (n + 2))) (mulA T Y / ((n + 1) * (n + 2))) (n + 2) false
      else s + mulA T Y / ((n + 1) * (n + 2)) ≤ QA ∧ SerI R F Y (s + mulA T Y / ((n + 1) * (n + 2))) (mulA T Y / ((n + 1) * (n + 2))) (n + 2) true) := by
  obtain ⟨m, hm, hb, hn1, hn2, hTQ, hF, h⟩ := h
  cases m with
  | zero => simp only [Nat.sub_zero] at hb; rw [bndT_end] at hb; omega
  | succ m =>
    have hD : 2 ≤ (n+1)*(n+2) := by have := Nat.mul_le_mul (show 1 ≤ n + 1 by omega) (show 2 ≤ n + 2 by omega); omega
    have hle := term_le T Y ((n+1)*(n+2)) hY (by omega)
    have h2 : T / ((n+1)*(n+2)) ≤ T / 2 := Nat.div_le_div_left hD (by omega)
    have hbn : mulA T Y / ((n+1)*(n+2)) ≤ bndT (34 - m) := by
      have e : 34 - m = (34 - (m + 1)) + 1 := by omega
      rw [e]
      simp only [bndT]
      refine Nat.le_trans hle ?_
      refine Nat.le_trans (Nat.div_le_div_right hb) ?_
      exact Nat.div_le_div_left (Nat.mul_le_mul (by omega) (by omega)) (Nat.mul_pos (by omega) (by omega))
    have es : serA (m + 1) T Y n = T - serA m (mulA T Y / ((n+1)*(n+2))) Y (n+2) := by simp only [serA]
    rw [es] at h
    generalize mulA T Y / ((n+1)*(n+2)) = U at *
    refine ⟨by omega, by omega, ?_⟩
    cases mi
    · simp only [Bool.false_eq_true, if_false] at h ⊢
      refine ⟨by omega, m, by omega, hbn, by omega, by omega, by omega, hF, ?_⟩
      simp only [if_true]; omega
    · simp only [if_true] at h ⊢
      refine ⟨by omega, m, by omega, hbn, by omega, by omega, by omega, hF, ?_⟩
      simp only [Bool.false_eq_true, if_false]; omega
attribute [irreducible] serA mulA radA QA PiA bndT
end Alm
