/- Plain numbers: the sines of all angles are far from the multiples of 2^-30. -/
import Derived.Test.YtlloiallkcfomaaNum8
set_option linter.unusedVariables false
namespace Alm
theorem zc_one : zc 1 = c1 := by rw [show (1 : Nat) = 0 + 1 from rfl, zc_succ, zc_zero, zs_zero]; grind
theorem zs_one : zs 1 = s1 := by rw [show (1 : Nat) = 0 + 1 from rfl, zs_succ, zc_zero, zs_zero]; grind
theorem theta_small : theta * 2000 ≤ 59/100000 := by unfold theta; decide +kernel
theorem d230_tiny : d230 ≤ 1/1000000000 := by unfold d230 d256; decide +kernel
/-- the sine of up to 2000 steps is small -/
theorem zs_small (n : Nat) (h : n ≤ 2000) : zs n ≤ 6/10000 := by
  obtain ⟨h1, _⟩ := near n (by omega)
  obtain ⟨_, y0, y1, _, _⟩ := sq_near n (by omega)
  have hh := (hr_bd 34 1 _ y0 y1)
  have ht := theta_bd.1
  have hx : 0 ≤ (n : Rat) * theta := Rat.mul_nonneg (natR_nonneg n) (Rat.le_of_lt ht)
  have hn : (n : Rat) ≤ 2000 := by exact_mod_cast h
  have hx2 := Rat.mul_le_mul_of_nonneg_right hn (Rat.le_of_lt ht)
  have hx3 := theta_small
  have hm := Rat.mul_nonneg hx (show 0 ≤ 1 - hr 34 1 ((n * theta) * (n * theta)) by have := hh.2; grind)
  have e := ps_hr n
  have k := d230_tiny
  clear y0 y1 hh
  generalize hr 34 1 ((n * theta) * (n * theta)) = H at *
  generalize ps n = a at *
  generalize zs n = b at *
  generalize (n : Rat) * theta = x at *
  grind
theorem F96_near : NearP (F96, 0) 0 0 := by
  unfold NearP; simp only []
  rw [zc_zero, zs_zero, e96_F]
  simp
  grind
/-- from a relation of rationals to one of naturals -/
theorem sub_ok (a b c d : Nat) (A B C D : Rat) (h1 : (a : Rat) * e96 ≤ A) (h2 : (b : Rat) * e96 ≤ B) (h3 : C ≤ (c : Rat) * e96) (h4 : D ≤ (d : Rat) * e96) (hC : 0 ≤ C) (hD : 0 ≤ D) (h : A * B ≤ C * D) : a * b ≤ c * d := by
  have hp := e96_pos
  have ha := natR_nonneg a; have hb := natR_nonneg b
  have pa : 0 ≤ (a : Rat) * e96 := Rat.mul_nonneg ha (Rat.le_of_lt hp)
  have pb : 0 ≤ (b : Rat) * e96 := Rat.mul_nonneg hb (Rat.le_of_lt hp)
  have k1 := Rat.mul_le_mul_of_nonneg_right h1 pb
  have k2 := Rat.mul_le_mul_of_nonneg_left h2 (show 0 ≤ A by grind)
  have k3 := Rat.mul_le_mul_of_nonneg_right h3 hD
  have k4 := Rat.mul_le_mul_of_nonneg_left h4 (show 0 ≤ (c : Rat) * e96 by grind)
  have hle : ((a * b : Nat) : Rat) ≤ ((c * d : Nat) : Rat) := by
    rw [Rat.natCast_mul, Rat.natCast_mul]
    have hpp : (0 : Rat) < e96 * e96 := Rat.mul_pos hp hp
    apply Rat.le_of_mul_le_mul_right (c := e96 * e96) _ hpp
    generalize (a : Rat) = a at *
    generalize (b : Rat) = b at *
    generalize (c : Rat) = c at *
    generalize (d : Rat) = d at *
    generalize e96 = e at *
    have e1 : a * b * (e * e) = a * e * (b * e) := by grind
    have e2 : c * d * (e * e) = c * e * (d * e) := by grind
    grind
  exact_mod_cast hle
/-- the table -/
theorem st1_near (p : Nat × Nat) (n : Nat) (hn : n < 2000) (h : NearP p n (7 * n * e96)) : NearP (st1 p) (n + 1) (7 * (n + 1 : Nat) * e96) := by
  have hp := e96_pos; have hs := e96_small
  have hc := c1_near; have hs1 := s1_near
  have b1 := s1_bd; have b2 := c1_bd
  have zsn := zs_small n (by omega)
  have zcn := zc_pos n (by omega)
  have hnn : (n : Rat) ≤ 2000 := by exact_mod_cast (show n ≤ 2000 by omega)
  have hn0 := natR_nonneg n
  have he0 : 0 ≤ 7 * (n : Rat) * e96 := Rat.mul_nonneg (by grind) (by grind)
  have he1 : 7 * (n : Rat) * e96 ≤ 14000 * e96 := Rat.mul_le_mul_of_nonneg_right (by grind) (by grind)
  have c1v : 9/10 ≤ c1 := by have := unit1; have : s1 * s1 ≤ 1/1000000 * (1/1000000) := sq_le_of_abs s1 _ (by grind) (by grind); rcases Rat.le_total (a := 9/10) (b := c1) with h | h; · exact h
                             · have := sq_le_of_abs c1 (9/10) (by grind) h; grind
  have g := rot_near p n 1 rc1 rs1 (7 * n * e96) he0 (by grind) h (by rw [zc_one]; constructor <;> grind) (by rw [zs_one]; constructor <;> grind) (by rw [zs_one]; grind)
    (by
      obtain ⟨⟨a1, a2⟩, ⟨a3, a4⟩⟩ := h
      apply sub_ok p.2 rs1 p.1 rc1 (1/100) (1/100) (1/10) (1/10) <;> grind)
  rw [zs_one] at g
  have hle : 7 * (n : Rat) * e96 * (1 + s1) + 6 * e96 ≤ 7 * (n + 1 : Nat) * e96 := by
    have e1 : ((n + 1 : Nat) : Rat) = (n : Rat) + 1 := by norm_cast
    rw [e1]
    have m := Rat.mul_le_mul_of_nonneg_left b1.2 he0
    grind
  have e2 := st1_eq p
  rw [e2]
  generalize 7 * (n : Rat) * e96 * (1 + s1) + 6 * e96 = E at *
  unfold NearP at *
  obtain ⟨⟨a1, a2⟩, ⟨a3, a4⟩⟩ := g
  refine ⟨⟨?_, ?_⟩, ⟨?_, ?_⟩⟩ <;> grind
theorem stT_near (p : Nat × Nat) (i : Nat) (hi : i < 1350) (h : NearP p (2000 * i) (32 * i * e96)) : NearP (stT p) (2000 * (i + 1)) (32 * (i + 1 : Nat) * e96) := by
  have hp := e96_pos; have hs := e96_small
  obtain ⟨hc, hs1⟩ := rT_near
  obtain ⟨R, hR⟩ : ∃ R : Nat, R = 2000 := ⟨_, rfl⟩
  have z1 := zs_small R (by omega)
  have z2 := zc_pos R (by omega)
  have z3 := zs_nonneg R (by omega)
  rw [← hR] at hc hs1
  have zn := zs_le (2000 * i)
  have zcn := zc_pos (2000 * i) (by omega)
  have hnn : (i : Rat) ≤ 1350 := by exact_mod_cast (show i ≤ 1350 by omega)
  have hn0 := natR_nonneg i
  have he0 : 0 ≤ 32 * (i : Rat) * e96 := Rat.mul_nonneg (by grind) (by grind)
  have he1 : 32 * (i : Rat) * e96 ≤ 43200 * e96 := Rat.mul_le_mul_of_nonneg_right (by grind) (by grind)
  have hpos : 0 ≤ zs R := by
    have hv : (2 : Rat) / 10000 ≤ (rsT : Rat) * e96 := by unfold e96 rsT; decide +kernel
    grind
  have g := rot_near p (2000 * i) R rcT rsT (32 * i * e96) he0 (by grind) h hc hs1 hpos
    (by
      obtain ⟨⟨a1, a2⟩, ⟨a3, a4⟩⟩ := h
      apply sub_ok p.2 rsT p.1 rcT (11/10) (1/100) (1/10) (2/10) <;> grind)
  have hle : 32 * (i : Rat) * e96 * (1 + zs R) + 6 * e96 ≤ 32 * (i + 1 : Nat) * e96 := by
    have e1 : ((i + 1 : Nat) : Rat) = (i : Rat) + 1 := by norm_cast
    rw [e1]
    have m := Rat.mul_le_mul_of_nonneg_left z1 he0
    grind
  have e2 := stT_eq p
  have e3 : 2000 * (i + 1) = 2000 * i + R := by omega
  rw [e2, e3]
  generalize 32 * (i : Rat) * e96 * (1 + zs R) + 6 * e96 = E at *
  unfold NearP at *
  obtain ⟨⟨a1, a2⟩, ⟨a3, a4⟩⟩ := g
  refine ⟨⟨?_, ?_⟩, ⟨?_, ?_⟩⟩ <;> grind

/-- the entries of the table from p at m on -/
theorem tab_near (k m : Nat) (p : Nat × Nat) (hk : m + k ≤ 2000) (h : NearP p m (7 * m * e96)) : ∀ j, j < k → ∃ x ∈ tab k p, NearP x (m + j) (7 * (m + j : Nat) * e96) := by
  induction k generalizing m p with
  | zero => intro j hj; omega
  | succ k ih =>
    intro j hj
    match j with
    | 0 => exact ⟨p, by simp [tab], h⟩
    | j + 1 =>
      obtain ⟨x, hx, hn⟩ := ih (m + 1) (st1 p) (by omega) (st1_near p m (by omega) h) j (by omega)
      refine ⟨x, by simp [tab, hx], ?_⟩
      have e : m + (j + 1) = m + 1 + j := by omega
      rw [e]; exact hn
/-- each entry of the table is near some angle -/
theorem tab_all (k m : Nat) (p : Nat × Nat) (hk : m + k ≤ 2000) (h : NearP p m (7 * m * e96)) : ∀ x ∈ tab k p, ∃ j, m ≤ j ∧ j < 2000 ∧ NearP x j (7 * j * e96) := by
  induction k generalizing m p with
  | zero => simp [tab]
  | succ k ih =>
    intro x hx
    simp only [tab, List.mem_cons] at hx
    rcases hx with rfl | hx
    · exact ⟨m, Nat.le_refl _, by omega, h⟩
    · obtain ⟨j, h1, h2, h3⟩ := ih (m + 1) (st1 p) (by omega) (st1_near p m (by omega) h) x hx
      exact ⟨j, by omega, h2, h3⟩

/-- an entry is small -/
theorem near_sm (p : Nat × Nat) (n : Nat) (e : Rat) (hn : n ≤ 2700000) (he : e ≤ 1/100000) (h : NearP p n e) : p.1 ≤ 2 * F96 ∧ p.2 ≤ 2 * F96 := by
  have z1 := zc_le n; have z2 := zs_le n
  obtain ⟨⟨a1, a2⟩, ⟨a3, a4⟩⟩ := h
  have hp := e96_pos
  have hF := e96_F
  have key : ∀ a : Nat, (a : Rat) * e96 ≤ 2 → a ≤ 2 * F96 := by
    intro a ha
    have e2 : ((2 * F96 : Nat) : Rat) = 2 * (F96 : Rat) := by norm_cast
    have : (a : Rat) ≤ ((2 * F96 : Nat) : Rat) := by
      rw [e2]
      apply Rat.le_of_mul_le_mul_right (c := e96) _ hp
      generalize (a : Rat) = a at *
      generalize (F96 : Rat) = F at *
      grind
    exact_mod_cast this
  exact ⟨key _ (by grind), key _ (by grind)⟩
end Alm
