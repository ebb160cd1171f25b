/- Plain numbers: the division of 128 bits by 64 bits in two steps. -/
set_option linter.unusedVariables false
namespace Alm

/-- what holds of the digit and the rest at the head of the loop that corrects them -/
def DInv (Y U u1 q r : Int) : Prop :=
  q * (Y / 4294967296) + r = U ∧ 0 ≤ r ∧ r < 4294967296 ∧ (U * 4294967296 + u1) / Y ≤ q ∧ 0 ≤ q ∧ q ≤ 4294967298

structure DNum (Y U u1 : Int) : Prop where
  a1 : 9223372036854775808 ≤ Y
  a2 : Y < 18446744073709551616
  a3 : 0 ≤ U
  a4 : U < Y
  a5 : 0 ≤ u1
  a6 : u1 < 4294967296

theorem dinv_start (Y U u1 : Int) (h : DNum Y U u1) : DInv Y U u1 (U / (Y / 4294967296)) (U - U / (Y / 4294967296) * (Y / 4294967296)) := by
  unfold DInv
  obtain ⟨h1, h2, h3, h4, h5, h6⟩ := h
  have hd : 0 < Y / 4294967296 := by omega
  have hd2 : 2147483648 ≤ Y / 4294967296 := by omega
  have e := Int.mul_ediv_add_emod U (Y / 4294967296)
  have m1 := Int.emod_nonneg U (show Y / 4294967296 ≠ 0 by omega)
  have m2 := Int.emod_lt_of_pos U hd
  have q0 : 0 ≤ U / (Y / 4294967296) := Int.ediv_nonneg h3 (by omega)
  have hy : Y / 4294967296 * 4294967296 ≤ Y := by omega
  have hy3 : Y < (Y / 4294967296 + 1) * 4294967296 := by omega
  generalize Y / 4294967296 = d at *
  generalize U / d = q at *
  generalize U % d = m at *
  have e2 : q * d = d * q := Int.mul_comm _ _
  refine ⟨by omega, by omega, by omega, ?_, q0, ?_⟩
  · -- T < (q + 1) Y
    have : (U * 4294967296 + u1) / Y < q + 1 := by
      apply Int.ediv_lt_of_lt_mul (by omega)
      have k1 : (q + 1) * (d * 4294967296) ≤ (q + 1) * Y := Int.mul_le_mul_of_nonneg_left hy (by omega)
      have k2 : (q + 1) * (d * 4294967296) = (d * q + d) * 4294967296 := by grind
      omega
    omega
  · -- q d ≤ U < (d + 1) 2^32
    by_cases hc : q ≤ 4294967298
    · exact hc
    · exfalso
      have k : d * 4294967299 ≤ d * q := Int.mul_le_mul_of_nonneg_left (by omega) (by omega)
      omega

theorem div_unique (T Y q : Int) (hY : 0 < Y) (h1 : q * Y ≤ T) (h2 : T / Y ≤ q) : q = T / Y := by
  have : q ≤ T / Y := (Int.le_ediv_iff_mul_le hY).2 h1
  omega

theorem dinv_split (Y q : Int) : q * Y = q * (Y / 4294967296) * 4294967296 + q * (Y % 4294967296) := by
  have e : Y = Y / 4294967296 * 4294967296 + Y % 4294967296 := by omega
  have : q * Y = q * (Y / 4294967296 * 4294967296 + Y % 4294967296) := by rw [← e]
  rw [this]; grind

/-- the test failed: the digit is right -/
theorem dinv_done (Y U u1 q r : Int) (h : DNum Y U u1) (i : DInv Y U u1 q r) (h2 : q * (Y % 4294967296) ≤ 4294967296 * r + u1) : q = (U * 4294967296 + u1) / Y := by
  obtain ⟨h1, h2', h3, h4, h5, h6⟩ := h
  obtain ⟨a, b, c, d, e, f⟩ := i
  apply div_unique _ _ _ (by omega) _ d
  rw [dinv_split Y q]
  generalize q * (Y / 4294967296) = p at *
  generalize q * (Y % 4294967296) = s at *
  omega

theorem dinv_big (Y U u1 q r : Int) (h : DNum Y U u1) (i : DInv Y U u1 q r) (ht : 4294967296 ≤ q ∨ 4294967296 * r + u1 < q * (Y % 4294967296)) : (U * 4294967296 + u1) / Y ≤ q - 1 ∧ 1 ≤ q := by
  obtain ⟨h1, h2', h3, h4, h5, h6⟩ := h
  obtain ⟨a, b, c, d, e, f⟩ := i
  have lt : (U * 4294967296 + u1) / Y < q := by
    apply Int.ediv_lt_of_lt_mul (by omega)
    rcases ht with ht | ht
    · have : Y * 4294967296 ≤ Y * q := Int.mul_le_mul_of_nonneg_left ht (by omega)
      have e2 : q * Y = Y * q := Int.mul_comm _ _
      omega
    · rw [dinv_split Y q]
      generalize q * (Y / 4294967296) = p at *
      generalize q * (Y % 4294967296) = s at *
      omega
  have : 0 ≤ (U * 4294967296 + u1) / Y := Int.ediv_nonneg (by omega) (by omega)
  omega

theorem dinv_next (Y U u1 q r : Int) (h : DNum Y U u1) (i : DInv Y U u1 q r) (ht : 4294967296 ≤ q ∨ 4294967296 * r + u1 < q * (Y % 4294967296)) (hr : r + Y / 4294967296 < 4294967296) : DInv Y U u1 (q - 1) (r + Y / 4294967296) := by
  have b := dinv_big Y U u1 q r h i ht
  obtain ⟨h1, h2', h3, h4, h5, h6⟩ := h
  obtain ⟨a1, a2, a3, a4, a5, a6⟩ := i
  refine ⟨?_, by omega, hr, b.1, by omega, by omega⟩
  have : (q - 1) * (Y / 4294967296) = q * (Y / 4294967296) - Y / 4294967296 := by grind
  omega

theorem dinv_break (Y U u1 q r : Int) (h : DNum Y U u1) (i : DInv Y U u1 q r) (ht : 4294967296 ≤ q ∨ 4294967296 * r + u1 < q * (Y % 4294967296)) (hr : 4294967296 ≤ r + Y / 4294967296) : q - 1 = (U * 4294967296 + u1) / Y := by
  have b := dinv_big Y U u1 q r h i ht
  obtain ⟨h1, h2', h3, h4, h5, h6⟩ := h
  obtain ⟨a1, a2, a3, a4, a5, a6⟩ := i
  apply div_unique _ _ _ (by omega) _ b.1
  rw [dinv_split Y (q - 1)]
  have e1 : (q - 1) * (Y / 4294967296) = q * (Y / 4294967296) - Y / 4294967296 := by grind
  have m : Y % 4294967296 ≤ 4294967295 := by omega
  have m0 : 0 ≤ Y % 4294967296 := by omega
  have k : (q - 1) * (Y % 4294967296) ≤ 4294967297 * 4294967295 := Int.mul_le_mul (by omega) m m0 (by omega)
  rw [e1]
  generalize q * (Y / 4294967296) = p at *
  generalize (q - 1) * (Y % 4294967296) = s at *
  omega

/-- the digit's size -/
theorem digit_bd (Y U u1 : Int) (h : DNum Y U u1) : 0 ≤ (U * 4294967296 + u1) / Y ∧ (U * 4294967296 + u1) / Y < 4294967296 ∧
    0 ≤ (U * 4294967296 + u1) % Y ∧ (U * 4294967296 + u1) % Y < Y ∧ (U * 4294967296 + u1) / Y * Y = U * 4294967296 + u1 - (U * 4294967296 + u1) % Y := by
  obtain ⟨h1, h2', h3, h4, h5, h6⟩ := h
  have e := Int.mul_ediv_add_emod (U * 4294967296 + u1) Y
  refine ⟨Int.ediv_nonneg (by omega) (by omega), ?_, Int.emod_nonneg _ (by omega), Int.emod_lt_of_pos _ (by omega), ?_⟩
  · apply Int.ediv_lt_of_lt_mul (by omega); omega
  · rw [Int.mul_comm]; omega

/-- both digits together -/
theorem digits_both (x y z P R Y U L : Int) (hP : 0 < P) (hR : 0 < R) (hPR : P * R = 18446744073709551616) (hz : 0 < z) (hx : 0 ≤ x) (hxz : x < z) (hy : 0 ≤ y) (hy2 : y < 18446744073709551616)
    (hY : Y = z * P) (hU : U = x * P + y / R) (hL : L = y * P % 18446744073709551616) (V W : Int)
    (hV : V = (U * 4294967296 + L / 4294967296) % Y) (hW : W = (V * 4294967296 + L % 4294967296) % Y) :
    (U * 4294967296 + L / 4294967296) / Y * 4294967296 + (V * 4294967296 + L % 4294967296) / Y = (x * 18446744073709551616 + y) / z ∧
    W / P = (x * 18446744073709551616 + y) % z := by
  have hYp : 0 < Y := by rw [hY]; exact Int.mul_pos hz hP
  have e1 := Int.mul_ediv_add_emod (U * 4294967296 + L / 4294967296) Y
  have e2 := Int.mul_ediv_add_emod (V * 4294967296 + L % 4294967296) Y
  have hW1 := Int.emod_nonneg (V * 4294967296 + L % 4294967296) (show Y ≠ 0 by omega)
  have hW2 := Int.emod_lt_of_pos (V * 4294967296 + L % 4294967296) hYp
  have e3 : y * P / 18446744073709551616 = y / R := by
    rw [← hPR, Int.mul_comm y P]; exact Int.mul_ediv_mul_of_pos _ _ hP
  have e4 := Int.mul_ediv_add_emod (y * P) 18446744073709551616
  rw [e3] at e4
  -- N = A P
  have hN : (U * 4294967296 + L / 4294967296) * 4294967296 + L % 4294967296 = (x * 18446744073709551616 + y) * P := by
    have : (x * 18446744073709551616 + y) * P = x * P * 18446744073709551616 + y * P := by grind
    rw [this, hU]
    generalize x * P = a at *
    generalize y * P = b at *
    generalize y / R = c at *
    omega
  rw [← hV] at e1
  rw [← hW] at e2 hW1 hW2
  generalize (U * 4294967296 + L / 4294967296) / Y = Q1 at *
  generalize (V * 4294967296 + L % 4294967296) / Y = Q0 at *
  have hA := Int.mul_ediv_add_emod (x * 18446744073709551616 + y) z
  have ha1 := Int.emod_nonneg (x * 18446744073709551616 + y) (show z ≠ 0 by omega)
  have ha2 := Int.emod_lt_of_pos (x * 18446744073709551616 + y) hz
  generalize (x * 18446744073709551616 + y) / z = Q at *
  generalize (x * 18446744073709551616 + y) % z = R' at *
  have k1 : (Q1 * 4294967296 + Q0) * Y + W = Q * Y + R' * P := by
    have t1 : (Q1 * 4294967296 + Q0) * Y + W = Y * Q1 * 4294967296 + (Y * Q0 + W) := by grind
    have t2 : Q * Y + R' * P = (z * Q + R') * P := by rw [hY]; grind
    rw [t1, t2, e2, hA, ← hN]; omega
  have r1 : R' * P < Y := by rw [hY]; exact Int.mul_lt_mul_of_pos_right ha2 hP
  have r0 : 0 ≤ R' * P := Int.mul_nonneg ha1 (by omega)
  have q1 : ((Q1 * 4294967296 + Q0) * Y + W) / Y = Q1 * 4294967296 + Q0 := by
    rw [Int.add_comm, Int.add_mul_ediv_right _ _ (by omega), Int.ediv_eq_zero_of_lt hW1 hW2]; omega
  have q2 : (Q * Y + R' * P) / Y = Q := by
    rw [Int.add_comm, Int.add_mul_ediv_right _ _ (by omega), Int.ediv_eq_zero_of_lt r0 r1]; omega
  have hq : Q1 * 4294967296 + Q0 = Q := by rw [← q1, k1, q2]
  refine ⟨hq, ?_⟩
  rw [hq] at k1
  have : W = R' * P := by omega
  rw [this, Int.mul_ediv_cancel _ (by omega)]
end Alm
