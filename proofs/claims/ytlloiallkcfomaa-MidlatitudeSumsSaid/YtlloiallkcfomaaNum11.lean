/- Plain numbers: the program's sines, rounded down, are the true ones. -/
import Derived.Test.YtlloiallkcfomaaNum10
set_option linter.unusedVariables false
namespace Alm
theorem d230_54 : d230 ≤ 1 / ((2^54 : Int) : Rat) := by unfold d230 d256; decide +kernel
/-- one value by the polynomial -/
theorem fl_special (x s : Rat) (E q : Int) (hx : x * (L0 : Rat) = (E : Rat)) (h1 : -d230 ≤ x - s) (h2 : x - s ≤ d230)
    (k1 : (q * 2^24 + 4) * L0 ≤ E * 2^54) (k2 : E * 2^54 ≤ ((q + 1) * 2^24 - 4) * L0) : FlR s q := by
  have g1 : (((q * 2^24 + 4) * L0 : Int) : Rat) ≤ ((E * 2^54 : Int) : Rat) := by exact_mod_cast k1
  have g2 : ((E * 2^54 : Int) : Rat) ≤ ((((q + 1) * 2^24 - 4) * L0 : Int) : Rat) := by exact_mod_cast k2
  simp only [Rat.intCast_mul, Rat.intCast_add, Rat.intCast_sub] at g1 g2
  rw [← hx] at g1 g2
  have hl := L0R_pos
  have hd := d230_54
  have t54 : ((2^54 : Int) : Rat) * (1 / ((2^54 : Int) : Rat)) = 1 := by decide +kernel
  have t24 : ((2^24 : Int) : Rat) * (1 / ((2^54 : Int) : Rat)) = u30 := by unfold u30; decide +kernel
  have m3 : mg = 3 * (1 / ((2^54 : Int) : Rat)) := by unfold mg; decide +kernel
  have f4 : ((4 : Int) : Rat) = 4 := rfl
  have f1 : ((1 : Int) : Rat) = 1 := rfl
  have hm : 0 ≤ (1 : Rat) / ((2^54 : Int) : Rat) := by decide +kernel
  unfold FlR
  rw [m3, ← t24]
  rw [f4] at g1 g2
  rw [f1] at g2
  generalize (1 : Rat) / ((2^54 : Int) : Rat) = m at *
  generalize ((2^54 : Int) : Rat) = T at *
  generalize ((2^24 : Int) : Rat) = S at *
  generalize (L0 : Rat) = L at *
  generalize (q : Rat) = r at *
  generalize d230 = d at *
  have c1 : (r * S + 4) * m ≤ x := by
    apply Rat.le_of_mul_le_mul_right (c := L) _ hl
    have := Rat.mul_le_mul_of_nonneg_right g1 hm
    have e1 : x * L * T * m = x * L * (T * m) := by grind
    rw [e1, t54] at this
    grind
  have c2 : x ≤ ((r + 1) * S - 4) * m := by
    apply Rat.le_of_mul_le_mul_right (c := L) _ hl
    have := Rat.mul_le_mul_of_nonneg_right g2 hm
    have e1 : x * L * T * m = x * L * (T * m) := by grind
    rw [e1, t54] at this
    grind
  constructor <;> grind
theorem ev_c30 : (929887696 * 2^24 + 4) * L0 ≤ ev cP 1800000 * 2^54 ∧ ev cP 1800000 * 2^54 ≤ ((929887696 + 1) * 2^24 - 4) * L0 := by decide +kernel
theorem ev_c45 : (759250124 * 2^24 + 4) * L0 ≤ ev cP 2700000 * 2^54 ∧ ev cP 2700000 * 2^54 ≤ ((759250124 + 1) * 2^24 - 4) * L0 := by decide +kernel
theorem ev_s45 : (759250124 * 2^24 + 4) * L0 ≤ ev sP 2700000 * 2^54 ∧ ev sP 2700000 * 2^54 ≤ ((759250124 + 1) * 2^24 - 4) * L0 := by decide +kernel
theorem fl_c30 : FlR (zc 1800000) 929887696 := by
  obtain ⟨_, h1, h2⟩ := near 1800000 (by omega)
  exact fl_special _ _ _ _ (pc_mul 1800000) h1 h2 ev_c30.1 ev_c30.2
theorem fl_c45 : FlR (zc 2700000) 759250124 := by
  obtain ⟨_, h1, h2⟩ := near 2700000 (by omega)
  exact fl_special _ _ _ _ (pc_mul 2700000) h1 h2 ev_c45.1 ev_c45.2
theorem fl_s45 : FlR (zs 2700000) 759250124 := by
  obtain ⟨⟨h1, h2⟩, _⟩ := near 2700000 (by omega)
  exact fl_special _ _ _ _ (ps_mul 2700000) h1 h2 ev_s45.1 ev_s45.2
/-- all sines and cosines up to an eighth of a turn -/
theorem fl_sin (n : Nat) (h : n ≤ 2700000) (h0 : n ≠ 0) (h1 : n ≠ 1800000) : ∃ q : Nat, FlR (zs n) q := by
  by_cases h2 : n = 2700000
  · subst h2; exact ⟨759250124, fl_s45⟩
  · exact (far_all n h0 h1 (by omega)).1
theorem fl_cos (n : Nat) (h : n ≤ 2700000) (h0 : n ≠ 0) : ∃ q : Nat, FlR (zc n) q := by
  by_cases h2 : n = 2700000
  · subst h2; exact ⟨759250124, fl_c45⟩
  by_cases h1 : n = 1800000
  · subst h1; exact ⟨929887696, fl_c30⟩
  · exact (far_all n h0 h1 (by omega)).2

theorem fl_near (s v : Rat) (V q : Nat) (hq : FlR s q) (hv : v = V * d256) (h1 : -mg < v - s) (h2 : v - s < mg) : V / 2^226 = q := by
  obtain ⟨a, b⟩ := hq
  have e : u30 = ((2^226 : Nat) : Rat) * d256 := by unfold u30 d256; decide +kernel
  have hd := d256_pos
  have eq : (((q : Nat) : Int) : Rat) = (q : Rat) := rfl
  rw [eq] at a b
  rw [e] at a b
  have g1 : ((q * 2^226 : Nat) : Rat) < ((V : Nat) : Rat) := by
    rw [Rat.natCast_mul]
    generalize ((2^226 : Nat) : Rat) = A at *
    generalize (q : Rat) = r at *
    generalize (V : Rat) = V at *
    generalize d256 = d at *
    have : r * A * d < V * d := by grind
    exact Rat.lt_of_mul_lt_mul_right this (Rat.le_of_lt hd)
  have g2 : ((V : Nat) : Rat) < (((q + 1) * 2^226 : Nat) : Rat) := by
    rw [Rat.natCast_mul]
    have e1 : ((q + 1 : Nat) : Rat) = (q : Rat) + 1 := by rw [Rat.natCast_add]; rfl
    rw [e1]
    generalize ((2^226 : Nat) : Rat) = A at *
    generalize (q : Rat) = r at *
    generalize (V : Rat) = V at *
    generalize d256 = d at *
    have : V * d < (r + 1) * A * d := by grind
    exact Rat.lt_of_mul_lt_mul_right this (Rat.le_of_lt hd)
  have k1 : q * 2^226 < V := by exact_mod_cast g1
  have k2 : V < (q + 1) * 2^226 := by exact_mod_cast g2
  apply Nat.div_eq_of_lt_le
  · omega
  · omega
theorem hundred : 100 * d256 + d230 < mg := by unfold d230 d256 mg; decide +kernel
theorem sinW_fl (n : Nat) (h : n ≤ 2700000) (q : Nat) (hq : FlR (zs n) q) : sinW n / 2^226 = q := by
  obtain ⟨h1, _⟩ := near n h
  obtain ⟨a, b⟩ := sinW_near n h
  have := hundred
  apply fl_near (zs n) _ _ _ hq rfl <;> grind
theorem cosW_fl (n : Nat) (h : n ≤ 2700000) (q : Nat) (hq : FlR (zc n) q) : cosW n % W / 2^226 = q := by
  obtain ⟨_, h1⟩ := near n h
  obtain ⟨a, b⟩ := cosW_near n h
  have hh := hundred
  have e : cosW n / 2^226 = q := by apply fl_near (zc n) _ _ _ hq rfl <;> grind
  have zl := (zc_le n).2
  have hq2 : q < 2^30 := by
    have h1 := hq.1
    have hm : 0 < mg := by unfold mg; decide +kernel
    have hu : u30 * ((2^30 : Nat) : Rat) = 1 := by unfold u30; decide +kernel
    have hup : 0 < u30 := by unfold u30; decide +kernel
    have : ((q : Nat) : Rat) < ((2^30 : Nat) : Rat) := by
      have eq : (((q : Nat) : Int) : Rat) = (q : Rat) := rfl
      rw [eq] at h1
      apply Rat.lt_of_mul_lt_mul_right (c := u30) _ (Rat.le_of_lt hup)
      generalize ((2^30 : Nat) : Rat) = T at *
      grind
    exact_mod_cast this
  have hlt : cosW n < W := by
    have hW : W = 2^226 * 2^30 := by unfold W; decide +kernel
    rw [hW]
    have := Nat.lt_div_mul_add (a := cosW n) (b := 2^226) (by decide)
    have h3 : cosW n / 2^226 < 2^30 := by omega
    rw [Nat.mul_comm]; exact (Nat.div_lt_iff_lt_mul (Nat.two_pow_pos 226)).1 h3
  rw [Nat.mod_eq_of_lt hlt]; exact e
end Alm
