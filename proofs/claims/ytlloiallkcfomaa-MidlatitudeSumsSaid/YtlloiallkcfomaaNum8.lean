import Derived.Test.YtlloiallkcfomaaNum7
set_option linter.unusedVariables false
namespace Alm
theorem d230_small : d230 ≤ e96 := by unfold d230 d256 e96; decide +kernel
theorem rT_near : (-(2 * e96) ≤ (rcT : Rat) * e96 - zc 2000 ∧ (rcT : Rat) * e96 - zc 2000 ≤ 2 * e96) ∧ (-(2 * e96) ≤ (rsT : Rat) * e96 - zs 2000 ∧ (rsT : Rat) * e96 - zs 2000 ≤ 2 * e96) := by
  obtain ⟨h1, h2⟩ := near 2000 (by omega)
  have hd := d230_small
  have he : ((2^96 : Int) : Rat) * e96 = 1 := by unfold e96; decide +kernel
  have key : ∀ (x : Rat) (E r : Int), x * (L0 : Rat) = (E : Rat) → ((E * 2^96 - r * L0).natAbs : Int) ≤ L0 → -e96 ≤ (r : Rat) * e96 - x ∧ (r : Rat) * e96 - x ≤ e96 := by
    intro x E r hx h
    have k1 : E * 2^96 - r * L0 ≤ L0 := by omega
    have k2 : -L0 ≤ E * 2^96 - r * L0 := by omega
    have g1 : ((E * 2^96 - r * L0 : Int) : Rat) ≤ ((L0 : Int) : Rat) := by exact_mod_cast k1
    have g2 : ((-L0 : Int) : Rat) ≤ ((E * 2^96 - r * L0 : Int) : Rat) := by exact_mod_cast k2
    rw [Rat.intCast_sub, Rat.intCast_mul, Rat.intCast_mul, ← hx] at g1 g2
    rw [Rat.intCast_neg] at g2
    have hl := L0R_pos
    have hp := e96_pos
    generalize ((2^96 : Int) : Rat) = T at *
    generalize (L0 : Rat) = L at *
    generalize (r : Rat) = R at *
    generalize e96 = d at *
    have m1 := Rat.mul_le_mul_of_nonneg_right g1 (show 0 ≤ d by grind)
    have m2 := Rat.mul_le_mul_of_nonneg_right g2 (show 0 ≤ d by grind)
    have q : (x * L * T - R * L) * d = (x - R * d) * L := by
      have : (x * L * T - R * L) * d = x * L * (T * d) - R * L * d := by grind
      rw [this, he]; grind
    rw [q] at m1 m2
    constructor
    · apply Rat.le_of_mul_le_mul_right (c := L) _ hl; grind
    · apply Rat.le_of_mul_le_mul_right (c := L) _ hl; grind
  have a := key (pc 2000) (ev cP 2000) rcT (pc_mul 2000) ev2000.2
  have b := key (ps 2000) (ev sP 2000) rsT (ps_mul 2000) ev2000.1
  have ea : ((rcT : Int) : Rat) = (rcT : Rat) := rfl
  have eb : ((rsT : Int) : Rat) = (rsT : Rat) := rfl
  rw [ea] at a; rw [eb] at b
  clear ea eb key he
  generalize (rcT : Rat) = C at *
  generalize (rsT : Rat) = S at *
  generalize pc 2000 = u at *
  generalize ps 2000 = v at *
  generalize zc 2000 = u' at *
  generalize zs 2000 = v' at *
  generalize d230 = D at *
  generalize e96 = d at *
  refine ⟨⟨?_, ?_⟩, ⟨?_, ?_⟩⟩ <;> grind
theorem zc_pos (n : Nat) (h : n ≤ 2700000) : 49/100 ≤ zc n := by
  obtain ⟨_, h2⟩ := near n h
  obtain ⟨_, y0, y1, _, _⟩ := sq_near n h
  have hh := (hr_bd 34 0 _ y0 y1).1
  rw [← pc_hr n] at hh
  have k1 := d230_small; have k2 := e96_small
  clear y0 y1
  generalize pc n = a at *
  generalize zc n = b at *
  generalize d230 = c at *
  generalize e96 = d at *
  grind
theorem zs_nonneg (n : Nat) (h : n ≤ 2700000) : -(1/1000000000) ≤ zs n := by
  obtain ⟨h1, _⟩ := near n h
  obtain ⟨_, y0, y1, _, _⟩ := sq_near n h
  have hh := (hr_bd 34 1 _ y0 y1).1
  have hx : 0 ≤ (n : Rat) * theta := Rat.mul_nonneg (natR_nonneg n) (Rat.le_of_lt theta_bd.1)
  have hm := Rat.mul_nonneg hx (show 0 ≤ hr 34 1 ((n * theta) * (n * theta)) from Rat.le_trans (by decide +kernel) hh)
  rw [← ps_hr n] at hm
  have k1 := d230_small; have k2 := e96_small
  clear y0 y1 hh hx
  generalize ps n = a at *
  generalize zs n = b at *
  generalize d230 = c at *
  generalize e96 = d at *
  grind
end Alm
