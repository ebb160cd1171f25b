import Derived.Test.YtlloiallkcfomaaNum4
import Derived.Test.YtlloiallkcfomaaNum6
set_option linter.unusedVariables false
namespace Alm
/-- 2^-96 -/
def e96 : Rat := 1 / ((2^96 : Int) : Rat)
theorem e96_F : (F96 : Rat) * e96 = 1 := by unfold F96 e96; decide +kernel
theorem e96_pos : 0 < e96 := by unfold e96; decide +kernel
theorem e96_small : e96 ≤ 1/1000000000 := by unfold e96; decide +kernel
theorem c1_near : -e96 ≤ (rc1 : Rat) * e96 - c1 ∧ (rc1 : Rat) * e96 - c1 ≤ e96 := by
  unfold e96 c1 rc1 c1n dd tp; constructor <;> decide +kernel
theorem s1_near : -e96 ≤ (rs1 : Rat) * e96 - s1 ∧ (rs1 : Rat) * e96 - s1 ≤ e96 := by
  unfold e96 s1 rs1 s1n dd tp; constructor <;> decide +kernel
theorem s1_bd : 0 < s1 ∧ s1 ≤ 1/1000000 := by unfold s1 s1n dd tp; constructor <;> decide +kernel
theorem c1_bd : 0 < c1 ∧ c1 ≤ 1 := by unfold c1 c1n dd tp; constructor <;> decide +kernel
theorem ev2000 : ((ev sP 2000 * 2^96 - (rsT : Int) * L0).natAbs : Int) ≤ L0 ∧ ((ev cP 2000 * 2^96 - (rcT : Int) * L0).natAbs : Int) ≤ L0 := by decide +kernel

/-- p is near (cosine, sine) of n steps -/
def NearP (p : Nat × Nat) (n : Nat) (e : Rat) : Prop :=
  (-e ≤ (p.1 : Rat) * e96 - zc n ∧ (p.1 : Rat) * e96 - zc n ≤ e) ∧ (-e ≤ (p.2 : Rat) * e96 - zs n ∧ (p.2 : Rat) * e96 - zs n ≤ e)

theorem divF_rat (X : Nat) : ((X / F96 : Nat) : Rat) * e96 ≤ X * (e96 * e96) ∧ X * (e96 * e96) ≤ ((X / F96 : Nat) : Rat) * e96 + e96 := by
  have hF : 0 < F96 := by decide +kernel
  have h1 := Nat.div_mul_le_self X F96
  have h2 := Nat.lt_div_mul_add (a := X) hF
  have g1 := natR_le _ _ h1
  have g2 := natR_le _ _ (Nat.le_of_lt h2)
  rw [Rat.natCast_mul] at g1
  rw [Rat.natCast_add, Rat.natCast_mul] at g2
  have he := e96_F
  have hp := e96_pos
  have hpp : 0 ≤ e96 * e96 := sq_nonneg _
  generalize ((X / F96 : Nat) : Rat) = q at *
  generalize (F96 : Rat) = F at *
  have k1 := Rat.mul_le_mul_of_nonneg_right g1 hpp
  have k2 := Rat.mul_le_mul_of_nonneg_right g2 hpp
  have e1 : q * F * (e96 * e96) = q * e96 * (F * e96) := by grind
  have e2 : (q * F + F) * (e96 * e96) = (q * e96 + e96) * (F * e96) := by grind
  rw [e1, he] at k1
  rw [e2, he] at k2
  constructor <;> grind

/-- one step of a rotation by (C, S) = (cosine, sine) of r steps -/
theorem rot_near (p : Nat × Nat) (n r C S : Nat) (e : Rat) (he0 : 0 ≤ e) (he : e ≤ 1/100) (h : NearP p n e)
    (hC : -(2 * e96) ≤ (C : Rat) * e96 - zc r ∧ (C : Rat) * e96 - zc r ≤ 2 * e96) (hS : -(2 * e96) ≤ (S : Rat) * e96 - zs r ∧ (S : Rat) * e96 - zs r ≤ 2 * e96)
    (hs : 0 ≤ zs r) (hsub : p.2 * S ≤ p.1 * C) :
    NearP ((p.1 * C - p.2 * S) / F96, (p.2 * C + p.1 * S) / F96) (n + r) (e * (1 + zs r) + 6 * e96) := by
  obtain ⟨⟨a1, a2⟩, ⟨b1, b2⟩⟩ := h
  have d1 := divF_rat (p.1 * C - p.2 * S)
  have d2 := divF_rat (p.2 * C + p.1 * S)
  rw [natR_sub _ _ hsub, Rat.natCast_mul, Rat.natCast_mul] at d1
  rw [Rat.natCast_add, Rat.natCast_mul, Rat.natCast_mul] at d2
  obtain ⟨za1, za2⟩ := zadd n r
  have hep := e96_pos
  have hes := e96_small
  have zr := zc_le r; have zr2 := zs_le r; have zn := zc_le n; have zn2 := zs_le n
  unfold NearP
  simp only []
  rw [za1, za2]
  generalize (((p.1 * C - p.2 * S) / F96 : Nat) : Rat) = P1 at *
  generalize (((p.2 * C + p.1 * S) / F96 : Nat) : Rat) = P2 at *
  generalize (p.1 : Rat) = x at *
  generalize (p.2 : Rat) = y at *
  generalize (C : Rat) = c at *
  generalize (S : Rat) = s at *
  generalize zc n = u at *
  generalize zs n = v at *
  generalize zc r = k at *
  generalize zs r = l at *
  generalize e96 = d at *
  -- x d = u + A, y d = v + B, c d = k + G, s d = l + H
  have q1 : x * c * (d * d) = (x * d) * (c * d) := by grind
  have q2 : y * s * (d * d) = (y * d) * (s * d) := by grind
  have q3 : y * c * (d * d) = (y * d) * (c * d) := by grind
  have q4 : x * s * (d * d) = (x * d) * (s * d) := by grind
  have f1 : (x * c - y * s) * (d * d) = (x * d) * (c * d) - (y * d) * (s * d) := by grind
  have f2 : (y * c + x * s) * (d * d) = (y * d) * (c * d) + (x * d) * (s * d) := by grind
  rw [f1] at d1; rw [f2] at d2
  obtain ⟨A, hA⟩ : ∃ A, A = x * d - u := ⟨_, rfl⟩
  obtain ⟨B, hB⟩ : ∃ B, B = y * d - v := ⟨_, rfl⟩
  obtain ⟨G, hG⟩ : ∃ G, G = c * d - k := ⟨_, rfl⟩
  obtain ⟨H, hH⟩ : ∃ H, H = s * d - l := ⟨_, rfl⟩
  rw [← hA] at a1 a2; rw [← hB] at b1 b2; rw [← hG] at hC; rw [← hH] at hS
  have ex : x * d = u + A := by grind
  have ey : y * d = v + B := by grind
  have ec : c * d = k + G := by grind
  have es : s * d = l + H := by grind
  rw [ex, ey, ec, es] at d1 d2
  clear hA hB hG hH ex ey ec es f1 f2 q1 q2 q3 q4
  -- (u + A)(k + G) - (v + B)(l + H) - (u k - v l) = A k - B l + (u + A) G - (v + B) H
  have t1 := mul_bd A k e 1 a1 a2 (by grind) (by grind)
  have t2 := mul_bd B l e l b1 b2 (by grind) (by grind)
  have t3 := mul_bd (u + A) G (101/100) (2 * d) (by grind) (by grind) hC.1 hC.2
  have t4 := mul_bd (v + B) H (101/100) (2 * d) (by grind) (by grind) hS.1 hS.2
  have t5 := mul_bd B k e 1 b1 b2 (by grind) (by grind)
  have t6 := mul_bd A l e l a1 a2 (by grind) (by grind)
  have t7 := mul_bd (v + B) G (101/100) (2 * d) (by grind) (by grind) hC.1 hC.2
  have t8 := mul_bd (u + A) H (101/100) (2 * d) (by grind) (by grind) hS.1 hS.2
  refine ⟨⟨?_, ?_⟩, ⟨?_, ?_⟩⟩ <;> grind
end Alm
