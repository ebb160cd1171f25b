/- Plain numbers: many numbers packed into one, and a look at all of them at once. -/
set_option linter.unusedVariables false
namespace Alm

/-- the width of a slot: 224 bits -/
def SW : Nat := 2^224
def pack : List Nat → Nat
  | [] => 0
  | x :: l => x + SW * pack l
def ones : Nat → Nat
  | 0 => 0
  | k + 1 => 1 + SW * ones k

theorem and_split (w x X m M : Nat) (hx : x < 2^w) (hm : m < 2^w) : (x + 2^w * X) &&& (m + 2^w * M) = (x &&& m) + 2^w * (X &&& M) := by
  apply Nat.eq_of_testBit_eq
  intro i
  rw [Nat.testBit_and, Nat.add_comm x, Nat.add_comm m, Nat.add_comm (x &&& m), Nat.testBit_two_pow_mul_add _ hx, Nat.testBit_two_pow_mul_add _ hm,
    Nat.testBit_two_pow_mul_add _ (Nat.lt_of_le_of_lt Nat.and_le_left hx)]
  split <;> rw [Nat.testBit_and]

theorem pack_scale (c : Nat) (l : List Nat) : c * pack l = pack (l.map (c * ·)) := by
  induction l with
  | nil => simp [pack]
  | cons x l ih => simp only [pack, List.map]; rw [← ih]; grind

def tolP : Nat := 2^140
def mskP : Nat := 2^162 - 2^141
def chk (O X : Nat) : Bool := (((X + tolP * O) &&& (mskP * O)) + mskP * O) &&& (2^162 * O) == 2^162 * O

/-- the number is far from the multiples of 2^162 -/
def Far (x : Nat) : Prop := 2^141 ≤ (x + tolP) % 2^162

theorem far_of (x : Nat) (h : (((x + tolP) &&& mskP) + mskP) &&& 2^162 = 2^162) : Far x := by
  have h1 : 2^162 ≤ ((x + tolP) &&& mskP) + mskP := by
    have := Nat.and_le_left (n := ((x + tolP) &&& mskP) + mskP) (m := 2^162); omega
  have h2 : 2^141 ≤ (x + tolP) &&& mskP := by unfold mskP at *; omega
  have h3 := and_split 162 ((x + tolP) % 2^162) ((x + tolP) / 2^162) mskP 0 (Nat.mod_lt _ (by decide)) (by decide)
  have e : (x + tolP) % 2^162 + 2^162 * ((x + tolP) / 2^162) = x + tolP := by omega
  rw [e, Nat.mul_zero, Nat.add_zero, Nat.and_zero, Nat.mul_zero, Nat.add_zero] at h3
  rw [h3] at h2
  exact Nat.le_trans h2 Nat.and_le_left

theorem chk_all (l : List Nat) (hl : ∀ x ∈ l, x < 2^200) (h : chk (ones l.length) (pack l) = true) : ∀ x ∈ l, Far x := by
  induction l with
  | nil => simp
  | cons x l ih =>
    have hx : x < 2^200 := hl x (by simp)
    unfold chk at h
    rw [beq_iff_eq] at h
    simp only [pack, List.length, ones] at h
    have e1 : x + SW * pack l + tolP * (1 + SW * ones l.length) = (x + tolP) + 2^224 * (pack l + tolP * ones l.length) := by unfold SW; grind
    have e2 : mskP * (1 + SW * ones l.length) = mskP + 2^224 * (mskP * ones l.length) := by unfold SW; grind
    have e3 : 2^162 * (1 + SW * ones l.length) = 2^162 + 2^224 * (2^162 * ones l.length) := by unfold SW; grind
    have b1 : x + tolP < 2^224 := by unfold tolP; omega
    have b2 : mskP < 2^224 := by decide
    rw [e1, e2, e3, and_split 224 _ _ _ _ b1 b2] at h
    have e4 : (x + tolP &&& mskP) + 2^224 * (pack l + tolP * ones l.length &&& mskP * ones l.length) + (mskP + 2^224 * (mskP * ones l.length)) =
      ((x + tolP &&& mskP) + mskP) + 2^224 * ((pack l + tolP * ones l.length &&& mskP * ones l.length) + mskP * ones l.length) := by omega
    have b3 : (x + tolP &&& mskP) + mskP < 2^224 := by
      have := Nat.and_le_right (n := x + tolP) (m := mskP)
      have : mskP < 2^162 := by decide
      omega
    rw [e4, and_split 224 _ _ _ _ b3 (by decide)] at h
    have b4 : ((x + tolP &&& mskP) + mskP &&& 2^162) ≤ 2^162 := Nat.and_le_right
    have hh : ((x + tolP &&& mskP) + mskP &&& 2^162) = 2^162 := by omega
    have ht : ((pack l + tolP * ones l.length &&& mskP * ones l.length) + mskP * ones l.length &&& 2^162 * ones l.length) = 2^162 * ones l.length := by omega
    intro y hy
    rcases List.mem_cons.1 hy with rfl | hy
    · exact far_of _ hh
    · exact ih (fun z hz => hl z (by simp [hz])) (by unfold chk; rw [beq_iff_eq]; exact ht) y hy
end Alm
