/- The contract of math/bits.Div64. -/
import Derived.Test.YtlloiallkcfomaaGreatBits
import Derived.Test.YtlloiallkcfomaaGreatDivM
set_option linter.unusedVariables false
namespace Go.Proofs.YtlloiallkcfomaaGreat
open Go.RowKit Alm
theorem ret_ii {k k' : IntKind} {a b c d : Int} (h : a = b) (h' : c = d) : Ending.returned (.tuple #[.int k a, .int k' c]) = .returned (.tuple #[.int k b, .int k' d]) := by rw [h, h']
/-- the relation of the two loops -/
def DRel (Y U u1 : Int) (a b : Value) : Prop := ∃ q r : Int, a = .int .u64 q ∧ b = .int .u64 r ∧ DInv Y U u1 q r
theorem drel_cond {Y U u1 q r : Int} (h : DNum Y U u1) (i : DInv Y U u1 q r) (ht : 4294967296 ≤ q ∨ IntKind.u64.wrap (IntKind.u64.wrap (4294967296 * r) + u1) < IntKind.u64.wrap (q * (Y % 4294967296))) :
    4294967296 ≤ q ∨ 4294967296 * r + u1 < q * (Y % 4294967296) := by
  by_cases hq : 4294967296 ≤ q
  · exact Or.inl hq
  · right
    obtain ⟨h1, h2, h3, h4, h5, h6⟩ := h
    obtain ⟨a, b, c, d, e, f⟩ := i
    have m : q * (Y % 4294967296) ≤ 4294967295 * 4294967295 := Int.mul_le_mul (by omega) (by omega) (by omega) (by omega)
    have m0 : 0 ≤ q * (Y % 4294967296) := Int.mul_nonneg e (by omega)
    rcases ht with ht | ht
    · omega
    · simp only [IntKind.wrap_u64] at ht
      generalize q * (Y % 4294967296) = p at *
      omega
theorem drel_ncond {Y U u1 q r : Int} (h : DNum Y U u1) (i : DInv Y U u1 q r) (ht : q < 4294967296 ∧ IntKind.u64.wrap (q * (Y % 4294967296)) ≤ IntKind.u64.wrap (IntKind.u64.wrap (4294967296 * r) + u1)) :
    q = (U * 4294967296 + u1) / Y := by
  apply dinv_done Y U u1 q r h i
  obtain ⟨h1, h2, h3, h4, h5, h6⟩ := h
  obtain ⟨a, b, c, d, e, f⟩ := i
  have m : q * (Y % 4294967296) ≤ 4294967295 * 4294967295 := Int.mul_le_mul (by omega) (by omega) (by omega) (by omega)
  have m0 : 0 ≤ q * (Y % 4294967296) := Int.mul_nonneg e (by omega)
  obtain ⟨_, ht⟩ := ht
  simp only [IntKind.wrap_u64] at ht
  generalize q * (Y % 4294967296) = p at *
  omega
theorem drel_next {Y U u1 q r : Int} (h : DNum Y U u1) (i : DInv Y U u1 q r) (ht : 4294967296 ≤ q ∨ IntKind.u64.wrap (IntKind.u64.wrap (4294967296 * r) + u1) < IntKind.u64.wrap (q * (Y % 4294967296)))
    (hr : IntKind.u64.wrap (r + Y / 4294967296) < 4294967296) :
    DRel Y U u1 (.int .u64 (IntKind.u64.wrap (q - 1))) (.int .u64 (IntKind.u64.wrap (r + Y / 4294967296))) ∧ (intOf (.int .u64 (IntKind.u64.wrap (q - 1)))).toNat < (intOf (.int .u64 q)).toNat := by
  have c := drel_cond h i ht
  have b := dinv_big Y U u1 q r h i c
  have hb := h; have ib := i
  obtain ⟨h1, h2, h3, h4, h5, h6⟩ := hb
  obtain ⟨a1, a2, a3, a4, a5, a6⟩ := ib
  have e1 : IntKind.u64.wrap (q - 1) = q - 1 := by simp only [IntKind.wrap_u64]; omega
  have e2 : IntKind.u64.wrap (r + Y / 4294967296) = r + Y / 4294967296 := by simp only [IntKind.wrap_u64]; omega
  rw [e2] at hr
  refine ⟨⟨_, _, rfl, rfl, ?_⟩, ?_⟩
  · rw [e1, e2]; exact dinv_next Y U u1 q r h i c hr
  · rw [e1]; simp only [intOf]; omega
theorem drel_break {Y U u1 q r : Int} (h : DNum Y U u1) (i : DInv Y U u1 q r) (ht : 4294967296 ≤ q ∨ IntKind.u64.wrap (IntKind.u64.wrap (4294967296 * r) + u1) < IntKind.u64.wrap (q * (Y % 4294967296)))
    (hr : 4294967296 ≤ IntKind.u64.wrap (r + Y / 4294967296)) : IntKind.u64.wrap (q - 1) = (U * 4294967296 + u1) / Y := by
  have c := drel_cond h i ht
  have b := dinv_big Y U u1 q r h i c
  have hb := h; have ib := i
  obtain ⟨h1, h2, h3, h4, h5, h6⟩ := hb
  obtain ⟨a1, a2, a3, a4, a5, a6⟩ := ib
  have e1 : IntKind.u64.wrap (q - 1) = q - 1 := by simp only [IntKind.wrap_u64]; omega
  have e2 : IntKind.u64.wrap (r + Y / 4294967296) = r + Y / 4294967296 := by simp only [IntKind.wrap_u64]; omega
  rw [e2] at hr; rw [e1]
  exact dinv_break Y U u1 q r h i c hr

set_option maxHeartbeats 4000000 in
theorem div64_core (x y z : Int) (w : World) (hxz : x < z) (s : Nat) (hs : s ≤ 63) (Y U L q r Q1 V q2 r2 Q0 A B : Int)
   (e0 : (z == 0) = false) (e1 : (x == 0) = false)
   (hlz : Hid (Calls Tryz.prog 219 #[.int .u64 z] w fun e w' => e = .returned (.int .i64 (s : Nat)) ∧ w = w'))
   (hY : IntKind.u64.wrap (z * 2^s) = Y) (hY0 : (Y / 4294967296 == 0) = false) (hYh : 0 < Y / 4294967296)
   (h2 : bits BinOp.and IntKind.u64 Y 4294967295 = Y % 4294967296) (h3 : bits BinOp.or IntKind.u64 (IntKind.u64.wrap (x * 2 ^ s)) (y / 2 ^ (64 - s)) = U)
   (h4 : IntKind.u64.wrap (y * 2 ^ s) = L) (h5 : bits BinOp.and IntKind.u64 L 4294967295 = L % 4294967296)
   (h6 : IntKind.u64.wrap (U.tdiv (Y / 4294967296)) = q) (h7 : IntKind.u64.wrap (U - IntKind.u64.wrap (q * (Y / 4294967296))) = r)
   (hn1 : Hid (DNum Y U (L / 4294967296))) (hi1 : Hid (DInv Y U (L / 4294967296) q r)) (hQ1 : Hid ((U * 4294967296 + L / 4294967296) / Y = Q1))
   (h8 : IntKind.u64.wrap (IntKind.u64.wrap (IntKind.u64.wrap (U * 4294967296) + L / 4294967296) - IntKind.u64.wrap (Q1 * Y)) = V)
   (h9 : IntKind.u64.wrap (V.tdiv (Y / 4294967296)) = q2) (h10 : IntKind.u64.wrap (V - IntKind.u64.wrap (q2 * (Y / 4294967296))) = r2)
   (hn2 : Hid (DNum Y V (L % 4294967296))) (hi2 : Hid (DInv Y V (L % 4294967296) q2 r2)) (hQ2 : Hid ((V * 4294967296 + L % 4294967296) / Y = Q0))
   (h11 : IntKind.u64.wrap (IntKind.u64.wrap (Q1 * 4294967296) + Q0) = A)
   (h12 : IntKind.u64.wrap (IntKind.u64.wrap (IntKind.u64.wrap (V * 4294967296) + L % 4294967296) - IntKind.u64.wrap (Q0 * Y)) / 2 ^ s = B) :
    Calls Tryz.prog 193 #[.int .u64 x, .int .u64 y, .int .u64 z] w fun e w' => e = .returned (.tuple #[.int .u64 A, .int .u64 B]) ∧ w = w' := by
  go_enter Tryz.func193, Tryz.ntmps193
  go_wp2_with (go_at_call 219; refine (Hid.out hlz).mono ?_; rintro e w' ⟨rfl, rfl⟩)
  go_loop [15, 16] (fun a b => DRel Y U (L / 4294967296) a b) (fun a _ => (intOf a).toNat)
  case atStart => exact ⟨_, _, rfl, rfl, hi1.out⟩
  case round =>
    obtain ⟨qa, ra, rfl, rfl, hinv⟩ := hrel
    have HI := Lib.hid hinv; clear hinv
    go_wp2
    all_goals try exact drel_next hn1.out HI.out (by first | assumption | exact Or.inl (by omega)) (by assumption)
    all_goals first
      | (have hq := (drel_break hn1.out HI.out (by first | assumption | exact Or.inl (by assumption)) (by assumption)).trans hQ1.out; rw [hq]; clear hq)
      | (have hq := (drel_ncond hn1.out HI.out (by assumption)).trans hQ1.out; subst hq)
    all_goals
      clear HI
      go_wp2
      simp only [h8, h9, h10]
      go_loop [18, 16] (fun a b => DRel Y V (L % 4294967296) a b) (fun a _ => (intOf a).toNat)
      case atStart => exact ⟨_, _, rfl, rfl, hi2.out⟩
      case round =>
        obtain ⟨qb, rb, rfl, rfl, hinv⟩ := hrel
        have HJ := Lib.hid hinv; clear hinv
        go_wp2
        all_goals try exact drel_next hn2.out HJ.out (by first | assumption | exact Or.inl (by omega)) (by assumption)
        all_goals first
          | (have hq := (drel_break hn2.out HJ.out (by first | assumption | exact Or.inl (by assumption)) (by assumption)).trans hQ2.out; rw [hq]; clear hq)
          | (have hq := (drel_ncond hn2.out HJ.out (by assumption)).trans hQ2.out; subst hq)
        all_goals
          clear HJ
          go_wp2
          simp only [h11, h12]
          go_ret2
          exact ⟨rfl, rfl⟩
def dq (x y z : Int) : Int := (x * 18446744073709551616 + y) / z
def dr (x y z : Int) : Int := (x * 18446744073709551616 + y) % z
theorem bits_or_low (a b s : Nat) (hs : s ≤ 63) (ha : a * 2^s < 18446744073709551616) (hb : b < 2^s) : bits .or .u64 ((a * 2^s : Nat) : Int) (b : Int) = ((a * 2^s + b : Nat) : Int) := by
  have hb2 : b < 18446744073709551616 := by
    have : 2^s ≤ 2^63 := Nat.pow_le_pow_right (by decide) hs
    omega
  rw [bits_or_u64_nat _ _ ha hb2, Nat.mul_comm, ← Nat.two_pow_add_eq_or_of_lt hb, Nat.mul_comm]
theorem mask32 (x : Int) (hx : U64 x) : bits BinOp.and IntKind.u64 x 4294967295 = x % 4294967296 := by
  obtain ⟨X, rfl⟩ := Int.eq_ofNat_of_zero_le hx.1
  rw [maskN X (by have := hx.2; omega)]; omega
theorem w64 (x : Int) (hx : U64 x) : IntKind.u64.wrap x = x := by
  unfold U64 at hx; rw [IntKind.wrap_u64]; omega

theorem or_parts (x y z : Int) (s : Nat) (hs : s ≤ 63) (hx : U64 x) (hy : U64 y) (hxz : x < z) (hz2 : z * 2^s < 18446744073709551616) :
    bits BinOp.or IntKind.u64 (IntKind.u64.wrap (x * 2 ^ s)) (y / 2 ^ (64 - s)) = x * 2^s + y / 2^(64 - s) := by
  obtain ⟨X, rfl⟩ := Int.eq_ofNat_of_zero_le hx.1
  obtain ⟨Y, rfl⟩ := Int.eq_ofNat_of_zero_le hy.1
  have hp : (0 : Int) < 2^s := Int.pow_pos (by decide)
  have h1 : (X : Int) * 2^s < z * 2^s := Int.mul_lt_mul_of_pos_right hxz hp
  have h0 : 0 ≤ (X : Int) * 2^s := Int.mul_nonneg (by omega) (by omega)
  rw [w64 _ ⟨h0, by omega⟩]
  have e1 : (X : Int) * 2^s = ((X * 2^s : Nat) : Int) := by norm_cast
  have e2 : (Y : Int) / 2^(64 - s) = ((Y / 2^(64 - s) : Nat) : Int) := by norm_cast
  rw [e1, e2]
  have hlt : Y / 2^(64 - s) < 2^s := by
    apply Nat.div_lt_of_lt_mul
    have : (2 : Nat)^(64 - s) * 2^s = 18446744073709551616 := by rw [← Nat.pow_add, show 64 - s + s = 64 from by omega]
    have := hy.2; omega
  rw [bits_or_low X _ s hs (by omega) hlt, Int.natCast_add]


set_option maxHeartbeats 1000000 in
theorem div64_zero (y z : Int) (w : World) (hy0 : 0 ≤ y) (hy1 : y ≤ 18446744073709551615) (hz0 : 0 < z) (hz1 : z ≤ 18446744073709551615) :
    Calls Tryz.prog 193 #[.int .u64 0, .int .u64 y, .int .u64 z] w fun e w' => e = .returned (.tuple #[.int .u64 (y / z), .int .u64 (y % z)]) ∧ ∃ n, w' = w.drewN n := by
  have e0 : (z == 0) = false := by simp; omega
  have e1 : ¬ z = 0 := by omega
  have q1 : IntKind.u64.wrap (y.tdiv z) = y / z := by
    rw [Int.tdiv_eq_ediv_of_nonneg hy0]
    have := Int.ediv_nonneg hy0 (show 0 ≤ z by omega)
    have := Int.ediv_le_self z hy0
    apply w64; unfold U64; omega
  have q2 : IntKind.u64.wrap (y.tmod z) = y % z := by
    rw [Int.tmod_eq_emod_of_nonneg hy0]
    have := Int.emod_nonneg y (show z ≠ 0 by omega)
    have := Int.emod_lt_of_pos y hz0
    apply w64; unfold U64; omega
  have Q1 := Lib.hid q1; clear q1
  have Q2 := Lib.hid q2; clear q2
  go_enter Tryz.func193, Tryz.ntmps193
  go_wp2
  go_quiet (fail)
  go_wp2
  go_ret2
  refine ⟨?_, _, rfl⟩
  refine ret_ii ?_ ?_
  · first | exact Q1.out | rfl
  · first | exact Q2.out | rfl

theorem isLen_unique (x : Int) (m n : Nat) (hx : 0 < x) (h1 : IsLen x m) (h2 : IsLen x n) : m ≤ n := by
  obtain ⟨a1, a2, a3⟩ := h1
  obtain ⟨b1, b2, b3⟩ := h2
  have a3 := a3 hx
  by_cases hc : m ≤ n
  · exact hc
  · exfalso
    have : (2 : Int)^(n + 1) ≤ 2^m := by
      have := Nat.pow_le_pow_right (show 0 < 2 by decide) (show n + 1 ≤ m by omega)
      exact_mod_cast this
    rw [Int.pow_succ] at this
    omega
/-- the shift that makes the first bit 1 -/
noncomputable def lz (x : Int) : Nat := 64 - Classical.epsilon (fun n => IsLen x n)
theorem lz_eq (x : Int) (hx : 0 < x) (n : Nat) (h : IsLen x n) : lz x = 64 - n := by
  have e : IsLen x (Classical.epsilon (fun n => IsLen x n)) := Classical.epsilon_spec (p := fun n => IsLen x n) ⟨n, h⟩
  have := isLen_unique x _ _ hx e h
  have := isLen_unique x _ _ hx h e
  unfold lz; omega
theorem lz_calls (x : Int) (w : World) (hx : U64 x) (h0 : 0 < x) :
    Calls Tryz.prog 219 #[.int .u64 x] w fun e w' => (e = .returned (.int .i64 (lz x)) ∧ (lz x ≤ 63 ∧ 9223372036854775808 ≤ x * 2^(lz x) ∧ x * 2^(lz x) < 18446744073709551616)) ∧ w = w' := by
  have key : ∀ n : Nat, IsLen x n → wrap64 (64 - (n : Int)) = (lz x : Int) ∧ (lz x ≤ 63 ∧ 9223372036854775808 ≤ x * 2^(lz x) ∧ x * 2^(lz x) < 18446744073709551616) := by
    rintro n hn
    rw [lz_eq x h0 n hn]
    obtain ⟨h1, h2, h3⟩ := hn
    have h3 := h3 h0
    have e := two_pow_split n h1
    have hp : (0 : Int) < 2^(64 - n) := Int.pow_pos (by decide)
    have g1 := Int.mul_lt_mul_of_pos_right h2 hp
    have g2 := Int.mul_le_mul_of_nonneg_right h3 (Int.le_of_lt hp)
    rw [e] at g1 g2
    rw [Int.mul_assoc] at g2
    have hn : n ≠ 0 := by intro h; subst h; simp at h2; omega
    exact ⟨by simp only [wrap64]; omega, by omega, by omega, by omega⟩
  have K := Lib.hid key; clear key
  go_enter Tryz.func219, Tryz.ntmps219
  go_wp2_with fail
  refine (c_Len64 x w hx).mono ?_
  rintro e w' ⟨⟨n, rfl, hn⟩, rfl⟩
  have hs := K.out n hn
  have HS := Lib.hid hs; clear hs
  go_wp2
  go_ret
  exact ⟨⟨ret_int HS.out.1, HS.out.2⟩, rfl⟩
/-- what the bits of a positive number are, without a call -/
theorem len_ex (x : Int) (hx : U64 x) (h0 : 0 < x) : ∃ n, IsLen x n := by
  obtain ⟨X, rfl⟩ := Int.eq_ofNat_of_zero_le hx.1
  have hX : X ≠ 0 := by omega
  have h1 : X < 2^(Nat.log2 X + 1) := Nat.lt_log2_self
  have h2 := Nat.log2_self_le hX
  have h3 : Nat.log2 X < 64 := (Nat.log2_lt hX).2 (by have := hx.2; omega)
  refine ⟨Nat.log2 X + 1, by omega, by exact_mod_cast h1, fun _ => ?_⟩
  have : 2^(Nat.log2 X + 1) ≤ 2 * X := by rw [Nat.pow_succ]; omega
  exact_mod_cast this
theorem lz_fact (x : Int) (hx : U64 x) (h0 : 0 < x) : lz x ≤ 63 ∧ 9223372036854775808 ≤ x * 2^(lz x) ∧ x * 2^(lz x) < 18446744073709551616 := by
  obtain ⟨n, hn⟩ := len_ex x hx h0
  rw [lz_eq x h0 n hn]
  obtain ⟨h1, h2, h3⟩ := hn
  have h3 := h3 h0
  have e := two_pow_split n h1
  have hp : (0 : Int) < 2^(64 - n) := Int.pow_pos (by decide)
  have g1 := Int.mul_lt_mul_of_pos_right h2 hp
  have g2 := Int.mul_le_mul_of_nonneg_right h3 (Int.le_of_lt hp)
  rw [e] at g1 g2
  rw [Int.mul_assoc] at g2
  have hn : n ≠ 0 := by intro h; subst h; simp at h2; omega
  exact ⟨by omega, by omega, by omega⟩

theorem c_Div64 (x y z : Int) (w : World) (hx : U64 x) (hy : U64 y) (hz : U64 z) (h : x < z) :
    Calls Tryz.prog 193 #[.int .u64 x, .int .u64 y, .int .u64 z] w fun e w' => e = .returned (.tuple #[.int .u64 (dq x y z), .int .u64 (dr x y z)]) ∧ ∃ n, w' = w.drewN n := by
  by_cases hx0 : x = 0
  · subst hx0
    have e1 : dq 0 y z = y / z := by unfold dq; simp
    have e2 : dr 0 y z = y % z := by unfold dr; simp
    rw [e1, e2]
    unfold U64 at *
    exact div64_zero y z w hy.1 (by omega) (by omega) (by omega)
  · have hz0 : 0 < z := by unfold U64 at *; omega
    obtain ⟨s1, s2, s3⟩ := lz_fact z hz hz0
    have hor := or_parts x y z (lz z) s1 hx hy h s3
    have hlz : Calls Tryz.prog 219 #[.int .u64 z] w fun e w' => e = .returned (.int .i64 (lz z : Nat)) ∧ w = w' :=
      (lz_calls z w hz hz0).mono (fun e w' ⟨⟨h1, _⟩, h2⟩ => ⟨h1, h2⟩)
    generalize lz z = s at *
    have hP : (0 : Int) < 2^s := Int.pow_pos (by decide)
    have hR : (0 : Int) < 2^(64 - s) := Int.pow_pos (by decide)
    have hPR : (2 : Int)^s * 2^(64 - s) = 18446744073709551616 := two_pow_split s (by omega)
    have b := digits_both x y z (2^s) (2^(64 - s)) (z * 2^s) (x * 2^s + y / 2^(64 - s)) (y * 2^s % 18446744073709551616) hP hR hPR hz0 hx.1 h hy.1 hy.2 rfl rfl rfl _ _ rfl rfl
    have hU : x * 2^s + y / 2^(64 - s) < z * 2^s := by
      have h1 : (x + 1) * 2^s ≤ z * 2^s := Int.mul_le_mul_of_nonneg_right (by omega) (by omega)
      have h2 : y / 2^(64 - s) < 2^s := Int.ediv_lt_of_lt_mul hR (by have := hy.2; omega)
      have h3 : (x + 1) * 2^s = x * 2^s + 2^s := by grind
      omega
    have hU0 : 0 ≤ x * 2^s + y / 2^(64 - s) := by
      have := Int.mul_nonneg hx.1 (show (0 : Int) ≤ 2^s by omega)
      have := Int.ediv_nonneg hy.1 (show (0 : Int) ≤ 2^(64 - s) by omega)
      omega
    have hL : IntKind.u64.wrap (y * 2 ^ s) = y * 2^s % 18446744073709551616 := by rw [IntKind.wrap_u64]
    have hY : IntKind.u64.wrap (z * 2^s) = z * 2^s := w64 _ ⟨by omega, s3⟩
    generalize hYv : z * 2^s = Y at *
    generalize hUv : x * 2^s + y / 2^(64 - s) = U at *
    generalize hLv : y * 2^s % 18446744073709551616 = L at *
    have hL2 : U64 L := by rw [← hLv]; unfold U64; omega
    have n1 : DNum Y U (L / 4294967296) := ⟨s2, s3, hU0, hU, by unfold U64 at hL2; omega, by unfold U64 at hL2; omega⟩
    have d1 := digit_bd Y U _ n1
    have n2 : DNum Y ((U * 4294967296 + L / 4294967296) % Y) (L % 4294967296) := ⟨s2, s3, d1.2.2.1, d1.2.2.2.1, by omega, by omega⟩
    have d2 := digit_bd Y _ _ n2
    have tq : ∀ V u1 : Int, DNum Y V u1 → IntKind.u64.wrap (V.tdiv (Y / 4294967296)) = V / (Y / 4294967296) ∧
        IntKind.u64.wrap (V - IntKind.u64.wrap (V / (Y / 4294967296) * (Y / 4294967296))) = V - V / (Y / 4294967296) * (Y / 4294967296) := by
      intro V u1 hn
      have i := dinv_start Y V u1 hn
      obtain ⟨a1, a2, a3, a4, a5, a6⟩ := hn
      obtain ⟨i1, i2, i3, i4, i5, i6⟩ := i
      rw [Int.tdiv_eq_ediv_of_nonneg a3]
      generalize V / (Y / 4294967296) = q at *
      have hq : 0 ≤ q * (Y / 4294967296) := Int.mul_nonneg i5 (by omega)
      generalize q * (Y / 4294967296) = p at *
      exact ⟨w64 _ (by unfold U64; omega), by rw [w64 p (by unfold U64; omega)]; exact w64 _ (by unfold U64; omega)⟩
    refine (div64_core x y z w h s s1 Y U L (U / (Y / 4294967296)) (U - U / (Y / 4294967296) * (Y / 4294967296)) ((U * 4294967296 + L / 4294967296) / Y)
      ((U * 4294967296 + L / 4294967296) % Y) _ _ _ (dq x y z) (dr x y z) (by simp; omega) (by simpa using hx0) hlz
      (by rw [hYv]; exact hY) (by simp; omega) (by omega) (mask32 Y ⟨by omega, s3⟩) hor hL (mask32 L hL2)
      (tq U _ n1).1 (tq U _ n1).2 n1 (dinv_start _ _ _ n1) rfl ?_ (tq _ _ n2).1 (tq _ _ n2).2 n2 (dinv_start _ _ _ n2) rfl ?_ ?_).mono (fun e w' ⟨h1, h2⟩ => ⟨h1, 0, h2.symm⟩)
    · obtain ⟨_, _, m1, m2, m3⟩ := d1
      rw [m3]
      generalize (U * 4294967296 + L / 4294967296) % Y = V at *
      simp only [IntKind.wrap_u64]; omega
    · obtain ⟨p1, p2, _, _, _⟩ := d1
      obtain ⟨r1, r2, _, _, _⟩ := d2
      have b1 := b.1
      unfold dq; rw [← b1]
      generalize (U * 4294967296 + L / 4294967296) / Y = q1 at *
      generalize ((U * 4294967296 + L / 4294967296) % Y * 4294967296 + L % 4294967296) / Y = q0 at *
      simp only [IntKind.wrap_u64]; omega
    · obtain ⟨_, _, m1, m2, m3⟩ := d2
      have b2 := b.2
      unfold dr; rw [← b2, m3]
      generalize (U * 4294967296 + L / 4294967296) % Y = V at *
      generalize (V * 4294967296 + L % 4294967296) % Y = X at *
      congr 1
      simp only [IntKind.wrap_u64]; omega
end Go.Proofs.YtlloiallkcfomaaGreat
