/- The contracts of package trig's numbers. -/
import Derived.Test.YtlloiallkcfomaaGreatTrigMul
import Derived.Test.YtlloiallkcfomaaGreatDiv
import Derived.Test.YtlloiallkcfomaaGreatLimb
set_option linter.unusedVariables false
namespace Go.Proofs.YtlloiallkcfomaaGreat
open Go.RowKit Alm

theorem ret_w4 {a b c d a' b' c' d' : Int} (h0 : a = a') (h1 : b = b') (h2 : c = c') (h3 : d = d') :
    Ending.returned (.agg #[.int .u64 a, .int .u64 b, .int .u64 c, .int .u64 d]) = .returned (.agg #[.int .u64 a', .int .u64 b', .int .u64 c', .int .u64 d']) := by rw [h0, h1, h2, h3]

theorem c_mul (A B : Nat) (hA : A < W) (hB : B < W) (w : World) :
    Calls Tryz.prog 188 #[.agg #[.int .u64 (nl A 0), .int .u64 (nl A 1), .int .u64 (nl A 2), .int .u64 (nl A 3)], .agg #[.int .u64 (nl B 0), .int .u64 (nl B 1), .int .u64 (nl B 2), .int .u64 (nl B 3)]] w fun e w' =>
      e = .returned (.agg #[.int .u64 (nl (mulN A B) 0), .int .u64 (nl (mulN A B) 1), .int .u64 (nl (mulN A B) 2), .int .u64 (nl (mulN A B) 3)]) ∧ Below w.heap.size w w' := by
  refine (mul_words (nl A) (nl B) w (fun k _ => nl_U A k) (fun k _ => nl_U B k)).mono ?_
  rintro e w' ⟨r, rfl, hr, hv, hb⟩
  rw [mulN_tot A B hA hB] at hv
  obtain ⟨h0, h1, h2, h3⟩ := nl_of r hr _ hv
  exact ⟨ret_w4 h0 h1 h2 h3, hb⟩

set_option maxRecDepth 100000 in
set_option maxHeartbeats 1000000 in
theorem sub_words (a0 a1 a2 a3 b0 b1 b2 b3 : Int) (w : World) (ha0 : U64 a0) (ha1 : U64 a1) (ha2 : U64 a2) (ha3 : U64 a3) (hb0 : U64 b0) (hb1 : U64 b1) (hb2 : U64 b2) (hb3 : U64 b3) :
    Calls Tryz.prog 187 #[.agg #[.int .u64 a0, .int .u64 a1, .int .u64 a2, .int .u64 a3], .agg #[.int .u64 b0, .int .u64 b1, .int .u64 b2, .int .u64 b3]] w fun e w' =>
      e = .returned (.agg #[.int .u64 (sb a0 b0 (sbc a1 b1 (sbc a2 b2 (sbc a3 b3 0)))), .int .u64 (sb a1 b1 (sbc a2 b2 (sbc a3 b3 0))), .int .u64 (sb a2 b2 (sbc a3 b3 0)), .int .u64 (sb a3 b3 0)]) ∧ Below w.heap.size w w' := by
  have f3 := sb_fact a3 b3 0 ha3 hb3 (by unfold Bit; omega)
  have f2 := sb_fact a2 b2 _ ha2 hb2 f3.2.1
  have f1 := sb_fact a1 b1 _ ha1 hb1 f2.2.1
  have s3 := run_Sub64 a3 b3 0 ha3 hb3 (by unfold Bit; omega)
  have s2 := run_Sub64 a2 b2 _ ha2 hb2 f3.2.1
  have s1 := run_Sub64 a1 b1 _ ha1 hb1 f2.2.1
  have s0 := run_Sub64 a0 b0 _ ha0 hb0 f1.2.1
  clear f1 f2 f3
  generalize sb a3 b3 0 = r3 at *
  generalize sbc a3 b3 0 = c3 at *
  generalize sb a2 b2 c3 = r2 at *
  generalize sbc a2 b2 c3 = c2 at *
  generalize sb a1 b1 c2 = r1 at *
  generalize sbc a1 b1 c2 = c1 at *
  generalize sb a0 b0 c1 = r0 at *
  generalize sbc a0 b0 c1 = c0 at *
  go_enter Tryz.func187, Tryz.ntmps187
  go_wp2
  refine wp_loop_rounds 5 ?_
  rw [rounds_succ]
  go_wp2
  go_region
  go_wp2
  rw [rounds_succ]
  go_wp2
  go_region
  go_wp2
  rw [rounds_succ]
  go_wp2
  go_region
  go_wp2
  rw [rounds_succ]
  go_wp2
  go_region
  go_wp2
  rw [rounds_succ]
  go_wp2
  refine bodyPost_ret (v := .agg #[.int .u64 r0, .int .u64 r1, .int .u64 r2, .int .u64 r3]) (by simp [results, Tryz.results187, go_sem]) rfl ⟨rfl, ?_⟩
  go_grown

/-- the difference, modulo 2^256 -/
def subN (A B : Nat) : Nat := (A + W - B) % W
theorem subN_eq (A B : Nat) (hA : A < W) (h : B ≤ A) : subN A B = A - B := by
  unfold subN
  rw [show A + W - B = (A - B) + W by omega, Nat.add_mod_right, Nat.mod_eq_of_lt (by omega)]
theorem c_sub (A B : Nat) (hA : A < W) (hB : B < W) (w : World) :
    Calls Tryz.prog 187 #[.agg #[.int .u64 (nl A 0), .int .u64 (nl A 1), .int .u64 (nl A 2), .int .u64 (nl A 3)], .agg #[.int .u64 (nl B 0), .int .u64 (nl B 1), .int .u64 (nl B 2), .int .u64 (nl B 3)]] w fun e w' =>
      e = .returned (.agg #[.int .u64 (nl (subN A B) 0), .int .u64 (nl (subN A B) 1), .int .u64 (nl (subN A B) 2), .int .u64 (nl (subN A B) 3)]) ∧ Below w.heap.size w w' := by
  refine (sub_words _ _ _ _ _ _ _ _ w (nl_U A 0) (nl_U A 1) (nl_U A 2) (nl_U A 3) (nl_U B 0) (nl_U B 1) (nl_U B 2) (nl_U B 3)).mono ?_
  rintro e w' ⟨rfl, hb⟩
  have va := V4_nl A hA
  have vb := V4_nl B hB
  unfold V4 at va vb
  have f3 := sb_fact (nl A 3) (nl B 3) 0 (nl_U A 3) (nl_U B 3) (by unfold Bit; omega)
  have f2 := sb_fact (nl A 2) (nl B 2) _ (nl_U A 2) (nl_U B 2) f3.2.1
  have f1 := sb_fact (nl A 1) (nl B 1) _ (nl_U A 1) (nl_U B 1) f2.2.1
  have f0 := sb_fact (nl A 0) (nl B 0) _ (nl_U A 0) (nl_U B 0) f1.2.1
  generalize sb (nl A 3) (nl B 3) 0 = r3 at *
  generalize sbc (nl A 3) (nl B 3) 0 = c3 at *
  generalize sb (nl A 2) (nl B 2) c3 = r2 at *
  generalize sbc (nl A 2) (nl B 2) c3 = c2 at *
  generalize sb (nl A 1) (nl B 1) c2 = r1 at *
  generalize sbc (nl A 1) (nl B 1) c2 = c1 at *
  generalize sb (nl A 0) (nl B 0) c1 = r0 at *
  generalize sbc (nl A 0) (nl B 0) c1 = c0 at *
  have hW : W = 115792089237316195423570985008687907853269984665640564039457584007913129639936 := by unfold W; decide +kernel
  have hr : ∀ k, k < 4 → LU ((fun k => match k with | 0 => r0 | 1 => r1 | 2 => r2 | _ => r3) k) := by
    intro k hk
    have : k = 0 ∨ k = 1 ∨ k = 2 ∨ k = 3 := by omega
    rcases this with rfl | rfl | rfl | rfl
    · exact f0.1
    · exact f1.1
    · exact f2.1
    · exact f3.1
  have hv : V4 (fun k => match k with | 0 => r0 | 1 => r1 | 2 => r2 | _ => r3) = (subN A B : Int) := by
    simp only [V4, subN]
    unfold U64 Bit at *
    rw [hW] at *
    generalize nl A 0 = a0 at *
    generalize nl A 1 = a1 at *
    generalize nl A 2 = a2 at *
    generalize nl A 3 = a3 at *
    generalize nl B 0 = b0 at *
    generalize nl B 1 = b1 at *
    generalize nl B 2 = b2 at *
    generalize nl B 3 = b3 at *
    have : (r0 * 2^192 + r1 * 2^128 + r2 * 2^64 + r3 : Int) = A - B + 115792089237316195423570985008687907853269984665640564039457584007913129639936 * c0 := by omega
    have hb1 : 0 ≤ c0 ∧ c0 ≤ 1 := f0.2.1
    omega
  obtain ⟨h0, h1, h2, h3⟩ := nl_of _ hr _ hv
  exact ⟨ret_w4 h0 h1 h2 h3, hb⟩

theorem dq_fact (x y z : Int) (hx : U64 x) (hy : U64 y) (hz : U64 z) (h : x < z) : U64 (dq x y z) ∧ U64 (dr x y z) ∧ dr x y z < z ∧ dq x y z * z + dr x y z = x * 18446744073709551616 + y := by
  unfold dq dr U64 at *
  have h0 : 0 < z := by omega
  have e := Int.mul_ediv_add_emod (x * 18446744073709551616 + y) z
  have e2 : (x * 18446744073709551616 + y) / z * z = z * ((x * 18446744073709551616 + y) / z) := Int.mul_comm _ _
  have r0 := Int.emod_nonneg (x * 18446744073709551616 + y) (show z ≠ 0 by omega)
  have r1 := Int.emod_lt_of_pos (x * 18446744073709551616 + y) h0
  have q0 := Int.ediv_nonneg (show 0 ≤ x * 18446744073709551616 + y by omega) (show 0 ≤ z by omega)
  have q1 : (x * 18446744073709551616 + y) / z < 18446744073709551616 := by
    apply Int.ediv_lt_of_lt_mul h0
    have : (x + 1) * 18446744073709551616 ≤ z * 18446744073709551616 := Int.mul_le_mul_of_nonneg_right (by omega) (by omega)
    omega
  omega

set_option maxRecDepth 100000 in
set_option maxHeartbeats 1000000 in
theorem div_words (a0 a1 a2 a3 t d : Int) (w : World) (ha0 : U64 a0) (ha1 : U64 a1) (ha2 : U64 a2) (ha3 : U64 a3) (ht : U64 t) (hd : U64 d) (h : t < d) :
    Calls Tryz.prog 217 #[.agg #[.int .u64 a0, .int .u64 a1, .int .u64 a2, .int .u64 a3], .int .u64 t, .int .u64 d] w fun e w' =>
      e = .returned (.agg #[.int .u64 (dq t a0 d), .int .u64 (dq (dr t a0 d) a1 d), .int .u64 (dq (dr (dr t a0 d) a1 d) a2 d), .int .u64 (dq (dr (dr (dr t a0 d) a1 d) a2 d) a3 d)]) ∧ Below w.heap.size w w' := by
  have f0 := dq_fact t a0 d ht ha0 hd h
  have f1 := dq_fact _ a1 d f0.2.1 ha1 hd f0.2.2.1
  have f2 := dq_fact _ a2 d f1.2.1 ha2 hd f1.2.2.1
  have f3 := dq_fact _ a3 d f2.2.1 ha3 hd f2.2.2.1
  have c0 := fun w => c_Div64 t a0 d w ht ha0 hd h
  have c1 := fun w => c_Div64 _ a1 d w f0.2.1 ha1 hd f0.2.2.1
  have c2 := fun w => c_Div64 _ a2 d w f1.2.1 ha2 hd f1.2.2.1
  have c3 := fun w => c_Div64 _ a3 d w f2.2.1 ha3 hd f2.2.2.1
  clear f0 f1 f2 f3
  generalize dq t a0 d = q0 at *
  generalize dr t a0 d = t1 at *
  generalize dq t1 a1 d = q1 at *
  generalize dr t1 a1 d = t2 at *
  generalize dq t2 a2 d = q2 at *
  generalize dr t2 a2 d = t3 at *
  generalize dq t3 a3 d = q3 at *
  generalize dr t3 a3 d = t4 at *
  have C0 := Lib.hid c0; have C1 := Lib.hid c1; have C2 := Lib.hid c2; have C3 := Lib.hid c3
  clear c0 c1 c2 c3
  go_enter Tryz.func217, Tryz.ntmps217
  go_wp2
  refine wp_loop_rounds 5 ?_
  rw [rounds_succ]
  go_wp2_with fail
  refine (C0.out _).mono ?_
  rintro e w' ⟨rfl, n0, rfl⟩
  go_wp2
  rw [rounds_succ]
  go_wp2_with fail
  refine (C1.out _).mono ?_
  rintro e w' ⟨rfl, n1, rfl⟩
  go_wp2
  rw [rounds_succ]
  go_wp2_with fail
  refine (C2.out _).mono ?_
  rintro e w' ⟨rfl, n2, rfl⟩
  go_wp2
  rw [rounds_succ]
  go_wp2_with fail
  refine (C3.out _).mono ?_
  rintro e w' ⟨rfl, n3, rfl⟩
  go_wp2
  rw [rounds_succ]
  go_wp2
  refine bodyPost_ret (v := .agg #[.int .u64 q0, .int .u64 q1, .int .u64 q2, .int .u64 q3]) (by simp [results, Tryz.results217, go_sem]) rfl ⟨rfl, ?_⟩
  repeat' (first | (with_reducible exact Below.refl _ _) | (with_reducible refine below_drewN ?_ _) | go_grown)

/-- a quotient of a number with an integral part -/
def quoN (t A d : Nat) : Nat := (t * W + A) / d
theorem quoN_lt (t A d : Nat) (hA : A < W) (h : t < d) : quoN t A d < W := by
  unfold quoN
  apply Nat.div_lt_of_lt_mul
  have : (t + 1) * W ≤ d * W := Nat.mul_le_mul_right _ h
  have e : (t + 1) * W = t * W + W := by grind
  omega
theorem c_div (A : Nat) (t d : Int) (hA : A < W) (ht : U64 t) (hd : U64 d) (h : t < d) (w : World) :
    Calls Tryz.prog 217 #[.agg #[.int .u64 (nl A 0), .int .u64 (nl A 1), .int .u64 (nl A 2), .int .u64 (nl A 3)], .int .u64 t, .int .u64 d] w fun e w' =>
      e = .returned (.agg #[.int .u64 (nl (quoN t.toNat A d.toNat) 0), .int .u64 (nl (quoN t.toNat A d.toNat) 1), .int .u64 (nl (quoN t.toNat A d.toNat) 2), .int .u64 (nl (quoN t.toNat A d.toNat) 3)]) ∧ Below w.heap.size w w' := by
  refine (div_words _ _ _ _ t d w (nl_U A 0) (nl_U A 1) (nl_U A 2) (nl_U A 3) ht hd h).mono ?_
  rintro e w' ⟨rfl, hb⟩
  have va := V4_nl A hA
  unfold V4 at va
  have f0 := dq_fact t (nl A 0) d ht (nl_U A 0) hd h
  have f1 := dq_fact _ (nl A 1) d f0.2.1 (nl_U A 1) hd f0.2.2.1
  have f2 := dq_fact _ (nl A 2) d f1.2.1 (nl_U A 2) hd f1.2.2.1
  have f3 := dq_fact _ (nl A 3) d f2.2.1 (nl_U A 3) hd f2.2.2.1
  generalize dq t (nl A 0) d = q0 at *
  generalize dr t (nl A 0) d = t1 at *
  generalize dq t1 (nl A 1) d = q1 at *
  generalize dr t1 (nl A 1) d = t2 at *
  generalize dq t2 (nl A 2) d = q2 at *
  generalize dr t2 (nl A 2) d = t3 at *
  generalize dq t3 (nl A 3) d = q3 at *
  generalize dr t3 (nl A 3) d = t4 at *
  have hW : W = 115792089237316195423570985008687907853269984665640564039457584007913129639936 := by unfold W; decide +kernel
  have hr : ∀ k, k < 4 → LU ((fun k => match k with | 0 => q0 | 1 => q1 | 2 => q2 | _ => q3) k) := by
    intro k hk
    have : k = 0 ∨ k = 1 ∨ k = 2 ∨ k = 3 := by omega
    rcases this with rfl | rfl | rfl | rfl
    · exact f0.1
    · exact f1.1
    · exact f2.1
    · exact f3.1
  have hv : V4 (fun k => match k with | 0 => q0 | 1 => q1 | 2 => q2 | _ => q3) = (quoN t.toNat A d.toNat : Int) := by
    simp only [V4, quoN]
    have hd0 : 0 < d := by unfold U64 at *; omega
    have e : (((t.toNat * W + A) / d.toNat : Nat) : Int) = (t * 115792089237316195423570985008687907853269984665640564039457584007913129639936 + A) / d := by
      rw [Int.natCast_ediv, Int.natCast_add, Int.natCast_mul, Int.toNat_of_nonneg ht.1, Int.toNat_of_nonneg hd.1, hW]; rfl
    rw [e]
    have g0 := f0.2.2.2; have g1 := f1.2.2.2; have g2 := f2.2.2.2; have g3 := f3.2.2.2
    have hs : (q0 * 2^192 + q1 * 2^128 + q2 * 2^64 + q3) * d = q0 * d * 2^192 + q1 * d * 2^128 + q2 * d * 2^64 + q3 * d := by grind
    have tot : t * 115792089237316195423570985008687907853269984665640564039457584007913129639936 + A = t4 + (q0 * 2^192 + q1 * 2^128 + q2 * 2^64 + q3) * d := by
      rw [hs]
      generalize q0 * d = p0 at *
      generalize q1 * d = p1 at *
      generalize q2 * d = p2 at *
      generalize q3 * d = p3 at *
      generalize nl A 0 = a0 at *
      generalize nl A 1 = a1 at *
      generalize nl A 2 = a2 at *
      generalize nl A 3 = a3 at *
      omega
    rw [tot, Int.add_mul_ediv_right _ _ (by omega), Int.ediv_eq_zero_of_lt f3.2.1.1 f3.2.2.1]; omega
  obtain ⟨h0, h1, h2, h3⟩ := nl_of _ hr _ hv
  exact ⟨ret_w4 h0 h1 h2 h3, hb⟩

/-! radians -/
set_option maxRecDepth 100000 in
set_option maxHeartbeats 2000000 in
theorem c_radians (n : Int) (w : World) (h0 : 0 ≤ n) (h1 : n ≤ 2700000) :
    Calls Tryz.prog 186 #[.int .i64 n] w fun e w' => e = .returned (.agg #[.int .u64 (nl (radN n.toNat) 0), .int .u64 (nl (radN n.toNat) 1), .int .u64 (nl (radN n.toNat) 2), .int .u64 (nl (radN n.toNat) 3)]) ∧ Below w.heap.size w w' := by
  have hn : U64 n := by unfold U64; omega
  have m3 := ml_fact 589684135938649225 n (by unfold U64; omega) hn
  have k3 := fun w => c_Mul64 589684135938649225 n (by unfold U64; omega) hn w
  generalize mh 589684135938649225 n = h3 at *
  generalize ml 589684135938649225 n = l3 at *
  have b3 : 0 ≤ h3 ∧ h3 ≤ n := by
    have := m3.1.1; have := m3.2.1.1; have := m3.2.1.2; omega
  have x3 : 0 ≤ h3 := b3.1
  have y3 : h3 ≤ 2700000 := by omega
  have g3 := ad_fact l3 (0) 0 m3.2.1 (by unfold U64; omega) (by unfold Bit; omega)
  have r3 := run_Add64 l3 (0) 0 m3.2.1 (by unfold U64; omega) (by unfold Bit; omega)
  generalize ad l3 (0) 0 = s3 at *
  generalize adc l3 (0) 0 = c3 at *
  have z3 : 0 ≤ c3 := g3.2.1.1
  have v3 : c3 ≤ 1 := g3.2.1.2
  have m2 := ml_fact 11820040416388919760 n (by unfold U64; omega) hn
  have k2 := fun w => c_Mul64 11820040416388919760 n (by unfold U64; omega) hn w
  generalize mh 11820040416388919760 n = h2 at *
  generalize ml 11820040416388919760 n = l2 at *
  have b2 : 0 ≤ h2 ∧ h2 ≤ n := by
    have := m2.1.1; have := m2.2.1.1; have := m2.2.1.2; omega
  have x2 : 0 ≤ h2 := b2.1
  have y2 : h2 ≤ 2700000 := by omega
  have g2 := ad_fact l2 (h3 + c3) 0 m2.2.1 (by unfold U64 Bit at *; omega) (by unfold Bit; omega)
  have r2 := run_Add64 l2 (h3 + c3) 0 m2.2.1 (by unfold U64 Bit at *; omega) (by unfold Bit; omega)
  generalize ad l2 (h3 + c3) 0 = s2 at *
  generalize adc l2 (h3 + c3) 0 = c2 at *
  have z2 : 0 ≤ c2 := g2.2.1.1
  have v2 : c2 ≤ 1 := g2.2.1.2
  have m1 := ml_fact 1376283091369227076 n (by unfold U64; omega) hn
  have k1 := fun w => c_Mul64 1376283091369227076 n (by unfold U64; omega) hn w
  generalize mh 1376283091369227076 n = h1 at *
  generalize ml 1376283091369227076 n = l1 at *
  have b1 : 0 ≤ h1 ∧ h1 ≤ n := by
    have := m1.1.1; have := m1.2.1.1; have := m1.2.1.2; omega
  have x1 : 0 ≤ h1 := b1.1
  have y1 : h1 ≤ 2700000 := by omega
  have g1 := ad_fact l1 (h2 + c2) 0 m1.2.1 (by unfold U64 Bit at *; omega) (by unfold Bit; omega)
  have r1 := run_Add64 l1 (h2 + c2) 0 m1.2.1 (by unfold U64 Bit at *; omega) (by unfold Bit; omega)
  generalize ad l1 (h2 + c2) 0 = s1 at *
  generalize adc l1 (h2 + c2) 0 = c1 at *
  have z1 : 0 ≤ c1 := g1.2.1.1
  have v1 : c1 ≤ 1 := g1.2.1.2
  have m0 := ml_fact 2611923443488327891 n (by unfold U64; omega) hn
  have k0 := fun w => c_Mul64 2611923443488327891 n (by unfold U64; omega) hn w
  generalize mh 2611923443488327891 n = hh0 at *
  generalize ml 2611923443488327891 n = l0 at *
  have b0 : 0 ≤ hh0 ∧ hh0 ≤ n := by
    have := m0.1.1; have := m0.2.1.1; have := m0.2.1.2; omega
  have x0 : 0 ≤ hh0 := b0.1
  have y0 : hh0 ≤ 2700000 := by omega
  have g0 := ad_fact l0 (h1 + c1) 0 m0.2.1 (by unfold U64 Bit at *; omega) (by unfold Bit; omega)
  have r0 := run_Add64 l0 (h1 + c1) 0 m0.2.1 (by unfold U64 Bit at *; omega) (by unfold Bit; omega)
  generalize ad l0 (h1 + c1) 0 = s0 at *
  generalize adc l0 (h1 + c1) 0 = c0 at *
  have z0 : 0 ≤ c0 := g0.2.1.1
  have v0 : c0 ≤ 1 := g0.2.1.2
  have hfin : (hh0 + c0 + 3 * n) % 10800000 = hh0 + c0 + 3 * n := by
    have := m0.2.2.1; have := m0.2.1.1; omega
  have hq : ∃ A : Nat, A < W ∧ s0 = nl A 0 ∧ s1 = nl A 1 ∧ s2 = nl A 2 ∧ s3 = nl A 3 ∧ quoN (hh0 + c0 + 3 * n).toNat A 10800000 = radN n.toNat := by
    have hW : W = 115792089237316195423570985008687907853269984665640564039457584007913129639936 := by unfold W; decide +kernel
    have hPi : PiN = 3 * 115792089237316195423570985008687907853269984665640564039457584007913129639936 + 16395309179817738009521987751666139093583423331470737840399399094199505546377 := by unfold PiN; decide +kernel
    have e3 := m3.2.2.1; have e2 := m2.2.2.1; have e1 := m1.2.2.1; have e0 := m0.2.2.1
    have i3 := g3.2.2; have i2 := g2.2.2; have i1 := g1.2.2; have i0 := g0.2.2
    have hr : ∀ k, k < 4 → LU ((fun k => match k with | 0 => s0 | 1 => s1 | 2 => s2 | _ => s3) k) := by
      intro k hk
      have : k = 0 ∨ k = 1 ∨ k = 2 ∨ k = 3 := by omega
      rcases this with rfl | rfl | rfl | rfl
      · exact g0.1
      · exact g1.1
      · exact g2.1
      · exact g3.1
    have hb : (s0 * 2^192 + s1 * 2^128 + s2 * 2^64 + s3 : Int) = 16395309179817738009521987751666139093583423331470737840399399094199505546377 * n - 115792089237316195423570985008687907853269984665640564039457584007913129639936 * (hh0 + c0) := by omega
    have q0 := g0.1; have q1 := g1.1; have q2 := g2.1; have q3 := g3.1
    have ha : ∃ A : Nat, (A : Int) = s0 * 2^192 + s1 * 2^128 + s2 * 2^64 + s3 := ⟨(s0 * 2^192 + s1 * 2^128 + s2 * 2^64 + s3).toNat, by unfold U64 at *; omega⟩
    obtain ⟨A, hA⟩ := ha
    have hv : V4 (fun k => match k with | 0 => s0 | 1 => s1 | 2 => s2 | _ => s3) = (A : Int) := by simp only [V4]; exact hA.symm
    obtain ⟨j0, j1, j2, j3⟩ := nl_of _ hr _ hv
    refine ⟨A, by unfold U64 at *; omega, j0, j1, j2, j3, ?_⟩
    have hr2 : radN n.toNat = n.toNat * PiN / 10800000 := by unfold radN; rfl
    rw [hr2]
    unfold quoN
    congr 1
    rw [hPi, hW]
    omega
  obtain ⟨A, hA, j0, j1, j2, j3, hq⟩ := hq
  subst j0 j1 j2 j3
  have HQ := Lib.hid hq; have HA := Lib.hid hA; clear hq hA
  have K3 := Lib.hid k3; have M3 := Lib.hid m3; have G3 := Lib.hid g3; clear k3 m3 g3
  have K2 := Lib.hid k2; have M2 := Lib.hid m2; have G2 := Lib.hid g2; clear k2 m2 g2
  have K1 := Lib.hid k1; have M1 := Lib.hid m1; have G1 := Lib.hid g1; clear k1 m1 g1
  have K0 := Lib.hid k0; have M0 := Lib.hid m0; have G0 := Lib.hid g0; clear k0 m0 g0
  go_enter Tryz.func186, Tryz.ntmps186
  go_wp2
  refine wp_loop_rounds 5 ?_
  rw [rounds_succ]
  go_wp2_with fail
  refine (K3.out _).mono ?_
  rintro e w' ⟨rfl, rfl⟩
  go_wp2
  rw [rounds_succ]
  go_wp2_with fail
  refine (K2.out _).mono ?_
  rintro e w' ⟨rfl, rfl⟩
  go_wp2
  rw [rounds_succ]
  go_wp2_with fail
  refine (K1.out _).mono ?_
  rintro e w' ⟨rfl, rfl⟩
  go_wp2
  rw [rounds_succ]
  go_wp2_with fail
  refine (K0.out _).mono ?_
  rintro e w' ⟨rfl, rfl⟩
  go_wp2
  rw [rounds_succ]
  go_wp2_with fail
  refine (c_div A _ _ HA.out (by unfold U64; omega) (by unfold U64; omega) (by omega) _).mono ?_
  rintro e w' ⟨rfl, hb⟩
  have e1 : (10800000 : Int).toNat = 10800000 := rfl
  rw [e1, HQ.out]
  have hB : Below w.heap.size w w' := by
    refine Below.trans ?_ (hb.mono (by simp; omega))
    go_grown
  have y : ∀ k, k < 4 → w'.cell? ⟨w.heap.size, k, none⟩ = some (.int .u64 0) ∧ w'.frozen? ⟨w.heap.size, k, none⟩ = false := by
    intro k hk
    have : k = 0 ∨ k = 1 ∨ k = 2 ∨ k = 3 := by omega
    rcases this with rfl | rfl | rfl | rfl <;> refine ⟨(hb.cell (by simp; omega)).trans (by simp [go_sem]), (hb.frozen (by simp; omega)).trans (by simp [go_sem])⟩
  have HB := Lib.hid hB
  clear hb hB
  obtain ⟨y0, z0⟩ := y 0 (by omega); obtain ⟨y1, z1⟩ := y 1 (by omega); obtain ⟨y2, z2⟩ := y 2 (by omega); obtain ⟨y3, z3⟩ := y 3 (by omega)
  clear y
  go_wp2
  refine bodyPost_ret (v := .agg #[.int .u64 (nl (radN n.toNat) 0), .int .u64 (nl (radN n.toNat) 1), .int .u64 (nl (radN n.toNat) 2), .int .u64 (nl (radN n.toNat) 3)]) (by simp [results, Tryz.results186, go_sem, y0, y1, y2, y3]) rfl ⟨rfl, ?_⟩
  have hb := HB.out
  go_grown
end Go.Proofs.YtlloiallkcfomaaGreat
