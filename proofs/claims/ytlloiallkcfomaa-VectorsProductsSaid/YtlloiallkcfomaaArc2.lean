/- The contracts of package arctrig's numbers: quotient, sum, difference, comparison. -/
import Derived.Test.YtlloiallkcfomaaArc1
set_option linter.unusedVariables false
set_option linter.unusedSimpArgs false
namespace Go.Proofs.Ytlloiallkcfomaa
open Go.RowKit Alm
set_option maxRecDepth 100000 in
set_option maxHeartbeats 1000000 in
theorem over_words (a0 a1 a2 a3 d : Int) (w : World) (ha0 : U64 a0) (ha1 : U64 a1) (ha2 : U64 a2) (ha3 : U64 a3) (hd : U64 d) (h : 0 < d) :
    Calls Try.prog 177 #[.agg #[.int .u64 a0, .int .u64 a1, .int .u64 a2, .int .u64 a3], .int .u64 d] w fun e w' =>
      e = .returned (.agg #[.int .u64 (dq 0 a0 d), .int .u64 (dq (dr 0 a0 d) a1 d), .int .u64 (dq (dr (dr 0 a0 d) a1 d) a2 d), .int .u64 (dq (dr (dr (dr 0 a0 d) a1 d) a2 d) a3 d)]) ∧ Below w.heap.size w w' := by
  have ht : U64 0 := by unfold U64; omega
  have f0 := dq_fact 0 a0 d ht ha0 hd h
  have f1 := dq_fact _ a1 d f0.2.1 ha1 hd f0.2.2.1
  have f2 := dq_fact _ a2 d f1.2.1 ha2 hd f1.2.2.1
  have f3 := dq_fact _ a3 d f2.2.1 ha3 hd f2.2.2.1
  have c0 := fun w => c_Div64 0 a0 d w ht ha0 hd h
  have c1 := fun w => c_Div64 _ a1 d w f0.2.1 ha1 hd f0.2.2.1
  have c2 := fun w => c_Div64 _ a2 d w f1.2.1 ha2 hd f1.2.2.1
  have c3 := fun w => c_Div64 _ a3 d w f2.2.1 ha3 hd f2.2.2.1
  clear f0 f1 f2 f3
  generalize dq 0 a0 d = q0 at *
  generalize dr 0 a0 d = t1 at *
  generalize dq t1 a1 d = q1 at *
  generalize dr t1 a1 d = t2 at *
  generalize dq t2 a2 d = q2 at *
  generalize dr t2 a2 d = t3 at *
  generalize dq t3 a3 d = q3 at *
  generalize dr t3 a3 d = t4 at *
  have C0 := Lib.hid c0; have C1 := Lib.hid c1; have C2 := Lib.hid c2; have C3 := Lib.hid c3
  clear c0 c1 c2 c3
  go_enter Try.func177, Try.ntmps177
  go_wp2
  refine wp_loop_rounds 5 ?_
  rw [rounds_succ]
  go_wp2_with fail
  refine (C0.out _).mono ?_
  rintro e w' ⟨rfl, n0, rfl⟩
  go_wp2
  rw [rounds_succ]
  go_wp2_with fail
  refine (C1.out _).mono ?_
  rintro e w' ⟨rfl, n1, rfl⟩
  go_wp2
  rw [rounds_succ]
  go_wp2_with fail
  refine (C2.out _).mono ?_
  rintro e w' ⟨rfl, n2, rfl⟩
  go_wp2
  rw [rounds_succ]
  go_wp2_with fail
  refine (C3.out _).mono ?_
  rintro e w' ⟨rfl, n3, rfl⟩
  go_wp2
  rw [rounds_succ]
  go_wp2
  refine bodyPost_ret (v := .agg #[.int .u64 q0, .int .u64 q1, .int .u64 q2, .int .u64 q3]) (by simp [results, Try.results177, go_sem]) rfl ⟨rfl, ?_⟩
  repeat' (first | (with_reducible exact Below.refl _ _) | (with_reducible refine below_drewN ?_ _) | go_grown)
theorem c_aover (A : Nat) (d : Int) (hA : A < W) (hd : U64 d) (h : 0 < d) (w : World) :
    Calls Try.prog 177 #[.agg #[.int .u64 (nl A 0), .int .u64 (nl A 1), .int .u64 (nl A 2), .int .u64 (nl A 3)], .int .u64 d] w fun e w' =>
      e = .returned (.agg #[.int .u64 (nl (A / d.toNat) 0), .int .u64 (nl (A / d.toNat) 1), .int .u64 (nl (A / d.toNat) 2), .int .u64 (nl (A / d.toNat) 3)]) ∧ Below w.heap.size w w' := by
  refine (over_words _ _ _ _ d w (nl_U A 0) (nl_U A 1) (nl_U A 2) (nl_U A 3) hd h).mono ?_
  rintro e w' ⟨rfl, hb⟩
  have va := V4_nl A hA
  unfold V4 at va
  have ht : U64 0 := by unfold U64; omega
  have f0 := dq_fact 0 (nl A 0) d ht (nl_U A 0) hd h
  have f1 := dq_fact _ (nl A 1) d f0.2.1 (nl_U A 1) hd f0.2.2.1
  have f2 := dq_fact _ (nl A 2) d f1.2.1 (nl_U A 2) hd f1.2.2.1
  have f3 := dq_fact _ (nl A 3) d f2.2.1 (nl_U A 3) hd f2.2.2.1
  generalize dq 0 (nl A 0) d = q0 at *
  generalize dr 0 (nl A 0) d = t1 at *
  generalize dq t1 (nl A 1) d = q1 at *
  generalize dr t1 (nl A 1) d = t2 at *
  generalize dq t2 (nl A 2) d = q2 at *
  generalize dr t2 (nl A 2) d = t3 at *
  generalize dq t3 (nl A 3) d = q3 at *
  generalize dr t3 (nl A 3) d = t4 at *
  have hv : q0 * 2^192 + q1 * 2^128 + q2 * 2^64 + q3 = ((A / d.toNat : Nat) : Int) := by
    have e : ((A / d.toNat : Nat) : Int) = (A : Int) / d := by
      rw [Int.natCast_ediv, Int.toNat_of_nonneg hd.1]
    rw [e]
    have g0 := f0.2.2.2; have g1 := f1.2.2.2; have g2 := f2.2.2.2; have g3 := f3.2.2.2
    have hs : (q0 * 2^192 + q1 * 2^128 + q2 * 2^64 + q3) * d = q0 * d * 2^192 + q1 * d * 2^128 + q2 * d * 2^64 + q3 * d := by grind
    have tot : (A : Int) = t4 + (q0 * 2^192 + q1 * 2^128 + q2 * 2^64 + q3) * d := by
      rw [hs]
      generalize q0 * d = p0 at *
      generalize q1 * d = p1 at *
      generalize q2 * d = p2 at *
      generalize q3 * d = p3 at *
      generalize nl A 0 = a0 at *
      generalize nl A 1 = a1 at *
      generalize nl A 2 = a2 at *
      generalize nl A 3 = a3 at *
      omega
    rw [tot, Int.add_mul_ediv_right _ _ (by omega), Int.ediv_eq_zero_of_lt f3.2.1.1 f3.2.2.1]; omega
  obtain ⟨h0, h1, h2, h3⟩ := nl_of4 q0 q1 q2 q3 f0.1 f1.1 f2.1 f3.1 _ hv
  exact ⟨ret_w4 h0 h1 h2 h3, hb⟩
set_option maxRecDepth 100000 in
set_option maxHeartbeats 1000000 in
theorem asub_words (a0 a1 a2 a3 b0 b1 b2 b3 : Int) (w : World) (ha0 : U64 a0) (ha1 : U64 a1) (ha2 : U64 a2) (ha3 : U64 a3) (hb0 : U64 b0) (hb1 : U64 b1) (hb2 : U64 b2) (hb3 : U64 b3) :
    Calls Try.prog 189 #[.agg #[.int .u64 a0, .int .u64 a1, .int .u64 a2, .int .u64 a3], .agg #[.int .u64 b0, .int .u64 b1, .int .u64 b2, .int .u64 b3]] w fun e w' =>
      e = .returned (.agg #[.int .u64 (sb a0 b0 (sbc a1 b1 (sbc a2 b2 (sbc a3 b3 0)))), .int .u64 (sb a1 b1 (sbc a2 b2 (sbc a3 b3 0))), .int .u64 (sb a2 b2 (sbc a3 b3 0)), .int .u64 (sb a3 b3 0)]) ∧ Below w.heap.size w w' := by
  have f3 := sb_fact a3 b3 0 ha3 hb3 (by unfold Bit; omega)
  have f2 := sb_fact a2 b2 _ ha2 hb2 f3.2.1
  have f1 := sb_fact a1 b1 _ ha1 hb1 f2.2.1
  have s3 := run_Sub64 a3 b3 0 ha3 hb3 (by unfold Bit; omega)
  have s2 := run_Sub64 a2 b2 _ ha2 hb2 f3.2.1
  have s1 := run_Sub64 a1 b1 _ ha1 hb1 f2.2.1
  have s0 := run_Sub64 a0 b0 _ ha0 hb0 f1.2.1
  clear f1 f2 f3
  generalize sb a3 b3 0 = r3 at *
  generalize sbc a3 b3 0 = c3 at *
  generalize sb a2 b2 c3 = r2 at *
  generalize sbc a2 b2 c3 = c2 at *
  generalize sb a1 b1 c2 = r1 at *
  generalize sbc a1 b1 c2 = c1 at *
  generalize sb a0 b0 c1 = r0 at *
  generalize sbc a0 b0 c1 = c0 at *
  go_enter Try.func189, Try.ntmps189
  go_wp2
  refine wp_loop_rounds 5 ?_
  rw [rounds_succ]
  go_wp2
  go_region
  go_wp2
  rw [rounds_succ]
  go_wp2
  go_region
  go_wp2
  rw [rounds_succ]
  go_wp2
  go_region
  go_wp2
  rw [rounds_succ]
  go_wp2
  go_region
  go_wp2
  rw [rounds_succ]
  go_wp2
  refine bodyPost_ret (v := .agg #[.int .u64 r0, .int .u64 r1, .int .u64 r2, .int .u64 r3]) (by simp [results, Try.results189, go_sem]) rfl ⟨rfl, ?_⟩
  go_grown
theorem c_asub (A B : Nat) (hA : A < W) (hB : B ≤ A) (w : World) :
    Calls Try.prog 189 #[.agg #[.int .u64 (nl A 0), .int .u64 (nl A 1), .int .u64 (nl A 2), .int .u64 (nl A 3)], .agg #[.int .u64 (nl B 0), .int .u64 (nl B 1), .int .u64 (nl B 2), .int .u64 (nl B 3)]] w fun e w' =>
      e = .returned (.agg #[.int .u64 (nl (A - B) 0), .int .u64 (nl (A - B) 1), .int .u64 (nl (A - B) 2), .int .u64 (nl (A - B) 3)]) ∧ Below w.heap.size w w' := by
  refine (asub_words _ _ _ _ _ _ _ _ w (nl_U A 0) (nl_U A 1) (nl_U A 2) (nl_U A 3) (nl_U B 0) (nl_U B 1) (nl_U B 2) (nl_U B 3)).mono ?_
  rintro e w' ⟨rfl, hb⟩
  have va := V4_nl A hA
  have vb := V4_nl B (by omega)
  unfold V4 at va vb
  have f3 := sb_fact (nl A 3) (nl B 3) 0 (nl_U A 3) (nl_U B 3) (by unfold Bit; omega)
  have f2 := sb_fact (nl A 2) (nl B 2) _ (nl_U A 2) (nl_U B 2) f3.2.1
  have f1 := sb_fact (nl A 1) (nl B 1) _ (nl_U A 1) (nl_U B 1) f2.2.1
  have f0 := sb_fact (nl A 0) (nl B 0) _ (nl_U A 0) (nl_U B 0) f1.2.1
  generalize sb (nl A 3) (nl B 3) 0 = r3 at *
  generalize sbc (nl A 3) (nl B 3) 0 = c3 at *
  generalize sb (nl A 2) (nl B 2) c3 = r2 at *
  generalize sbc (nl A 2) (nl B 2) c3 = c2 at *
  generalize sb (nl A 1) (nl B 1) c2 = r1 at *
  generalize sbc (nl A 1) (nl B 1) c2 = c1 at *
  generalize sb (nl A 0) (nl B 0) c1 = r0 at *
  generalize sbc (nl A 0) (nl B 0) c1 = c0 at *
  have hv : r0 * 2^192 + r1 * 2^128 + r2 * 2^64 + r3 = ((A - B : Nat) : Int) := by
    unfold U64 Bit at *
    generalize nl A 0 = a0 at *
    generalize nl A 1 = a1 at *
    generalize nl A 2 = a2 at *
    generalize nl A 3 = a3 at *
    generalize nl B 0 = b0 at *
    generalize nl B 1 = b1 at *
    generalize nl B 2 = b2 at *
    generalize nl B 3 = b3 at *
    have hW : W = 115792089237316195423570985008687907853269984665640564039457584007913129639936 := by unfold W; decide +kernel
    rw [hW] at hA
    have : (r0 * 2^192 + r1 * 2^128 + r2 * 2^64 + r3 : Int) = A - B + 115792089237316195423570985008687907853269984665640564039457584007913129639936 * c0 := by omega
    have hb1 : 0 ≤ c0 ∧ c0 ≤ 1 := f0.2.1
    omega
  obtain ⟨h0, h1, h2, h3⟩ := nl_of4 r0 r1 r2 r3 f0.1 f1.1 f2.1 f3.1 _ hv
  exact ⟨ret_w4 h0 h1 h2 h3, hb⟩
set_option maxRecDepth 100000 in
set_option maxHeartbeats 1000000 in
theorem aadd_words (a0 a1 a2 a3 b0 b1 b2 b3 : Int) (w : World) (ha0 : U64 a0) (ha1 : U64 a1) (ha2 : U64 a2) (ha3 : U64 a3) (hb0 : U64 b0) (hb1 : U64 b1) (hb2 : U64 b2) (hb3 : U64 b3) :
    Calls Try.prog 190 #[.agg #[.int .u64 a0, .int .u64 a1, .int .u64 a2, .int .u64 a3], .agg #[.int .u64 b0, .int .u64 b1, .int .u64 b2, .int .u64 b3]] w fun e w' =>
      e = .returned (.agg #[.int .u64 (ad a0 b0 (adc a1 b1 (adc a2 b2 (adc a3 b3 0)))), .int .u64 (ad a1 b1 (adc a2 b2 (adc a3 b3 0))), .int .u64 (ad a2 b2 (adc a3 b3 0)), .int .u64 (ad a3 b3 0)]) ∧ Below w.heap.size w w' := by
  have f3 := ad_fact a3 b3 0 ha3 hb3 (by unfold Bit; omega)
  have f2 := ad_fact a2 b2 _ ha2 hb2 f3.2.1
  have f1 := ad_fact a1 b1 _ ha1 hb1 f2.2.1
  have s3 := run_Add64 a3 b3 0 ha3 hb3 (by unfold Bit; omega)
  have s2 := run_Add64 a2 b2 _ ha2 hb2 f3.2.1
  have s1 := run_Add64 a1 b1 _ ha1 hb1 f2.2.1
  have s0 := run_Add64 a0 b0 _ ha0 hb0 f1.2.1
  clear f1 f2 f3
  generalize ad a3 b3 0 = r3 at *
  generalize adc a3 b3 0 = c3 at *
  generalize ad a2 b2 c3 = r2 at *
  generalize adc a2 b2 c3 = c2 at *
  generalize ad a1 b1 c2 = r1 at *
  generalize adc a1 b1 c2 = c1 at *
  generalize ad a0 b0 c1 = r0 at *
  generalize adc a0 b0 c1 = c0 at *
  go_enter Try.func190, Try.ntmps190
  go_wp2
  refine wp_loop_rounds 5 ?_
  rw [rounds_succ]
  go_wp2
  go_region
  go_wp2
  rw [rounds_succ]
  go_wp2
  go_region
  go_wp2
  rw [rounds_succ]
  go_wp2
  go_region
  go_wp2
  rw [rounds_succ]
  go_wp2
  go_region
  go_wp2
  rw [rounds_succ]
  go_wp2
  refine bodyPost_ret (v := .agg #[.int .u64 r0, .int .u64 r1, .int .u64 r2, .int .u64 r3]) (by simp [results, Try.results190, go_sem]) rfl ⟨rfl, ?_⟩
  go_grown
theorem c_aadd (A B : Nat) (h : A + B < W) (w : World) :
    Calls Try.prog 190 #[.agg #[.int .u64 (nl A 0), .int .u64 (nl A 1), .int .u64 (nl A 2), .int .u64 (nl A 3)], .agg #[.int .u64 (nl B 0), .int .u64 (nl B 1), .int .u64 (nl B 2), .int .u64 (nl B 3)]] w fun e w' =>
      e = .returned (.agg #[.int .u64 (nl (A + B) 0), .int .u64 (nl (A + B) 1), .int .u64 (nl (A + B) 2), .int .u64 (nl (A + B) 3)]) ∧ Below w.heap.size w w' := by
  refine (aadd_words _ _ _ _ _ _ _ _ w (nl_U A 0) (nl_U A 1) (nl_U A 2) (nl_U A 3) (nl_U B 0) (nl_U B 1) (nl_U B 2) (nl_U B 3)).mono ?_
  rintro e w' ⟨rfl, hb⟩
  have va := V4_nl A (by omega)
  have vb := V4_nl B (by omega)
  unfold V4 at va vb
  have f3 := ad_fact (nl A 3) (nl B 3) 0 (nl_U A 3) (nl_U B 3) (by unfold Bit; omega)
  have f2 := ad_fact (nl A 2) (nl B 2) _ (nl_U A 2) (nl_U B 2) f3.2.1
  have f1 := ad_fact (nl A 1) (nl B 1) _ (nl_U A 1) (nl_U B 1) f2.2.1
  have f0 := ad_fact (nl A 0) (nl B 0) _ (nl_U A 0) (nl_U B 0) f1.2.1
  generalize ad (nl A 3) (nl B 3) 0 = r3 at *
  generalize adc (nl A 3) (nl B 3) 0 = c3 at *
  generalize ad (nl A 2) (nl B 2) c3 = r2 at *
  generalize adc (nl A 2) (nl B 2) c3 = c2 at *
  generalize ad (nl A 1) (nl B 1) c2 = r1 at *
  generalize adc (nl A 1) (nl B 1) c2 = c1 at *
  generalize ad (nl A 0) (nl B 0) c1 = r0 at *
  generalize adc (nl A 0) (nl B 0) c1 = c0 at *
  have hv : r0 * 2^192 + r1 * 2^128 + r2 * 2^64 + r3 = ((A + B : Nat) : Int) := by
    unfold U64 Bit at *
    generalize nl A 0 = a0 at *
    generalize nl A 1 = a1 at *
    generalize nl A 2 = a2 at *
    generalize nl A 3 = a3 at *
    generalize nl B 0 = b0 at *
    generalize nl B 1 = b1 at *
    generalize nl B 2 = b2 at *
    generalize nl B 3 = b3 at *
    have hW : W = 115792089237316195423570985008687907853269984665640564039457584007913129639936 := by unfold W; decide +kernel
    rw [hW] at h
    have : (r0 * 2^192 + r1 * 2^128 + r2 * 2^64 + r3 : Int) = A + B - 115792089237316195423570985008687907853269984665640564039457584007913129639936 * c0 := by omega
    have hb1 : 0 ≤ c0 ∧ c0 ≤ 1 := f0.2.1
    omega
  obtain ⟨h0, h1, h2, h3⟩ := nl_of4 r0 r1 r2 r3 f0.1 f1.1 f2.1 f3.1 _ hv
  exact ⟨ret_w4 h0 h1 h2 h3, hb⟩
/-! less -/
def lexB (a0 a1 a2 a3 b0 b1 b2 b3 : Int) : Bool := decide (a0 < b0 ∨ a0 = b0 ∧ (a1 < b1 ∨ a1 = b1 ∧ (a2 < b2 ∨ a2 = b2 ∧ a3 < b3)))
theorem lexB_nl (A B : Nat) (hA : A < W) (hB : B < W) : lexB (nl A 0) (nl A 1) (nl A 2) (nl A 3) (nl B 0) (nl B 1) (nl B 2) (nl B 3) = decide (A < B) := by
  have va := V4_nl A hA
  have vb := V4_nl B hB
  unfold V4 at va vb
  have a0 := nl_U A 0; have a1 := nl_U A 1; have a2 := nl_U A 2; have a3 := nl_U A 3
  have b0 := nl_U B 0; have b1 := nl_U B 1; have b2 := nl_U B 2; have b3 := nl_U B 3
  unfold lexB LU at *
  rw [Bool.eq_iff_iff]
  simp only [decide_eq_true_eq]
  generalize nl A 0 = a0 at *
  generalize nl A 1 = a1 at *
  generalize nl A 2 = a2 at *
  generalize nl A 3 = a3 at *
  generalize nl B 0 = b0 at *
  generalize nl B 1 = b1 at *
  generalize nl B 2 = b2 at *
  generalize nl B 3 = b3 at *
  omega
end Go.Proofs.Ytlloiallkcfomaa
