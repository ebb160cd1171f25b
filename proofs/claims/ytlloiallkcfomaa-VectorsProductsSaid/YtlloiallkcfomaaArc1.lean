/- The contracts of package arctrig's numbers. -/
import Derived.Test.YtlloiallkcfomaaArcMul
import Derived.Test.YtlloiallkcfomaaTrigNum
set_option linter.unusedVariables false
set_option linter.unusedSimpArgs false
namespace Go.Proofs.Ytlloiallkcfomaa
open Go.RowKit Alm
/-- a number as a value -/
def NV (A : Nat) : Value := .agg #[.int .u64 (nl A 0), .int .u64 (nl A 1), .int .u64 (nl A 2), .int .u64 (nl A 3)]
theorem c_amul (A B : Nat) (hA : A < W) (hB : B < W) (hs : A * B < 2^448) (w : World) :
    Calls Try.prog 178 #[.agg #[.int .u64 (nl A 0), .int .u64 (nl A 1), .int .u64 (nl A 2), .int .u64 (nl A 3)], .agg #[.int .u64 (nl B 0), .int .u64 (nl B 1), .int .u64 (nl B 2), .int .u64 (nl B 3)]] w fun e w' =>
      e = .returned (.agg #[.int .u64 (nl (mulA A B) 0), .int .u64 (nl (mulA A B) 1), .int .u64 (nl (mulA A B) 2), .int .u64 (nl (mulA A B) 3)]) ∧ Below w.heap.size w w' := by
  refine (amul_words (nl A) (nl B) w (fun k _ => nl_U A k) (fun k _ => nl_U B k)).mono ?_
  rintro e w' ⟨r, rfl, hr, hv, hb⟩
  rw [V4_nl A hA, V4_nl B hB] at hv
  have hm := V8_mid r hr A B hv hs
  obtain ⟨h0, h1, h2, h3⟩ := nl_of (fun k => r (k + 1)) (fun k hk => hr (k + 1) (by omega)) _ hm
  exact ⟨ret_w4 h0 h1 h2 h3, hb⟩
theorem nl_of4 (r0 r1 r2 r3 : Int) (h0 : U64 r0) (h1 : U64 r1) (h2 : U64 r2) (h3 : U64 r3) (A : Nat) (h : r0 * 2^192 + r1 * 2^128 + r2 * 2^64 + r3 = (A : Int)) : r0 = nl A 0 ∧ r1 = nl A 1 ∧ r2 = nl A 2 ∧ r3 = nl A 3 := by
  have hr : ∀ k, k < 4 → LU ((fun k => match k with | 0 => r0 | 1 => r1 | 2 => r2 | _ => r3) k) := by
    intro k hk
    have : k = 0 ∨ k = 1 ∨ k = 2 ∨ k = 3 := by omega
    rcases this with rfl | rfl | rfl | rfl
    · exact h0
    · exact h1
    · exact h2
    · exact h3
  have hv : V4 (fun k => match k with | 0 => r0 | 1 => r1 | 2 => r2 | _ => r3) = (A : Int) := by simp only [V4]; exact h
  exact nl_of _ hr _ hv
/-! times -/
set_option maxRecDepth 100000 in
set_option maxHeartbeats 2000000 in
theorem c_atimes (A : Nat) (n : Int) (hA : A < W) (hn : U64 n) (hs : A * n.toNat < W) (w : World) :
    Calls Try.prog 167 #[.agg #[.int .u64 (nl A 0), .int .u64 (nl A 1), .int .u64 (nl A 2), .int .u64 (nl A 3)], .int .u64 n] w fun e w' =>
      e = .returned (.agg #[.int .u64 (nl (A * n.toNat) 0), .int .u64 (nl (A * n.toNat) 1), .int .u64 (nl (A * n.toNat) 2), .int .u64 (nl (A * n.toNat) 3)]) ∧ Below w.heap.size w w' := by
  have hW : W = 115792089237316195423570985008687907853269984665640564039457584007913129639936 := by unfold W; decide +kernel
  have va := V4_nl A hA
  unfold V4 at va
  have u0 := nl_U A 0; have u1 := nl_U A 1; have u2 := nl_U A 2; have u3 := nl_U A 3
  have eP : ((A * n.toNat : Nat) : Int) = (nl A 0 * n) * 2^192 + (nl A 1 * n) * 2^128 + (nl A 2 * n) * 2^64 + nl A 3 * n := by
    rw [Int.natCast_mul, Int.toNat_of_nonneg hn.1, ← va]; grind
  have hsI : ((A * n.toNat : Nat) : Int) < 115792089237316195423570985008687907853269984665640564039457584007913129639936 := by omega
  generalize nl A 0 = a0 at *
  generalize nl A 1 = a1 at *
  generalize nl A 2 = a2 at *
  generalize nl A 3 = a3 at *
  have m3 := ml_fact a3 n u3 hn; have m2 := ml_fact a2 n u2 hn; have m1 := ml_fact a1 n u1 hn; have m0 := ml_fact a0 n u0 hn
  have k3 := fun w => c_Mul64 a3 n u3 hn w; have k2 := fun w => c_Mul64 a2 n u2 hn w; have k1 := fun w => c_Mul64 a1 n u1 hn w; have k0 := fun w => c_Mul64 a0 n u0 hn w
  generalize mh a3 n = h3 at *
  generalize ml a3 n = l3 at *
  generalize mh a2 n = h2 at *
  generalize ml a2 n = l2 at *
  generalize mh a1 n = h1 at *
  generalize ml a1 n = l1 at *
  generalize mh a0 n = h0 at *
  generalize ml a0 n = l0 at *
  have g3 := ad_fact l3 0 0 m3.2.1 (by unfold U64; omega) (by unfold Bit; omega)
  have r3 := run_Add64 l3 0 0 m3.2.1 (by unfold U64; omega) (by unfold Bit; omega)
  generalize ad l3 0 0 = s3 at *
  generalize adc l3 0 0 = c3 at *
  have j3 : U64 (h3 + c3) := by have := g3.2.1; have := m3.1; have := m3.2.2.2; unfold U64 Bit at *; omega
  have g2 := ad_fact l2 (h3 + c3) 0 m2.2.1 j3 (by unfold Bit; omega)
  have r2 := run_Add64 l2 (h3 + c3) 0 m2.2.1 j3 (by unfold Bit; omega)
  generalize ad l2 (h3 + c3) 0 = s2 at *
  generalize adc l2 (h3 + c3) 0 = c2 at *
  have j2 : U64 (h2 + c2) := by have := g2.2.1; have := m2.1; have := m2.2.2.2; unfold U64 Bit at *; omega
  have g1 := ad_fact l1 (h2 + c2) 0 m1.2.1 j2 (by unfold Bit; omega)
  have r1 := run_Add64 l1 (h2 + c2) 0 m1.2.1 j2 (by unfold Bit; omega)
  generalize ad l1 (h2 + c2) 0 = s1 at *
  generalize adc l1 (h2 + c2) 0 = c1 at *
  have j1 : U64 (h1 + c1) := by have := g1.2.1; have := m1.1; have := m1.2.2.2; unfold U64 Bit at *; omega
  have g0 := ad_fact l0 (h1 + c1) 0 m0.2.1 j1 (by unfold Bit; omega)
  have r0 := run_Add64 l0 (h1 + c1) 0 m0.2.1 j1 (by unfold Bit; omega)
  generalize ad l0 (h1 + c1) 0 = s0 at *
  generalize adc l0 (h1 + c1) 0 = c0 at *
  have j0 : U64 (h0 + c0) := by have := g0.2.1; have := m0.1; have := m0.2.2.2; unfold U64 Bit at *; omega
  have fin : s0 * 2^192 + s1 * 2^128 + s2 * 2^64 + s3 = ((A * n.toNat : Nat) : Int) := by
    have e3 := m3.2.2.1; have e2 := m2.2.2.1; have e1 := m1.2.2.1; have e0 := m0.2.2.1
    have i3 := g3.2.2; have i2 := g2.2.2; have i1 := g1.2.2; have i0 := g0.2.2
    have q0 := g0.1; have q1 := g1.1; have q2 := g2.1; have q3 := g3.1
    rw [eP] at hsI ⊢
    generalize a0 * n = p0 at *
    generalize a1 * n = p1 at *
    generalize a2 * n = p2 at *
    generalize a3 * n = p3 at *
    unfold U64 at *
    omega
  have FIN := Lib.hid (nl_of4 s0 s1 s2 s3 g0.1 g1.1 g2.1 g3.1 _ fin)
  have x3 : 0 ≤ h3 := m3.1.1; have y3 : h3 ≤ 18446744073709551614 := m3.2.2.2; have z3 : 0 ≤ c3 := g3.2.1.1; have v3 : c3 ≤ 1 := g3.2.1.2
  have x2 : 0 ≤ h2 := m2.1.1; have y2 : h2 ≤ 18446744073709551614 := m2.2.2.2; have z2 : 0 ≤ c2 := g2.2.1.1; have v2 : c2 ≤ 1 := g2.2.1.2
  have x1 : 0 ≤ h1 := m1.1.1; have y1 : h1 ≤ 18446744073709551614 := m1.2.2.2; have z1 : 0 ≤ c1 := g1.2.1.1; have v1 : c1 ≤ 1 := g1.2.1.2
  have x0 : 0 ≤ h0 := m0.1.1; have y0 : h0 ≤ 18446744073709551614 := m0.2.2.2; have z0 : 0 ≤ c0 := g0.2.1.1; have v0 : c0 ≤ 1 := g0.2.1.2
  have K3 := Lib.hid k3; have K2 := Lib.hid k2; have K1 := Lib.hid k1; have K0 := Lib.hid k0
  clear k3 k2 k1 k0 m3 m2 m1 m0 g3 g2 g1 g0 j3 j2 j1 j0 fin va eP hsI hs hA hW u0 u1 u2 u3 hn
  go_enter Try.func167, Try.ntmps167
  go_wp2
  refine wp_loop_rounds 5 ?_
  rw [rounds_succ]
  go_wp2_with fail
  refine (K3.out _).mono ?_
  rintro e w' ⟨rfl, rfl⟩
  go_wp2
  rw [rounds_succ]
  go_wp2_with fail
  refine (K2.out _).mono ?_
  rintro e w' ⟨rfl, rfl⟩
  go_wp2
  rw [rounds_succ]
  go_wp2_with fail
  refine (K1.out _).mono ?_
  rintro e w' ⟨rfl, rfl⟩
  go_wp2
  rw [rounds_succ]
  go_wp2_with fail
  refine (K0.out _).mono ?_
  rintro e w' ⟨rfl, rfl⟩
  go_wp2
  rw [rounds_succ]
  go_wp2
  refine bodyPost_ret (v := .agg #[.int .u64 s0, .int .u64 s1, .int .u64 s2, .int .u64 s3]) (by simp [results, Try.results167, go_sem]) rfl ⟨?_, ?_⟩
  · obtain ⟨f0, f1, f2, f3⟩ := FIN.out
    exact ret_w4 f0 f1 f2 f3
  · go_grown
end Go.Proofs.Ytlloiallkcfomaa
