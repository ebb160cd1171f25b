/- The contract of package fixed's roots. -/
import Derived.Test.YtlloiallkcfomaaGreatVec6
set_option linter.unusedVariables false
set_option linter.unusedSimpArgs false
namespace Go.Proofs.YtlloiallkcfomaaGreat
open Go.RowKit Alm
theorem rtV_bd (n : Int) (h0 : 0 ≤ n) (h1 : n ≤ 2305843009213693952) : 0 ≤ rtV n ∧ rtV n ≤ 1518500250 ∧ 0 ≤ rtV n * rtV n ∧ rtV n * rtV n ≤ 2305843009213693952 := by
  have h := rtV_is n h0 h1
  have := sq_le (rtV n) 1518500250 (by omega) h.1 (by omega)
  have := Int.mul_nonneg h.1 h.1
  omega
set_option maxRecDepth 100000 in
set_option maxHeartbeats 4000000 in
theorem c_fSqrt (a1 a2 : Int) (w : World) (ha : fxV a1 a2 = true) (h0 : 0 ≤ a2) :
    Calls Tryz.prog 131 #[.agg #[.int .i64 a1, .int .i64 a2]] w fun e w' => e = .returned (opV (rtL a1 a2) (rtH a1 a2)) ∧ Below w.heap.size w w' := by
  obtain ⟨h1, h2, h3⟩ := fx_bd2 ha
  have CB := fun w => c_fValid a1 a2 w
  rw [ha] at CB
  replace CB := Lib.hid CB
  clear ha
  have CF := fun w => c_ffit (rtL a1 a2) (rtH a1 a2) w
  obtain ⟨x, y, z, hE⟩ := opV_form (rtL a1 a2) (rtH a1 a2)
  rw [hE] at CF ⊢
  clear hE
  have C2 := fun w => c_root (a2 * 1073741824) w (by omega) (by omega)
  have C1 := fun w => c_root (max 0 a1 * 1073741824) w (by omega) (by omega)
  obtain ⟨v1, v2, v3, v4⟩ := rtV_bd (a2 * 1073741824) (by omega) (by omega)
  have b1 := rtV_bd (max 0 a1 * 1073741824) (by omega) (by omega)
  unfold rtL rtH at CF
  generalize rtV (a2 * 1073741824) = V at *
  generalize rtV (max 0 a1 * 1073741824) = U at *
  replace C2 := Lib.hid C2
  have K0 := Lib.hid (((ks_start w).new w.heap.size rfl /-T-/ 41 #[.int .i64 a1, .int .i64 a2]).new (w.heap.size + 1) (by simp) /-T-/ 41 #[.int .i64 0, .int .i64 0])
  clear b1
  by_cases hlt : V * V < a2 * 1073741824
  · rw [if_pos hlt] at CF
    by_cases hp : 0 < a1
    · rw [show max 0 a1 = a1 by omega] at C1
      replace CF := Lib.hid CF; replace C1 := Lib.hid C1
      go_enter Tryz.func131, Tryz.ntmps131
      go_wp2_with fail
      refine (CB.out _).mono ?_
      rintro e w1 ⟨rfl, hb1⟩
      have K1 := Lib.hid (K0.out.below hb1); clear hb1 K0 CB
      have u0 := K1.out.c (g := w.heap.size) (t := /-T-/ 41) (cs := #[.int .i64 a1, .int .i64 a2]) (by simp) (i := 0) rfl
      have u1 := K1.out.c (g := w.heap.size) (t := /-T-/ 41) (cs := #[.int .i64 a1, .int .i64 a2]) (by simp) (i := 1) rfl
      go_wp2_with fail
      refine (C2.out _).mono ?_
      rintro e w' ⟨rfl, rfl⟩
      go_wp2_with fail
      refine (C1.out _).mono ?_
      rintro e w' ⟨rfl, rfl⟩
      go_wp2_with fail
      refine (CF.out _).mono ?_
      rintro e w9 ⟨rfl, hb1⟩
      have K9 := Lib.hid (K1.out.below hb1); clear hb1 K1 u0 u1
      have r0 := K9.out.c (g := w.heap.size + 1) (t := /-T-/ 41) (cs := #[.int .i64 0, .int .i64 0]) (by simp) (i := 0) rfl
      have fr0 := K9.out.f (g := w.heap.size + 1) (t := /-T-/ 41) (cs := #[.int .i64 0, .int .i64 0]) (by simp) 0
      have r1 := K9.out.c (g := w.heap.size + 1) (t := /-T-/ 41) (cs := #[.int .i64 0, .int .i64 0]) (by simp) (i := 1) rfl
      have fr1 := K9.out.f (g := w.heap.size + 1) (t := /-T-/ 41) (cs := #[.int .i64 0, .int .i64 0]) (by simp) 1
      have HB := Lib.hid K9.out.1
      go_wp2
      refine bodyPost_ret (v := .tuple #[.agg #[.int .i64 x, .int .i64 y], .int .i64 z]) (by simp [results, Tryz.results131, go_sem, r0, r1]) rfl ⟨rfl, ?_⟩
      have hb := HB.out
      go_grown
    · rw [show max 0 a1 = 0 by omega, Int.zero_mul] at C1
      replace CF := Lib.hid CF; replace C1 := Lib.hid C1
      go_enter Tryz.func131, Tryz.ntmps131
      go_wp2_with fail
      refine (CB.out _).mono ?_
      rintro e w1 ⟨rfl, hb1⟩
      have K1 := Lib.hid (K0.out.below hb1); clear hb1 K0 CB
      have u0 := K1.out.c (g := w.heap.size) (t := /-T-/ 41) (cs := #[.int .i64 a1, .int .i64 a2]) (by simp) (i := 0) rfl
      have u1 := K1.out.c (g := w.heap.size) (t := /-T-/ 41) (cs := #[.int .i64 a1, .int .i64 a2]) (by simp) (i := 1) rfl
      go_wp2_with fail
      refine (C2.out _).mono ?_
      rintro e w' ⟨rfl, rfl⟩
      go_wp2_with fail
      refine (C1.out _).mono ?_
      rintro e w' ⟨rfl, rfl⟩
      go_wp2_with fail
      refine (CF.out _).mono ?_
      rintro e w9 ⟨rfl, hb1⟩
      have K9 := Lib.hid (K1.out.below hb1); clear hb1 K1 u0 u1
      have r0 := K9.out.c (g := w.heap.size + 1) (t := /-T-/ 41) (cs := #[.int .i64 0, .int .i64 0]) (by simp) (i := 0) rfl
      have fr0 := K9.out.f (g := w.heap.size + 1) (t := /-T-/ 41) (cs := #[.int .i64 0, .int .i64 0]) (by simp) 0
      have r1 := K9.out.c (g := w.heap.size + 1) (t := /-T-/ 41) (cs := #[.int .i64 0, .int .i64 0]) (by simp) (i := 1) rfl
      have fr1 := K9.out.f (g := w.heap.size + 1) (t := /-T-/ 41) (cs := #[.int .i64 0, .int .i64 0]) (by simp) 1
      have HB := Lib.hid K9.out.1
      go_wp2
      refine bodyPost_ret (v := .tuple #[.agg #[.int .i64 x, .int .i64 y], .int .i64 z]) (by simp [results, Tryz.results131, go_sem, r0, r1]) rfl ⟨rfl, ?_⟩
      have hb := HB.out
      go_grown
  · rw [if_neg hlt] at CF
    by_cases hp : 0 < a1
    · rw [show max 0 a1 = a1 by omega] at C1
      replace CF := Lib.hid CF; replace C1 := Lib.hid C1
      go_enter Tryz.func131, Tryz.ntmps131
      go_wp2_with fail
      refine (CB.out _).mono ?_
      rintro e w1 ⟨rfl, hb1⟩
      have K1 := Lib.hid (K0.out.below hb1); clear hb1 K0 CB
      have u0 := K1.out.c (g := w.heap.size) (t := /-T-/ 41) (cs := #[.int .i64 a1, .int .i64 a2]) (by simp) (i := 0) rfl
      have u1 := K1.out.c (g := w.heap.size) (t := /-T-/ 41) (cs := #[.int .i64 a1, .int .i64 a2]) (by simp) (i := 1) rfl
      go_wp2_with fail
      refine (C2.out _).mono ?_
      rintro e w' ⟨rfl, rfl⟩
      go_wp2_with fail
      refine (C1.out _).mono ?_
      rintro e w' ⟨rfl, rfl⟩
      go_wp2_with fail
      refine (CF.out _).mono ?_
      rintro e w9 ⟨rfl, hb1⟩
      have K9 := Lib.hid (K1.out.below hb1); clear hb1 K1 u0 u1
      have r0 := K9.out.c (g := w.heap.size + 1) (t := /-T-/ 41) (cs := #[.int .i64 0, .int .i64 0]) (by simp) (i := 0) rfl
      have fr0 := K9.out.f (g := w.heap.size + 1) (t := /-T-/ 41) (cs := #[.int .i64 0, .int .i64 0]) (by simp) 0
      have r1 := K9.out.c (g := w.heap.size + 1) (t := /-T-/ 41) (cs := #[.int .i64 0, .int .i64 0]) (by simp) (i := 1) rfl
      have fr1 := K9.out.f (g := w.heap.size + 1) (t := /-T-/ 41) (cs := #[.int .i64 0, .int .i64 0]) (by simp) 1
      have HB := Lib.hid K9.out.1
      go_wp2
      refine bodyPost_ret (v := .tuple #[.agg #[.int .i64 x, .int .i64 y], .int .i64 z]) (by simp [results, Tryz.results131, go_sem, r0, r1]) rfl ⟨rfl, ?_⟩
      have hb := HB.out
      go_grown
    · rw [show max 0 a1 = 0 by omega, Int.zero_mul] at C1
      replace CF := Lib.hid CF; replace C1 := Lib.hid C1
      go_enter Tryz.func131, Tryz.ntmps131
      go_wp2_with fail
      refine (CB.out _).mono ?_
      rintro e w1 ⟨rfl, hb1⟩
      have K1 := Lib.hid (K0.out.below hb1); clear hb1 K0 CB
      have u0 := K1.out.c (g := w.heap.size) (t := /-T-/ 41) (cs := #[.int .i64 a1, .int .i64 a2]) (by simp) (i := 0) rfl
      have u1 := K1.out.c (g := w.heap.size) (t := /-T-/ 41) (cs := #[.int .i64 a1, .int .i64 a2]) (by simp) (i := 1) rfl
      go_wp2_with fail
      refine (C2.out _).mono ?_
      rintro e w' ⟨rfl, rfl⟩
      go_wp2_with fail
      refine (C1.out _).mono ?_
      rintro e w' ⟨rfl, rfl⟩
      go_wp2_with fail
      refine (CF.out _).mono ?_
      rintro e w9 ⟨rfl, hb1⟩
      have K9 := Lib.hid (K1.out.below hb1); clear hb1 K1 u0 u1
      have r0 := K9.out.c (g := w.heap.size + 1) (t := /-T-/ 41) (cs := #[.int .i64 0, .int .i64 0]) (by simp) (i := 0) rfl
      have fr0 := K9.out.f (g := w.heap.size + 1) (t := /-T-/ 41) (cs := #[.int .i64 0, .int .i64 0]) (by simp) 0
      have r1 := K9.out.c (g := w.heap.size + 1) (t := /-T-/ 41) (cs := #[.int .i64 0, .int .i64 0]) (by simp) (i := 1) rfl
      have fr1 := K9.out.f (g := w.heap.size + 1) (t := /-T-/ 41) (cs := #[.int .i64 0, .int .i64 0]) (by simp) 1
      have HB := Lib.hid K9.out.1
      go_wp2
      refine bodyPost_ret (v := .tuple #[.agg #[.int .i64 x, .int .i64 y], .int .i64 z]) (by simp [results, Tryz.results131, go_sem, r0, r1]) rfl ⟨rfl, ?_⟩
      have hb := HB.out
      go_grown
end Go.Proofs.YtlloiallkcfomaaGreat
