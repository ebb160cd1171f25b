/- The contracts of the reference of package fixed: sums, differences, products. -/
import Derived.Test.YtlloiallkcfomaaGreatVec2
set_option linter.unusedVariables false
set_option linter.unusedSimpArgs false
namespace Go.Proofs.YtlloiallkcfomaaGreat
open Go.RowKit Alm
theorem c_r4fit (lo hi : Int) (w : World) (hl : lo ≤ hi) :
    Calls Tryz.prog 161 #[.int .i64 lo, .int .i64 hi] w fun e w' => e = .returned (opV lo hi) ∧ Below w.heap.size w w' := by
  by_cases h : -2147483648 ≤ lo ∧ lo ≤ hi ∧ hi ≤ 2147483648
  · have eV : opV lo hi = .tuple #[.agg #[.int .i64 lo, .int .i64 hi], .int .i64 0] := by unfold opV fxfL fxfH fxfE; rw [if_pos h, if_pos h, if_pos h]
    rw [eV]; clear eV
    obtain ⟨h1, h2, h3⟩ := h
    go_enter Tryz.func161, Tryz.ntmps161
    go_wp2
    refine bodyPost_ret (v := .tuple #[.agg #[.int .i64 lo, .int .i64 hi], .int .i64 0]) (by simp [results, Tryz.results161, go_sem]) rfl ⟨rfl, by go_grown⟩
  · have eV : opV lo hi = .tuple #[.agg #[.int .i64 0, .int .i64 0], .int .i64 5] := by unfold opV fxfL fxfH fxfE; rw [if_neg h, if_neg h, if_neg h]
    rw [eV]; clear eV
    by_cases h1 : lo < -2147483648
    · go_enter Tryz.func161, Tryz.ntmps161
      go_wp2
      refine bodyPost_ret (v := .tuple #[.agg #[.int .i64 0, .int .i64 0], .int .i64 5]) (by simp [results, Tryz.results161, go_sem]) rfl ⟨rfl, by go_grown⟩
    · have h2 : 2147483648 < hi := by omega
      clear h
      go_enter Tryz.func161, Tryz.ntmps161
      go_wp2
      refine bodyPost_ret (v := .tuple #[.agg #[.int .i64 0, .int .i64 0], .int .i64 5]) (by simp [results, Tryz.results161, go_sem]) rfl ⟨rfl, by go_grown⟩
theorem c_r4Ceil (a b : Int) (w : World) (h1 : -4611686018427387904 ≤ a) (h2 : a ≤ 4611686018427387904) (hb : 0 < b) (hb2 : b ≤ 4611686018427387904) :
    Calls Tryz.prog 160 #[.int .i64 a, .int .i64 b] w fun e w' => e = .returned (.int .i64 (-((-a) / b))) ∧ w = w' := by
  have C := Lib.hid (fun w => c_r4Floor (-a) b w (by omega) (by omega) hb hb2)
  have q := div_bd (-a) b 4611686018427387904 hb (by omega) (by omega)
  obtain ⟨q1, q2⟩ := q
  generalize (-a) / b = F at *
  go_enter Tryz.func160, Tryz.ntmps160
  go_wp2_with fail
  refine (C.out _).mono ?_
  rintro e w' ⟨rfl, rfl⟩
  go_wp2
  go_ret
  exact ⟨rfl, rfl⟩
theorem c_r4Valid (lo hi : Int) (w : World) :
    Calls Tryz.prog 68 #[.agg #[.int .i64 lo, .int .i64 hi]] w fun e w' => e = .returned (.bool (fxV lo hi)) ∧ Below w.heap.size w w' := by
  go_enter Tryz.func68, Tryz.ntmps68
  go_wp2
  all_goals
    go_ret
    exact ⟨ret_bool (by unfold fxV; rw [Bool.eq_iff_iff]; simp <;> omega), by go_grown⟩
set_option maxRecDepth 100000 in
set_option maxHeartbeats 4000000 in
theorem c_r4Add (a1 a2 b1 b2 : Int) (w : World) (ha : fxV a1 a2 = true) (hb : fxV b1 b2 = true) :
    Calls Tryz.prog 130 #[.agg #[.int .i64 a1, .int .i64 a2], .agg #[.int .i64 b1, .int .i64 b2]] w fun e w' => e = .returned (opV (a1 + b1) (a2 + b2)) ∧ Below w.heap.size w w' := by
  obtain ⟨h1, h2, h3⟩ := fx_bd2 ha
  obtain ⟨h4, h5, h6⟩ := fx_bd2 hb
  clear ha hb
  have CF := fun w => c_r4fit (a1 + b1) (a2 + b2) w (by omega)
  obtain ⟨x, y, z, hE⟩ := opV_form (a1 + b1) (a2 + b2)
  rw [hE] at CF ⊢
  clear hE
  replace CF := Lib.hid CF
  have K0 := Lib.hid ((((ks_start w).new w.heap.size rfl /-T-/ 41 #[.int .i64 a1, .int .i64 a2]).new (w.heap.size + 1) (by simp) /-T-/ 41 #[.int .i64 b1, .int .i64 b2]).new (w.heap.size + 1 + 1) (by simp) /-T-/ 41 #[.int .i64 0, .int .i64 0])
  go_enter Tryz.func130, Tryz.ntmps130
  go_wp2_with fail
  refine (CF.out _).mono ?_
  rintro e w9 ⟨rfl, hb1⟩
  have K9 := Lib.hid (K0.out.below hb1); clear hb1 K0
  have r0 := K9.out.c (g := w.heap.size + 1 + 1) (t := /-T-/ 41) (cs := #[.int .i64 0, .int .i64 0]) (by simp) (i := 0) rfl
  have fr0 := K9.out.f (g := w.heap.size + 1 + 1) (t := /-T-/ 41) (cs := #[.int .i64 0, .int .i64 0]) (by simp) 0
  have r1 := K9.out.c (g := w.heap.size + 1 + 1) (t := /-T-/ 41) (cs := #[.int .i64 0, .int .i64 0]) (by simp) (i := 1) rfl
  have fr1 := K9.out.f (g := w.heap.size + 1 + 1) (t := /-T-/ 41) (cs := #[.int .i64 0, .int .i64 0]) (by simp) 1
  have HB := Lib.hid K9.out.1
  go_wp2
  refine bodyPost_ret (v := .tuple #[.agg #[.int .i64 x, .int .i64 y], .int .i64 z]) (by simp [results, Tryz.results130, go_sem, r0, r1]) rfl ⟨rfl, ?_⟩
  have hb := HB.out
  go_grown
set_option maxRecDepth 100000 in
set_option maxHeartbeats 4000000 in
theorem c_r4Sub (a1 a2 b1 b2 : Int) (w : World) (ha : fxV a1 a2 = true) (hb : fxV b1 b2 = true) :
    Calls Tryz.prog 129 #[.agg #[.int .i64 a1, .int .i64 a2], .agg #[.int .i64 b1, .int .i64 b2]] w fun e w' => e = .returned (opV (a1 - b2) (a2 - b1)) ∧ Below w.heap.size w w' := by
  obtain ⟨h1, h2, h3⟩ := fx_bd2 ha
  obtain ⟨h4, h5, h6⟩ := fx_bd2 hb
  clear ha hb
  have CF := fun w => c_r4fit (a1 - b2) (a2 - b1) w (by omega)
  obtain ⟨x, y, z, hE⟩ := opV_form (a1 - b2) (a2 - b1)
  rw [hE] at CF ⊢
  clear hE
  replace CF := Lib.hid CF
  have K0 := Lib.hid ((((ks_start w).new w.heap.size rfl /-T-/ 41 #[.int .i64 a1, .int .i64 a2]).new (w.heap.size + 1) (by simp) /-T-/ 41 #[.int .i64 b1, .int .i64 b2]).new (w.heap.size + 1 + 1) (by simp) /-T-/ 41 #[.int .i64 0, .int .i64 0])
  go_enter Tryz.func129, Tryz.ntmps129
  go_wp2_with fail
  refine (CF.out _).mono ?_
  rintro e w9 ⟨rfl, hb1⟩
  have K9 := Lib.hid (K0.out.below hb1); clear hb1 K0
  have r0 := K9.out.c (g := w.heap.size + 1 + 1) (t := /-T-/ 41) (cs := #[.int .i64 0, .int .i64 0]) (by simp) (i := 0) rfl
  have fr0 := K9.out.f (g := w.heap.size + 1 + 1) (t := /-T-/ 41) (cs := #[.int .i64 0, .int .i64 0]) (by simp) 0
  have r1 := K9.out.c (g := w.heap.size + 1 + 1) (t := /-T-/ 41) (cs := #[.int .i64 0, .int .i64 0]) (by simp) (i := 1) rfl
  have fr1 := K9.out.f (g := w.heap.size + 1 + 1) (t := /-T-/ 41) (cs := #[.int .i64 0, .int .i64 0]) (by simp) 1
  have HB := Lib.hid K9.out.1
  go_wp2
  refine bodyPost_ret (v := .tuple #[.agg #[.int .i64 x, .int .i64 y], .int .i64 z]) (by simp [results, Tryz.results129, go_sem, r0, r1]) rfl ⟨rfl, ?_⟩
  have hb := HB.out
  go_grown
set_option maxRecDepth 100000 in
set_option maxHeartbeats 4000000 in
theorem c_r4Mul (a1 a2 b1 b2 : Int) (w : World) (ha : fxV a1 a2 = true) (hb : fxV b1 b2 = true) :
    Calls Tryz.prog 127 #[.agg #[.int .i64 a1, .int .i64 a2], .agg #[.int .i64 b1, .int .i64 b2]] w fun e w' => e = .returned (opV (mulL a1 a2 b1 b2) (mulH a1 a2 b1 b2)) ∧ Below w.heap.size w w' := by
  obtain ⟨h1, h2, h3⟩ := fx_bd2 ha
  obtain ⟨h4, h5, h6⟩ := fx_bd2 hb
  clear ha hb
  have m1 := mul_bdN a1 b1 2147483648 2147483648 (by omega) (by omega)
  have m2 := mul_bdN a1 b2 2147483648 2147483648 (by omega) (by omega)
  have m3 := mul_bdN a2 b1 2147483648 2147483648 (by omega) (by omega)
  have m4 := mul_bdN a2 b2 2147483648 2147483648 (by omega) (by omega)
  obtain ⟨p1, p2⟩ := m1
  obtain ⟨p3, p4⟩ := m2
  obtain ⟨p5, p6⟩ := m3
  obtain ⟨p7, p8⟩ := m4
  have CF := fun w => c_r4fit (mulL a1 a2 b1 b2) (mulH a1 a2 b1 b2) w (mulL_le _ _ _ _)
  have C1 := fun w => c_r4Floor (mn4 a1 a2 b1 b2) 1073741824 w (by unfold mn4; omega) (by unfold mn4; omega) (by omega) (by omega)
  have C2 := fun w => c_r4Ceil (mx4 a1 a2 b1 b2) 1073741824 w (by unfold mx4; omega) (by unfold mx4; omega) (by omega) (by omega)
  rw [show mn4 a1 a2 b1 b2 / 1073741824 = mulL a1 a2 b1 b2 from rfl] at C1
  rw [show -((-(mx4 a1 a2 b1 b2)) / 1073741824) = mulH a1 a2 b1 b2 from rfl] at C2
  have en : mn4 a1 a2 b1 b2 = min (a1 * b1) (min (a1 * b2) (min (a2 * b1) (a2 * b2))) := by unfold mn4; omega
  have ex : mx4 a1 a2 b1 b2 = max (a1 * b1) (max (a1 * b2) (max (a2 * b1) (a2 * b2))) := by unfold mx4; omega
  rw [en] at C1
  rw [ex] at C2
  clear en ex
  obtain ⟨x, y, z, hE⟩ := opV_form (mulL a1 a2 b1 b2) (mulH a1 a2 b1 b2)
  rw [hE] at CF ⊢
  clear hE
  replace CF := Lib.hid CF
  have K0 := Lib.hid ((((ks_start w).new w.heap.size rfl /-T-/ 41 #[.int .i64 a1, .int .i64 a2]).new (w.heap.size + 1) (by simp) /-T-/ 41 #[.int .i64 b1, .int .i64 b2]).new (w.heap.size + 1 + 1) (by simp) /-T-/ 41 #[.int .i64 0, .int .i64 0])
  generalize mulL a1 a2 b1 b2 = L at *
  generalize mulH a1 a2 b1 b2 = H at *
  replace C1 := Lib.hid C1; replace C2 := Lib.hid C2
  have CL := Lib.hid c_Least; have CX := Lib.hid c_Most
  go_enter Tryz.func127, Tryz.ntmps127
  go_wp2
  generalize (((w.alloc (.cells #[.int .i64 a1, .int .i64 a2] /-T-/ 41)).alloc (.cells #[.int .i64 b1, .int .i64 b2] /-T-/ 41)).alloc (.cells #[.int .i64 0, .int .i64 0] /-T-/ 41)) = wq at *
  have u0 := K0.out.c (g := w.heap.size) (t := /-T-/ 41) (cs := #[.int .i64 a1, .int .i64 a2]) (by simp) (i := 0) rfl
  have u1 := K0.out.c (g := w.heap.size) (t := /-T-/ 41) (cs := #[.int .i64 a1, .int .i64 a2]) (by simp) (i := 1) rfl
  have v0 := K0.out.c (g := w.heap.size + 1) (t := /-T-/ 41) (cs := #[.int .i64 b1, .int .i64 b2]) (by simp) (i := 0) rfl
  have v1 := K0.out.c (g := w.heap.size + 1) (t := /-T-/ 41) (cs := #[.int .i64 b1, .int .i64 b2]) (by simp) (i := 1) rfl
  go_quiet (fail)
  have K2 := Lib.hid (K0.out.drewN nq)
  clear K0 u0 u1 v0 v1 p1 p2 p3 p4 p5 p6 p7 p8
  generalize a1 * b1 = P1 at *
  generalize a1 * b2 = P2 at *
  generalize a2 * b1 = P3 at *
  generalize a2 * b2 = P4 at *
  go_wp2_with fail
  refine (CL.out _ _ _).mono ?_
  rintro e w' ⟨rfl, rfl⟩
  go_wp2_with fail
  refine (CL.out _ _ _).mono ?_
  rintro e w' ⟨rfl, rfl⟩
  go_wp2_with fail
  refine (CL.out _ _ _).mono ?_
  rintro e w' ⟨rfl, rfl⟩
  go_wp2_with fail
  refine (CX.out _ _ _).mono ?_
  rintro e w' ⟨rfl, rfl⟩
  go_wp2_with fail
  refine (CX.out _ _ _).mono ?_
  rintro e w' ⟨rfl, rfl⟩
  go_wp2_with fail
  refine (CX.out _ _ _).mono ?_
  rintro e w' ⟨rfl, rfl⟩
  go_wp2_with fail
  refine (C1.out _).mono ?_
  rintro e w' ⟨rfl, rfl⟩
  go_wp2_with fail
  refine (C2.out _).mono ?_
  rintro e w' ⟨rfl, rfl⟩
  go_wp2_with fail
  refine (CF.out _).mono ?_
  rintro e w9 ⟨rfl, hb1⟩
  have K9 := Lib.hid (K2.out.below hb1); clear hb1 K2
  have r0 := K9.out.c (g := w.heap.size + 1 + 1) (t := /-T-/ 41) (cs := #[.int .i64 0, .int .i64 0]) (by simp) (i := 0) rfl
  have fr0 := K9.out.f (g := w.heap.size + 1 + 1) (t := /-T-/ 41) (cs := #[.int .i64 0, .int .i64 0]) (by simp) 0
  have r1 := K9.out.c (g := w.heap.size + 1 + 1) (t := /-T-/ 41) (cs := #[.int .i64 0, .int .i64 0]) (by simp) (i := 1) rfl
  have fr1 := K9.out.f (g := w.heap.size + 1 + 1) (t := /-T-/ 41) (cs := #[.int .i64 0, .int .i64 0]) (by simp) 1
  have HB := Lib.hid K9.out.1
  go_wp2
  refine bodyPost_ret (v := .tuple #[.agg #[.int .i64 x, .int .i64 y], .int .i64 z]) (by simp [results, Tryz.results127, go_sem, r0, r1]) rfl ⟨rfl, ?_⟩
  have hb := HB.out
  go_grown
end Go.Proofs.YtlloiallkcfomaaGreat
