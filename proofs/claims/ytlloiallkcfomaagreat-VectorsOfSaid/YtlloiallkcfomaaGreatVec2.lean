/- The contracts of package fixed and of its reference: sums, differences, products. -/
import Derived.Test.YtlloiallkcfomaaGreatVec1
set_option linter.unusedVariables false
set_option linter.unusedSimpArgs false
namespace Go.Proofs.YtlloiallkcfomaaGreat
open Go.RowKit Alm
theorem opV_form (L H : Int) : ∃ x y z : Int, opV L H = .tuple #[.agg #[.int .i64 x, .int .i64 y], .int .i64 z] := ⟨_, _, _, rfl⟩
theorem run_min4 (P : Program) (w : World) (ts : Array TypeId) (t : TypeId) (x y z u : Int) : (Builtin.min_ ts t #[.int .i64 x, .int .i64 y, .int .i64 z, .int .i64 u]).run P w = .ok (.int .i64 (min (min (min x y) z) u)) w := by
  have e : min (min (min x y) z) u = (if u < (if z < (if y < x then y else x) then z else (if y < x then y else x)) then u else (if z < (if y < x then y else x) then z else (if y < x then y else x))) := by omega
  rw [e]
  simp [Builtin.min_, Builtin.min2, List.foldlM]
theorem run_max4 (P : Program) (w : World) (ts : Array TypeId) (t : TypeId) (x y z u : Int) : (Builtin.max_ ts t #[.int .i64 x, .int .i64 y, .int .i64 z, .int .i64 u]).run P w = .ok (.int .i64 (max (max (max x y) z) u)) w := by
  have e : max (max (max x y) z) u = (if (if (if x < y then y else x) < z then z else (if x < y then y else x)) < u then u else (if (if x < y then y else x) < z then z else (if x < y then y else x))) := by omega
  rw [e]
  simp [Builtin.max_, Builtin.max2, List.foldlM]
theorem fx_bd2 {lo hi : Int} (h : fxV lo hi = true) : -2147483648 ≤ lo ∧ lo ≤ hi ∧ hi ≤ 2147483648 := by unfold fxV at h; simpa using h
set_option maxRecDepth 100000 in
set_option maxHeartbeats 4000000 in
theorem c_fAdd (a1 a2 b1 b2 : Int) (w : World) (ha : fxV a1 a2 = true) (hb : fxV b1 b2 = true) :
    Calls Tryz.prog 126 #[.agg #[.int .i64 a1, .int .i64 a2], .agg #[.int .i64 b1, .int .i64 b2]] w fun e w' => e = .returned (opV (a1 + b1) (a2 + b2)) ∧ Below w.heap.size w w' := by
  obtain ⟨h1, h2, h3⟩ := fx_bd2 ha
  obtain ⟨h4, h5, h6⟩ := fx_bd2 hb
  have CB := fun w => c_fboth a1 a2 b1 b2 w
  rw [ha, hb] at CB
  replace CB := Lib.hid CB
  clear ha hb
  have CF := fun w => c_ffit (a1 + b1) (a2 + b2) w
  obtain ⟨x, y, z, hE⟩ := opV_form (a1 + b1) (a2 + b2)
  rw [hE] at CF ⊢
  clear hE
  replace CF := Lib.hid CF
  have K0 := Lib.hid ((((ks_start w).new w.heap.size rfl /-T-/ 41 #[.int .i64 a1, .int .i64 a2]).new (w.heap.size + 1) (by simp) /-T-/ 41 #[.int .i64 b1, .int .i64 b2]).new (w.heap.size + 1 + 1) (by simp) /-T-/ 41 #[.int .i64 0, .int .i64 0])
  go_enter Tryz.func126, Tryz.ntmps126
  go_wp2_with fail
  refine (CB.out _).mono ?_
  rintro e w1 ⟨rfl, hb1⟩
  have K1 := Lib.hid (K0.out.below hb1); clear hb1 K0 CB
  have a0 := K1.out.c (g := w.heap.size) (t := /-T-/ 41) (cs := #[.int .i64 a1, .int .i64 a2]) (by simp) (i := 0) rfl
  have a1 := K1.out.c (g := w.heap.size) (t := /-T-/ 41) (cs := #[.int .i64 a1, .int .i64 a2]) (by simp) (i := 1) rfl
  have b0 := K1.out.c (g := w.heap.size + 1) (t := /-T-/ 41) (cs := #[.int .i64 b1, .int .i64 b2]) (by simp) (i := 0) rfl
  have b1 := K1.out.c (g := w.heap.size + 1) (t := /-T-/ 41) (cs := #[.int .i64 b1, .int .i64 b2]) (by simp) (i := 1) rfl
  go_wp2_with fail
  refine (CF.out _).mono ?_
  rintro e w9 ⟨rfl, hb1⟩
  have K9 := Lib.hid (K1.out.below hb1); clear hb1 K1 a0 a1 b0 b1
  have r0 := K9.out.c (g := w.heap.size + 1 + 1) (t := /-T-/ 41) (cs := #[.int .i64 0, .int .i64 0]) (by simp) (i := 0) rfl
  have fr0 := K9.out.f (g := w.heap.size + 1 + 1) (t := /-T-/ 41) (cs := #[.int .i64 0, .int .i64 0]) (by simp) 0
  have r1 := K9.out.c (g := w.heap.size + 1 + 1) (t := /-T-/ 41) (cs := #[.int .i64 0, .int .i64 0]) (by simp) (i := 1) rfl
  have fr1 := K9.out.f (g := w.heap.size + 1 + 1) (t := /-T-/ 41) (cs := #[.int .i64 0, .int .i64 0]) (by simp) 1
  have HB := Lib.hid K9.out.1
  go_wp2
  refine bodyPost_ret (v := .tuple #[.agg #[.int .i64 x, .int .i64 y], .int .i64 z]) (by simp [results, Tryz.results126, go_sem, r0, r1]) rfl ⟨rfl, ?_⟩
  have hb := HB.out
  go_grown
set_option maxRecDepth 100000 in
set_option maxHeartbeats 4000000 in
theorem c_fSub (a1 a2 b1 b2 : Int) (w : World) (ha : fxV a1 a2 = true) (hb : fxV b1 b2 = true) :
    Calls Tryz.prog 125 #[.agg #[.int .i64 a1, .int .i64 a2], .agg #[.int .i64 b1, .int .i64 b2]] w fun e w' => e = .returned (opV (a1 - b2) (a2 - b1)) ∧ Below w.heap.size w w' := by
  obtain ⟨h1, h2, h3⟩ := fx_bd2 ha
  obtain ⟨h4, h5, h6⟩ := fx_bd2 hb
  have CB := fun w => c_fboth a1 a2 b1 b2 w
  rw [ha, hb] at CB
  replace CB := Lib.hid CB
  clear ha hb
  have CF := fun w => c_ffit (a1 - b2) (a2 - b1) w
  obtain ⟨x, y, z, hE⟩ := opV_form (a1 - b2) (a2 - b1)
  rw [hE] at CF ⊢
  clear hE
  replace CF := Lib.hid CF
  have K0 := Lib.hid ((((ks_start w).new w.heap.size rfl /-T-/ 41 #[.int .i64 a1, .int .i64 a2]).new (w.heap.size + 1) (by simp) /-T-/ 41 #[.int .i64 b1, .int .i64 b2]).new (w.heap.size + 1 + 1) (by simp) /-T-/ 41 #[.int .i64 0, .int .i64 0])
  go_enter Tryz.func125, Tryz.ntmps125
  go_wp2_with fail
  refine (CB.out _).mono ?_
  rintro e w1 ⟨rfl, hb1⟩
  have K1 := Lib.hid (K0.out.below hb1); clear hb1 K0 CB
  have a0 := K1.out.c (g := w.heap.size) (t := /-T-/ 41) (cs := #[.int .i64 a1, .int .i64 a2]) (by simp) (i := 0) rfl
  have a1 := K1.out.c (g := w.heap.size) (t := /-T-/ 41) (cs := #[.int .i64 a1, .int .i64 a2]) (by simp) (i := 1) rfl
  have b0 := K1.out.c (g := w.heap.size + 1) (t := /-T-/ 41) (cs := #[.int .i64 b1, .int .i64 b2]) (by simp) (i := 0) rfl
  have b1 := K1.out.c (g := w.heap.size + 1) (t := /-T-/ 41) (cs := #[.int .i64 b1, .int .i64 b2]) (by simp) (i := 1) rfl
  go_wp2_with fail
  refine (CF.out _).mono ?_
  rintro e w9 ⟨rfl, hb1⟩
  have K9 := Lib.hid (K1.out.below hb1); clear hb1 K1 a0 a1 b0 b1
  have r0 := K9.out.c (g := w.heap.size + 1 + 1) (t := /-T-/ 41) (cs := #[.int .i64 0, .int .i64 0]) (by simp) (i := 0) rfl
  have fr0 := K9.out.f (g := w.heap.size + 1 + 1) (t := /-T-/ 41) (cs := #[.int .i64 0, .int .i64 0]) (by simp) 0
  have r1 := K9.out.c (g := w.heap.size + 1 + 1) (t := /-T-/ 41) (cs := #[.int .i64 0, .int .i64 0]) (by simp) (i := 1) rfl
  have fr1 := K9.out.f (g := w.heap.size + 1 + 1) (t := /-T-/ 41) (cs := #[.int .i64 0, .int .i64 0]) (by simp) 1
  have HB := Lib.hid K9.out.1
  go_wp2
  refine bodyPost_ret (v := .tuple #[.agg #[.int .i64 x, .int .i64 y], .int .i64 z]) (by simp [results, Tryz.results125, go_sem, r0, r1]) rfl ⟨rfl, ?_⟩
  have hb := HB.out
  go_grown
set_option maxRecDepth 100000 in
set_option maxHeartbeats 4000000 in
theorem c_fMul (a1 a2 b1 b2 : Int) (w : World) (ha : fxV a1 a2 = true) (hb : fxV b1 b2 = true) :
    Calls Tryz.prog 124 #[.agg #[.int .i64 a1, .int .i64 a2], .agg #[.int .i64 b1, .int .i64 b2]] w fun e w' => e = .returned (opV (mulL a1 a2 b1 b2) (mulH a1 a2 b1 b2)) ∧ Below w.heap.size w w' := by
  obtain ⟨h1, h2, h3⟩ := fx_bd2 ha
  obtain ⟨h4, h5, h6⟩ := fx_bd2 hb
  have CB := fun w => c_fboth a1 a2 b1 b2 w
  rw [ha, hb] at CB
  replace CB := Lib.hid CB
  clear ha hb
  have m1 := mul_bdN a1 b1 2147483648 2147483648 (by omega) (by omega)
  have m2 := mul_bdN a1 b2 2147483648 2147483648 (by omega) (by omega)
  have m3 := mul_bdN a2 b1 2147483648 2147483648 (by omega) (by omega)
  have m4 := mul_bdN a2 b2 2147483648 2147483648 (by omega) (by omega)
  obtain ⟨p1, p2⟩ := m1
  obtain ⟨p3, p4⟩ := m2
  obtain ⟨p5, p6⟩ := m3
  obtain ⟨p7, p8⟩ := m4
  have CF := fun w => c_ffit (mulL a1 a2 b1 b2) (mulH a1 a2 b1 b2) w
  have C1 := fun w => c_ffloor (mn4 a1 a2 b1 b2) 1073741824 w (by unfold mn4; omega) (by unfold mn4; omega) (by omega) (by omega)
  have C2 := fun w => c_fceil (mx4 a1 a2 b1 b2) 1073741824 w (by unfold mx4; omega) (by unfold mx4; omega) (by omega) (by omega)
  rw [show mn4 a1 a2 b1 b2 / 1073741824 = mulL a1 a2 b1 b2 from rfl] at C1
  rw [show -((-(mx4 a1 a2 b1 b2)) / 1073741824) = mulH a1 a2 b1 b2 from rfl] at C2
  unfold mn4 at C1
  unfold mx4 at C2
  obtain ⟨x, y, z, hE⟩ := opV_form (mulL a1 a2 b1 b2) (mulH a1 a2 b1 b2)
  rw [hE] at CF ⊢
  clear hE
  replace CF := Lib.hid CF
  have K0 := Lib.hid ((((ks_start w).new w.heap.size rfl /-T-/ 41 #[.int .i64 a1, .int .i64 a2]).new (w.heap.size + 1) (by simp) /-T-/ 41 #[.int .i64 b1, .int .i64 b2]).new (w.heap.size + 1 + 1) (by simp) /-T-/ 41 #[.int .i64 0, .int .i64 0])
  generalize mulL a1 a2 b1 b2 = L at *
  generalize mulH a1 a2 b1 b2 = H at *
  replace C1 := Lib.hid C1; replace C2 := Lib.hid C2
  go_enter Tryz.func124, Tryz.ntmps124
  go_wp2_with fail
  refine (CB.out _).mono ?_
  rintro e w1 ⟨rfl, hb1⟩
  have K1 := Lib.hid (K0.out.below hb1); clear hb1 K0 CB
  have a0 := K1.out.c (g := w.heap.size) (t := /-T-/ 41) (cs := #[.int .i64 a1, .int .i64 a2]) (by simp) (i := 0) rfl
  have a1 := K1.out.c (g := w.heap.size) (t := /-T-/ 41) (cs := #[.int .i64 a1, .int .i64 a2]) (by simp) (i := 1) rfl
  have b0 := K1.out.c (g := w.heap.size + 1) (t := /-T-/ 41) (cs := #[.int .i64 b1, .int .i64 b2]) (by simp) (i := 0) rfl
  have b1 := K1.out.c (g := w.heap.size + 1) (t := /-T-/ 41) (cs := #[.int .i64 b1, .int .i64 b2]) (by simp) (i := 1) rfl
  go_wp2
  go_quiet (fail)
  have K2 := Lib.hid (K1.out.drewN nq)
  clear K1 a0 a1 b0 b1 p1 p2 p3 p4 p5 p6 p7 p8
  generalize a1 * b1 = P1 at *
  generalize a1 * b2 = P2 at *
  generalize a2 * b1 = P3 at *
  generalize a2 * b2 = P4 at *
  have RM := fun w => run_min4 Tryz.prog w #[/-T-/ 3, /-T-/ 3, /-T-/ 3, /-T-/ 3] /-T-/ 3 P1 P2 P3 P4
  have RX := fun w => run_max4 Tryz.prog w #[/-T-/ 3, /-T-/ 3, /-T-/ 3, /-T-/ 3] /-T-/ 3 P1 P2 P3 P4
  generalize min (min (min P1 P2) P3) P4 = M at *
  generalize max (max (max P1 P2) P3) P4 = N at *
  go_wp2_with fail
  refine (C1.out _).mono ?_
  rintro e w' ⟨rfl, rfl⟩
  go_wp2_with fail
  refine (C2.out _).mono ?_
  rintro e w' ⟨rfl, rfl⟩
  go_wp2_with fail
  refine (CF.out _).mono ?_
  rintro e w9 ⟨rfl, hb1⟩
  have K9 := Lib.hid (K2.out.below hb1); clear hb1 K2
  have r0 := K9.out.c (g := w.heap.size + 1 + 1) (t := /-T-/ 41) (cs := #[.int .i64 0, .int .i64 0]) (by simp) (i := 0) rfl
  have fr0 := K9.out.f (g := w.heap.size + 1 + 1) (t := /-T-/ 41) (cs := #[.int .i64 0, .int .i64 0]) (by simp) 0
  have r1 := K9.out.c (g := w.heap.size + 1 + 1) (t := /-T-/ 41) (cs := #[.int .i64 0, .int .i64 0]) (by simp) (i := 1) rfl
  have fr1 := K9.out.f (g := w.heap.size + 1 + 1) (t := /-T-/ 41) (cs := #[.int .i64 0, .int .i64 0]) (by simp) 1
  have HB := Lib.hid K9.out.1
  go_wp2
  refine bodyPost_ret (v := .tuple #[.agg #[.int .i64 x, .int .i64 y], .int .i64 z]) (by simp [results, Tryz.results124, go_sem, r0, r1]) rfl ⟨rfl, ?_⟩
  have hb := HB.out
  go_grown
end Go.Proofs.YtlloiallkcfomaaGreat
