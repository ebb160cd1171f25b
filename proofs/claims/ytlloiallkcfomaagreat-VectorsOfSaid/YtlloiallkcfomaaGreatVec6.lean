/- The contracts of package fixed: squares and roots. -/
import Derived.Test.YtlloiallkcfomaaGreatVec5
import Derived.BigRegion
set_option linter.unusedVariables false
set_option linter.unusedSimpArgs false
namespace Alm
def sqL (a b : Int) : Int := (if a ≤ 0 ∧ 0 ≤ b then 0 else min (a * a) (b * b)) / 1073741824
def sqH (a b : Int) : Int := -((-(max (a * a) (b * b))) / 1073741824)
def rtL (a b : Int) : Int := rtV (max 0 a * 1073741824)
def rtH (a b : Int) : Int := if rtV (b * 1073741824) * rtV (b * 1073741824) < b * 1073741824 then rtV (b * 1073741824) + 1 else rtV (b * 1073741824)
end Alm
namespace Go.Proofs.YtlloiallkcfomaaGreat
open Go.RowKit Alm
set_option maxRecDepth 100000 in
set_option maxHeartbeats 4000000 in
theorem c_fSquare (a1 a2 : Int) (w : World) (ha : fxV a1 a2 = true) :
    Calls Tryz.prog 132 #[.agg #[.int .i64 a1, .int .i64 a2]] w fun e w' => e = .returned (opV (sqL a1 a2) (sqH a1 a2)) ∧ Below w.heap.size w w' := by
  obtain ⟨h1, h2, h3⟩ := fx_bd2 ha
  have CB := fun w => c_fValid a1 a2 w
  rw [ha] at CB
  replace CB := Lib.hid CB
  clear ha
  obtain ⟨p1, p2⟩ := mul_bdN a1 a1 2147483648 2147483648 (by omega) (by omega)
  obtain ⟨p3, p4⟩ := mul_bdN a2 a2 2147483648 2147483648 (by omega) (by omega)
  have CF := fun w => c_ffit (sqL a1 a2) (sqH a1 a2) w
  have C1 := fun w => c_ffloor (if a1 ≤ 0 ∧ 0 ≤ a2 then 0 else min (a1 * a1) (a2 * a2)) 1073741824 w (by split <;> omega) (by split <;> omega) (by omega) (by omega)
  have C2 := fun w => c_fceil (max (a1 * a1) (a2 * a2)) 1073741824 w (by omega) (by omega) (by omega) (by omega)
  rw [show (if a1 ≤ 0 ∧ 0 ≤ a2 then 0 else min (a1 * a1) (a2 * a2)) / 1073741824 = sqL a1 a2 from rfl] at C1
  rw [show -((-(max (a1 * a1) (a2 * a2))) / 1073741824) = sqH a1 a2 from rfl] at C2
  obtain ⟨x, y, z, hE⟩ := opV_form (sqL a1 a2) (sqH a1 a2)
  rw [hE] at CF ⊢
  clear hE
  generalize sqL a1 a2 = L at *
  generalize sqH a1 a2 = H at *
  replace CF := Lib.hid CF
  have K0 := Lib.hid (((ks_start w).new w.heap.size rfl /-T-/ 41 #[.int .i64 a1, .int .i64 a2]).new (w.heap.size + 1) (by simp) /-T-/ 41 #[.int .i64 0, .int .i64 0])
  have em : min (a1 * a1) (a2 * a2) = if a2 * a2 < a1 * a1 then a2 * a2 else a1 * a1 := by omega
  have ex : max (a1 * a1) (a2 * a2) = if a1 * a1 < a2 * a2 then a2 * a2 else a1 * a1 := by omega
  rw [em] at C1
  rw [ex] at C2
  clear em ex
  replace C2 := Lib.hid C2
  by_cases hz : a1 ≤ 0 ∧ 0 ≤ a2
  · rw [if_pos hz] at C1
    obtain ⟨z1, z2⟩ := hz
    replace C1 := Lib.hid C1
    go_enter Tryz.func132, Tryz.ntmps132
    go_wp2_with fail
    refine (CB.out _).mono ?_
    rintro e w1 ⟨rfl, hb1⟩
    have K1 := Lib.hid (K0.out.below hb1); clear hb1 K0 CB
    have u0 := K1.out.c (g := w.heap.size) (t := /-T-/ 41) (cs := #[.int .i64 a1, .int .i64 a2]) (by simp) (i := 0) rfl
    have u1 := K1.out.c (g := w.heap.size) (t := /-T-/ 41) (cs := #[.int .i64 a1, .int .i64 a2]) (by simp) (i := 1) rfl
    go_wp2
    go_quiet (fail)
    have K2 := Lib.hid (K1.out.drewN nq)
    clear K1 u0 u1 p1 p2 p3 p4
    generalize a1 * a1 = P1 at *
    generalize a2 * a2 = P2 at *
    generalize (if P2 < P1 then P2 else P1) = M at *
    generalize (if P1 < P2 then P2 else P1) = N at *
    have u0 := K2.out.c (g := w.heap.size) (t := /-T-/ 41) (cs := #[.int .i64 a1, .int .i64 a2]) (by simp) (i := 0) rfl
    have u1 := K2.out.c (g := w.heap.size) (t := /-T-/ 41) (cs := #[.int .i64 a1, .int .i64 a2]) (by simp) (i := 1) rfl
    go_wp2_with fail
    refine (C1.out _).mono ?_
    rintro e w' ⟨rfl, rfl⟩
    go_wp2_with fail
    refine (C2.out _).mono ?_
    rintro e w' ⟨rfl, rfl⟩
    go_wp2_with fail
    refine (CF.out _).mono ?_
    rintro e w9 ⟨rfl, hb1⟩
    have K9 := Lib.hid (K2.out.below hb1); clear hb1 K2 u0 u1
    have r0 := K9.out.c (g := w.heap.size + 1) (t := /-T-/ 41) (cs := #[.int .i64 0, .int .i64 0]) (by simp) (i := 0) rfl
    have fr0 := K9.out.f (g := w.heap.size + 1) (t := /-T-/ 41) (cs := #[.int .i64 0, .int .i64 0]) (by simp) 0
    have r1 := K9.out.c (g := w.heap.size + 1) (t := /-T-/ 41) (cs := #[.int .i64 0, .int .i64 0]) (by simp) (i := 1) rfl
    have fr1 := K9.out.f (g := w.heap.size + 1) (t := /-T-/ 41) (cs := #[.int .i64 0, .int .i64 0]) (by simp) 1
    have HB := Lib.hid K9.out.1
    go_wp2
    refine bodyPost_ret (v := .tuple #[.agg #[.int .i64 x, .int .i64 y], .int .i64 z]) (by simp [results, Tryz.results132, go_sem, r0, r1]) rfl ⟨rfl, ?_⟩
    have hb := HB.out
    go_grown
  · rw [if_neg hz] at C1
    by_cases hz2 : 0 < a1
    · clear hz
      replace C1 := Lib.hid C1
      go_enter Tryz.func132, Tryz.ntmps132
      go_wp2_with fail
      refine (CB.out _).mono ?_
      rintro e w1 ⟨rfl, hb1⟩
      have K1 := Lib.hid (K0.out.below hb1); clear hb1 K0 CB
      have u0 := K1.out.c (g := w.heap.size) (t := /-T-/ 41) (cs := #[.int .i64 a1, .int .i64 a2]) (by simp) (i := 0) rfl
      have u1 := K1.out.c (g := w.heap.size) (t := /-T-/ 41) (cs := #[.int .i64 a1, .int .i64 a2]) (by simp) (i := 1) rfl
      go_wp2
      go_quiet (fail)
      have K2 := Lib.hid (K1.out.drewN nq)
      clear K1 u0 u1 p1 p2 p3 p4
      generalize a1 * a1 = P1 at *
      generalize a2 * a2 = P2 at *
      generalize (if P2 < P1 then P2 else P1) = M at *
      generalize (if P1 < P2 then P2 else P1) = N at *
      have u0 := K2.out.c (g := w.heap.size) (t := /-T-/ 41) (cs := #[.int .i64 a1, .int .i64 a2]) (by simp) (i := 0) rfl
      have u1 := K2.out.c (g := w.heap.size) (t := /-T-/ 41) (cs := #[.int .i64 a1, .int .i64 a2]) (by simp) (i := 1) rfl
      go_wp2_with fail
      refine (C1.out _).mono ?_
      rintro e w' ⟨rfl, rfl⟩
      go_wp2_with fail
      refine (C2.out _).mono ?_
      rintro e w' ⟨rfl, rfl⟩
      go_wp2_with fail
      refine (CF.out _).mono ?_
      rintro e w9 ⟨rfl, hb1⟩
      have K9 := Lib.hid (K2.out.below hb1); clear hb1 K2 u0 u1
      have r0 := K9.out.c (g := w.heap.size + 1) (t := /-T-/ 41) (cs := #[.int .i64 0, .int .i64 0]) (by simp) (i := 0) rfl
      have fr0 := K9.out.f (g := w.heap.size + 1) (t := /-T-/ 41) (cs := #[.int .i64 0, .int .i64 0]) (by simp) 0
      have r1 := K9.out.c (g := w.heap.size + 1) (t := /-T-/ 41) (cs := #[.int .i64 0, .int .i64 0]) (by simp) (i := 1) rfl
      have fr1 := K9.out.f (g := w.heap.size + 1) (t := /-T-/ 41) (cs := #[.int .i64 0, .int .i64 0]) (by simp) 1
      have HB := Lib.hid K9.out.1
      go_wp2
      refine bodyPost_ret (v := .tuple #[.agg #[.int .i64 x, .int .i64 y], .int .i64 z]) (by simp [results, Tryz.results132, go_sem, r0, r1]) rfl ⟨rfl, ?_⟩
      have hb := HB.out
      go_grown
    · have z1 : a1 ≤ 0 := by omega
      have z2 : a2 < 0 := by omega
      clear hz hz2
      replace C1 := Lib.hid C1
      go_enter Tryz.func132, Tryz.ntmps132
      go_wp2_with fail
      refine (CB.out _).mono ?_
      rintro e w1 ⟨rfl, hb1⟩
      have K1 := Lib.hid (K0.out.below hb1); clear hb1 K0 CB
      have u0 := K1.out.c (g := w.heap.size) (t := /-T-/ 41) (cs := #[.int .i64 a1, .int .i64 a2]) (by simp) (i := 0) rfl
      have u1 := K1.out.c (g := w.heap.size) (t := /-T-/ 41) (cs := #[.int .i64 a1, .int .i64 a2]) (by simp) (i := 1) rfl
      go_wp2
      go_quiet (fail)
      have K2 := Lib.hid (K1.out.drewN nq)
      clear K1 u0 u1 p1 p2 p3 p4
      generalize a1 * a1 = P1 at *
      generalize a2 * a2 = P2 at *
      generalize (if P2 < P1 then P2 else P1) = M at *
      generalize (if P1 < P2 then P2 else P1) = N at *
      have u0 := K2.out.c (g := w.heap.size) (t := /-T-/ 41) (cs := #[.int .i64 a1, .int .i64 a2]) (by simp) (i := 0) rfl
      have u1 := K2.out.c (g := w.heap.size) (t := /-T-/ 41) (cs := #[.int .i64 a1, .int .i64 a2]) (by simp) (i := 1) rfl
      go_wp2_with fail
      refine (C1.out _).mono ?_
      rintro e w' ⟨rfl, rfl⟩
      go_wp2_with fail
      refine (C2.out _).mono ?_
      rintro e w' ⟨rfl, rfl⟩
      go_wp2_with fail
      refine (CF.out _).mono ?_
      rintro e w9 ⟨rfl, hb1⟩
      have K9 := Lib.hid (K2.out.below hb1); clear hb1 K2 u0 u1
      have r0 := K9.out.c (g := w.heap.size + 1) (t := /-T-/ 41) (cs := #[.int .i64 0, .int .i64 0]) (by simp) (i := 0) rfl
      have fr0 := K9.out.f (g := w.heap.size + 1) (t := /-T-/ 41) (cs := #[.int .i64 0, .int .i64 0]) (by simp) 0
      have r1 := K9.out.c (g := w.heap.size + 1) (t := /-T-/ 41) (cs := #[.int .i64 0, .int .i64 0]) (by simp) (i := 1) rfl
      have fr1 := K9.out.f (g := w.heap.size + 1) (t := /-T-/ 41) (cs := #[.int .i64 0, .int .i64 0]) (by simp) 1
      have HB := Lib.hid K9.out.1
      go_wp2
      refine bodyPost_ret (v := .tuple #[.agg #[.int .i64 x, .int .i64 y], .int .i64 z]) (by simp [results, Tryz.results132, go_sem, r0, r1]) rfl ⟨rfl, ?_⟩
      have hb := HB.out
      go_grown
end Go.Proofs.YtlloiallkcfomaaGreat
