/- The example of the chapter on plane sailing holds. -/
import Derived.Test.YtlloiallkcfomaaMid6
import Derived.Test.YtlloiallkcfomaaNum11
import Derived.Deep.RegionHeld3
set_option linter.unusedVariables false
set_option linter.unusedSimpArgs false
namespace Go.Proofs.Ytlloiallkcfomaa
open Go.RowKit Alm
theorem c_lone44 (n : Int) (w : World) :
    Calls Try.prog 56 #[.int .i64 n] w fun e w' => e = .returned (.agg #[.int .i64 n, .int .i64 n]) ∧ Below w.heap.size w w' := by
  go_enter Try.func56, Try.ntmps56
  go_wp2
  refine bodyPost_ret (by simp [results, Try.results56, go_sem]; try rfl) rfl ⟨rfl, by go_grown⟩
/-! the values -/
theorem sinFl_60 : sinFl 3600000 = 929887696 := by
  unfold sinFl
  rw [if_neg (by omega)]
  exact cosW_fl 1800000 (by omega) 929887696 fl_c30
theorem sinV_60 : sinV 3600000 = 929887696 := by
  unfold sinV
  rw [if_neg (by omega), if_neg (by omega), if_neg (by omega)]
  show ((sinFl 3600000 : Nat) : Int) = _
  rw [sinFl_60]; rfl
theorem foldQ_eq (n q : Int) (h : foldQ n = q) (hs : south n = false) : bLo n = sinV q ∧ bHi n = sinV q + if sinE q then 0 else 1 := by
  unfold bLo bHi; rw [hs, h]; exact ⟨rfl, rfl⟩
theorem cos30 : cosLo 1800000 1800000 = 929887696 ∧ cosHi 1800000 1800000 = 929887697 := by
  have h := foldQ_eq (1800000 + 5400000) 3600000 (by decide) (by decide)
  have e : sinE 3600000 = false := by decide
  have m1 : meetsB (1800000 + 5400000) (1800000 + 5400000) 16200000 = false := by decide
  have m2 : meetsB (1800000 + 5400000) (1800000 + 5400000) 5400000 = false := by decide
  unfold cosLo cosHi enLo enHi
  rw [m1, m2, h.1, h.2, sinV_60, e]
  exact ⟨rfl, rfl⟩
theorem sin30 : enLo 1800000 1800000 = 536870912 ∧ enHi 1800000 1800000 = 536870912 := by
  have h := foldQ_eq 1800000 1800000 (by decide) (by decide)
  have e : sinE 1800000 = true := by decide
  have v : sinV 1800000 = 536870912 := rfl
  have m1 : meetsB 1800000 1800000 16200000 = false := by decide
  have m2 : meetsB 1800000 1800000 5400000 = false := by decide
  unfold enLo enHi
  rw [m1, m2, h.1, h.2, v, e]
  exact ⟨rfl, rfl⟩
theorem cos60 : cosLo 3600000 3600000 = 536870912 ∧ cosHi 3600000 3600000 = 536870912 := by
  have h := foldQ_eq (3600000 + 5400000) 1800000 (by decide) (by decide)
  have e : sinE 1800000 = true := by decide
  have v : sinV 1800000 = 536870912 := rfl
  have m1 : meetsB (3600000 + 5400000) (3600000 + 5400000) 16200000 = false := by decide
  have m2 : meetsB (3600000 + 5400000) (3600000 + 5400000) 5400000 = false := by decide
  unfold cosLo cosHi enLo enHi
  rw [m1, m2, h.1, h.2, v, e]
  exact ⟨rfl, rfl⟩
theorem pr_a : prLo 929887696 929887697 100000 100000 = 86602 ∧ prHi 929887696 929887697 100000 100000 = 86603 := by decide
theorem pr_b : prLo 536870912 536870912 100000 100000 = 50000 ∧ prHi 536870912 536870912 100000 100000 = 50000 := by decide
theorem plane_awake (w : World) : Calls Try.prog 55 #[.agg #[.int .i64 1800000, .int .i64 1800000, .int .i64 100000, .int .i64 100000]] w fun e w' =>
    e = .returned (.tuple #[.agg #[.int .i64 86602, .int .i64 86603], .agg #[.int .i64 50000, .int .i64 50000], .int .i64 0]) ∧ Below w.heap.size w w' := by
  have h := c_Plane 1800000 1800000 100000 100000 w (by decide)
  rw [cos30.1, cos30.2, sin30.1, sin30.2, pr_a.1, pr_a.2, pr_b.1, pr_b.2] at h
  exact h (by decide) (by decide)
theorem dlon_awake (w : World) : Calls Try.prog 57 #[.agg #[.int .i64 3600000, .int .i64 3600000], .agg #[.int .i64 50000, .int .i64 50000]] w fun e w' =>
    e = .returned (.tuple #[.agg #[.int .i64 100000, .int .i64 100000], .int .i64 0]) ∧ Below w.heap.size w w' :=
  c_Dlon_exact 3600000 3600000 50000 536870912 100000 w (by decide) cos60.1 cos60.2 (by decide) (by decide) (by decide) (by decide) (by decide)
set_option maxRecDepth 100000 in
set_option maxHeartbeats 2000000 in
theorem c_awake44 (w : World) : Calls Try.prog 17 #[] w fun e w' => e = .returned (.bool true) ∧ Below w.heap.size w w' := by
  have E1 : ∀ w, (binOp .eql /-T-/ 37 (.agg #[.int .i64 50000, .int .i64 50000]) (.agg #[.int .i64 50000, .int .i64 50000])).run Try.prog w = .ok (.bool true) w := fun _ => by kernel_rfl
  have E2 : ∀ w, (binOp .eql /-T-/ 37 (.agg #[.int .i64 100000, .int .i64 100000]) (.agg #[.int .i64 100000, .int .i64 100000])).run Try.prog w = .ok (.bool true) w := fun _ => by kernel_rfl
  have C1 := Lib.hid plane_awake
  have C2 := Lib.hid dlon_awake
  have C0 := Lib.hid c_lone44
  have K0 := Lib.hid (ks_start w)
  go_enter Try.func17, Try.ntmps17
  go_wp2_with fail
  refine (C0.out _ _).mono ?_
  rintro e w1 ⟨rfl, hb1⟩
  have K1 := Lib.hid (K0.out.below hb1); clear hb1 K0
  go_wp2_with fail
  refine (C0.out _ _).mono ?_
  rintro e w2 ⟨rfl, hb1⟩
  have K2 := Lib.hid (K1.out.below hb1); clear hb1 K1
  go_wp2_with fail
  refine (C1.out _).mono ?_
  rintro e w3 ⟨rfl, hb1⟩
  have K3 := Lib.hid (((K2.out.below hb1).new w3.heap.size rfl /-T-/ 37 #[.int .i64 86602, .int .i64 86603]).new (w3.heap.size + 1) (by simp) /-T-/ 37 #[.int .i64 50000, .int .i64 50000]); clear hb1 K2
  go_wp2_with fail
  refine (C0.out _ _).mono ?_
  rintro e w4 ⟨rfl, hb1⟩
  have K4 := Lib.hid (K3.out.below hb1); clear hb1 K3
  go_wp2_with fail
  refine (C0.out _ _).mono ?_
  rintro e w5 ⟨rfl, hb1⟩
  have K5 := Lib.hid (K4.out.below hb1); clear hb1 K4
  go_wp2_with fail
  refine (C2.out _).mono ?_
  rintro e w6 ⟨rfl, hb1⟩
  have K6 := Lib.hid ((K5.out.below hb1).new w6.heap.size rfl /-T-/ 37 #[.int .i64 100000, .int .i64 100000]); clear hb1 K5
  go_wp2
  generalize (w6.alloc (.cells #[.int .i64 100000, .int .i64 100000] /-T-/ 37)) = w7 at *
  have a0 := K6.out.c (g := w3.heap.size) (t := /-T-/ 37) (cs := #[.int .i64 86602, .int .i64 86603]) (by simp) (i := 0) rfl
  have a1 := K6.out.c (g := w3.heap.size) (t := /-T-/ 37) (cs := #[.int .i64 86602, .int .i64 86603]) (by simp) (i := 1) rfl
  have b0 := K6.out.c (g := w3.heap.size + 1) (t := /-T-/ 37) (cs := #[.int .i64 50000, .int .i64 50000]) (by simp) (i := 0) rfl
  have b1 := K6.out.c (g := w3.heap.size + 1) (t := /-T-/ 37) (cs := #[.int .i64 50000, .int .i64 50000]) (by simp) (i := 1) rfl
  have c0 := K6.out.c (g := w6.heap.size) (t := /-T-/ 37) (cs := #[.int .i64 100000, .int .i64 100000]) (by simp) (i := 0) rfl
  have c1 := K6.out.c (g := w6.heap.size) (t := /-T-/ 37) (cs := #[.int .i64 100000, .int .i64 100000]) (by simp) (i := 1) rfl
  go_region_held3 (fun w' => w'.cell? ⟨w3.heap.size, 0, none⟩ = some (.int .i64 86602) ∧ w'.cell? ⟨w3.heap.size, 1, none⟩ = some (.int .i64 86603) ∧ w'.cell? ⟨w3.heap.size + 1, 0, none⟩ = some (.int .i64 50000) ∧ w'.cell? ⟨w3.heap.size + 1, 1, none⟩ = some (.int .i64 50000) ∧ w'.cell? ⟨w6.heap.size, 0, none⟩ = some (.int .i64 100000) ∧ w'.cell? ⟨w6.heap.size, 1, none⟩ = some (.int .i64 100000))
    (first | go_keep | (refine ⟨?_, ?_, ?_, ?_, ?_, ?_⟩ <;> assumption))
    (first
      | (go_at_call 56; refine (C0.out _ _).mono ?_; rintro e w8 ⟨rfl, hb⟩; have K8 := Lib.hid (K6.out.drew.below hb); clear hb; have a0 := K8.out.c (g := w3.heap.size) (t := /-T-/ 37) (cs := #[.int .i64 86602, .int .i64 86603]) (by simp) (i := 0) rfl; have a1 := K8.out.c (g := w3.heap.size) (t := /-T-/ 37) (cs := #[.int .i64 86602, .int .i64 86603]) (by simp) (i := 1) rfl; have b0 := K8.out.c (g := w3.heap.size + 1) (t := /-T-/ 37) (cs := #[.int .i64 50000, .int .i64 50000]) (by simp) (i := 0) rfl; have b1 := K8.out.c (g := w3.heap.size + 1) (t := /-T-/ 37) (cs := #[.int .i64 50000, .int .i64 50000]) (by simp) (i := 1) rfl; have c0 := K8.out.c (g := w6.heap.size) (t := /-T-/ 37) (cs := #[.int .i64 100000, .int .i64 100000]) (by simp) (i := 0) rfl; have c1 := K8.out.c (g := w6.heap.size) (t := /-T-/ 37) (cs := #[.int .i64 100000, .int .i64 100000]) (by simp) (i := 1) rfl)
      | (go_at_call 56; refine (C0.out _ _).mono ?_; rintro e w9 ⟨rfl, hb⟩; have K9 := Lib.hid (K8.out.below hb); clear hb; have a0 := K9.out.c (g := w3.heap.size) (t := /-T-/ 37) (cs := #[.int .i64 86602, .int .i64 86603]) (by simp) (i := 0) rfl; have a1 := K9.out.c (g := w3.heap.size) (t := /-T-/ 37) (cs := #[.int .i64 86602, .int .i64 86603]) (by simp) (i := 1) rfl; have b0 := K9.out.c (g := w3.heap.size + 1) (t := /-T-/ 37) (cs := #[.int .i64 50000, .int .i64 50000]) (by simp) (i := 0) rfl; have b1 := K9.out.c (g := w3.heap.size + 1) (t := /-T-/ 37) (cs := #[.int .i64 50000, .int .i64 50000]) (by simp) (i := 1) rfl; have c0 := K9.out.c (g := w6.heap.size) (t := /-T-/ 37) (cs := #[.int .i64 100000, .int .i64 100000]) (by simp) (i := 0) rfl; have c1 := K9.out.c (g := w6.heap.size) (t := /-T-/ 37) (cs := #[.int .i64 100000, .int .i64 100000]) (by simp) (i := 1) rfl))
  go_wp2
  go_ret
  exact ⟨rfl, K9.out.1⟩
end Go.Proofs.Ytlloiallkcfomaa
