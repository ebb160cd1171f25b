/- The walk of package arctrig's circle at all angles, and of the comparison of a point's direction. -/
import Derived.Test.YtlloiallkcfomaaGreatArcs
import Derived.Test.YtlloiallkcfomaaGreatKeep
import Derived.Deep.RegionHeld3
set_option linter.unusedVariables false
set_option linter.unusedSimpArgs false
namespace Alm
/-- whether an angle is at most that of a point -/
def reachB (x y : Int) (k : Nat) : Bool := decide (k = 0) || (if k = 2700000 then decide (x ≤ y) else decide (sN k * x.toNat ≤ cN k * y.toNat))
end Alm
namespace Go.Proofs.YtlloiallkcfomaaGreat
open Go.RowKit Alm
set_option maxRecDepth 100000 in
set_option maxHeartbeats 2000000 in
theorem circle_high' (k : Nat) (w : World) (s0 s1 s2 s3 c0 c1 c2 c3 : Int) (hk : 2700000 < (k : Int)) (hk2 : (k : Int) ≤ 5400000)
    (CL : Hid (∀ w, Calls Tryz.prog 180 #[.int .i64 (5400000 - (k : Int))] w fun e w' => e = .returned (.tuple #[.agg #[.int .u64 s0, .int .u64 s1, .int .u64 s2, .int .u64 s3], .agg #[.int .u64 c0, .int .u64 c1, .int .u64 c2, .int .u64 c3]]) ∧ Below w.heap.size w w')) :
    Calls Tryz.prog 180 #[.int .i64 (k : Int)] w fun e w' => e = .returned (.tuple #[.agg #[.int .u64 c0, .int .u64 c1, .int .u64 c2, .int .u64 c3], .agg #[.int .u64 s0, .int .u64 s1, .int .u64 s2, .int .u64 s3]]) ∧ Below w.heap.size w w' := by
  have HZ : Hid (F4 ((w.alloc (.cells #[.int .u64 0, .int .u64 0, .int .u64 0, .int .u64 0] /-T-/ 177)).alloc (.cells #[.int .u64 0, .int .u64 0, .int .u64 0, .int .u64 0] /-T-/ 177)) w.heap.size (.int .u64 0) (.int .u64 0) (.int .u64 0) (.int .u64 0) ∧ F4 ((w.alloc (.cells #[.int .u64 0, .int .u64 0, .int .u64 0, .int .u64 0] /-T-/ 177)).alloc (.cells #[.int .u64 0, .int .u64 0, .int .u64 0, .int .u64 0] /-T-/ 177)) (w.heap.size + 1) (.int .u64 0) (.int .u64 0) (.int .u64 0) (.int .u64 0)) := by
    refine ⟨(f4_new0 _ _ _ _ _ _).below (B := w.heap.size + 1) ((Below.refl _ _).alloc (by simp) _) (by omega), ?_⟩
    have := f4_new0 (w.alloc (.cells #[.int .u64 0, .int .u64 0, .int .u64 0, .int .u64 0] /-T-/ 177)) (.int .u64 0) (.int .u64 0) (.int .u64 0) (.int .u64 0) /-T-/ 177
    simpa using this
  go_enter Tryz.func180, Tryz.ntmps180
  go_wp2_with fail
  refine (CL.out _).mono ?_
  rintro e w1 ⟨rfl, hb1⟩
  have hB1 : Below w.heap.size w w1 := (show Below w.heap.size w _ by go_grown).trans (hb1.mono (by simp; omega))
  have hr0 := HZ.out.1.below hb1 (by simp; omega)
  have hr1 := HZ.out.2.below hb1 (by simp)
  obtain ⟨⟨m0, m1, m2, m3⟩, f0, f1, f2, f3⟩ := hr0
  obtain ⟨⟨n0, n1, n2, n3⟩, g0, g1, g2, g3⟩ := hr1
  have HX : Hid (Below w.heap.size w (W4 (W4 w1 (w.heap.size + 1) (.int .u64 s0) (.int .u64 s1) (.int .u64 s2) (.int .u64 s3)) w.heap.size (.int .u64 c0) (.int .u64 c1) (.int .u64 c2) (.int .u64 c3)) ∧ F4 (W4 (W4 w1 (w.heap.size + 1) (.int .u64 s0) (.int .u64 s1) (.int .u64 s2) (.int .u64 s3)) w.heap.size (.int .u64 c0) (.int .u64 c1) (.int .u64 c2) (.int .u64 c3)) w.heap.size (.int .u64 c0) (.int .u64 c1) (.int .u64 c2) (.int .u64 c3) ∧ F4 (W4 (W4 w1 (w.heap.size + 1) (.int .u64 s0) (.int .u64 s1) (.int .u64 s2) (.int .u64 s3)) w.heap.size (.int .u64 c0) (.int .u64 c1) (.int .u64 c2) (.int .u64 c3)) (w.heap.size + 1) (.int .u64 s0) (.int .u64 s1) (.int .u64 s2) (.int .u64 s3)) :=
    ⟨w4_below (w4_below hB1 _ _ _ _ (by omega)) _ _ _ _ (by omega), ((HZ.out.1.below hb1 (by simp; omega)).apart _ _ _ _ (by omega)).store _ _ _ _, ((HZ.out.2.below hb1 (by simp)).store _ _ _ _).apart _ _ _ _ (by omega)⟩
  clear hb1 hB1 hk hk2
  go_wp2
  clear f0 f1 f2 f3 g0 g1 g2 g3 m0 m1 m2 m3 n0 n1 n2 n3
  change Code.wp _ _ _ _ (W4 (W4 w1 (w.heap.size + 1) (.int .u64 s0) (.int .u64 s1) (.int .u64 s2) (.int .u64 s3)) w.heap.size (.int .u64 c0) (.int .u64 c1) (.int .u64 c2) (.int .u64 c3))
  generalize W4 (W4 w1 (w.heap.size + 1) (.int .u64 s0) (.int .u64 s1) (.int .u64 s2) (.int .u64 s3)) w.heap.size (.int .u64 c0) (.int .u64 c1) (.int .u64 c2) (.int .u64 c3) = wx at *
  have HB := Lib.hid HX.out.1
  obtain ⟨⟨m0, m1, m2, m3⟩, f0, f1, f2, f3⟩ := HX.out.2.1
  obtain ⟨⟨n0, n1, n2, n3⟩, g0, g1, g2, g3⟩ := HX.out.2.2
  clear HX HZ CL
  go_region
  all_goals
    go_wp2
    refine bodyPost_ret (v := .tuple #[.agg #[.int .u64 c0, .int .u64 c1, .int .u64 c2, .int .u64 c3], .agg #[.int .u64 s0, .int .u64 s1, .int .u64 s2, .int .u64 s3]]) (by simp [results, Tryz.results180, go_sem, m0, m1, m2, m3, n0, n1, n2, n3]) rfl ⟨rfl, ?_⟩
    have hb := HB.out
    go_grown
theorem circle_high (k : Nat) (w : World) (hk : 2700000 < k) (hk2 : k ≤ 5400000) :
    Calls Tryz.prog 180 #[.int .i64 (k : Int)] w fun e w' => e = .returned (.tuple #[.agg #[.int .u64 (nl (cosN (5400000 - k)) 0), .int .u64 (nl (cosN (5400000 - k)) 1), .int .u64 (nl (cosN (5400000 - k)) 2), .int .u64 (nl (cosN (5400000 - k)) 3)], .agg #[.int .u64 (nl (sinN (5400000 - k)) 0), .int .u64 (nl (sinN (5400000 - k)) 1), .int .u64 (nl (sinN (5400000 - k)) 2), .int .u64 (nl (sinN (5400000 - k)) 3)]]) ∧ Below w.heap.size w w' := by
  have CL := fun w => circle_low (5400000 - k) w (by omega)
  rw [show ((5400000 - k : Nat) : Int) = 5400000 - (k : Int) by omega] at CL
  exact circle_high' k w _ _ _ _ _ _ _ _ (by omega) (by omega) (Lib.hid CL)
theorem c_circle (k : Nat) (w : World) (hk : k ≤ 5400000) :
    Calls Tryz.prog 180 #[.int .i64 (k : Int)] w fun e w' => e = .returned (.tuple #[.agg #[.int .u64 (nl (sN k) 0), .int .u64 (nl (sN k) 1), .int .u64 (nl (sN k) 2), .int .u64 (nl (sN k) 3)], .agg #[.int .u64 (nl (cN k) 0), .int .u64 (nl (cN k) 1), .int .u64 (nl (cN k) 2), .int .u64 (nl (cN k) 3)]]) ∧ Below w.heap.size w w' := by
  unfold sN cN
  by_cases h : k ≤ 2700000
  · rw [if_pos h, if_pos h]; exact circle_low k w h
  · rw [if_neg h, if_neg h]; exact circle_high k w (by omega) hk
set_option maxRecDepth 100000 in
set_option maxHeartbeats 2000000 in
theorem reach_0 (x y : Int) (w : World) :
    Calls Tryz.prog 165 #[.agg #[.int .i64 x, .int .i64 y], .int .i64 0] w fun e w' => e = .returned (.bool true) ∧ Below w.heap.size w w' := by
  go_enter Tryz.func165, Tryz.ntmps165
  go_wp2
  go_ret
  exact ⟨rfl, by go_grown⟩
set_option maxRecDepth 100000 in
set_option maxHeartbeats 2000000 in
theorem reach_mid (x y : Int) (w : World) :
    Calls Tryz.prog 165 #[.agg #[.int .i64 x, .int .i64 y], .int .i64 2700000] w fun e w' => e = .returned (.bool (decide (x ≤ y))) ∧ Below w.heap.size w w' := by
  go_enter Tryz.func165, Tryz.ntmps165
  go_wp2
  go_ret
  exact ⟨rfl, by go_grown⟩
set_option maxRecDepth 100000 in
set_option maxHeartbeats 8000000 in
theorem reach_any' (x y : Int) (k : Nat) (w : World) (S0 S1 S2 S3 C0 C1 C2 C3 U0 U1 U2 U3 V0 V1 V2 V3 : Int) (R : Bool) (hx : 0 ≤ x ∧ x ≤ 4294967296) (hy : 0 ≤ y ∧ y ≤ 4294967296) (h0 : 0 < (k : Int)) (hk : (k : Int) ≤ 5400000) (hm : (k : Int) ≠ 2700000)
    (CC : Hid (∀ w, Calls Tryz.prog 180 #[.int .i64 (k : Int)] w fun e w' => e = .returned (.tuple #[.agg #[.int .u64 S0, .int .u64 S1, .int .u64 S2, .int .u64 S3], .agg #[.int .u64 C0, .int .u64 C1, .int .u64 C2, .int .u64 C3]]) ∧ Below w.heap.size w w'))
    (CT1 : Hid (∀ w, Calls Tryz.prog 181 #[.agg #[.int .u64 C0, .int .u64 C1, .int .u64 C2, .int .u64 C3], .int .u64 y] w fun e w' => e = .returned (.agg #[.int .u64 U0, .int .u64 U1, .int .u64 U2, .int .u64 U3]) ∧ Below w.heap.size w w'))
    (CT2 : Hid (∀ w, Calls Tryz.prog 181 #[.agg #[.int .u64 S0, .int .u64 S1, .int .u64 S2, .int .u64 S3], .int .u64 x] w fun e w' => e = .returned (.agg #[.int .u64 V0, .int .u64 V1, .int .u64 V2, .int .u64 V3]) ∧ Below w.heap.size w w'))
    (CLs : Hid (∀ w, Calls Tryz.prog 182 #[.agg #[.int .u64 U0, .int .u64 U1, .int .u64 U2, .int .u64 U3], .agg #[.int .u64 V0, .int .u64 V1, .int .u64 V2, .int .u64 V3]] w fun e w' => e = .returned (.bool R) ∧ Below w.heap.size w w')) :
    Calls Tryz.prog 165 #[.agg #[.int .i64 x, .int .i64 y], .int .i64 (k : Int)] w fun e w' => e = .returned (.bool (!R)) ∧ Below w.heap.size w w' := by
  have K0 := Lib.hid ((ks_start w).new w.heap.size rfl /-T-/ 141 #[.int .i64 x, .int .i64 y])
  have wx1 : IntKind.u64.wrap x = x := w64 x (by unfold U64; omega)
  have wy1 : IntKind.u64.wrap y = y := w64 y (by unfold U64; omega)
  have e0 : ((k : Int) == 0) = false := by simp; omega
  have e1 : ((k : Int) == 2700000) = false := by simp; omega
  have e2 : ¬ ((k : Int) = 0) := by omega
  have e4 : 0 ≤ (k : Int) := by omega
  clear h0 hx hy
  go_enter Tryz.func165, Tryz.ntmps165
  go_wp2_with fail
  refine (CC.out _).mono ?_
  rintro e w1 ⟨rfl, hb1⟩
  have K1 := Lib.hid (((K0.out.below hb1).new w1.heap.size rfl /-T-/ 177 #[.int .u64 S0, .int .u64 S1, .int .u64 S2, .int .u64 S3]).new (w1.heap.size + 1) (by simp) /-T-/ 177 #[.int .u64 C0, .int .u64 C1, .int .u64 C2, .int .u64 C3])
  clear hb1 K0 CC e0 e1 e2 e4 hm hk
  go_wp2
  generalize ((w1.alloc (.cells #[.int .u64 S0, .int .u64 S1, .int .u64 S2, .int .u64 S3] /-T-/ 177)).alloc (.cells #[.int .u64 C0, .int .u64 C1, .int .u64 C2, .int .u64 C3] /-T-/ 177)) = wq at *
  generalize w1.heap.size = b5 at *
  have p0 := K1.out.c (g := w.heap.size) (t := /-T-/ 141) (cs := #[.int .i64 x, .int .i64 y]) (by simp) (i := 0) rfl
  have p1 := K1.out.c (g := w.heap.size) (t := /-T-/ 141) (cs := #[.int .i64 x, .int .i64 y]) (by simp) (i := 1) rfl
  have s0 := K1.out.c (g := b5) (t := /-T-/ 177) (cs := #[.int .u64 S0, .int .u64 S1, .int .u64 S2, .int .u64 S3]) (by simp) (i := 0) rfl
  have s1 := K1.out.c (g := b5) (t := /-T-/ 177) (cs := #[.int .u64 S0, .int .u64 S1, .int .u64 S2, .int .u64 S3]) (by simp) (i := 1) rfl
  have s2 := K1.out.c (g := b5) (t := /-T-/ 177) (cs := #[.int .u64 S0, .int .u64 S1, .int .u64 S2, .int .u64 S3]) (by simp) (i := 2) rfl
  have s3 := K1.out.c (g := b5) (t := /-T-/ 177) (cs := #[.int .u64 S0, .int .u64 S1, .int .u64 S2, .int .u64 S3]) (by simp) (i := 3) rfl
  have c0 := K1.out.c (g := b5 + 1) (t := /-T-/ 177) (cs := #[.int .u64 C0, .int .u64 C1, .int .u64 C2, .int .u64 C3]) (by simp) (i := 0) rfl
  have c1 := K1.out.c (g := b5 + 1) (t := /-T-/ 177) (cs := #[.int .u64 C0, .int .u64 C1, .int .u64 C2, .int .u64 C3]) (by simp) (i := 1) rfl
  have c2 := K1.out.c (g := b5 + 1) (t := /-T-/ 177) (cs := #[.int .u64 C0, .int .u64 C1, .int .u64 C2, .int .u64 C3]) (by simp) (i := 2) rfl
  have c3 := K1.out.c (g := b5 + 1) (t := /-T-/ 177) (cs := #[.int .u64 C0, .int .u64 C1, .int .u64 C2, .int .u64 C3]) (by simp) (i := 3) rfl
  go_region_held3 (fun w' => w'.cell? ⟨w.heap.size, 0, none⟩ = some (.int .i64 x) ∧ w'.cell? ⟨w.heap.size, 1, none⟩ = some (.int .i64 y) ∧ w'.cell? ⟨b5, 0, none⟩ = some (.int .u64 S0) ∧ w'.cell? ⟨b5, 1, none⟩ = some (.int .u64 S1) ∧ w'.cell? ⟨b5, 2, none⟩ = some (.int .u64 S2) ∧ w'.cell? ⟨b5, 3, none⟩ = some (.int .u64 S3) ∧ w'.cell? ⟨b5 + 1, 0, none⟩ = some (.int .u64 C0) ∧ w'.cell? ⟨b5 + 1, 1, none⟩ = some (.int .u64 C1) ∧ w'.cell? ⟨b5 + 1, 2, none⟩ = some (.int .u64 C2) ∧ w'.cell? ⟨b5 + 1, 3, none⟩ = some (.int .u64 C3))
    (first | go_keep | (refine ⟨?_, ?_, ?_, ?_, ?_, ?_, ?_, ?_, ?_, ?_⟩ <;> assumption))
    (first
      | ((go_at_call 181; with_reducible refine (CT1.out _).mono ?_); rintro e w5 ⟨rfl, hb⟩; replace K1 := Lib.hid (K1.out.below (by first | exact hb | exact undrew hb)); clear hb p0 p1 s0 s1 s2 s3 c0 c1 c2 c3; have p0 := K1.out.c (g := w.heap.size) (t := /-T-/ 141) (cs := #[.int .i64 x, .int .i64 y]) (by simp) (i := 0) rfl; have p1 := K1.out.c (g := w.heap.size) (t := /-T-/ 141) (cs := #[.int .i64 x, .int .i64 y]) (by simp) (i := 1) rfl; have s0 := K1.out.c (g := b5) (t := /-T-/ 177) (cs := #[.int .u64 S0, .int .u64 S1, .int .u64 S2, .int .u64 S3]) (by simp) (i := 0) rfl; have s1 := K1.out.c (g := b5) (t := /-T-/ 177) (cs := #[.int .u64 S0, .int .u64 S1, .int .u64 S2, .int .u64 S3]) (by simp) (i := 1) rfl; have s2 := K1.out.c (g := b5) (t := /-T-/ 177) (cs := #[.int .u64 S0, .int .u64 S1, .int .u64 S2, .int .u64 S3]) (by simp) (i := 2) rfl; have s3 := K1.out.c (g := b5) (t := /-T-/ 177) (cs := #[.int .u64 S0, .int .u64 S1, .int .u64 S2, .int .u64 S3]) (by simp) (i := 3) rfl; have c0 := K1.out.c (g := b5 + 1) (t := /-T-/ 177) (cs := #[.int .u64 C0, .int .u64 C1, .int .u64 C2, .int .u64 C3]) (by simp) (i := 0) rfl; have c1 := K1.out.c (g := b5 + 1) (t := /-T-/ 177) (cs := #[.int .u64 C0, .int .u64 C1, .int .u64 C2, .int .u64 C3]) (by simp) (i := 1) rfl; have c2 := K1.out.c (g := b5 + 1) (t := /-T-/ 177) (cs := #[.int .u64 C0, .int .u64 C1, .int .u64 C2, .int .u64 C3]) (by simp) (i := 2) rfl; have c3 := K1.out.c (g := b5 + 1) (t := /-T-/ 177) (cs := #[.int .u64 C0, .int .u64 C1, .int .u64 C2, .int .u64 C3]) (by simp) (i := 3) rfl)
      | ((go_at_call 181; with_reducible refine (CT2.out _).mono ?_); rintro e w5 ⟨rfl, hb⟩; replace K1 := Lib.hid (K1.out.below (by first | exact hb | exact undrew hb)); clear hb p0 p1 s0 s1 s2 s3 c0 c1 c2 c3; have p0 := K1.out.c (g := w.heap.size) (t := /-T-/ 141) (cs := #[.int .i64 x, .int .i64 y]) (by simp) (i := 0) rfl; have p1 := K1.out.c (g := w.heap.size) (t := /-T-/ 141) (cs := #[.int .i64 x, .int .i64 y]) (by simp) (i := 1) rfl; have s0 := K1.out.c (g := b5) (t := /-T-/ 177) (cs := #[.int .u64 S0, .int .u64 S1, .int .u64 S2, .int .u64 S3]) (by simp) (i := 0) rfl; have s1 := K1.out.c (g := b5) (t := /-T-/ 177) (cs := #[.int .u64 S0, .int .u64 S1, .int .u64 S2, .int .u64 S3]) (by simp) (i := 1) rfl; have s2 := K1.out.c (g := b5) (t := /-T-/ 177) (cs := #[.int .u64 S0, .int .u64 S1, .int .u64 S2, .int .u64 S3]) (by simp) (i := 2) rfl; have s3 := K1.out.c (g := b5) (t := /-T-/ 177) (cs := #[.int .u64 S0, .int .u64 S1, .int .u64 S2, .int .u64 S3]) (by simp) (i := 3) rfl; have c0 := K1.out.c (g := b5 + 1) (t := /-T-/ 177) (cs := #[.int .u64 C0, .int .u64 C1, .int .u64 C2, .int .u64 C3]) (by simp) (i := 0) rfl; have c1 := K1.out.c (g := b5 + 1) (t := /-T-/ 177) (cs := #[.int .u64 C0, .int .u64 C1, .int .u64 C2, .int .u64 C3]) (by simp) (i := 1) rfl; have c2 := K1.out.c (g := b5 + 1) (t := /-T-/ 177) (cs := #[.int .u64 C0, .int .u64 C1, .int .u64 C2, .int .u64 C3]) (by simp) (i := 2) rfl; have c3 := K1.out.c (g := b5 + 1) (t := /-T-/ 177) (cs := #[.int .u64 C0, .int .u64 C1, .int .u64 C2, .int .u64 C3]) (by simp) (i := 3) rfl)
      | ((go_at_call 182; with_reducible refine (CLs.out _).mono ?_); rintro e w5 ⟨rfl, hb⟩; replace K1 := Lib.hid (K1.out.below (by first | exact hb | exact undrew hb)); clear hb p0 p1 s0 s1 s2 s3 c0 c1 c2 c3; have p0 := K1.out.c (g := w.heap.size) (t := /-T-/ 141) (cs := #[.int .i64 x, .int .i64 y]) (by simp) (i := 0) rfl; have p1 := K1.out.c (g := w.heap.size) (t := /-T-/ 141) (cs := #[.int .i64 x, .int .i64 y]) (by simp) (i := 1) rfl; have s0 := K1.out.c (g := b5) (t := /-T-/ 177) (cs := #[.int .u64 S0, .int .u64 S1, .int .u64 S2, .int .u64 S3]) (by simp) (i := 0) rfl; have s1 := K1.out.c (g := b5) (t := /-T-/ 177) (cs := #[.int .u64 S0, .int .u64 S1, .int .u64 S2, .int .u64 S3]) (by simp) (i := 1) rfl; have s2 := K1.out.c (g := b5) (t := /-T-/ 177) (cs := #[.int .u64 S0, .int .u64 S1, .int .u64 S2, .int .u64 S3]) (by simp) (i := 2) rfl; have s3 := K1.out.c (g := b5) (t := /-T-/ 177) (cs := #[.int .u64 S0, .int .u64 S1, .int .u64 S2, .int .u64 S3]) (by simp) (i := 3) rfl; have c0 := K1.out.c (g := b5 + 1) (t := /-T-/ 177) (cs := #[.int .u64 C0, .int .u64 C1, .int .u64 C2, .int .u64 C3]) (by simp) (i := 0) rfl; have c1 := K1.out.c (g := b5 + 1) (t := /-T-/ 177) (cs := #[.int .u64 C0, .int .u64 C1, .int .u64 C2, .int .u64 C3]) (by simp) (i := 1) rfl; have c2 := K1.out.c (g := b5 + 1) (t := /-T-/ 177) (cs := #[.int .u64 C0, .int .u64 C1, .int .u64 C2, .int .u64 C3]) (by simp) (i := 2) rfl; have c3 := K1.out.c (g := b5 + 1) (t := /-T-/ 177) (cs := #[.int .u64 C0, .int .u64 C1, .int .u64 C2, .int .u64 C3]) (by simp) (i := 3) rfl))
  all_goals
    go_wp2
    go_ret
    exact ⟨rfl, K1.out.1⟩
theorem reach_any (x y : Int) (k : Nat) (w : World) (hx : 0 ≤ x ∧ x ≤ 4294967296) (hy : 0 ≤ y ∧ y ≤ 4294967296) (h0 : 0 < k) (hk : k ≤ 5400000) (hm : k ≠ 2700000) :
    Calls Tryz.prog 165 #[.agg #[.int .i64 x, .int .i64 y], .int .i64 (k : Int)] w fun e w' => e = .returned (.bool (decide (sN k * x.toNat ≤ cN k * y.toNat))) ∧ Below w.heap.size w w' := by
  have hS := sN_le k hk; have hC := cN_le k hk; have hQ := QA_W
  have hCy : cN k * y.toNat < W := by
    have h1 : cN k * y.toNat ≤ QA * 2^60 := Nat.mul_le_mul hC (by omega)
    omega
  have hSx : sN k * x.toNat < W := by
    have h1 : sN k * x.toNat ≤ QA * 2^60 := Nat.mul_le_mul hS (by omega)
    omega
  have CC := fun w => c_circle k w hk
  have CT1 := fun w => c_atimes (cN k) y (by omega) (by unfold U64; omega) hCy w
  have CT2 := fun w => c_atimes (sN k) x (by omega) (by unfold U64; omega) hSx w
  have CLs := fun w => c_aless (cN k * y.toNat) (sN k * x.toNat) hCy hSx w
  have hres : (!decide (cN k * y.toNat < sN k * x.toNat)) = decide (sN k * x.toNat ≤ cN k * y.toNat) := by
    rw [Bool.eq_iff_iff]; simp only [Bool.not_eq_true', decide_eq_false_iff_not, decide_eq_true_eq, Nat.not_lt]
  rw [← hres]
  exact reach_any' x y k w _ _ _ _ _ _ _ _ _ _ _ _ _ _ _ _ _ hx hy (by omega) (by omega) (by omega) (Lib.hid CC) (Lib.hid CT1) (Lib.hid CT2) (Lib.hid CLs)
theorem c_reachesA (x y : Int) (k : Nat) (w : World) (hx : 0 ≤ x ∧ x ≤ 4294967296) (hy : 0 ≤ y ∧ y ≤ 4294967296) (hk : k ≤ 5400000) :
    Calls Tryz.prog 165 #[.agg #[.int .i64 x, .int .i64 y], .int .i64 (k : Int)] w fun e w' => e = .returned (.bool (reachB x y k)) ∧ Below w.heap.size w w' := by
  unfold reachB
  by_cases h0 : k = 0
  · subst h0; exact reach_0 x y w
  · by_cases hm : k = 2700000
    · subst hm
      exact (reach_mid x y w).mono fun e w' ⟨he, hb⟩ => ⟨by rw [he]; exact ret_boolA (by simp), hb⟩
    · exact (reach_any x y k w hx hy (by omega) hk hm).mono fun e w' ⟨he, hb⟩ => ⟨by rw [he]; exact ret_boolA (by simp [h0, hm]), hb⟩
end Go.Proofs.YtlloiallkcfomaaGreat
