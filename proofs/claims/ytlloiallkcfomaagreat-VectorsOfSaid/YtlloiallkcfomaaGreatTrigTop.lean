/- The contracts of package trig: Sin, Cos. -/
import Derived.Test.YtlloiallkcfomaaGreatTrigEnc
set_option linter.unusedVariables false
namespace Go.Proofs.YtlloiallkcfomaaGreat
open Go.RowKit Alm
set_option maxRecDepth 100000 in
set_option maxHeartbeats 1000000 in
theorem c_Sin (lo hi : Int) (w : World) (h : arcV lo hi = true) :
    Calls Tryz.prog 89 #[.agg #[.int .i64 lo, .int .i64 hi]] w fun e w' => e = .returned (.tuple #[.agg #[.int .i64 (enLo lo hi), .int .i64 (enHi lo hi)], .int .i64 0]) ∧ Below w.heap.size w w' := by
  have hv := (arcV_iff lo hi).1 h
  have CV := Lib.hid (fun w => c_valid lo hi w)
  rw [h] at CV
  have CE := Lib.hid (fun w => c_enclosure lo hi w ⟨by omega, by omega, by omega⟩)
  generalize enLo lo hi = x at *
  generalize enHi lo hi = y at *
  clear h hv
  have PA := Lib.hid (p2_new w (.int .i64 lo) (.int .i64 hi) /-T-/ 23)
  have PR := Lib.hid (p2_new (w.alloc (.cells #[.int .i64 lo, .int .i64 hi] /-T-/ 23)) (.int .i64 0) (.int .i64 0) /-T-/ 41)
  go_enter Tryz.func89, Tryz.ntmps89
  go_wp2_with fail
  refine (CV.out _).mono ?_
  rintro e w1 ⟨rfl, hb1⟩
  have H1 := Lib.hid hb1; clear hb1
  have S1 := Lib.hid (show w.heap.size + 1 < w1.heap.size by have := H1.out.size; simp at this; omega)
  have PA1 := Lib.hid ((PA.out.alloc (by simp) _).below H1.out (by simp; omega))
  have PR1 := Lib.hid (PR.out.below H1.out (by simp))
  obtain ⟨p0, p1, _, _⟩ := PA1.out
  have HB1 : Hid (Below w.heap.size w w1) := (((Below.refl _ _).alloc (Nat.le_refl _) _).alloc (by simp) _).trans (H1.out.mono (by simp; omega))
  clear H1 PA PR
  go_wp2_with fail
  refine (CE.out _).mono ?_
  rintro e w2 ⟨rfl, hb1⟩
  have H2 := Lib.hid hb1; clear hb1 p0 p1
  have PR2 := Lib.hid (PR1.out.below H2.out (by have := S1.out; simp; omega))
  obtain ⟨r0, r1, g0, g1⟩ := PR2.out
  simp only [World.size_alloc] at r0 r1 g0 g1
  have HB2 : Hid (Below w.heap.size w w2) := HB1.out.trans (H2.out.mono (by have := S1.out; omega))
  go_wp2
  refine bodyPost_ret (v := .tuple #[.agg #[.int .i64 x, .int .i64 y], .int .i64 0]) (by simp [results, Tryz.results89, go_sem, r0, r1]) rfl ⟨rfl, by have := HB2.out; go_grown⟩
set_option maxRecDepth 100000 in
set_option maxHeartbeats 1000000 in
theorem c_Sin_no (lo hi : Int) (w : World) (h : arcV lo hi = false) :
    Calls Tryz.prog 89 #[.agg #[.int .i64 lo, .int .i64 hi]] w fun e w' => e = .returned (.tuple #[.agg #[.int .i64 0, .int .i64 0], .int .i64 1]) ∧ Below w.heap.size w w' := by
  have CV := Lib.hid (fun w => c_valid lo hi w)
  rw [h] at CV
  clear h
  have PR := Lib.hid (p2_new (w.alloc (.cells #[.int .i64 lo, .int .i64 hi] /-T-/ 23)) (.int .i64 0) (.int .i64 0) /-T-/ 41)
  go_enter Tryz.func89, Tryz.ntmps89
  go_wp2_with fail
  refine (CV.out _).mono ?_
  rintro e w1 ⟨rfl, hb1⟩
  have H1 := Lib.hid hb1; clear hb1
  have PR1 := Lib.hid (PR.out.below H1.out (by simp))
  obtain ⟨r0, r1, g0, g1⟩ := PR1.out
  simp only [World.size_alloc] at r0 r1 g0 g1
  have HB1 : Hid (Below w.heap.size w w1) := (((Below.refl _ _).alloc (Nat.le_refl _) _).alloc (by simp) _).trans (H1.out.mono (by simp; omega))
  go_wp2
  refine bodyPost_ret (v := .tuple #[.agg #[.int .i64 0, .int .i64 0], .int .i64 1]) (by simp [results, Tryz.results89, go_sem, r0, r1]) rfl ⟨rfl, by have := HB1.out; go_grown⟩
set_option maxRecDepth 100000 in
set_option maxHeartbeats 1000000 in
theorem c_Cos (lo hi : Int) (w : World) (h : arcV lo hi = true) :
    Calls Tryz.prog 37 #[.agg #[.int .i64 lo, .int .i64 hi]] w fun e w' => e = .returned (.tuple #[.agg #[.int .i64 (enLo (lo + 5400000) (hi + 5400000)), .int .i64 (enHi (lo + 5400000) (hi + 5400000))], .int .i64 0]) ∧ Below w.heap.size w w' := by
  have hv := (arcV_iff lo hi).1 h
  have CV := Lib.hid (fun w => c_valid lo hi w)
  rw [h] at CV
  have CE := Lib.hid (fun w => c_enclosure (lo + 5400000) (hi + 5400000) w ⟨by omega, by omega, by omega⟩)
  have CF := Lib.hid (fun w => c_further lo hi w ⟨by omega, by omega⟩ ⟨by omega, by omega⟩)
  generalize enLo (lo + 5400000) (hi + 5400000) = x at *
  generalize enHi (lo + 5400000) (hi + 5400000) = y at *
  clear h hv
  have PA := Lib.hid (p2_new w (.int .i64 lo) (.int .i64 hi) /-T-/ 23)
  have PR := Lib.hid (p2_new (w.alloc (.cells #[.int .i64 lo, .int .i64 hi] /-T-/ 23)) (.int .i64 0) (.int .i64 0) /-T-/ 41)
  go_enter Tryz.func37, Tryz.ntmps37
  go_wp2_with fail
  refine (CV.out _).mono ?_
  rintro e w1 ⟨rfl, hb1⟩
  have H1 := Lib.hid hb1; clear hb1
  have S1 := Lib.hid (show w.heap.size + 1 < w1.heap.size by have := H1.out.size; simp at this; omega)
  have PA1 := Lib.hid ((PA.out.alloc (by simp) _).below H1.out (by simp; omega))
  have PR1 := Lib.hid (PR.out.below H1.out (by simp))
  obtain ⟨p0, p1, _, _⟩ := PA1.out
  have HB1 : Hid (Below w.heap.size w w1) := (((Below.refl _ _).alloc (Nat.le_refl _) _).alloc (by simp) _).trans (H1.out.mono (by simp; omega))
  clear H1 PA PR
  go_wp2_with fail
  refine (CF.out _).mono ?_
  rintro e w1' ⟨rfl, hb1⟩
  have H1 := Lib.hid hb1; clear hb1 p0 p1
  have PR1' := Lib.hid (PR1.out.below H1.out (by have := S1.out; simp; omega))
  have HB1' : Hid (Below w.heap.size w w1') := HB1.out.trans (H1.out.mono (by have := S1.out; omega))
  have S1' := Lib.hid (show w.heap.size + 1 < w1'.heap.size by have := H1.out.size; have := S1.out; omega)
  clear HB1 PR1 S1 H1 PA1
  go_wp2_with fail
  refine (CE.out _).mono ?_
  rintro e w2 ⟨rfl, hb1⟩
  have H2 := Lib.hid hb1; clear hb1
  have PR2 := Lib.hid (PR1'.out.below H2.out (by have := S1'.out; simp; omega))
  obtain ⟨r0, r1, g0, g1⟩ := PR2.out
  simp only [World.size_alloc] at r0 r1 g0 g1
  have HB2 : Hid (Below w.heap.size w w2) := HB1'.out.trans (H2.out.mono (by have := S1'.out; omega))
  go_wp2
  refine bodyPost_ret (v := .tuple #[.agg #[.int .i64 x, .int .i64 y], .int .i64 0]) (by simp [results, Tryz.results37, go_sem, r0, r1]) rfl ⟨rfl, by have := HB2.out; go_grown⟩
set_option maxRecDepth 100000 in
set_option maxHeartbeats 1000000 in
theorem c_Cos_no (lo hi : Int) (w : World) (h : arcV lo hi = false) :
    Calls Tryz.prog 37 #[.agg #[.int .i64 lo, .int .i64 hi]] w fun e w' => e = .returned (.tuple #[.agg #[.int .i64 0, .int .i64 0], .int .i64 1]) ∧ Below w.heap.size w w' := by
  have CV := Lib.hid (fun w => c_valid lo hi w)
  rw [h] at CV
  clear h
  have PR := Lib.hid (p2_new (w.alloc (.cells #[.int .i64 lo, .int .i64 hi] /-T-/ 23)) (.int .i64 0) (.int .i64 0) /-T-/ 41)
  go_enter Tryz.func37, Tryz.ntmps37
  go_wp2_with fail
  refine (CV.out _).mono ?_
  rintro e w1 ⟨rfl, hb1⟩
  have H1 := Lib.hid hb1; clear hb1
  have PR1 := Lib.hid (PR.out.below H1.out (by simp))
  obtain ⟨r0, r1, g0, g1⟩ := PR1.out
  simp only [World.size_alloc] at r0 r1 g0 g1
  have HB1 : Hid (Below w.heap.size w w1) := (((Below.refl _ _).alloc (Nat.le_refl _) _).alloc (by simp) _).trans (H1.out.mono (by simp; omega))
  go_wp2
  refine bodyPost_ret (v := .tuple #[.agg #[.int .i64 0, .int .i64 0], .int .i64 1]) (by simp [results, Tryz.results37, go_sem, r0, r1]) rfl ⟨rfl, by have := HB1.out; go_grown⟩
/-- One times the sine of an angle against a number -/
def belowV (n v : Int) : Int := if bHi n ≤ v ∧ bLo n < v then -1 else if v ≤ bLo n ∧ v < bHi n then 1 else if v = bLo n then 0 else if v < bLo n then 1 else -1
set_option maxRecDepth 100000 in
set_option maxHeartbeats 1000000 in
theorem c_Below (n v : Int) (w : World) (h : I64 n) :
    Calls Tryz.prog 205 #[.int .i64 n, .int .i64 v] w fun e w' => e = .returned (.int .i64 (belowV n v)) ∧ Below w.heap.size w w' := by
  have CB := Lib.hid (fun w => c_bounds n w h)
  have hb := bnd_bd n
  have e : belowV n v = if bHi n ≤ v ∧ bLo n < v then -1 else if v ≤ bLo n ∧ v < bHi n then 1 else if v = bLo n then 0 else if v < bLo n then 1 else -1 := rfl
  have E := Lib.hid e; clear e
  generalize belowV n v = r at *
  generalize bLo n = lo at *
  generalize bHi n = hi at *
  have HB := Lib.hid hb; clear hb
  go_enter Tryz.func205, Tryz.ntmps205
  go_wp2_with fail
  refine (CB.out _).mono ?_
  rintro e w1 ⟨rfl, hb1⟩
  have H1 := Lib.hid hb1; clear hb1
  go_wp2
  all_goals
    go_ret
    refine ⟨ret_int ?_, H1.out⟩
    have hbb := HB.out
    rw [E.out]
    repeat' split
    all_goals first | rfl | omega | (simp_all; done)
end Go.Proofs.YtlloiallkcfomaaGreat
