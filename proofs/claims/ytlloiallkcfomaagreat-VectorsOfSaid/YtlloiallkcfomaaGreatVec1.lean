/- The contracts of package fixed and of its reference: sums, differences, products. -/
import Derived.Test.YtlloiallkcfomaaGreatRef0
set_option linter.unusedVariables false
set_option linter.unusedSimpArgs false
namespace Alm
theorem floor_tdiv (a b : Int) (hb : 0 < b) : (a.tmod b ≠ 0 → a < 0 → a.tdiv b - 1 = a / b) ∧ (a.tmod b = 0 → a.tdiv b = a / b) ∧ (0 ≤ a → a.tdiv b = a / b) := by
  have hs := Int.mul_tdiv_add_tmod a b
  have h2 := Int.tmod_lt_of_pos a hb
  have hd := Int.mul_ediv_add_emod a b
  have e0 := Int.emod_nonneg a (show b ≠ 0 by omega)
  have e1 := Int.emod_lt_of_pos a hb
  refine ⟨fun h hn => ?_, fun h => ?_, fun h => Int.tdiv_eq_ediv_of_nonneg h⟩
  · have h3 : a.tmod b ≤ 0 := by
      have h := Int.neg_tmod (-a) b
      rw [Int.neg_neg] at h
      have := Int.tmod_nonneg b (show 0 ≤ -a by omega)
      omega
    have h4 : -b < a.tmod b := by
      have h := Int.neg_tmod (-a) b
      rw [Int.neg_neg] at h
      have := Int.tmod_lt_of_pos (-a) hb
      omega
    symm
    rw [Int.ediv_eq_iff_of_pos hb]
    have : b * a.tdiv b = a.tdiv b * b := Int.mul_comm _ _
    constructor <;> grind
  · rw [h, Int.add_zero] at hs
    exact (Int.ediv_eq_of_eq_mul_right (by omega) hs.symm).symm
def fxfL (lo hi : Int) : Int := if -2147483648 ≤ lo ∧ lo ≤ hi ∧ hi ≤ 2147483648 then lo else 0
def fxfH (lo hi : Int) : Int := if -2147483648 ≤ lo ∧ lo ≤ hi ∧ hi ≤ 2147483648 then hi else 0
def fxfE (lo hi : Int) : Int := if -2147483648 ≤ lo ∧ lo ≤ hi ∧ hi ≤ 2147483648 then 0 else 5
def mn4 (a b c d : Int) : Int := min (min (min (a * c) (a * d)) (b * c)) (b * d)
def mx4 (a b c d : Int) : Int := max (max (max (a * c) (a * d)) (b * c)) (b * d)
def mulL (a b c d : Int) : Int := mn4 a b c d / 1073741824
def mulH (a b c d : Int) : Int := -((-(mx4 a b c d)) / 1073741824)
theorem mulL_le (a b c d : Int) : mulL a b c d ≤ mulH a b c d := by
  have : mn4 a b c d ≤ mx4 a b c d := by unfold mn4 mx4; omega
  unfold mulL mulH
  generalize mn4 a b c d = x at *
  generalize mx4 a b c d = y at *
  omega
theorem fit_valid (lo hi : Int) : -2147483648 ≤ fxfL lo hi ∧ fxfL lo hi ≤ fxfH lo hi ∧ fxfH lo hi ≤ 2147483648 := by
  unfold fxfL fxfH; split <;> omega
theorem mul_bdN (x y A B : Int) (hx : -A ≤ x ∧ x ≤ A) (hy : -B ≤ y ∧ y ≤ B) : -(A * B) ≤ x * y ∧ x * y ≤ A * B := by
  have k1 := Int.mul_nonneg (show 0 ≤ A - x by omega) (show 0 ≤ B + y by omega)
  have k2 := Int.mul_nonneg (show 0 ≤ A + x by omega) (show 0 ≤ B - y by omega)
  have k3 := Int.mul_nonneg (show 0 ≤ A - x by omega) (show 0 ≤ B - y by omega)
  have k4 := Int.mul_nonneg (show 0 ≤ A + x by omega) (show 0 ≤ B + y by omega)
  constructor <;> grind
end Alm
namespace Go.Proofs.YtlloiallkcfomaaGreat
open Go.RowKit Alm
/-- an interval and an error -/
def opV (L H : Int) : Value := .tuple #[.agg #[.int .i64 (fxfL L H), .int .i64 (fxfH L H)], .int .i64 (fxfE L H)]
theorem c_ffloor (a b : Int) (w : World) (h1 : -4611686018427387904 ≤ a) (h2 : a ≤ 4611686018427387904) (hb : 0 < b) (hb2 : b ≤ 4611686018427387904) :
    Calls Tryz.prog 155 #[.int .i64 a, .int .i64 b] w fun e w' => e = .returned (.int .i64 (a / b)) ∧ w = w' := by
  have hf := Lib.hid (floor_tdiv a b hb)
  obtain ⟨t1, t2⟩ := tdiv_bd a b hb 4611686018427387904 h1 h2
  have hbz : ¬ b = 0 := by omega
  have hb0 : 0 ≤ b := by omega
  have hbn : decide (b < 0) = false := by simp; omega
  generalize hF : a / b = F at *
  have HF := Lib.hid hF; clear hF
  by_cases ha : a < 0
  · by_cases hm : a.tmod b = 0
    · go_enter Tryz.func155, Tryz.ntmps155
      go_wp2
      go_ret
      exact ⟨ret_int (hf.out.2.1 hm), rfl⟩
    · have HM := Lib.hid hm
      have hm2 : (a.tmod b != 0) = true := by simpa using hm
      go_enter Tryz.func155, Tryz.ntmps155
      go_wp2
      go_ret
      exact ⟨ret_int (hf.out.1 HM.out ha), rfl⟩
  · have ha0 : 0 ≤ a := by omega
    go_enter Tryz.func155, Tryz.ntmps155
    go_wp2
    all_goals
      go_ret
      exact ⟨ret_int (by first | (have := hf.out.2.2 ha0; omega) | (rw [HF.out]) | exact HF.out), rfl⟩
theorem c_fceil (a b : Int) (w : World) (h1 : -4611686018427387904 ≤ a) (h2 : a ≤ 4611686018427387904) (hb : 0 < b) (hb2 : b ≤ 4611686018427387904) :
    Calls Tryz.prog 156 #[.int .i64 a, .int .i64 b] w fun e w' => e = .returned (.int .i64 (-((-a) / b))) ∧ w = w' := by
  have C := Lib.hid (fun w => c_ffloor (-a) b w (by omega) (by omega) hb hb2)
  have q := div_bd (-a) b 4611686018427387904 hb (by omega) (by omega)
  obtain ⟨q1, q2⟩ := q
  generalize (-a) / b = F at *
  go_enter Tryz.func156, Tryz.ntmps156
  go_wp2_with fail
  refine (C.out _).mono ?_
  rintro e w' ⟨rfl, rfl⟩
  go_wp2
  go_ret
  exact ⟨rfl, rfl⟩
theorem c_ffit (lo hi : Int) (w : World) :
    Calls Tryz.prog 157 #[.int .i64 lo, .int .i64 hi] w fun e w' => e = .returned (opV lo hi) ∧ Below w.heap.size w w' := by
  have C := fun w => c_fValid lo hi w
  have K0 := Lib.hid (((ks_start w).new w.heap.size rfl /-T-/ 41 #[.int .i64 0, .int .i64 0]).new (w.heap.size + 1) (by simp) /-T-/ 41 #[.int .i64 lo, .int .i64 hi])
  by_cases h : -2147483648 ≤ lo ∧ lo ≤ hi ∧ hi ≤ 2147483648
  · have hv : fxV lo hi = true := by unfold fxV; simpa using h
    have eV : opV lo hi = .tuple #[.agg #[.int .i64 lo, .int .i64 hi], .int .i64 0] := by unfold opV fxfL fxfH fxfE; rw [if_pos h, if_pos h, if_pos h]
    rw [hv] at C; rw [eV]
    replace C := Lib.hid C
    clear hv eV h
    go_enter Tryz.func157, Tryz.ntmps157
    go_wp2_with fail
    refine (C.out _).mono ?_
    rintro e w1 ⟨rfl, hb⟩
    have K1 := Lib.hid (K0.out.below hb); clear hb K0
    have a0 := K1.out.c (g := w.heap.size) (t := /-T-/ 41) (cs := #[.int .i64 0, .int .i64 0]) (by simp) (i := 0) rfl
    have a1 := K1.out.c (g := w.heap.size) (t := /-T-/ 41) (cs := #[.int .i64 0, .int .i64 0]) (by simp) (i := 1) rfl
    have f0 := K1.out.f (g := w.heap.size) (t := /-T-/ 41) (cs := #[.int .i64 0, .int .i64 0]) (by simp) 0
    have f1 := K1.out.f (g := w.heap.size) (t := /-T-/ 41) (cs := #[.int .i64 0, .int .i64 0]) (by simp) 1
    have b0 := K1.out.c (g := w.heap.size + 1) (t := /-T-/ 41) (cs := #[.int .i64 lo, .int .i64 hi]) (by simp) (i := 0) rfl
    have b1 := K1.out.c (g := w.heap.size + 1) (t := /-T-/ 41) (cs := #[.int .i64 lo, .int .i64 hi]) (by simp) (i := 1) rfl
    have HB := Lib.hid K1.out.1
    go_wp2
    refine bodyPost_ret (v := .tuple #[.agg #[.int .i64 lo, .int .i64 hi], .int .i64 0]) (by simp [results, Tryz.results157, go_sem, a0, a1]) rfl ⟨rfl, ?_⟩
    have hb := HB.out
    go_grown
  · have hv : fxV lo hi = false := by unfold fxV; simpa using h
    have eV : opV lo hi = .tuple #[.agg #[.int .i64 0, .int .i64 0], .int .i64 5] := by unfold opV fxfL fxfH fxfE; rw [if_neg h, if_neg h, if_neg h]
    rw [hv] at C; rw [eV]
    replace C := Lib.hid C
    clear hv eV h
    go_enter Tryz.func157, Tryz.ntmps157
    go_wp2_with fail
    refine (C.out _).mono ?_
    rintro e w1 ⟨rfl, hb⟩
    have K1 := Lib.hid (K0.out.below hb); clear hb K0
    have a0 := K1.out.c (g := w.heap.size) (t := /-T-/ 41) (cs := #[.int .i64 0, .int .i64 0]) (by simp) (i := 0) rfl
    have a1 := K1.out.c (g := w.heap.size) (t := /-T-/ 41) (cs := #[.int .i64 0, .int .i64 0]) (by simp) (i := 1) rfl
    have f0 := K1.out.f (g := w.heap.size) (t := /-T-/ 41) (cs := #[.int .i64 0, .int .i64 0]) (by simp) 0
    have f1 := K1.out.f (g := w.heap.size) (t := /-T-/ 41) (cs := #[.int .i64 0, .int .i64 0]) (by simp) 1
    have HB := Lib.hid K1.out.1
    go_wp2
    refine bodyPost_ret (v := .tuple #[.agg #[.int .i64 0, .int .i64 0], .int .i64 5]) (by simp [results, Tryz.results157, go_sem, a0, a1]) rfl ⟨rfl, ?_⟩
    have hb := HB.out
    go_grown
end Go.Proofs.YtlloiallkcfomaaGreat
