/- The contracts of package wide (second part), and of enclose. -/
import Derived.Test.YtlloiallkcfomaaGreatWide
import Derived.Deep.Light
set_option linter.unusedVariables false
namespace Go.Proofs.YtlloiallkcfomaaGreat
open Go.RowKit Alm

/-- a quotient by a positive number, rounded up or down -/
def quo (V b : Int) (up : Bool) : Int := if up then -((-V) / b) else V / b
/-- the value and the error number of a quotient -/
def fitV (r : Int) : Int := if -9223372036854775808 ≤ r ∧ r ≤ 9223372036854775807 then r else 0
def fitE (r : Int) : Int := if -9223372036854775808 ≤ r ∧ r ≤ 9223372036854775807 then 0 else 5
theorem div_key (d k s : Int) (hd : 0 < d) (h2 : 0 ≤ s) (h3 : s < d) : (d * k + s) / d = k := by
  rw [Int.add_comm, Int.add_mul_ediv_left _ _ (by omega), Int.ediv_eq_zero_of_lt h2 h3]; omega
/-- what the code works out: the size of the quotient, and the remainder -/
theorem quo_parts (V b : Int) (hb : 0 < b) (q r : Int) (e : (V.natAbs : Int) = b * q + r) (h0 : 0 ≤ r) (hr : r < b) :
    (V < 0 → 0 < r → quo V b false = -(q + 1)) ∧ (V < 0 → ¬ 0 < r → quo V b false = -q) ∧ (V < 0 → quo V b true = -q) ∧
    (¬ V < 0 → quo V b false = q) ∧ (¬ V < 0 → 0 < r → quo V b true = q + 1) ∧ (¬ V < 0 → ¬ 0 < r → quo V b true = q) := by
  unfold quo
  simp only [Bool.false_eq_true, if_false, if_true]
  refine ⟨fun h k => ?_, fun h k => ?_, fun h => ?_, fun h => ?_, fun h k => ?_, fun h k => ?_⟩
  · rw [show V = b * (-(q + 1)) + (b - r) by grind, div_key b _ _ hb (by omega) (by omega)]
  · rw [show V = b * (-q) + 0 by grind, div_key b _ _ hb (by omega) (by omega)]
  · rw [show -V = b * q + r by grind, div_key b _ _ hb (by omega) (by omega)]
  · rw [show V = b * q + r by grind, div_key b _ _ hb (by omega) (by omega)]
  · rw [show -V = b * (-(q + 1)) + (b - r) by grind, div_key b _ _ hb (by omega) (by omega)]; omega
  · rw [show -V = b * (-q) + 0 by grind, div_key b _ _ hb (by omega) (by omega)]; omega
theorem ret_ie {k k' : IntKind} {a b c d : Int} (h : a = b) (h' : c = d) : Ending.returned (.tuple #[.int k a, .int k' c]) = .returned (.tuple #[.int k b, .int k' d]) := by rw [h, h']
set_option maxRecDepth 100000 in
set_option maxHeartbeats 1000000 in
theorem wq_big (neg up : Bool) (hi lo b x y q r : Int) (w : World) (hb : 0 < b) (hb2 : b ≤ 9223372036854775807) (x2 : 0 ≤ x) (x1 : x ≤ 68719476736) (k2 : 0 ≤ r) (k4 : 0 ≤ q) (hle : b ≤ x)
    (CV : Hid (∀ w : World, Calls Tryz.prog 191 #[.agg #[.int .i64 hi, .int .i64 lo]] w fun e w' => e = .returned (.bool true) ∧ Below w.heap.size w w'))
    (CS : Hid (∀ w : World, Calls Tryz.prog 192 #[.agg #[.int .i64 hi, .int .i64 lo]] w fun e w' => e = .returned (.agg #[.int .u64 x, .int .u64 y, .bool neg]) ∧ Below w.heap.size w w'))
    (CA : Hid (∀ w : World, Calls Tryz.prog 172 #[.int .i64 b] w fun e w' => e = .returned (.int .u64 b) ∧ w = w'))
    : Calls Tryz.prog 174 #[.agg #[.int .i64 hi, .int .i64 lo], .int .i64 b, .bool up] w fun e w' => e = .returned (.tuple #[.int .i64 0, .int .i64 5]) ∧ Below w.heap.size w w' := by
  have hbe : (b == 0) = false := by simp; omega
  have PA := Lib.hid (p2_new w (.int .i64 hi) (.int .i64 lo) /-T-/ 156)
  go_enter Tryz.func174, Tryz.ntmps174
  go_wp2_with fail
  refine (CV.out _).mono ?_
  rintro e w1 ⟨rfl, hb1⟩
  have H1 := Lib.hid hb1; clear hb1
  have PA1 := Lib.hid (PA.out.below H1.out (by simp))
  obtain ⟨p0, p1, _, _⟩ := PA1.out
  have HB1 : Hid (Below w.heap.size w w1) := ((Below.refl _ _).alloc (Nat.le_refl _) _).trans (H1.out.mono (by simp))
  go_wp2_with fail
  refine (CS.out _).mono ?_
  rintro e w2 ⟨rfl, hb1⟩
  have H2 := Lib.hid hb1; clear hb1 p0 p1
  have HB2 : Hid (Below w.heap.size w w2) := HB1.out.trans (H2.out.mono (by have := HB1.out.size; omega))
  clear PA PA1 H1 H2 HB1
  go_wp2_with fail
  refine (CA.out _).mono ?_
  rintro e w' ⟨rfl, rfl⟩
  go_wp2
  go_ret2
  exact ⟨rfl, HB2.out.alloc HB2.out.size _⟩
set_option maxRecDepth 100000 in
set_option maxHeartbeats 1000000 in
theorem wq_n_k (hi lo b x y q r : Int) (w : World) (hb : 0 < b) (hb2 : b ≤ 9223372036854775807) (x2 : 0 ≤ x) (x1 : x ≤ 68719476736) (k2 : 0 ≤ r) (k4 : 0 ≤ q) (up : Bool) (hup : up = true ∨ r = 0) (hlt : x < b) (k5 : q < 18446744073709551616)
    (CV : Hid (∀ w : World, Calls Tryz.prog 191 #[.agg #[.int .i64 hi, .int .i64 lo]] w fun e w' => e = .returned (.bool true) ∧ Below w.heap.size w w'))
    (CS : Hid (∀ w : World, Calls Tryz.prog 192 #[.agg #[.int .i64 hi, .int .i64 lo]] w fun e w' => e = .returned (.agg #[.int .u64 x, .int .u64 y, .bool true]) ∧ Below w.heap.size w w'))
    (CA : Hid (∀ w : World, Calls Tryz.prog 172 #[.int .i64 b] w fun e w' => e = .returned (.int .u64 b) ∧ w = w'))
    (CD : Hid (∀ w : World, Calls Tryz.prog 193 #[.int .u64 x, .int .u64 y, .int .u64 b] w fun e w' => e = .returned (.tuple #[.int .u64 q, .int .u64 r]) ∧ ∃ n, w' = w.drewN n))
    : Calls Tryz.prog 174 #[.agg #[.int .i64 hi, .int .i64 lo], .int .i64 b, .bool up] w fun e w' => e = .returned (.tuple #[.int .i64 (if q ≤ 9223372036854775808 then -q else 0), .int .i64 (if q ≤ 9223372036854775808 then 0 else 5)]) ∧ Below w.heap.size w w' := by
  have hbe : (b == 0) = false := by simp; omega
  have hbd : decide (b < 0) = false := by simp; omega
  obtain hup | hup := hup
  · subst hup
    by_cases hr : 0 < r
    all_goals
      have PA := Lib.hid (p2_new w (.int .i64 hi) (.int .i64 lo) /-T-/ 156)
      go_enter Tryz.func174, Tryz.ntmps174
      go_wp2_with fail
      refine (CV.out _).mono ?_
      rintro e w1 ⟨rfl, hb1⟩
      have H1 := Lib.hid hb1; clear hb1
      have PA1 := Lib.hid (PA.out.below H1.out (by simp))
      obtain ⟨p0, p1, _, _⟩ := PA1.out
      have HB1 : Hid (Below w.heap.size w w1) := ((Below.refl _ _).alloc (Nat.le_refl _) _).trans (H1.out.mono (by simp))
      go_wp2_with fail
      refine (CS.out _).mono ?_
      rintro e w2 ⟨rfl, hb1⟩
      have H2 := Lib.hid hb1; clear hb1 p0 p1
      have HB2 : Hid (Below w.heap.size w w2) := HB1.out.trans (H2.out.mono (by have := HB1.out.size; omega))
      clear PA PA1 H1 H2 HB1
      go_wp2_with fail
      refine (CA.out _).mono ?_
      rintro e w' ⟨rfl, rfl⟩
      go_wp2_with fail
      refine (CD.out _).mono ?_
      rintro e w3 ⟨rfl, nd, rfl⟩
      go_wp2
      all_goals
        go_ret2
        refine ⟨ret_ie ?_ ?_, below_drewN (HB2.out.alloc HB2.out.size _) _⟩ <;> go_light <;> (try simp only [IntKind.wrap_u64]) <;> (try unfold wrap64) <;> first | omega | (split <;> omega)
  · subst hup
    have PA := Lib.hid (p2_new w (.int .i64 hi) (.int .i64 lo) /-T-/ 156)
    go_enter Tryz.func174, Tryz.ntmps174
    go_wp2_with fail
    refine (CV.out _).mono ?_
    rintro e w1 ⟨rfl, hb1⟩
    have H1 := Lib.hid hb1; clear hb1
    have PA1 := Lib.hid (PA.out.below H1.out (by simp))
    obtain ⟨p0, p1, _, _⟩ := PA1.out
    have HB1 : Hid (Below w.heap.size w w1) := ((Below.refl _ _).alloc (Nat.le_refl _) _).trans (H1.out.mono (by simp))
    go_wp2_with fail
    refine (CS.out _).mono ?_
    rintro e w2 ⟨rfl, hb1⟩
    have H2 := Lib.hid hb1; clear hb1 p0 p1
    have HB2 : Hid (Below w.heap.size w w2) := HB1.out.trans (H2.out.mono (by have := HB1.out.size; omega))
    clear PA PA1 H1 H2 HB1
    go_wp2_with fail
    refine (CA.out _).mono ?_
    rintro e w' ⟨rfl, rfl⟩
    go_wp2_with fail
    refine (CD.out _).mono ?_
    rintro e w3 ⟨rfl, nd, rfl⟩
    go_wp2
    all_goals
      go_ret2
      refine ⟨ret_ie ?_ ?_, below_drewN (HB2.out.alloc HB2.out.size _) _⟩ <;> go_light <;> (try simp only [IntKind.wrap_u64]) <;> (try unfold wrap64) <;> first | omega | (split <;> omega)
set_option maxRecDepth 100000 in
set_option maxHeartbeats 1000000 in
theorem wq_n_i (hi lo b x y q r : Int) (w : World) (hb : 0 < b) (hb2 : b ≤ 9223372036854775807) (x2 : 0 ≤ x) (x1 : x ≤ 68719476736) (k2 : 0 ≤ r) (k4 : 0 ≤ q) (hr : 0 < r) (hlt : x < b) (k5 : q < 18446744073709551616)
    (CV : Hid (∀ w : World, Calls Tryz.prog 191 #[.agg #[.int .i64 hi, .int .i64 lo]] w fun e w' => e = .returned (.bool true) ∧ Below w.heap.size w w'))
    (CS : Hid (∀ w : World, Calls Tryz.prog 192 #[.agg #[.int .i64 hi, .int .i64 lo]] w fun e w' => e = .returned (.agg #[.int .u64 x, .int .u64 y, .bool true]) ∧ Below w.heap.size w w'))
    (CA : Hid (∀ w : World, Calls Tryz.prog 172 #[.int .i64 b] w fun e w' => e = .returned (.int .u64 b) ∧ w = w'))
    (CD : Hid (∀ w : World, Calls Tryz.prog 193 #[.int .u64 x, .int .u64 y, .int .u64 b] w fun e w' => e = .returned (.tuple #[.int .u64 q, .int .u64 r]) ∧ ∃ n, w' = w.drewN n))
    : Calls Tryz.prog 174 #[.agg #[.int .i64 hi, .int .i64 lo], .int .i64 b, .bool false] w fun e w' => e = .returned (.tuple #[.int .i64 (if (q + 1) ≤ 9223372036854775808 then -(q + 1) else 0), .int .i64 (if (q + 1) ≤ 9223372036854775808 then 0 else 5)]) ∧ Below w.heap.size w w' := by
  have hbe : (b == 0) = false := by simp; omega
  have hbd : decide (b < 0) = false := by simp; omega
  by_cases hov : q = 18446744073709551615
  · subst hov
    rw [if_neg (by omega), if_neg (by omega)]
    have PA := Lib.hid (p2_new w (.int .i64 hi) (.int .i64 lo) /-T-/ 156)
    go_enter Tryz.func174, Tryz.ntmps174
    go_wp2_with fail
    refine (CV.out _).mono ?_
    rintro e w1 ⟨rfl, hb1⟩
    have H1 := Lib.hid hb1; clear hb1
    have PA1 := Lib.hid (PA.out.below H1.out (by simp))
    obtain ⟨p0, p1, _, _⟩ := PA1.out
    have HB1 : Hid (Below w.heap.size w w1) := ((Below.refl _ _).alloc (Nat.le_refl _) _).trans (H1.out.mono (by simp))
    go_wp2_with fail
    refine (CS.out _).mono ?_
    rintro e w2 ⟨rfl, hb1⟩
    have H2 := Lib.hid hb1; clear hb1 p0 p1
    have HB2 : Hid (Below w.heap.size w w2) := HB1.out.trans (H2.out.mono (by have := HB1.out.size; omega))
    clear PA PA1 H1 H2 HB1
    go_wp2_with fail
    refine (CA.out _).mono ?_
    rintro e w' ⟨rfl, rfl⟩
    go_wp2_with fail
    refine (CD.out _).mono ?_
    rintro e w3 ⟨rfl, nd, rfl⟩
    go_wp2
    all_goals
      go_ret2
      exact ⟨rfl, below_drewN (HB2.out.alloc HB2.out.size _) _⟩
  · have hov2 : q + 1 < 18446744073709551616 := by omega
    have hov3 : (q + 1 == 0) = false := by simp; omega
    have PA := Lib.hid (p2_new w (.int .i64 hi) (.int .i64 lo) /-T-/ 156)
    go_enter Tryz.func174, Tryz.ntmps174
    go_wp2_with fail
    refine (CV.out _).mono ?_
    rintro e w1 ⟨rfl, hb1⟩
    have H1 := Lib.hid hb1; clear hb1
    have PA1 := Lib.hid (PA.out.below H1.out (by simp))
    obtain ⟨p0, p1, _, _⟩ := PA1.out
    have HB1 : Hid (Below w.heap.size w w1) := ((Below.refl _ _).alloc (Nat.le_refl _) _).trans (H1.out.mono (by simp))
    go_wp2_with fail
    refine (CS.out _).mono ?_
    rintro e w2 ⟨rfl, hb1⟩
    have H2 := Lib.hid hb1; clear hb1 p0 p1
    have HB2 : Hid (Below w.heap.size w w2) := HB1.out.trans (H2.out.mono (by have := HB1.out.size; omega))
    clear PA PA1 H1 H2 HB1
    go_wp2_with fail
    refine (CA.out _).mono ?_
    rintro e w' ⟨rfl, rfl⟩
    go_wp2_with fail
    refine (CD.out _).mono ?_
    rintro e w3 ⟨rfl, nd, rfl⟩
    go_wp2
    all_goals
      go_ret2
      refine ⟨ret_ie ?_ ?_, below_drewN (HB2.out.alloc HB2.out.size _) _⟩ <;> go_light <;> (try simp only [IntKind.wrap_u64]) <;> (try unfold wrap64) <;> first | omega | (split <;> omega)
set_option maxRecDepth 100000 in
set_option maxHeartbeats 1000000 in
theorem wq_p_k (hi lo b x y q r : Int) (w : World) (hb : 0 < b) (hb2 : b ≤ 9223372036854775807) (x2 : 0 ≤ x) (x1 : x ≤ 68719476736) (k2 : 0 ≤ r) (k4 : 0 ≤ q) (up : Bool) (hup : up = false ∨ r = 0) (hlt : x < b) (k5 : q < 18446744073709551616)
    (CV : Hid (∀ w : World, Calls Tryz.prog 191 #[.agg #[.int .i64 hi, .int .i64 lo]] w fun e w' => e = .returned (.bool true) ∧ Below w.heap.size w w'))
    (CS : Hid (∀ w : World, Calls Tryz.prog 192 #[.agg #[.int .i64 hi, .int .i64 lo]] w fun e w' => e = .returned (.agg #[.int .u64 x, .int .u64 y, .bool false]) ∧ Below w.heap.size w w'))
    (CA : Hid (∀ w : World, Calls Tryz.prog 172 #[.int .i64 b] w fun e w' => e = .returned (.int .u64 b) ∧ w = w'))
    (CD : Hid (∀ w : World, Calls Tryz.prog 193 #[.int .u64 x, .int .u64 y, .int .u64 b] w fun e w' => e = .returned (.tuple #[.int .u64 q, .int .u64 r]) ∧ ∃ n, w' = w.drewN n))
    : Calls Tryz.prog 174 #[.agg #[.int .i64 hi, .int .i64 lo], .int .i64 b, .bool up] w fun e w' => e = .returned (.tuple #[.int .i64 (if q < 9223372036854775808 then q else 0), .int .i64 (if q < 9223372036854775808 then 0 else 5)]) ∧ Below w.heap.size w w' := by
  have hbe : (b == 0) = false := by simp; omega
  have hbd : decide (b < 0) = false := by simp; omega
  obtain hup | hup := hup
  · subst hup
    by_cases hr : 0 < r
    all_goals
      have PA := Lib.hid (p2_new w (.int .i64 hi) (.int .i64 lo) /-T-/ 156)
      go_enter Tryz.func174, Tryz.ntmps174
      go_wp2_with fail
      refine (CV.out _).mono ?_
      rintro e w1 ⟨rfl, hb1⟩
      have H1 := Lib.hid hb1; clear hb1
      have PA1 := Lib.hid (PA.out.below H1.out (by simp))
      obtain ⟨p0, p1, _, _⟩ := PA1.out
      have HB1 : Hid (Below w.heap.size w w1) := ((Below.refl _ _).alloc (Nat.le_refl _) _).trans (H1.out.mono (by simp))
      go_wp2_with fail
      refine (CS.out _).mono ?_
      rintro e w2 ⟨rfl, hb1⟩
      have H2 := Lib.hid hb1; clear hb1 p0 p1
      have HB2 : Hid (Below w.heap.size w w2) := HB1.out.trans (H2.out.mono (by have := HB1.out.size; omega))
      clear PA PA1 H1 H2 HB1
      go_wp2_with fail
      refine (CA.out _).mono ?_
      rintro e w' ⟨rfl, rfl⟩
      go_wp2_with fail
      refine (CD.out _).mono ?_
      rintro e w3 ⟨rfl, nd, rfl⟩
      go_wp2
      all_goals
        go_ret2
        refine ⟨ret_ie ?_ ?_, below_drewN (HB2.out.alloc HB2.out.size _) _⟩ <;> go_light <;> (try simp only [IntKind.wrap_u64]) <;> (try unfold wrap64) <;> first | omega | (split <;> omega)
  · subst hup
    have PA := Lib.hid (p2_new w (.int .i64 hi) (.int .i64 lo) /-T-/ 156)
    go_enter Tryz.func174, Tryz.ntmps174
    go_wp2_with fail
    refine (CV.out _).mono ?_
    rintro e w1 ⟨rfl, hb1⟩
    have H1 := Lib.hid hb1; clear hb1
    have PA1 := Lib.hid (PA.out.below H1.out (by simp))
    obtain ⟨p0, p1, _, _⟩ := PA1.out
    have HB1 : Hid (Below w.heap.size w w1) := ((Below.refl _ _).alloc (Nat.le_refl _) _).trans (H1.out.mono (by simp))
    go_wp2_with fail
    refine (CS.out _).mono ?_
    rintro e w2 ⟨rfl, hb1⟩
    have H2 := Lib.hid hb1; clear hb1 p0 p1
    have HB2 : Hid (Below w.heap.size w w2) := HB1.out.trans (H2.out.mono (by have := HB1.out.size; omega))
    clear PA PA1 H1 H2 HB1
    go_wp2_with fail
    refine (CA.out _).mono ?_
    rintro e w' ⟨rfl, rfl⟩
    go_wp2_with fail
    refine (CD.out _).mono ?_
    rintro e w3 ⟨rfl, nd, rfl⟩
    go_wp2
    all_goals
      go_ret2
      refine ⟨ret_ie ?_ ?_, below_drewN (HB2.out.alloc HB2.out.size _) _⟩ <;> go_light <;> (try simp only [IntKind.wrap_u64]) <;> (try unfold wrap64) <;> first | omega | (split <;> omega)
set_option maxRecDepth 100000 in
set_option maxHeartbeats 1000000 in
theorem wq_p_i (hi lo b x y q r : Int) (w : World) (hb : 0 < b) (hb2 : b ≤ 9223372036854775807) (x2 : 0 ≤ x) (x1 : x ≤ 68719476736) (k2 : 0 ≤ r) (k4 : 0 ≤ q) (hr : 0 < r) (hlt : x < b) (k5 : q < 18446744073709551616)
    (CV : Hid (∀ w : World, Calls Tryz.prog 191 #[.agg #[.int .i64 hi, .int .i64 lo]] w fun e w' => e = .returned (.bool true) ∧ Below w.heap.size w w'))
    (CS : Hid (∀ w : World, Calls Tryz.prog 192 #[.agg #[.int .i64 hi, .int .i64 lo]] w fun e w' => e = .returned (.agg #[.int .u64 x, .int .u64 y, .bool false]) ∧ Below w.heap.size w w'))
    (CA : Hid (∀ w : World, Calls Tryz.prog 172 #[.int .i64 b] w fun e w' => e = .returned (.int .u64 b) ∧ w = w'))
    (CD : Hid (∀ w : World, Calls Tryz.prog 193 #[.int .u64 x, .int .u64 y, .int .u64 b] w fun e w' => e = .returned (.tuple #[.int .u64 q, .int .u64 r]) ∧ ∃ n, w' = w.drewN n))
    : Calls Tryz.prog 174 #[.agg #[.int .i64 hi, .int .i64 lo], .int .i64 b, .bool true] w fun e w' => e = .returned (.tuple #[.int .i64 (if (q + 1) < 9223372036854775808 then (q + 1) else 0), .int .i64 (if (q + 1) < 9223372036854775808 then 0 else 5)]) ∧ Below w.heap.size w w' := by
  have hbe : (b == 0) = false := by simp; omega
  have hbd : decide (b < 0) = false := by simp; omega
  by_cases hov : q = 18446744073709551615
  · subst hov
    rw [if_neg (by omega), if_neg (by omega)]
    have PA := Lib.hid (p2_new w (.int .i64 hi) (.int .i64 lo) /-T-/ 156)
    go_enter Tryz.func174, Tryz.ntmps174
    go_wp2_with fail
    refine (CV.out _).mono ?_
    rintro e w1 ⟨rfl, hb1⟩
    have H1 := Lib.hid hb1; clear hb1
    have PA1 := Lib.hid (PA.out.below H1.out (by simp))
    obtain ⟨p0, p1, _, _⟩ := PA1.out
    have HB1 : Hid (Below w.heap.size w w1) := ((Below.refl _ _).alloc (Nat.le_refl _) _).trans (H1.out.mono (by simp))
    go_wp2_with fail
    refine (CS.out _).mono ?_
    rintro e w2 ⟨rfl, hb1⟩
    have H2 := Lib.hid hb1; clear hb1 p0 p1
    have HB2 : Hid (Below w.heap.size w w2) := HB1.out.trans (H2.out.mono (by have := HB1.out.size; omega))
    clear PA PA1 H1 H2 HB1
    go_wp2_with fail
    refine (CA.out _).mono ?_
    rintro e w' ⟨rfl, rfl⟩
    go_wp2_with fail
    refine (CD.out _).mono ?_
    rintro e w3 ⟨rfl, nd, rfl⟩
    go_wp2
    all_goals
      go_ret2
      exact ⟨rfl, below_drewN (HB2.out.alloc HB2.out.size _) _⟩
  · have hov2 : q + 1 < 18446744073709551616 := by omega
    have hov3 : (q + 1 == 0) = false := by simp; omega
    have PA := Lib.hid (p2_new w (.int .i64 hi) (.int .i64 lo) /-T-/ 156)
    go_enter Tryz.func174, Tryz.ntmps174
    go_wp2_with fail
    refine (CV.out _).mono ?_
    rintro e w1 ⟨rfl, hb1⟩
    have H1 := Lib.hid hb1; clear hb1
    have PA1 := Lib.hid (PA.out.below H1.out (by simp))
    obtain ⟨p0, p1, _, _⟩ := PA1.out
    have HB1 : Hid (Below w.heap.size w w1) := ((Below.refl _ _).alloc (Nat.le_refl _) _).trans (H1.out.mono (by simp))
    go_wp2_with fail
    refine (CS.out _).mono ?_
    rintro e w2 ⟨rfl, hb1⟩
    have H2 := Lib.hid hb1; clear hb1 p0 p1
    have HB2 : Hid (Below w.heap.size w w2) := HB1.out.trans (H2.out.mono (by have := HB1.out.size; omega))
    clear PA PA1 H1 H2 HB1
    go_wp2_with fail
    refine (CA.out _).mono ?_
    rintro e w' ⟨rfl, rfl⟩
    go_wp2_with fail
    refine (CD.out _).mono ?_
    rintro e w3 ⟨rfl, nd, rfl⟩
    go_wp2
    all_goals
      go_ret2
      refine ⟨ret_ie ?_ ?_, below_drewN (HB2.out.alloc HB2.out.size _) _⟩ <;> go_light <;> (try simp only [IntKind.wrap_u64]) <;> (try unfold wrap64) <;> first | omega | (split <;> omega)
theorem fit_in (r : Int) (h : -9223372036854775808 ≤ r ∧ r ≤ 9223372036854775807) : fitV r = r ∧ fitE r = 0 := by unfold fitV fitE; rw [if_pos h, if_pos h]; exact ⟨rfl, rfl⟩
theorem fit_out (r : Int) (h : ¬(-9223372036854775808 ≤ r ∧ r ≤ 9223372036854775807)) : fitV r = 0 ∧ fitE r = 5 := by unfold fitV fitE; rw [if_neg h, if_neg h]; exact ⟨rfl, rfl⟩
theorem fit_neg (q : Int) (h : 0 ≤ q) : fitV (-q) = (if q ≤ 9223372036854775808 then -q else 0) ∧ fitE (-q) = (if q ≤ 9223372036854775808 then 0 else 5) := by
  by_cases h2 : q ≤ 9223372036854775808
  · rw [if_pos h2, if_pos h2]; exact fit_in _ (by omega)
  · rw [if_neg h2, if_neg h2]; exact fit_out _ (by omega)
theorem fit_pos (q : Int) (h : 0 ≤ q) : fitV q = (if q < 9223372036854775808 then q else 0) ∧ fitE q = (if q < 9223372036854775808 then 0 else 5) := by
  by_cases h2 : q < 9223372036854775808
  · rw [if_pos h2, if_pos h2]; exact fit_in _ (by omega)
  · rw [if_neg h2, if_neg h2]; exact fit_out _ (by omega)
theorem c_wquot (hi lo V b : Int) (up : Bool) (w : World) (h : WV hi lo V) (hb : 0 < b) (hb2 : b ≤ 9223372036854775807) :
    Calls Tryz.prog 174 #[.agg #[.int .i64 hi, .int .i64 lo], .int .i64 b, .bool up] w fun e w' => e = .returned (.tuple #[.int .i64 (fitV (quo V b up)), .int .i64 (fitE (quo V b up))]) ∧ Below w.heap.size w w' := by
  have CV := Lib.hid (fun w => c_wValid hi lo V w h)
  have CS := fun w => c_wsizeOf hi lo V w h
  have CA := fun w => c_wabs b w ⟨by omega, by omega⟩
  have hv := h.v0; have hv1 := h.v1
  clear h
  have x1 : ((V.natAbs / 18446744073709551616 : Nat) : Int) ≤ 68719476736 := by omega
  have x2 : (0 : Int) ≤ ((V.natAbs / 18446744073709551616 : Nat) : Int) := by omega
  have y1 : ((V.natAbs % 18446744073709551616 : Nat) : Int) < 18446744073709551616 := by omega
  have y2 : (0 : Int) ≤ ((V.natAbs % 18446744073709551616 : Nat) : Int) := by omega
  have z : ((V.natAbs / 18446744073709551616 : Nat) : Int) * 18446744073709551616 + ((V.natAbs % 18446744073709551616 : Nat) : Int) = (V.natAbs : Int) := by omega
  have db : (b.natAbs : Int) = b := by omega
  rw [db] at CA
  have CA := Lib.hid CA
  generalize ((V.natAbs / 18446744073709551616 : Nat) : Int) = x at *
  generalize ((V.natAbs % 18446744073709551616 : Nat) : Int) = y at *
  have CD := fun w hlt => c_Div64 x y b w ⟨by omega, by omega⟩ ⟨by omega, by omega⟩ ⟨by omega, by omega⟩ hlt
  have dqf : dq x y b = (x * 18446744073709551616 + y) / b ∧ dr x y b = (x * 18446744073709551616 + y) % b := ⟨rfl, rfl⟩
  have dqf2 : b * dq x y b + dr x y b = (V.natAbs : Int) ∧ 0 ≤ dr x y b ∧ dr x y b < b ∧ 0 ≤ dq x y b ∧ (x < b → dq x y b < 18446744073709551616) := by
    rw [dqf.1, dqf.2, z]
    have h1 := Int.mul_ediv_add_emod (V.natAbs : Int) b
    have h2 := Int.emod_nonneg (V.natAbs : Int) (show b ≠ 0 by omega)
    have h3 := Int.emod_lt_of_pos (V.natAbs : Int) hb
    have h4 := Int.ediv_nonneg (show 0 ≤ (V.natAbs : Int) by omega) (show 0 ≤ b by omega)
    refine ⟨by omega, h2, h3, h4, fun hx => ?_⟩
    apply Int.ediv_lt_of_lt_mul hb
    rw [← z]
    have : (x + 1) * 18446744073709551616 ≤ b * 18446744073709551616 := Int.mul_le_mul_of_nonneg_right (by omega) (by omega)
    omega
  obtain ⟨k1, k2, k3, k4, k5⟩ := dqf2
  have qp := quo_parts V b hb _ _ k1.symm k2 k3
  have hbig : ¬ x < b → 18446744073709551616 ≤ dq x y b := by
    intro hx
    rw [dqf.1]
    apply Int.le_ediv_of_mul_le hb
    have : 18446744073709551616 * b ≤ 18446744073709551616 * x := Int.mul_le_mul_of_nonneg_left (by omega) (by omega)
    omega
  clear dqf k1 z db
  generalize dq x y b = q at *
  generalize dr x y b = r at *
  by_cases hlt : x < b
  · have CD1 := Lib.hid (fun w => CD w hlt)
    have k5 := k5 hlt
    by_cases hV : V < 0
    · simp only [hV, decide_true] at CS
      have CS := Lib.hid CS
      cases up
      · by_cases hr : 0 < r
        · rw [qp.1 hV hr, (fit_neg (q + 1) (by omega)).1, (fit_neg (q + 1) (by omega)).2]
          exact wq_n_i hi lo b x y q r w hb hb2 x2 x1 k2 k4 hr hlt k5 CV CS CA CD1
        · rw [qp.2.1 hV hr, (fit_neg q k4).1, (fit_neg q k4).2]
          exact wq_n_k hi lo b x y q r w hb hb2 x2 x1 k2 k4 false (.inr (by omega)) hlt k5 CV CS CA CD1
      · rw [qp.2.2.1 hV, (fit_neg q k4).1, (fit_neg q k4).2]
        exact wq_n_k hi lo b x y q r w hb hb2 x2 x1 k2 k4 true (.inl rfl) hlt k5 CV CS CA CD1
    · simp only [hV, decide_false] at CS
      have CS := Lib.hid CS
      cases up
      · rw [qp.2.2.2.1 hV, (fit_pos q k4).1, (fit_pos q k4).2]
        exact wq_p_k hi lo b x y q r w hb hb2 x2 x1 k2 k4 false (.inl rfl) hlt k5 CV CS CA CD1
      · by_cases hr : 0 < r
        · rw [qp.2.2.2.2.1 hV hr, (fit_pos (q + 1) (by omega)).1, (fit_pos (q + 1) (by omega)).2]
          exact wq_p_i hi lo b x y q r w hb hb2 x2 x1 k2 k4 hr hlt k5 CV CS CA CD1
        · rw [qp.2.2.2.2.2 hV hr, (fit_pos q k4).1, (fit_pos q k4).2]
          exact wq_p_k hi lo b x y q r w hb hb2 x2 x1 k2 k4 true (.inr (by omega)) hlt k5 CV CS CA CD1
  · have h5 := hbig hlt
    have hbnd : quo V b up ≤ -18446744073709551616 ∨ 18446744073709551616 ≤ quo V b up := by
      by_cases hV : V < 0 <;> by_cases hr : 0 < r <;> cases up
      · rw [qp.1 hV hr]; omega
      · rw [qp.2.2.1 hV]; omega
      · rw [qp.2.1 hV hr]; omega
      · rw [qp.2.2.1 hV]; omega
      · rw [qp.2.2.2.1 hV]; omega
      · rw [qp.2.2.2.2.1 hV hr]; omega
      · rw [qp.2.2.2.1 hV]; omega
      · rw [qp.2.2.2.2.2 hV hr]; omega
    have hf := fit_out (quo V b up) (by omega)
    rw [hf.1, hf.2]
    exact wq_big _ up hi lo b x y q r w hb hb2 x2 x1 k2 k4 (by omega) CV (Lib.hid CS) CA
set_option maxRecDepth 100000 in
theorem c_wFloor (hi lo V b : Int) (w : World) (h : WV hi lo V) (hb : 0 < b) (hb2 : b ≤ 9223372036854775807) :
    Calls Tryz.prog 147 #[.agg #[.int .i64 hi, .int .i64 lo], .int .i64 b] w fun e w' => e = .returned (.tuple #[.int .i64 (fitV (V / b)), .int .i64 (fitE (V / b))]) ∧ Below w.heap.size w w' := by
  have CQ := Lib.hid (fun w => c_wquot hi lo V b false w h hb hb2)
  have e : quo V b false = V / b := by simp [quo]
  rw [e] at CQ; clear e
  generalize V / b = F at *
  clear h
  go_enter Tryz.func147, Tryz.ntmps147
  go_wp2_with fail
  refine (CQ.out _).mono ?_
  rintro e w1 ⟨rfl, hb1⟩
  have H1 := Lib.hid hb1; clear hb1
  go_wp2
  go_ret2
  exact ⟨rfl, ((Below.refl _ _).alloc (Nat.le_refl _) _).trans (H1.out.mono (by simp))⟩
set_option maxRecDepth 100000 in
theorem c_wCeil (hi lo V b : Int) (w : World) (h : WV hi lo V) (hb : 0 < b) (hb2 : b ≤ 9223372036854775807) :
    Calls Tryz.prog 148 #[.agg #[.int .i64 hi, .int .i64 lo], .int .i64 b] w fun e w' => e = .returned (.tuple #[.int .i64 (fitV (-((-V) / b))), .int .i64 (fitE (-((-V) / b)))]) ∧ Below w.heap.size w w' := by
  have CQ := Lib.hid (fun w => c_wquot hi lo V b true w h hb hb2)
  have e : quo V b true = -((-V) / b) := by simp [quo]
  rw [e] at CQ; clear e
  generalize -((-V) / b) = F at *
  clear h
  go_enter Tryz.func148, Tryz.ntmps148
  go_wp2_with fail
  refine (CQ.out _).mono ?_
  rintro e w1 ⟨rfl, hb1⟩
  have H1 := Lib.hid hb1; clear hb1
  go_wp2
  go_ret2
  exact ⟨rfl, ((Below.refl _ _).alloc (Nat.le_refl _) _).trans (H1.out.mono (by simp))⟩
end Go.Proofs.YtlloiallkcfomaaGreat
