/- The contracts of package fixed: Valid, enclose, Scale, Quotient. -/
import Derived.Test.YtlloiallkcfomaaGreatWide2
set_option linter.unusedVariables false
set_option linter.unusedSimpArgs false
namespace Go.Proofs.YtlloiallkcfomaaGreat
open Go.RowKit Alm

/-- an interval is valid -/
def fxV (lo hi : Int) : Bool := decide (-2147483648 ≤ lo ∧ lo ≤ hi ∧ hi ≤ 2147483648)
theorem fxV_iff (lo hi : Int) : fxV lo hi = true ↔ -2147483648 ≤ lo ∧ lo ≤ hi ∧ hi ≤ 2147483648 := by unfold fxV; simp
theorem c_fValid (lo hi : Int) (w : World) :
    Calls Tryz.prog 67 #[.agg #[.int .i64 lo, .int .i64 hi]] w fun e w' => e = .returned (.bool (fxV lo hi)) ∧ Below w.heap.size w w' := by
  go_enter Tryz.func67, Tryz.ntmps67
  go_wp2
  all_goals
    go_ret
    exact ⟨ret_bool (by unfold fxV; rw [Bool.eq_iff_iff]; simp <;> omega), by go_grown⟩
def factB (n : Int) : Bool := decide (-1099511627776 ≤ n ∧ n ≤ 1099511627776)
theorem c_factor (n : Int) (w : World) :
    Calls Tryz.prog 97 #[.int .i64 n] w fun e w' => e = .returned (.bool (factB n)) ∧ w = w' := by
  go_enter Tryz.func97, Tryz.ntmps97
  go_wp2
  all_goals
    go_ret
    exact ⟨ret_bool (by unfold factB; rw [Bool.eq_iff_iff]; simp <;> omega), rfl⟩
def zeroB (lo hi : Int) : Bool := decide (lo ≤ 0 ∧ 0 ≤ hi)
theorem c_fzero (lo hi : Int) (w : World) :
    Calls Tryz.prog 98 #[.agg #[.int .i64 lo, .int .i64 hi]] w fun e w' => e = .returned (.bool (zeroB lo hi)) ∧ Below w.heap.size w w' := by
  go_enter Tryz.func98, Tryz.ntmps98
  go_wp2
  all_goals
    go_ret
    exact ⟨ret_bool (by unfold zeroB; rw [Bool.eq_iff_iff]; simp <;> omega), by go_grown⟩
theorem c_fboth (a b c d : Int) (w : World) :
    Calls Tryz.prog 96 #[.agg #[.int .i64 a, .int .i64 b], .agg #[.int .i64 c, .int .i64 d]] w fun e w' => e = .returned (.bool (fxV a b && fxV c d)) ∧ Below w.heap.size w w' := by
  have PA := Lib.hid (p2_new w (.int .i64 a) (.int .i64 b) /-T-/ 41)
  have PB := Lib.hid (p2_new (w.alloc (.cells #[.int .i64 a, .int .i64 b] /-T-/ 41)) (.int .i64 c) (.int .i64 d) /-T-/ 41)
  have C1 := Lib.hid (fun w => c_fValid a b w)
  have C2 := Lib.hid (fun w => c_fValid c d w)
  generalize fxV a b = u at *
  generalize fxV c d = v at *
  cases u
  · go_enter Tryz.func96, Tryz.ntmps96
    go_wp2_with fail
    refine (C1.out _).mono ?_
    rintro e w1 ⟨rfl, hb1⟩
    have H1 := Lib.hid hb1; clear hb1
    go_wp2
    go_ret
    exact ⟨rfl, (((Below.refl _ _).alloc (Nat.le_refl _) _).alloc (by simp) _).trans (H1.out.mono (by simp; omega))⟩
  · go_enter Tryz.func96, Tryz.ntmps96
    go_wp2_with fail
    refine (C1.out _).mono ?_
    rintro e w1 ⟨rfl, hb1⟩
    have H1 := Lib.hid hb1; clear hb1
    have PB1 := Lib.hid (PB.out.below H1.out (by simp))
    obtain ⟨p0, p1, _, _⟩ := PB1.out
    simp only [World.size_alloc] at p0 p1
    have HB1 : Hid (Below w.heap.size w w1) := (((Below.refl _ _).alloc (Nat.le_refl _) _).alloc (by simp) _).trans (H1.out.mono (by simp; omega))
    go_wp2_with fail
    refine (C2.out _).mono ?_
    rintro e w2 ⟨rfl, hb1⟩
    have H2 := Lib.hid hb1; clear hb1
    go_wp2
    go_ret
    exact ⟨by cases v <;> rfl, HB1.out.trans (H2.out.mono HB1.out.size)⟩
/-- the quotient of a product, rounded down and up -/
def qFl (x n d : Int) : Int := x * n / d
def qCe (x n d : Int) : Int := -((-(x * n)) / d)
def In64 (r : Int) : Prop := -9223372036854775808 ≤ r ∧ r ≤ 9223372036854775807
theorem wv_prod (x n : Int) (h : x.natAbs * n.natAbs ≤ 1267650600228229401496703205376) : WV (x * n / 1152921504606846976) (x * n % 1152921504606846976) (x * n) := by
  have e := Int.natAbs_mul x n
  apply wv_mk <;> omega
theorem c_encl_ok (x n d : Int) (w : World) (hx : I64 x) (hn : I64 n) (h : x.natAbs * n.natAbs ≤ 1267650600228229401496703205376) (hd : 0 < d) (hd2 : d ≤ 9223372036854775807) (h1 : In64 (qFl x n d)) (h2 : In64 (qCe x n d)) :
    Calls Tryz.prog 99 #[.int .i64 x, .int .i64 n, .int .i64 d] w fun e w' => e = .returned (.tuple #[.int .i64 (qFl x n d), .int .i64 (qCe x n d), .int .i64 0]) ∧ Below w.heap.size w w' := by
  have C1 := Lib.hid (fun w => c_Product x n w hx hn h)
  have C2 := fun w => c_wFloor _ _ _ d w (wv_prod x n h) hd hd2
  have C3 := fun w => c_wCeil _ _ _ d w (wv_prod x n h) hd hd2
  have e1 : x * n / d = qFl x n d := rfl
  have e2 : -((-(x * n)) / d) = qCe x n d := rfl
  rw [e1, (fit_in _ h1).1, (fit_in _ h1).2] at C2
  rw [e2, (fit_in _ h2).1, (fit_in _ h2).2] at C3
  have C2 := Lib.hid C2; have C3 := Lib.hid C3
  clear e1 e2 h1 h2 h hx hn
  generalize qFl x n d = F at *
  generalize qCe x n d = G at *
  generalize x * n / 1152921504606846976 = hi at *
  generalize x * n % 1152921504606846976 = lo at *
  go_enter Tryz.func99, Tryz.ntmps99
  go_wp2_with fail
  refine (C1.out _).mono ?_
  rintro e w1 ⟨rfl, hb1⟩
  have H1 := Lib.hid hb1; clear hb1
  have PR := Lib.hid (p2_new w1 (.int .i64 hi) (.int .i64 lo) /-T-/ 156)
  go_wp2_with fail
  refine (C2.out _).mono ?_
  rintro e w2 ⟨rfl, hb1⟩
  have H2 := Lib.hid hb1; clear hb1
  have PR2 := Lib.hid (PR.out.below H2.out (by simp))
  obtain ⟨p0, p1, _, _⟩ := PR2.out
  have S2 := Lib.hid (show w1.heap.size < w2.heap.size by have := H2.out.size; simp at this; omega)
  go_wp2_with fail
  refine (C3.out _).mono ?_
  rintro e w3 ⟨rfl, hb1⟩
  have H3 := Lib.hid hb1; clear hb1
  go_wp2
  go_ret3
  exact ⟨rfl, ((H1.out.alloc H1.out.size _).trans (H2.out.mono (by have := H1.out.size; simp; omega))).trans (H3.out.mono (by have := H1.out.size; have := S2.out; omega))⟩
theorem c_encl_big (x n d : Int) (w : World) (hx : I64 x) (hn : I64 n) (h : x.natAbs * n.natAbs ≤ 1267650600228229401496703205376) (hd : 0 < d) (hd2 : d ≤ 9223372036854775807) (h1 : ¬ (In64 (qFl x n d) ∧ In64 (qCe x n d))) :
    Calls Tryz.prog 99 #[.int .i64 x, .int .i64 n, .int .i64 d] w fun e w' => (∃ a b : Int, e = .returned (.tuple #[.int .i64 a, .int .i64 b, .int .i64 5])) ∧ Below w.heap.size w w' := by
  have C1 := Lib.hid (fun w => c_Product x n w hx hn h)
  have C2 := fun w => c_wFloor _ _ _ d w (wv_prod x n h) hd hd2
  have C3 := fun w => c_wCeil _ _ _ d w (wv_prod x n h) hd hd2
  have e1 : x * n / d = qFl x n d := rfl
  have e2 : -((-(x * n)) / d) = qCe x n d := rfl
  rw [e1] at C2
  rw [e2] at C3
  clear e1 e2 h hx hn
  generalize qFl x n d = F at *
  generalize qCe x n d = G at *
  generalize x * n / 1152921504606846976 = hi at *
  generalize x * n % 1152921504606846976 = lo at *
  by_cases hF : In64 F
  · have hG : ¬ In64 G := fun hG => h1 ⟨hF, hG⟩
    rw [(fit_in _ hF).1, (fit_in _ hF).2] at C2
    rw [(fit_out _ hG).1, (fit_out _ hG).2] at C3
    have C2 := Lib.hid C2; have C3 := Lib.hid C3
    clear h1 hF hG
    go_enter Tryz.func99, Tryz.ntmps99
    go_wp2_with fail
    refine (C1.out _).mono ?_
    rintro e w1 ⟨rfl, hb1⟩
    have H1 := Lib.hid hb1; clear hb1
    have PR := Lib.hid (p2_new w1 (.int .i64 hi) (.int .i64 lo) /-T-/ 156)
    go_wp2_with fail
    refine (C2.out _).mono ?_
    rintro e w2 ⟨rfl, hb1⟩
    have H2 := Lib.hid hb1; clear hb1
    have PR2 := Lib.hid (PR.out.below H2.out (by simp))
    obtain ⟨p0, p1, _, _⟩ := PR2.out
    have S2 := Lib.hid (show w1.heap.size < w2.heap.size by have := H2.out.size; simp at this; omega)
    go_wp2_with fail
    refine (C3.out _).mono ?_
    rintro e w3 ⟨rfl, hb1⟩
    have H3 := Lib.hid hb1; clear hb1
    go_wp2
    go_ret3
    exact ⟨⟨_, _, rfl⟩, ((H1.out.alloc H1.out.size _).trans (H2.out.mono (by have := H1.out.size; simp; omega))).trans (H3.out.mono (by have := H1.out.size; have := S2.out; omega))⟩
  · rw [(fit_out _ hF).1, (fit_out _ hF).2] at C2
    have C2 := Lib.hid C2
    clear h1 hF C3
    go_enter Tryz.func99, Tryz.ntmps99
    go_wp2_with fail
    refine (C1.out _).mono ?_
    rintro e w1 ⟨rfl, hb1⟩
    have H1 := Lib.hid hb1; clear hb1
    have PR := Lib.hid (p2_new w1 (.int .i64 hi) (.int .i64 lo) /-T-/ 156)
    go_wp2_with fail
    refine (C2.out _).mono ?_
    rintro e w2 ⟨rfl, hb1⟩
    have H2 := Lib.hid hb1; clear hb1
    go_wp2
    go_ret3
    exact ⟨⟨_, _, rfl⟩, (H1.out.alloc H1.out.size _).trans (H2.out.mono (by have := H1.out.size; simp; omega))⟩
end Go.Proofs.YtlloiallkcfomaaGreat
