/- The contract of the reference's Quotient. -/
import Derived.Test.YtlloiallkcfomaaGreatRef7
import Derived.Test.YtlloiallkcfomaaGreatDlon
set_option linter.unusedVariables false
set_option linter.unusedSimpArgs false
namespace Go.Proofs.YtlloiallkcfomaaGreat
open Go.RowKit Alm
theorem c_rzero (lo hi : Int) (w : World) :
    Calls Tryz.prog 103 #[.agg #[.int .i64 lo, .int .i64 hi]] w fun e w' => e = .returned (.bool (zeroB lo hi)) ∧ Below w.heap.size w w' := by
  go_enter Tryz.func103, Tryz.ntmps103
  go_wp2
  all_goals
    go_ret
    exact ⟨ret_bool (by unfold zeroB; rw [Bool.eq_iff_iff]; simp <;> omega), by go_grown⟩
theorem c_turned2 (b1 b2 : Int) (w : World) (h : 0 < b1) :
    Calls Tryz.prog 104 #[.agg #[.int .i64 1073741824, .int .i64 1073741824], .agg #[.int .i64 b1, .int .i64 b2]] w fun e w' => e = .returned (.tuple #[.agg #[.int .i64 1073741824, .int .i64 1073741824], .agg #[.int .i64 b1, .int .i64 b2]]) ∧ Below w.heap.size w w' := by
  go_enter Tryz.func104, Tryz.ntmps104
  go_wp2
  go_region
  all_goals
    go_wp2
    refine bodyPost_ret (by simp [results, Tryz.results104, go_sem]; try rfl) rfl ⟨rfl, by go_light; go_grown⟩
def bigB (n y : Int) : Bool := decide (2 ≤ 1073741824 / y) && decide (4194304 < (n.natAbs : Int) / 1048576 * (1073741824 / y))
set_option maxRecDepth 100000 in
theorem c_big (n y : Int) (w : World) (hn : factB n = true) (hy : 0 < y) :
    Calls Tryz.prog 105 #[.int .i64 1073741824, .int .i64 n, .int .i64 y] w fun e w' => e = .returned (.bool (bigB n y)) ∧ w = w' := by
  have hnb : -1099511627776 ≤ n ∧ n ≤ 1099511627776 := by unfold factB at hn; simpa using hn
  obtain ⟨n1, n2⟩ := hnb
  have x0 : 0 ≤ 1073741824 / y ∧ 1073741824 / y ≤ 1073741824 := by
    have h1 := Int.ediv_nonneg (show (0 : Int) ≤ 1073741824 by omega) (show 0 ≤ y by omega)
    have h2 := div_bd 1073741824 y 1073741824 hy (by omega) (by omega)
    omega
  obtain ⟨x0, x1⟩ := x0
  have hy0 : ¬ y = 0 := by omega
  have hb : bigB n y = (decide (2 ≤ 1073741824 / y) && decide (4194304 < (n.natAbs : Int) / 1048576 * (1073741824 / y))) := rfl
  have p : ∀ N : Int, 0 ≤ N → N ≤ 1048576 → 0 ≤ N * (1073741824 / y) ∧ N * (1073741824 / y) ≤ 1125899906842624 := by
    intro N a b
    have c := Int.mul_nonneg a x0
    have d : N * (1073741824 / y) ≤ 1048576 * 1073741824 := Int.mul_le_mul b x1 x0 (by omega)
    omega
  generalize hXe : 1073741824 / y = X at *
  rw [hb]; clear hb hn
  by_cases hs : n < 0
  · obtain ⟨m, rfl⟩ : ∃ m : Int, n = -m := ⟨-n, by omega⟩
    have e : ((-m).natAbs : Int) = m := by omega
    rw [e]; clear e
    obtain ⟨p1, p2⟩ := p (m / 1048576) (by omega) (by omega)
    clear p
    by_cases hX : 2 ≤ X
    all_goals
      go_enter Tryz.func105, Tryz.ntmps105
      go_wp2
      all_goals
        go_ret
        exact ⟨ret_bool (by go_light; first | rfl | (rw [Bool.eq_iff_iff]; done) | (rw [Bool.eq_iff_iff]; simp <;> omega)), rfl⟩
  · have e : (n.natAbs : Int) = n := by omega
    rw [e]; clear e
    obtain ⟨p1, p2⟩ := p (n / 1048576) (by omega) (by omega)
    clear p
    by_cases hX : 2 ≤ X
    all_goals
      go_enter Tryz.func105, Tryz.ntmps105
      go_wp2
      all_goals
        go_ret
        exact ⟨ret_bool (by go_light; first | rfl | (rw [Bool.eq_iff_iff]; done) | (rw [Bool.eq_iff_iff]; simp <;> omega)), rfl⟩
theorem big_yes (n b1 b2 : Int) (h1 : 0 < b1) (h : bigB n b1 = true) : qtOk b1 b2 n = false := by
  unfold bigB at h
  simp only [Bool.and_eq_true, decide_eq_true_eq] at h
  obtain ⟨hX, hN⟩ := h
  have a := Int.mul_ediv_add_emod 1073741824 b1
  have b := Int.emod_nonneg 1073741824 (show b1 ≠ 0 by omega)
  have c : (n.natAbs : Int) / 1048576 * 1048576 ≤ (n.natAbs : Int) := by omega
  have hN0 : 0 ≤ (n.natAbs : Int) / 1048576 := by omega
  generalize 1073741824 / b1 = X at *
  generalize (n.natAbs : Int) / 1048576 = N at *
  have key : b1 * (N * X * 1048576) ≤ 1073741824 * (n.natAbs : Int) := by
    have e1 : b1 * X ≤ 1073741824 := by omega
    have e2 : (b1 * X) * (N * 1048576) ≤ 1073741824 * (n.natAbs : Int) := Int.mul_le_mul e1 c (by omega) (by omega)
    have e3 : b1 * (N * X * 1048576) = (b1 * X) * (N * 1048576) := by grind
    omega
  have hle := (qFl_bd 1073741824 n b1 ((1073741824 : Int).natAbs * n.natAbs : Nat) (by omega) (Int.le_refl _)).2.2.2.2.1
  unfold qtOk
  rw [Bool.and_eq_false_iff]
  by_cases hs : n < 0
  · left
    have hq : qFl 1073741824 n b1 ≤ -(N * X * 1048576) := by
      unfold qFl
      apply Int.ediv_le_of_le_mul h1
      have e : (n.natAbs : Int) = -n := by omega
      rw [e] at key
      have : -(N * X * 1048576) * b1 = -(b1 * (N * X * 1048576)) := by grind
      omega
    unfold factB qtLo; rw [decide_eq_false_iff_not]
    omega
  · right
    have hq : N * X * 1048576 ≤ qFl 1073741824 n b1 := by
      unfold qFl
      apply Int.le_ediv_of_mul_le h1
      have e : (n.natAbs : Int) = n := by omega
      rw [e] at key
      have : N * X * 1048576 * b1 = b1 * (N * X * 1048576) := by grind
      omega
    unfold factB qtHi; rw [decide_eq_false_iff_not]
    omega
theorem big_no (n b1 : Int) (h1 : 0 < b1) (h2 : b1 ≤ 2147483648) (hn : -1099511627776 ≤ n ∧ n ≤ 1099511627776) (h : bigB n b1 = false) : -(2251799813685248 * b1) ≤ 1073741824 * n ∧ 1073741824 * n ≤ 2251799813685248 * b1 := by
  unfold bigB at h
  rw [Bool.and_eq_false_iff, decide_eq_false_iff_not, decide_eq_false_iff_not] at h
  have a := Int.mul_ediv_add_emod 1073741824 b1
  have b := Int.emod_lt_of_pos 1073741824 h1
  have c : (n.natAbs : Int) < ((n.natAbs : Int) / 1048576 + 1) * 1048576 := by omega
  have hN0 : 0 ≤ (n.natAbs : Int) / 1048576 ∧ (n.natAbs : Int) / 1048576 ≤ 1048576 := by omega
  have x0 := Int.ediv_nonneg (show (0 : Int) ≤ 1073741824 by omega) (show 0 ≤ b1 by omega)
  have x1 := (div_bd 1073741824 b1 1073741824 h1 (by omega) (by omega)).2
  generalize 1073741824 / b1 = X at *
  generalize (n.natAbs : Int) / 1048576 = N at *
  have hNX : N * X ≤ 4194304 := by
    rcases h with h | h
    · have : N * X ≤ 1048576 * 1 := Int.mul_le_mul hN0.2 (by omega) x0 (by omega)
      omega
    · omega
  have e1 : 1073741824 ≤ b1 * (X + 1) := by rw [Int.mul_add]; omega
  have e2 : 1073741824 * (n.natAbs : Int) ≤ (b1 * (X + 1)) * ((N + 1) * 1048576) := Int.mul_le_mul e1 (by omega) (by omega) (by have := Int.mul_nonneg (show 0 ≤ b1 by omega) (show 0 ≤ X + 1 by omega); omega)
  have e3 : (b1 * (X + 1)) * ((N + 1) * 1048576) = b1 * ((N * X + X + N + 1) * 1048576) := by grind
  have e4 : b1 * ((N * X + X + N + 1) * 1048576) ≤ b1 * 2251799813685248 := Int.mul_le_mul_of_nonneg_left (by omega) (by omega)
  have e5 : b1 * 2251799813685248 = 2251799813685248 * b1 := Int.mul_comm _ _
  omega
theorem tp_quot (n b1 b : Int) (h1 : 0 < b1) (hb : b1 ≤ b) (h2 : b ≤ 2147483648) (hn : -1099511627776 ≤ n ∧ n ≤ 1099511627776) (h : bigB n b1 = false) : TP 1073741824 n b ∧ TP 1073741824 (-n) b := by
  have k := big_no n b1 h1 (by omega) hn h
  have m : 2251799813685248 * b1 ≤ 2251799813685248 * b := Int.mul_le_mul_of_nonneg_left hb (by omega)
  have key : ∀ P : Int, -(2251799813685248 * b) ≤ P → P ≤ 2251799813685248 * b → -2305843009213693952 ≤ P / b ∧ P / b ≤ 2305843009213693952 := by
    intro P p1 p2
    have q1 : -2251799813685248 ≤ P / b := by apply Int.le_ediv_of_mul_le (by omega); rw [Int.neg_mul]; exact p1
    have q2 : P / b ≤ 2251799813685248 := by apply Int.ediv_le_of_le_mul (by omega); exact p2
    omega
  unfold TP qFl
  rw [Int.mul_neg]
  exact ⟨⟨by omega, by omega, by omega, key _ (by omega) (by omega)⟩, ⟨by omega, by omega, by omega, key _ (by omega) (by omega)⟩⟩
set_option maxRecDepth 100000 in
set_option maxHeartbeats 2000000 in
theorem c_rQuot (b1 b2 n : Int) (w : World) (h1 : 0 < b1) (h2 : b1 ≤ b2) (h3 : b2 ≤ 2147483648) (hn : factB n = true) :
    Calls Tryz.prog 45 #[.agg #[.int .i64 1073741824, .int .i64 1073741824], .agg #[.int .i64 b1, .int .i64 b2], .int .i64 n] w fun e w' => e = .returned (qtR b1 b2 n) ∧ Below w.heap.size w w' := by
  have hnb : -1099511627776 ≤ n ∧ n ≤ 1099511627776 := by unfold factB at hn; simpa using hn
  have C0 := fun w => c_reaches n w
  rw [hn] at C0
  have C1 := fun w => c_rzero b1 b2 w
  rw [show zeroB b1 b2 = false by unfold zeroB; simp; omega] at C1
  have C2 := Lib.hid (fun w => c_turned2 b1 b2 w h1)
  have C3 := fun w => c_big n b1 w hn h1
  replace C0 := Lib.hid C0; replace C1 := Lib.hid C1
  cases hB : bigB n b1
  · obtain ⟨p1, p2⟩ := tp_quot n b1 b1 h1 (Int.le_refl _) (by omega) hnb hB
    obtain ⟨p3, p4⟩ := tp_quot n b1 b2 h1 h2 h3 hnb hB
    have C4 := fun w => c_corners 1073741824 1073741824 b1 b2 n w p1 p3 p1 p3 p2 p4 p2 p4
    have e1 : min (min (qFl 1073741824 n b1) (qFl 1073741824 n b2)) (min (qFl 1073741824 n b1) (qFl 1073741824 n b2)) = qtLo b1 b2 n := by unfold qtLo; omega
    have e2 : -(min (min (qFl 1073741824 (-n) b1) (qFl 1073741824 (-n) b2)) (min (qFl 1073741824 (-n) b1) (qFl 1073741824 (-n) b2))) = qtHi b1 b2 n := by
      unfold qtHi; rw [qFl_neg, qFl_neg]; omega
    rw [e1, e2] at C4
    rw [hB] at C3
    replace C3 := Lib.hid C3; replace C4 := Lib.hid C4
    have C5 := Lib.hid (fun w => c_reaches (qtLo b1 b2 n) w)
    have C6 := Lib.hid (fun w => c_reaches (qtHi b1 b2 n) w)
    have er : qtR b1 b2 n = if (factB (qtLo b1 b2 n) && factB (qtHi b1 b2 n)) then .tuple #[.int .i64 (qtLo b1 b2 n), .int .i64 (qtHi b1 b2 n), .int .i64 0] else .tuple #[.int .i64 0, .int .i64 0, .int .i64 5] := rfl
    rw [er]; clear er e1 e2 p1 p2 p3 p4 hB hnb hn h1 h2 h3
    generalize qtLo b1 b2 n = x at *
    generalize qtHi b1 b2 n = y at *
    generalize factB x = U at *
    generalize factB y = V at *
    have K0 := Lib.hid (((ks_start w).new w.heap.size rfl /-T-/ 41 #[.int .i64 1073741824, .int .i64 1073741824]).new (w.heap.size + 1) (by simp) /-T-/ 41 #[.int .i64 b1, .int .i64 b2])
    go_enter Tryz.func45, Tryz.ntmps45
    go_wp2_with fail
    refine (C0.out _).mono ?_
    rintro e w' ⟨rfl, rfl⟩
    go_wp2_with fail
    refine (C1.out _).mono ?_
    rintro e w1 ⟨rfl, hb1⟩
    have K1 := Lib.hid (K0.out.below hb1); clear hb1 K0
    have c0 := K1.out.c (g := w.heap.size + 1) (t := /-T-/ 41) (cs := #[.int .i64 b1, .int .i64 b2]) (by simp) (i := 0) rfl
    have c1 := K1.out.c (g := w.heap.size + 1) (t := /-T-/ 41) (cs := #[.int .i64 b1, .int .i64 b2]) (by simp) (i := 1) rfl
    have d0 := K1.out.c (g := w.heap.size) (t := /-T-/ 41) (cs := #[.int .i64 1073741824, .int .i64 1073741824]) (by simp) (i := 0) rfl
    have d1 := K1.out.c (g := w.heap.size) (t := /-T-/ 41) (cs := #[.int .i64 1073741824, .int .i64 1073741824]) (by simp) (i := 1) rfl
    go_wp2_with fail
    refine (C2.out _).mono ?_
    rintro e w2 ⟨rfl, hb1⟩
    have K2 := Lib.hid (K1.out.below hb1); clear hb1 K1 c0 c1 d0 d1
    have c0 := K2.out.c (g := w.heap.size + 1) (t := /-T-/ 41) (cs := #[.int .i64 b1, .int .i64 b2]) (by simp) (i := 0) rfl
    have c1 := K2.out.c (g := w.heap.size + 1) (t := /-T-/ 41) (cs := #[.int .i64 b1, .int .i64 b2]) (by simp) (i := 1) rfl
    have d0 := K2.out.c (g := w.heap.size) (t := /-T-/ 41) (cs := #[.int .i64 1073741824, .int .i64 1073741824]) (by simp) (i := 0) rfl
    have d1 := K2.out.c (g := w.heap.size) (t := /-T-/ 41) (cs := #[.int .i64 1073741824, .int .i64 1073741824]) (by simp) (i := 1) rfl
    have fc0 := K2.out.f (g := w.heap.size + 1) (t := /-T-/ 41) (cs := #[.int .i64 b1, .int .i64 b2]) (by simp) 0
    have fc1 := K2.out.f (g := w.heap.size + 1) (t := /-T-/ 41) (cs := #[.int .i64 b1, .int .i64 b2]) (by simp) 1
    have fd0 := K2.out.f (g := w.heap.size) (t := /-T-/ 41) (cs := #[.int .i64 1073741824, .int .i64 1073741824]) (by simp) 0
    have fd1 := K2.out.f (g := w.heap.size) (t := /-T-/ 41) (cs := #[.int .i64 1073741824, .int .i64 1073741824]) (by simp) 1
    have K3 := Lib.hid ((((((K2.out.sub (l' := [(w.heap.size, /-T-/ 41, #[.int .i64 1073741824, .int .i64 1073741824]), (w.heap.size + 1, /-T-/ 41, #[.int .i64 b1, .int .i64 b2])]) (by simp)).set (by go_light; omega) (by go_light; simp) 0 (.int .i64 1073741824)).set (by go_light; omega) (by go_light; simp) 1 (.int .i64 1073741824)).sub (l' := [(w.heap.size + 1, /-T-/ 41, #[.int .i64 b1, .int .i64 b2]), (w.heap.size, /-T-/ 41, #[.int .i64 1073741824, .int .i64 1073741824])]) (by simp)).set (by go_light; omega) (by go_light; simp) 0 (.int .i64 b1)).set (by go_light; omega) (by go_light; simp) 1 (.int .i64 b2))
    go_wp2_with fail
    clear c0 c1 d0 d1 fc0 fc1 fd0 fd1 K2
    simp at K3
    generalize ((((w2.setCell ⟨w.heap.size, 0, none⟩ (.int .i64 1073741824)).setCell ⟨w.heap.size, 1, none⟩ (.int .i64 1073741824)).setCell ⟨w.heap.size + 1, 0, none⟩ (.int .i64 b1)).setCell ⟨w.heap.size + 1, 1, none⟩ (.int .i64 b2)) = w3 at *
    have c0 := K3.out.c (g := w.heap.size + 1) (t := /-T-/ 41) (cs := #[.int .i64 b1, .int .i64 b2]) (by simp) (i := 0) rfl
    have c1 := K3.out.c (g := w.heap.size + 1) (t := /-T-/ 41) (cs := #[.int .i64 b1, .int .i64 b2]) (by simp) (i := 1) rfl
    have d0 := K3.out.c (g := w.heap.size) (t := /-T-/ 41) (cs := #[.int .i64 1073741824, .int .i64 1073741824]) (by simp) (i := 0) rfl
    have d1 := K3.out.c (g := w.heap.size) (t := /-T-/ 41) (cs := #[.int .i64 1073741824, .int .i64 1073741824]) (by simp) (i := 1) rfl
    refine (C3.out _).mono ?_
    rintro e w' ⟨rfl, rfl⟩
    go_wp2_with fail
    refine (C3.out _).mono ?_
    rintro e w' ⟨rfl, rfl⟩
    go_wp2_with fail
    refine (C4.out _).mono ?_
    rintro e w4 ⟨rfl, hb1⟩
    have K4 := Lib.hid (K3.out.below hb1); clear hb1 K3 c0 c1 d0 d1
    go_wp2_with fail
    refine (C5.out _).mono ?_
    rintro e w' ⟨rfl, rfl⟩
    cases U
    · go_wp2
      go_ret3
      exact ⟨rfl, K4.out.1⟩
    · go_wp2_with fail
      refine (C6.out _).mono ?_
      rintro e w' ⟨rfl, rfl⟩
      cases V
      · go_wp2
        go_ret3
        exact ⟨rfl, K4.out.1⟩
      · go_wp2
        go_ret3
        exact ⟨rfl, K4.out.1⟩
  · have hno := big_yes n b1 b2 h1 hB
    unfold qtR
    rw [hno]
    rw [hB] at C3
    replace C3 := Lib.hid C3
    clear hno hB hnb hn h1 h2 h3
    have K0 := Lib.hid (((ks_start w).new w.heap.size rfl /-T-/ 41 #[.int .i64 1073741824, .int .i64 1073741824]).new (w.heap.size + 1) (by simp) /-T-/ 41 #[.int .i64 b1, .int .i64 b2])
    go_enter Tryz.func45, Tryz.ntmps45
    go_wp2_with fail
    refine (C0.out _).mono ?_
    rintro e w' ⟨rfl, rfl⟩
    go_wp2_with fail
    refine (C1.out _).mono ?_
    rintro e w1 ⟨rfl, hb1⟩
    have K1 := Lib.hid (K0.out.below hb1); clear hb1 K0
    have c0 := K1.out.c (g := w.heap.size + 1) (t := /-T-/ 41) (cs := #[.int .i64 b1, .int .i64 b2]) (by simp) (i := 0) rfl
    have c1 := K1.out.c (g := w.heap.size + 1) (t := /-T-/ 41) (cs := #[.int .i64 b1, .int .i64 b2]) (by simp) (i := 1) rfl
    have d0 := K1.out.c (g := w.heap.size) (t := /-T-/ 41) (cs := #[.int .i64 1073741824, .int .i64 1073741824]) (by simp) (i := 0) rfl
    have d1 := K1.out.c (g := w.heap.size) (t := /-T-/ 41) (cs := #[.int .i64 1073741824, .int .i64 1073741824]) (by simp) (i := 1) rfl
    go_wp2_with fail
    refine (C2.out _).mono ?_
    rintro e w2 ⟨rfl, hb1⟩
    have K2 := Lib.hid (K1.out.below hb1); clear hb1 K1 c0 c1 d0 d1
    have c0 := K2.out.c (g := w.heap.size + 1) (t := /-T-/ 41) (cs := #[.int .i64 b1, .int .i64 b2]) (by simp) (i := 0) rfl
    have c1 := K2.out.c (g := w.heap.size + 1) (t := /-T-/ 41) (cs := #[.int .i64 b1, .int .i64 b2]) (by simp) (i := 1) rfl
    have d0 := K2.out.c (g := w.heap.size) (t := /-T-/ 41) (cs := #[.int .i64 1073741824, .int .i64 1073741824]) (by simp) (i := 0) rfl
    have d1 := K2.out.c (g := w.heap.size) (t := /-T-/ 41) (cs := #[.int .i64 1073741824, .int .i64 1073741824]) (by simp) (i := 1) rfl
    have fc0 := K2.out.f (g := w.heap.size + 1) (t := /-T-/ 41) (cs := #[.int .i64 b1, .int .i64 b2]) (by simp) 0
    have fc1 := K2.out.f (g := w.heap.size + 1) (t := /-T-/ 41) (cs := #[.int .i64 b1, .int .i64 b2]) (by simp) 1
    have fd0 := K2.out.f (g := w.heap.size) (t := /-T-/ 41) (cs := #[.int .i64 1073741824, .int .i64 1073741824]) (by simp) 0
    have fd1 := K2.out.f (g := w.heap.size) (t := /-T-/ 41) (cs := #[.int .i64 1073741824, .int .i64 1073741824]) (by simp) 1
    have K3 := Lib.hid ((((((K2.out.sub (l' := [(w.heap.size, /-T-/ 41, #[.int .i64 1073741824, .int .i64 1073741824]), (w.heap.size + 1, /-T-/ 41, #[.int .i64 b1, .int .i64 b2])]) (by simp)).set (by go_light; omega) (by go_light; simp) 0 (.int .i64 1073741824)).set (by go_light; omega) (by go_light; simp) 1 (.int .i64 1073741824)).sub (l' := [(w.heap.size + 1, /-T-/ 41, #[.int .i64 b1, .int .i64 b2]), (w.heap.size, /-T-/ 41, #[.int .i64 1073741824, .int .i64 1073741824])]) (by simp)).set (by go_light; omega) (by go_light; simp) 0 (.int .i64 b1)).set (by go_light; omega) (by go_light; simp) 1 (.int .i64 b2))
    go_wp2_with fail
    clear c0 c1 d0 d1 fc0 fc1 fd0 fd1 K2
    simp at K3
    generalize ((((w2.setCell ⟨w.heap.size, 0, none⟩ (.int .i64 1073741824)).setCell ⟨w.heap.size, 1, none⟩ (.int .i64 1073741824)).setCell ⟨w.heap.size + 1, 0, none⟩ (.int .i64 b1)).setCell ⟨w.heap.size + 1, 1, none⟩ (.int .i64 b2)) = w3 at *
    have c0 := K3.out.c (g := w.heap.size + 1) (t := /-T-/ 41) (cs := #[.int .i64 b1, .int .i64 b2]) (by simp) (i := 0) rfl
    have c1 := K3.out.c (g := w.heap.size + 1) (t := /-T-/ 41) (cs := #[.int .i64 b1, .int .i64 b2]) (by simp) (i := 1) rfl
    have d0 := K3.out.c (g := w.heap.size) (t := /-T-/ 41) (cs := #[.int .i64 1073741824, .int .i64 1073741824]) (by simp) (i := 0) rfl
    have d1 := K3.out.c (g := w.heap.size) (t := /-T-/ 41) (cs := #[.int .i64 1073741824, .int .i64 1073741824]) (by simp) (i := 1) rfl
    refine (C3.out _).mono ?_
    rintro e w' ⟨rfl, rfl⟩
    go_wp2
    go_ret3
    exact ⟨rfl, K3.out.1⟩
end Go.Proofs.YtlloiallkcfomaaGreat
