/- The contracts of the reference's Scale and Product. -/
import Derived.Test.YtlloiallkcfomaaGreatRef1
set_option linter.unusedVariables false
set_option linter.unusedSimpArgs false
namespace Go.Proofs.YtlloiallkcfomaaGreat
open Go.RowKit Alm
theorem quiet_more {P : Program} {f : FuncId} {args : Array Value} {w : World} {a n : Nat} {v : Value}
    (h : Calls P f args (w.drewN (a + n)) fun e w' => e = .returned v ∧ w' = w.drewN (a + n)) :
    Calls P f args (w.drewN (a + n)) fun e w'' => e = .returned v ∧ ∃ m, w'' = w.drewN (a + m) :=
  h.mono fun _ _ ⟨he, hm⟩ => ⟨he, n, hm⟩
/-- the arguments of times are in range -/
def TP (x n y : Int) : Prop := (-2147483648 ≤ x ∧ x ≤ 2147483648) ∧ (-1099511627776 ≤ n ∧ n ≤ 1099511627776) ∧ (0 < y ∧ y ≤ 2147483648) ∧ (-2305843009213693952 ≤ qFl x n y ∧ qFl x n y ≤ 2305843009213693952)
theorem c_timesP (x n y : Int) (w : World) (h : TP x n y) :
    Calls Tryz.prog 152 #[.int .i64 x, .int .i64 n, .int .i64 y] w fun e w' => e = .returned (.int .i64 (qFl x n y)) ∧ w = w' := c_times x n y w h.1 h.2.1 h.2.2.1 h.2.2.2
set_option maxRecDepth 100000 in
set_option maxHeartbeats 2000000 in
theorem c_corners (a1 a2 b1 b2 n : Int) (w : World) (h1 : TP a1 n b1) (h2 : TP a1 n b2) (h3 : TP a2 n b1) (h4 : TP a2 n b2) (h5 : TP a1 (-n) b1) (h6 : TP a1 (-n) b2) (h7 : TP a2 (-n) b1) (h8 : TP a2 (-n) b2) :
    Calls Tryz.prog 106 #[.agg #[.int .i64 a1, .int .i64 a2], .agg #[.int .i64 b1, .int .i64 b2], .int .i64 n] w fun e w' =>
      e = .returned (.tuple #[.int .i64 (min (min (qFl a1 n b1) (qFl a1 n b2)) (min (qFl a2 n b1) (qFl a2 n b2))), .int .i64 (-(min (min (qFl a1 (-n) b1) (qFl a1 (-n) b2)) (min (qFl a2 (-n) b1) (qFl a2 (-n) b2))))]) ∧ Below w.heap.size w w' := by
  have n1 := h1.2.1.1; have n2 := h1.2.1.2
  have r5 := h5.2.2.2; have r6 := h6.2.2.2; have r7 := h7.2.2.2; have r8 := h8.2.2.2
  have CT := Lib.hid c_timesP
  have CL := Lib.hid c_Least
  have hm : -2305843009213693952 ≤ min (min (qFl a1 (-n) b1) (qFl a1 (-n) b2)) (min (qFl a2 (-n) b1) (qFl a2 (-n) b2)) ∧ min (min (qFl a1 (-n) b1) (qFl a1 (-n) b2)) (min (qFl a2 (-n) b1) (qFl a2 (-n) b2)) ≤ 2305843009213693952 := by omega
  obtain ⟨hm1, hm2⟩ := hm
  clear r5 r6 r7 r8
  go_enter Tryz.func106, Tryz.ntmps106
  go_wp2
  go_quiet ((first
    | (go_at_call 152; exact Calls.quiet_of_same (flip_w (CT.out _ _ _ _ (by assumption))))
    | (go_at_call 107; exact Calls.quiet_of_same (flip_w (CL.out _ _ _)))))
  go_wp2
  go_quiet ((first
    | (go_at_call 152; exact quiet_more (flip_w (CT.out _ _ _ _ (by assumption))))
    | (go_at_call 107; exact quiet_more (flip_w (CL.out _ _ _)))))
  go_wp2
  go_ret2
  exact ⟨ret_ii (by go_light; omega) (by go_light; omega), below_drewN (by go_grown) _⟩
theorem qFl_neg (x n d : Int) : qFl x (-n) d = -qCe x n d := by unfold qFl qCe; rw [Int.mul_neg, Int.neg_neg]
theorem factB_neg {n : Int} (h : factB n = true) : factB (-n) = true := by unfold factB at *; simp at *; omega
theorem tp_scale (lo hi n : Int) (hv : fxV lo hi = true) (hn : factB n = true) : ∀ x, x = lo ∨ x = hi → TP x n 1073741824 := by
  intro x hx
  have h := sc_bd lo hi n hv hn x hx
  have h1 := (fxV_iff lo hi).1 hv
  have h2 : -1099511627776 ≤ n ∧ n ≤ 1099511627776 := by unfold factB at hn; simpa using hn
  exact ⟨by rcases hx with rfl | rfl <;> omega, h2, by omega, by omega⟩
theorem c_r4Scale (lo hi n : Int) (w : World) (hv : fxV lo hi = true) (hn : factB n = true) :
    Calls Tryz.prog 100 #[.agg #[.int .i64 lo, .int .i64 hi], .int .i64 n] w fun e w' => e = .returned (.tuple #[.int .i64 (scLo lo hi n), .int .i64 (scHi lo hi n), .int .i64 0]) ∧ Below w.heap.size w w' := by
  have p := tp_scale lo hi n hv hn
  have q := tp_scale lo hi (-n) hv (factB_neg hn)
  have C1 := fun w => c_corners lo hi 1073741824 1073741824 n w (p lo (.inl rfl)) (p lo (.inl rfl)) (p hi (.inr rfl)) (p hi (.inr rfl)) (q lo (.inl rfl)) (q lo (.inl rfl)) (q hi (.inr rfl)) (q hi (.inr rfl))
  have e1 : min (min (qFl lo n 1073741824) (qFl lo n 1073741824)) (min (qFl hi n 1073741824) (qFl hi n 1073741824)) = scLo lo hi n := by unfold scLo; omega
  have e2 : -(min (min (qFl lo (-n) 1073741824) (qFl lo (-n) 1073741824)) (min (qFl hi (-n) 1073741824) (qFl hi (-n) 1073741824))) = scHi lo hi n := by
    unfold scHi; rw [qFl_neg, qFl_neg]; omega
  rw [e1, e2] at C1
  have C0 := fun w => c_reaches n w
  rw [hn] at C0
  replace C0 := Lib.hid C0; replace C1 := Lib.hid C1
  clear e1 e2 p q hv hn
  generalize scLo lo hi n = x at *
  generalize scHi lo hi n = y at *
  have K0 := Lib.hid ((ks_start w).new w.heap.size rfl /-T-/ 41 #[.int .i64 lo, .int .i64 hi])
  go_enter Tryz.func100, Tryz.ntmps100
  go_wp2_with fail
  refine (C0.out _).mono ?_
  rintro e w' ⟨rfl, rfl⟩
  go_wp2_with fail
  refine (C1.out _).mono ?_
  rintro e w1 ⟨rfl, hb1⟩
  have K1 := Lib.hid (K0.out.below hb1); clear hb1
  go_wp2
  go_ret3
  exact ⟨rfl, K1.out.1⟩
theorem c_r44around (a b c d : Int) (w : World) :
    Calls Tryz.prog 46 #[.int .i64 a, .int .i64 b, .int .i64 c, .int .i64 d] w fun e w' => e = .returned (.agg #[.int .i64 (min a c), .int .i64 (max b d)]) ∧ Below w.heap.size w w' := by
  have C1 := Lib.hid c_Least
  have C2 := Lib.hid c_Most
  go_enter Tryz.func46, Tryz.ntmps46
  go_wp2_with fail
  refine (C1.out _ _ _).mono ?_
  rintro e w' ⟨rfl, rfl⟩
  go_wp2_with fail
  refine (C2.out _ _ _).mono ?_
  rintro e w' ⟨rfl, rfl⟩
  go_wp2
  refine bodyPost_ret (by simp [results, Tryz.results46, go_sem]; try rfl) rfl ⟨rfl, by go_grown⟩
set_option maxRecDepth 100000 in
set_option maxHeartbeats 1000000 in
theorem c_r44Product (flo fhi lo hi : Int) (w : World) (hv : fxV flo fhi = true) (hl : factB lo = true) (hh : factB hi = true) :
    Calls Tryz.prog 43 #[.agg #[.int .i64 flo, .int .i64 fhi], .agg #[.int .i64 lo, .int .i64 hi]] w fun e w' => e = .returned (arcE (prLo flo fhi lo hi) (prHi flo fhi lo hi)) ∧ Below w.heap.size w w' := by
  have C1 := Lib.hid (fun w => c_r4Scale flo fhi lo w hv hl)
  have C2 := Lib.hid (fun w => c_r4Scale flo fhi hi w hv hh)
  have C3 := fun w => c_r44around (scLo flo fhi lo) (scHi flo fhi lo) (scLo flo fhi hi) (scHi flo fhi hi) w
  have e1 : min (scLo flo fhi lo) (scLo flo fhi hi) = prLo flo fhi lo hi := rfl
  have e2 : max (scHi flo fhi lo) (scHi flo fhi hi) = prHi flo fhi lo hi := rfl
  rw [e1, e2] at C3
  replace C3 := Lib.hid C3
  have C4 := Lib.hid (fun w => c_r5Valid (prLo flo fhi lo hi) (prHi flo fhi lo hi) w)
  unfold arcE
  clear e1 e2 hv hl hh
  generalize scLo flo fhi lo = a at *
  generalize scHi flo fhi lo = b at *
  generalize scLo flo fhi hi = c at *
  generalize scHi flo fhi hi = d at *
  generalize prLo flo fhi lo hi = x at *
  generalize prHi flo fhi lo hi = y at *
  generalize arcV x y = V at *
  have K0 := Lib.hid ((((ks_start w).new w.heap.size rfl /-T-/ 41 #[.int .i64 flo, .int .i64 fhi]).new (w.heap.size + 1) (by simp) /-T-/ 23 #[.int .i64 lo, .int .i64 hi]).new (w.heap.size + 1 + 1) (by simp) /-T-/ 23 #[.int .i64 0, .int .i64 0])
  go_enter Tryz.func43, Tryz.ntmps43
  go_wp2_with fail
  refine (C1.out _).mono ?_
  rintro e w1 ⟨rfl, hb1⟩
  have K1 := Lib.hid (K0.out.below hb1); clear hb1 K0
  have c0 := K1.out.c (g := w.heap.size) (t := /-T-/ 41) (cs := #[.int .i64 flo, .int .i64 fhi]) (by simp) (i := 0) rfl
  have c1 := K1.out.c (g := w.heap.size) (t := /-T-/ 41) (cs := #[.int .i64 flo, .int .i64 fhi]) (by simp) (i := 1) rfl
  have c2 := K1.out.c (g := w.heap.size + 1) (t := /-T-/ 23) (cs := #[.int .i64 lo, .int .i64 hi]) (by simp) (i := 1) rfl
  go_wp2_with fail
  refine (C2.out _).mono ?_
  rintro e w2 ⟨rfl, hb1⟩
  have K2 := Lib.hid (K1.out.below hb1); clear hb1 K1 c0 c1 c2
  go_wp2_with fail
  refine (C3.out _).mono ?_
  rintro e w3 ⟨rfl, hb1⟩
  have K3 := Lib.hid ((K2.out.below hb1).new w3.heap.size rfl /-T-/ 23 #[.int .i64 x, .int .i64 y]); clear hb1 K2
  go_wp2_with fail
  refine (C4.out _).mono ?_
  rintro e w4 ⟨rfl, hb1⟩
  have K4 := Lib.hid (K3.out.below hb1); clear hb1 K3
  have c0 := K4.out.c (g := w3.heap.size) (t := /-T-/ 23) (cs := #[.int .i64 x, .int .i64 y]) (by simp) (i := 0) rfl
  have c1 := K4.out.c (g := w3.heap.size) (t := /-T-/ 23) (cs := #[.int .i64 x, .int .i64 y]) (by simp) (i := 1) rfl
  have q0 := K4.out.c (g := w.heap.size + 1 + 1) (t := /-T-/ 23) (cs := #[.int .i64 0, .int .i64 0]) (by simp) (i := 0) rfl
  have q1 := K4.out.c (g := w.heap.size + 1 + 1) (t := /-T-/ 23) (cs := #[.int .i64 0, .int .i64 0]) (by simp) (i := 1) rfl
  have g0 := K4.out.f (g := w.heap.size + 1 + 1) (t := /-T-/ 23) (cs := #[.int .i64 0, .int .i64 0]) (by simp) 0
  have g1 := K4.out.f (g := w.heap.size + 1 + 1) (t := /-T-/ 23) (cs := #[.int .i64 0, .int .i64 0]) (by simp) 1
  cases V
  all_goals
    go_wp2
    refine bodyPost_ret (by simp [results, Tryz.results43, go_sem, q0, q1]; try rfl) rfl ⟨rfl, by have := K4.out.1; go_light; go_grown⟩
end Go.Proofs.YtlloiallkcfomaaGreat
