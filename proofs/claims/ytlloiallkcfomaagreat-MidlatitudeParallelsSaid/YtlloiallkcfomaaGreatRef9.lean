/- The contracts of the reference's Departure and Dlon. -/
import Derived.Test.YtlloiallkcfomaaGreatRef8
import Derived.Deep.RegionHeld3
set_option linter.unusedVariables false
set_option linter.unusedSimpArgs false
namespace Go.Proofs.YtlloiallkcfomaaGreat
open Go.RowKit Alm
theorem arcE_form (x y : Int) : ∃ a b e : Int, arcE x y = .tuple #[.agg #[.int .i64 a, .int .i64 b], .int .i64 e] := by
  unfold arcE; split <;> exact ⟨_, _, _, rfl⟩
set_option maxRecDepth 100000 in
set_option maxHeartbeats 2000000 in
theorem c_rDeparture (lo hi alo ahi : Int) (w : World) (hl : latB lo hi = true) (ha : arcV alo ahi = true) :
    Calls Tryz.prog 12 #[.agg #[.int .i64 lo, .int .i64 hi], .agg #[.int .i64 alo, .int .i64 ahi]] w fun e w' => e = .returned (arcE (prLo (cosLo lo hi) (cosHi lo hi) alo ahi) (prHi (cosLo lo hi) (cosHi lo hi) alo ahi)) ∧ Below w.heap.size w w' := by
  have C1 := Lib.hid (fun w => c_rCos lo hi w (latB_arcV hl))
  have C2 := fun w => c_r44Product (cosLo lo hi) (cosHi lo hi) alo ahi w (en_fx _ _) (arcV_fact ha).1 (arcV_fact ha).2
  obtain ⟨x, y, ee, he⟩ := arcE_form (prLo (cosLo lo hi) (cosHi lo hi) alo ahi) (prHi (cosLo lo hi) (cosHi lo hi) alo ahi)
  rw [he] at C2 ⊢
  replace C2 := Lib.hid C2
  clear he hl ha
  generalize cosLo lo hi = u at *
  generalize cosHi lo hi = v at *
  have K0 := Lib.hid ((((ks_start w).new w.heap.size rfl /-T-/ 23 #[.int .i64 lo, .int .i64 hi]).new (w.heap.size + 1) (by simp) /-T-/ 23 #[.int .i64 alo, .int .i64 ahi]).new (w.heap.size + 1 + 1) (by simp) /-T-/ 23 #[.int .i64 0, .int .i64 0])
  go_enter Tryz.func12, Tryz.ntmps12
  go_wp2
  generalize (((w.alloc (.cells #[.int .i64 lo, .int .i64 hi] /-T-/ 23)).alloc (.cells #[.int .i64 alo, .int .i64 ahi] /-T-/ 23)).alloc (.cells #[.int .i64 0, .int .i64 0] /-T-/ 23)) = w1 at *
  have a0 := K0.out.c (g := w.heap.size) (t := /-T-/ 23) (cs := #[.int .i64 lo, .int .i64 hi]) (by simp) (i := 0) rfl
  have a1 := K0.out.c (g := w.heap.size) (t := /-T-/ 23) (cs := #[.int .i64 lo, .int .i64 hi]) (by simp) (i := 1) rfl
  have b0 := K0.out.c (g := w.heap.size + 1) (t := /-T-/ 23) (cs := #[.int .i64 alo, .int .i64 ahi]) (by simp) (i := 0) rfl
  have b1 := K0.out.c (g := w.heap.size + 1) (t := /-T-/ 23) (cs := #[.int .i64 alo, .int .i64 ahi]) (by simp) (i := 1) rfl
  have q0 := K0.out.c (g := w.heap.size + 1 + 1) (t := /-T-/ 23) (cs := #[.int .i64 0, .int .i64 0]) (by simp) (i := 0) rfl
  have q1 := K0.out.c (g := w.heap.size + 1 + 1) (t := /-T-/ 23) (cs := #[.int .i64 0, .int .i64 0]) (by simp) (i := 1) rfl
  have g0 := K0.out.f (g := w.heap.size + 1 + 1) (t := /-T-/ 23) (cs := #[.int .i64 0, .int .i64 0]) (by simp) 0
  have g1 := K0.out.f (g := w.heap.size + 1 + 1) (t := /-T-/ 23) (cs := #[.int .i64 0, .int .i64 0]) (by simp) 1
  go_region_with ((first
      | (go_at_call 44; refine (C1.out _).mono ?_; rintro e w2 ⟨rfl, hb⟩; have K2 := Lib.hid (K0.out.drew.below hb); clear hb; have a0 := K2.out.c (g := w.heap.size) (t := /-T-/ 23) (cs := #[.int .i64 lo, .int .i64 hi]) (by simp) (i := 0) rfl; have a1 := K2.out.c (g := w.heap.size) (t := /-T-/ 23) (cs := #[.int .i64 lo, .int .i64 hi]) (by simp) (i := 1) rfl; have b0 := K2.out.c (g := w.heap.size + 1) (t := /-T-/ 23) (cs := #[.int .i64 alo, .int .i64 ahi]) (by simp) (i := 0) rfl; have c1 := K2.out.c (g := w.heap.size + 1) (t := /-T-/ 23) (cs := #[.int .i64 alo, .int .i64 ahi]) (by simp) (i := 1) rfl; have q0 := K2.out.c (g := w.heap.size + 1 + 1) (t := /-T-/ 23) (cs := #[.int .i64 0, .int .i64 0]) (by simp) (i := 0) rfl; have q1 := K2.out.c (g := w.heap.size + 1 + 1) (t := /-T-/ 23) (cs := #[.int .i64 0, .int .i64 0]) (by simp) (i := 1) rfl; have g0 := K2.out.f (g := w.heap.size + 1 + 1) (t := /-T-/ 23) (cs := #[.int .i64 0, .int .i64 0]) (by simp) 0; have g1 := K2.out.f (g := w.heap.size + 1 + 1) (t := /-T-/ 23) (cs := #[.int .i64 0, .int .i64 0]) (by simp) 1)
      | (go_at_call 43; refine (C2.out _).mono ?_; rintro e w3 ⟨rfl, hb⟩; have K3 := Lib.hid (K2.out.below hb); clear hb; have a0 := K3.out.c (g := w.heap.size) (t := /-T-/ 23) (cs := #[.int .i64 lo, .int .i64 hi]) (by simp) (i := 0) rfl; have a1 := K3.out.c (g := w.heap.size) (t := /-T-/ 23) (cs := #[.int .i64 lo, .int .i64 hi]) (by simp) (i := 1) rfl; have b0 := K3.out.c (g := w.heap.size + 1) (t := /-T-/ 23) (cs := #[.int .i64 alo, .int .i64 ahi]) (by simp) (i := 0) rfl; have b1 := K3.out.c (g := w.heap.size + 1) (t := /-T-/ 23) (cs := #[.int .i64 alo, .int .i64 ahi]) (by simp) (i := 1) rfl; have q0 := K3.out.c (g := w.heap.size + 1 + 1) (t := /-T-/ 23) (cs := #[.int .i64 0, .int .i64 0]) (by simp) (i := 0) rfl; have q1 := K3.out.c (g := w.heap.size + 1 + 1) (t := /-T-/ 23) (cs := #[.int .i64 0, .int .i64 0]) (by simp) (i := 1) rfl; have g0 := K3.out.f (g := w.heap.size + 1 + 1) (t := /-T-/ 23) (cs := #[.int .i64 0, .int .i64 0]) (by simp) 0; have g1 := K3.out.f (g := w.heap.size + 1 + 1) (t := /-T-/ 23) (cs := #[.int .i64 0, .int .i64 0]) (by simp) 1)))
  all_goals
    go_wp2
    refine bodyPost_ret (by simp [results, Tryz.results12, go_sem, q0, q1]; try rfl) rfl ⟨rfl, by have := K3.out.1; go_light; go_grown⟩
theorem c_rDlon_cosHi (lo hi : Int) (hl : latB lo hi = true) : 0 ≤ cosHi lo hi := by
  have key : ∀ n : Int, -5400000 ≤ n → n ≤ 5400000 → 0 ≤ bHi (n + 5400000) := by
    intro n h1 h2
    have hw : wrapTurn (n + 5400000) = n + 5400000 := by unfold wrapTurn; omega
    have hs : south (n + 5400000) = false := by unfold south; rw [hw]; simp; omega
    obtain ⟨f0, f1⟩ := foldQ_bd (n + 5400000)
    have := (sinV_bd _ f0 f1).1
    unfold bHi; rw [hs]; simp only [Bool.false_eq_true, if_false]; split <;> omega
  have hv : -5400000 ≤ lo ∧ lo ≤ hi ∧ hi ≤ 5400000 := by unfold latB at hl; simpa using hl
  have k := key lo (by omega) (by omega)
  unfold cosHi enHi; split <;> omega
set_option maxRecDepth 100000 in
set_option maxHeartbeats 2000000 in
theorem c_rDlon (lo hi alo ahi : Int) (w : World) (hl : latB lo hi = true) (ha : arcV alo ahi = true) :
    Calls Tryz.prog 13 #[.agg #[.int .i64 lo, .int .i64 hi], .agg #[.int .i64 alo, .int .i64 ahi]] w fun e w' => e = .returned (dlV (cosLo lo hi) (cosHi lo hi) alo ahi) ∧ Below w.heap.size w w' := by
  have cb := cos_bd lo hi
  have ch := c_rDlon_cosHi lo hi hl
  have C1 := Lib.hid (fun w => c_rCos lo hi w (latB_arcV hl))
  have hn := (arcV_fact ha).1; have hm := (arcV_fact ha).2
  clear hl ha
  generalize cosLo lo hi = b1 at *
  generalize cosHi lo hi = b2 at *
  have K0 := Lib.hid (((((ks_start w).new w.heap.size rfl /-T-/ 23 #[.int .i64 lo, .int .i64 hi]).new (w.heap.size + 1) (by simp) /-T-/ 23 #[.int .i64 alo, .int .i64 ahi]).new (w.heap.size + 1 + 1) (by simp) /-T-/ 23 #[.int .i64 0, .int .i64 0]).new (w.heap.size + 1 + 1 + 1) (by simp) /-T-/ 41 #[.int .i64 1073741824, .int .i64 1073741824])
  by_cases hz : b1 ≤ 0
  · have ev : dlV b1 b2 alo ahi = .tuple #[.agg #[.int .i64 0, .int .i64 0], .int .i64 21] := by unfold dlV; rw [if_pos hz]
    rw [ev]; clear ev hn hm
    go_enter Tryz.func13, Tryz.ntmps13
    go_wp2_with fail
    refine (C1.out _).mono ?_
    rintro e w1 ⟨rfl, hb1⟩
    have K1 := Lib.hid ((K0.out.below hb1).new w1.heap.size rfl /-T-/ 41 #[.int .i64 b1, .int .i64 b2]); clear hb1 K0
    have q0 := K1.out.c (g := w.heap.size + 1 + 1) (t := /-T-/ 23) (cs := #[.int .i64 0, .int .i64 0]) (by simp) (i := 0) rfl
    have q1 := K1.out.c (g := w.heap.size + 1 + 1) (t := /-T-/ 23) (cs := #[.int .i64 0, .int .i64 0]) (by simp) (i := 1) rfl
    have g0 := K1.out.f (g := w.heap.size + 1 + 1) (t := /-T-/ 23) (cs := #[.int .i64 0, .int .i64 0]) (by simp) 0
    have g1 := K1.out.f (g := w.heap.size + 1 + 1) (t := /-T-/ 23) (cs := #[.int .i64 0, .int .i64 0]) (by simp) 1
    go_wp2
    refine bodyPost_ret (by simp [results, Tryz.results13, go_sem, q0, q1]; try rfl) rfl ⟨rfl, by have := K1.out.1; go_light; go_grown⟩
  · have Q1 := fun w => c_rQuot b1 b2 alo w (by omega) cb.1 (by omega) hn
    have Q2 := fun w => c_rQuot b1 b2 ahi w (by omega) cb.1 (by omega) hm
    have ev : dlV b1 b2 alo ahi = if (qtOk b1 b2 alo && qtOk b1 b2 ahi) then .tuple #[.agg #[.int .i64 (min (qtLo b1 b2 alo) (qtLo b1 b2 ahi)), .int .i64 (max (qtHi b1 b2 alo) (qtHi b1 b2 ahi))], .int .i64 0] else .tuple #[.agg #[.int .i64 0, .int .i64 0], .int .i64 5] := by unfold dlV; rw [if_neg hz]
    rw [ev]; clear ev
    unfold qtR at Q1 Q2
    have CA := Lib.hid (fun w => c_r44around (qtLo b1 b2 alo) (qtHi b1 b2 alo) (qtLo b1 b2 ahi) (qtHi b1 b2 ahi) w)
    generalize qtLo b1 b2 alo = x1 at *
    generalize qtHi b1 b2 alo = y1 at *
    generalize qtLo b1 b2 ahi = x2 at *
    generalize qtHi b1 b2 ahi = y2 at *
    generalize min x1 x2 = mn at *
    generalize max y1 y2 = mx at *
    generalize qtOk b1 b2 alo = U at *
    generalize qtOk b1 b2 ahi = V at *
    have hz2 : 0 < b1 := by omega
    clear hn hm cb ch
    cases U <;> cases V
    all_goals
      simp only [if_true, if_false, Bool.false_eq_true, Bool.and_false, Bool.and_true, Bool.false_and, Bool.true_and] at Q1 Q2 ⊢
      replace Q1 := Lib.hid Q1; replace Q2 := Lib.hid Q2
      go_enter Tryz.func13, Tryz.ntmps13
      go_wp2_with fail
      refine (C1.out _).mono ?_
      rintro e w1 ⟨rfl, hb1⟩
      have K1 := Lib.hid ((K0.out.below hb1).new w1.heap.size rfl /-T-/ 41 #[.int .i64 b1, .int .i64 b2]); clear hb1 K0
      have c0 := K1.out.c (g := w.heap.size + 1) (t := /-T-/ 23) (cs := #[.int .i64 alo, .int .i64 ahi]) (by simp) (i := 0) rfl
      have u0 := K1.out.c (g := w.heap.size + 1 + 1 + 1) (t := /-T-/ 41) (cs := #[.int .i64 1073741824, .int .i64 1073741824]) (by simp) (i := 0) rfl
      have u1 := K1.out.c (g := w.heap.size + 1 + 1 + 1) (t := /-T-/ 41) (cs := #[.int .i64 1073741824, .int .i64 1073741824]) (by simp) (i := 1) rfl
      go_wp2_with fail
      refine (Q1.out _).mono ?_
      rintro e w2 ⟨rfl, hb1⟩
      have K2 := Lib.hid (K1.out.below hb1); clear hb1 K1 c0 u0 u1
      have c1 := K2.out.c (g := w.heap.size + 1) (t := /-T-/ 23) (cs := #[.int .i64 alo, .int .i64 ahi]) (by simp) (i := 1) rfl
      have u0 := K2.out.c (g := w.heap.size + 1 + 1 + 1) (t := /-T-/ 41) (cs := #[.int .i64 1073741824, .int .i64 1073741824]) (by simp) (i := 0) rfl
      have u1 := K2.out.c (g := w.heap.size + 1 + 1 + 1) (t := /-T-/ 41) (cs := #[.int .i64 1073741824, .int .i64 1073741824]) (by simp) (i := 1) rfl
      have v0 := K2.out.c (g := w1.heap.size) (t := /-T-/ 41) (cs := #[.int .i64 b1, .int .i64 b2]) (by simp) (i := 0) rfl
      have v1 := K2.out.c (g := w1.heap.size) (t := /-T-/ 41) (cs := #[.int .i64 b1, .int .i64 b2]) (by simp) (i := 1) rfl
      go_wp2_with fail
      refine (Q2.out _).mono ?_
      rintro e w3 ⟨rfl, hb1⟩
      have K3 := Lib.hid (K2.out.below hb1); clear hb1 K2 c1 u0 u1 v0 v1
      have q0 := K3.out.c (g := w.heap.size + 1 + 1) (t := /-T-/ 23) (cs := #[.int .i64 0, .int .i64 0]) (by simp) (i := 0) rfl
      have q1 := K3.out.c (g := w.heap.size + 1 + 1) (t := /-T-/ 23) (cs := #[.int .i64 0, .int .i64 0]) (by simp) (i := 1) rfl
      have g0 := K3.out.f (g := w.heap.size + 1 + 1) (t := /-T-/ 23) (cs := #[.int .i64 0, .int .i64 0]) (by simp) 0
      have g1 := K3.out.f (g := w.heap.size + 1 + 1) (t := /-T-/ 23) (cs := #[.int .i64 0, .int .i64 0]) (by simp) 1
      first
        | (go_wp2
           refine bodyPost_ret (by simp [results, Tryz.results13, go_sem, q0, q1]; try rfl) rfl ⟨rfl, by have := K3.out.1; go_light; go_grown⟩
           done)
        | (go_wp2_with fail
           refine (CA.out _).mono ?_
           rintro e w4 ⟨rfl, hb1⟩
           have K4 := Lib.hid (K3.out.below hb1)
           clear hb1 K3 q0 q1 g0 g1
           have q0 := K4.out.c (g := w.heap.size + 1 + 1) (t := /-T-/ 23) (cs := #[.int .i64 0, .int .i64 0]) (by simp) (i := 0) rfl
           have q1 := K4.out.c (g := w.heap.size + 1 + 1) (t := /-T-/ 23) (cs := #[.int .i64 0, .int .i64 0]) (by simp) (i := 1) rfl
           have g0 := K4.out.f (g := w.heap.size + 1 + 1) (t := /-T-/ 23) (cs := #[.int .i64 0, .int .i64 0]) (by simp) 0
           have g1 := K4.out.f (g := w.heap.size + 1 + 1) (t := /-T-/ 23) (cs := #[.int .i64 0, .int .i64 0]) (by simp) 1
           go_wp2
           refine bodyPost_ret (by simp [results, Tryz.results13, go_sem, q0, q1]; try rfl) rfl ⟨rfl, by have := K4.out.1; go_light; go_grown⟩)
end Go.Proofs.YtlloiallkcfomaaGreat
