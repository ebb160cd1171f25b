/- The law of parallels: what it returns. -/
import Derived.Test.YtlloiallkcfomaaGreatAwake44
import Derived.Test.YtlloiallkcfomaaGreatDep
import Derived.Test.YtlloiallkcfomaaGreatRef9
import Derived.Laws.StructEq
set_option linter.unusedVariables false
set_option linter.unusedSimpArgs false
namespace Go.Proofs.YtlloiallkcfomaaGreat
open Go.RowKit Alm
theorem arc_fields : ∃ f1 f2 : Field, (Tryz.prog.fieldsOf /-T-/ 23).toList = [f1, f2] ∧ (f1.name == "_") = false ∧ (f2.name == "_") = false ∧ f1.offset = 0 ∧ f2.offset = 1 ∧ (∀ w, (isAgg f1.type).run Tryz.prog w = .ok false w) ∧ (∀ w, (isAgg f2.type).run Tryz.prog w = .ok false w) ∧ Tryz.prog.underlying f1.type = some (.int .i64) ∧ Tryz.prog.underlying f2.type = some (.int .i64) := by
  refine ⟨(Tryz.prog.fieldsOf /-T-/ 23).toList[0]'(of_decide_eq_true (by kernel_rfl)), (Tryz.prog.fieldsOf /-T-/ 23).toList[1]'(of_decide_eq_true (by kernel_rfl)), by kernel_rfl, by kernel_rfl, by kernel_rfl, by kernel_rfl, by kernel_rfl, fun _ => by kernel_rfl, fun _ => by kernel_rfl, by kernel_rfl, by kernel_rfl⟩
theorem arc_eql (x y : Int) : ∀ w, (binOp .eql /-T-/ 23 (.agg #[.int .i64 x, .int .i64 y]) (.agg #[.int .i64 x, .int .i64 y])).run Tryz.prog w = .ok (.bool true) w := by
  intro w
  have hf : Tryz.prog.fieldsOf /-T-/ 23 = Tryz.prog.fieldsOf /-T-/ 23 := rfl
  rw [run_eql_struct]
  have h : ((Op.equalIn 10000 /-T-/ 23 (.agg #[.int .i64 x, .int .i64 y]) (.agg #[.int .i64 x, .int .i64 y])).run Tryz.prog w) = .ok true w := by
    rw [run_equalIn_agg w 9999 _ _ _ (by kernel_rfl) (by kernel_rfl)]
    obtain ⟨f1, f2, e1, e2, e3, e4, e5, t1, t2, u1, u2⟩ := arc_fields
    have e2 := ne_of_beq_false e2; have e3 := ne_of_beq_false e3
    rw [e1]
    simp [Op.eqFields, e2, e3, e4, e5, part, t1, t2, u1, u2, run_equalIn_int w 9998 _ .i64 .i64 _ _ u1, run_equalIn_int w 9998 _ .i64 .i64 _ _ u2]
  rw [h]; rfl

set_option maxRecDepth 100000 in
set_option maxHeartbeats 2000000 in
theorem law_lat (lo hi alo ahi : Int) (w : World) (hl : latB lo hi = false) :
    Calls Tryz.prog 3 #[.agg #[.int .i64 lo, .int .i64 hi], .agg #[.int .i64 alo, .int .i64 ahi]] w fun e w' => e = .returned (.bool true) ∧ Below w.heap.size w w' := by
  have C0 := Lib.hid c_awake44
  have C1 := fun w => c_Departure_lat lo hi alo ahi w hl
  have C2 := fun w => c_Dlon_lat lo hi alo ahi w hl
  have C3 := fun w => c_r44Latitude lo hi w
  rw [hl] at C3; replace C3 := Lib.hid C3
  replace C1 := Lib.hid C1; replace C2 := Lib.hid C2
  have E1 := arc_eql 0 0
  clear hl
  have K0 := Lib.hid (((ks_start w).new w.heap.size rfl /-T-/ 23 #[.int .i64 lo, .int .i64 hi]).new (w.heap.size + 1) (by simp) /-T-/ 23 #[.int .i64 alo, .int .i64 ahi])
  go_enter Tryz.func3, Tryz.ntmps3
  go_wp2_with fail
  refine (C0.out _).mono ?_
  rintro e w1 ⟨rfl, hb1⟩
  have K1 := Lib.hid (K0.out.below hb1); clear hb1 K0
  have a0 := K1.out.c (g := w.heap.size) (t := /-T-/ 23) (cs := #[.int .i64 lo, .int .i64 hi]) (by simp) (i := 0) rfl
  have a1 := K1.out.c (g := w.heap.size) (t := /-T-/ 23) (cs := #[.int .i64 lo, .int .i64 hi]) (by simp) (i := 1) rfl
  have b0 := K1.out.c (g := w.heap.size + 1) (t := /-T-/ 23) (cs := #[.int .i64 alo, .int .i64 ahi]) (by simp) (i := 0) rfl
  have b1 := K1.out.c (g := w.heap.size + 1) (t := /-T-/ 23) (cs := #[.int .i64 alo, .int .i64 ahi]) (by simp) (i := 1) rfl
  go_wp2_with fail
  refine (C1.out _).mono ?_
  rintro e w2 ⟨rfl, hb2⟩
  have K2 := Lib.hid ((K1.out.below hb2).new w2.heap.size rfl /-T-/ 23 #[.int .i64 0, .int .i64 0]); clear hb2 K1 a0 a1 b0 b1
  have a0 := K2.out.c (g := w.heap.size) (t := /-T-/ 23) (cs := #[.int .i64 lo, .int .i64 hi]) (by simp) (i := 0) rfl
  have a1 := K2.out.c (g := w.heap.size) (t := /-T-/ 23) (cs := #[.int .i64 lo, .int .i64 hi]) (by simp) (i := 1) rfl
  have b0 := K2.out.c (g := w.heap.size + 1) (t := /-T-/ 23) (cs := #[.int .i64 alo, .int .i64 ahi]) (by simp) (i := 0) rfl
  have b1 := K2.out.c (g := w.heap.size + 1) (t := /-T-/ 23) (cs := #[.int .i64 alo, .int .i64 ahi]) (by simp) (i := 1) rfl
  have x0 := K2.out.c (g := w2.heap.size) (t := /-T-/ 23) (cs := #[.int .i64 0, .int .i64 0]) (by simp) (i := 0) rfl
  have x1 := K2.out.c (g := w2.heap.size) (t := /-T-/ 23) (cs := #[.int .i64 0, .int .i64 0]) (by simp) (i := 1) rfl
  go_wp2_with fail
  refine (C2.out _).mono ?_
  rintro e w3 ⟨rfl, hb3⟩
  have K3 := Lib.hid ((K2.out.below hb3).new w3.heap.size rfl /-T-/ 23 #[.int .i64 0, .int .i64 0]); clear hb3 K2 a0 a1 b0 b1 x0 x1
  have a0 := K3.out.c (g := w.heap.size) (t := /-T-/ 23) (cs := #[.int .i64 lo, .int .i64 hi]) (by simp) (i := 0) rfl
  have a1 := K3.out.c (g := w.heap.size) (t := /-T-/ 23) (cs := #[.int .i64 lo, .int .i64 hi]) (by simp) (i := 1) rfl
  have b0 := K3.out.c (g := w.heap.size + 1) (t := /-T-/ 23) (cs := #[.int .i64 alo, .int .i64 ahi]) (by simp) (i := 0) rfl
  have b1 := K3.out.c (g := w.heap.size + 1) (t := /-T-/ 23) (cs := #[.int .i64 alo, .int .i64 ahi]) (by simp) (i := 1) rfl
  have x0 := K3.out.c (g := w2.heap.size) (t := /-T-/ 23) (cs := #[.int .i64 0, .int .i64 0]) (by simp) (i := 0) rfl
  have x1 := K3.out.c (g := w2.heap.size) (t := /-T-/ 23) (cs := #[.int .i64 0, .int .i64 0]) (by simp) (i := 1) rfl
  have y0 := K3.out.c (g := w3.heap.size) (t := /-T-/ 23) (cs := #[.int .i64 0, .int .i64 0]) (by simp) (i := 0) rfl
  have y1 := K3.out.c (g := w3.heap.size) (t := /-T-/ 23) (cs := #[.int .i64 0, .int .i64 0]) (by simp) (i := 1) rfl
  go_wp2_with fail
  refine (C3.out _).mono ?_
  rintro e w4 ⟨rfl, hb4⟩
  have K4 := Lib.hid (K3.out.below hb4); clear hb4 K3 a0 a1 b0 b1 x0 x1 y0 y1
  have a0 := K4.out.c (g := w.heap.size) (t := /-T-/ 23) (cs := #[.int .i64 lo, .int .i64 hi]) (by simp) (i := 0) rfl
  have a1 := K4.out.c (g := w.heap.size) (t := /-T-/ 23) (cs := #[.int .i64 lo, .int .i64 hi]) (by simp) (i := 1) rfl
  have b0 := K4.out.c (g := w.heap.size + 1) (t := /-T-/ 23) (cs := #[.int .i64 alo, .int .i64 ahi]) (by simp) (i := 0) rfl
  have b1 := K4.out.c (g := w.heap.size + 1) (t := /-T-/ 23) (cs := #[.int .i64 alo, .int .i64 ahi]) (by simp) (i := 1) rfl
  have x0 := K4.out.c (g := w2.heap.size) (t := /-T-/ 23) (cs := #[.int .i64 0, .int .i64 0]) (by simp) (i := 0) rfl
  have x1 := K4.out.c (g := w2.heap.size) (t := /-T-/ 23) (cs := #[.int .i64 0, .int .i64 0]) (by simp) (i := 1) rfl
  have y0 := K4.out.c (g := w3.heap.size) (t := /-T-/ 23) (cs := #[.int .i64 0, .int .i64 0]) (by simp) (i := 0) rfl
  have y1 := K4.out.c (g := w3.heap.size) (t := /-T-/ 23) (cs := #[.int .i64 0, .int .i64 0]) (by simp) (i := 1) rfl
  go_wp2
  all_goals
    go_ret
    exact ⟨rfl, K4.out.1⟩
set_option maxRecDepth 100000 in
set_option maxHeartbeats 2000000 in
theorem law_arc (lo hi alo ahi : Int) (w : World) (hl : latB lo hi = true) (ha : arcV alo ahi = false) :
    Calls Tryz.prog 3 #[.agg #[.int .i64 lo, .int .i64 hi], .agg #[.int .i64 alo, .int .i64 ahi]] w fun e w' => e = .returned (.bool true) ∧ Below w.heap.size w w' := by
  have C0 := Lib.hid c_awake44
  have C1 := fun w => c_Departure_arc lo hi alo ahi w hl ha
  have C2 := fun w => c_Dlon_arc lo hi alo ahi w hl ha
  have C3 := fun w => c_r44Latitude lo hi w
  rw [hl] at C3; replace C3 := Lib.hid C3
  have C4 := fun w => c_r5Valid alo ahi w
  rw [ha] at C4; replace C4 := Lib.hid C4
  replace C1 := Lib.hid C1; replace C2 := Lib.hid C2
  have E1 := arc_eql 0 0
  clear hl ha
  have K0 := Lib.hid (((ks_start w).new w.heap.size rfl /-T-/ 23 #[.int .i64 lo, .int .i64 hi]).new (w.heap.size + 1) (by simp) /-T-/ 23 #[.int .i64 alo, .int .i64 ahi])
  go_enter Tryz.func3, Tryz.ntmps3
  go_wp2_with fail
  refine (C0.out _).mono ?_
  rintro e w1 ⟨rfl, hb1⟩
  have K1 := Lib.hid (K0.out.below hb1); clear hb1 K0
  have a0 := K1.out.c (g := w.heap.size) (t := /-T-/ 23) (cs := #[.int .i64 lo, .int .i64 hi]) (by simp) (i := 0) rfl
  have a1 := K1.out.c (g := w.heap.size) (t := /-T-/ 23) (cs := #[.int .i64 lo, .int .i64 hi]) (by simp) (i := 1) rfl
  have b0 := K1.out.c (g := w.heap.size + 1) (t := /-T-/ 23) (cs := #[.int .i64 alo, .int .i64 ahi]) (by simp) (i := 0) rfl
  have b1 := K1.out.c (g := w.heap.size + 1) (t := /-T-/ 23) (cs := #[.int .i64 alo, .int .i64 ahi]) (by simp) (i := 1) rfl
  go_wp2_with fail
  refine (C1.out _).mono ?_
  rintro e w2 ⟨rfl, hb2⟩
  have K2 := Lib.hid ((K1.out.below hb2).new w2.heap.size rfl /-T-/ 23 #[.int .i64 0, .int .i64 0]); clear hb2 K1 a0 a1 b0 b1
  have a0 := K2.out.c (g := w.heap.size) (t := /-T-/ 23) (cs := #[.int .i64 lo, .int .i64 hi]) (by simp) (i := 0) rfl
  have a1 := K2.out.c (g := w.heap.size) (t := /-T-/ 23) (cs := #[.int .i64 lo, .int .i64 hi]) (by simp) (i := 1) rfl
  have b0 := K2.out.c (g := w.heap.size + 1) (t := /-T-/ 23) (cs := #[.int .i64 alo, .int .i64 ahi]) (by simp) (i := 0) rfl
  have b1 := K2.out.c (g := w.heap.size + 1) (t := /-T-/ 23) (cs := #[.int .i64 alo, .int .i64 ahi]) (by simp) (i := 1) rfl
  have x0 := K2.out.c (g := w2.heap.size) (t := /-T-/ 23) (cs := #[.int .i64 0, .int .i64 0]) (by simp) (i := 0) rfl
  have x1 := K2.out.c (g := w2.heap.size) (t := /-T-/ 23) (cs := #[.int .i64 0, .int .i64 0]) (by simp) (i := 1) rfl
  go_wp2_with fail
  refine (C2.out _).mono ?_
  rintro e w3 ⟨rfl, hb3⟩
  have K3 := Lib.hid ((K2.out.below hb3).new w3.heap.size rfl /-T-/ 23 #[.int .i64 0, .int .i64 0]); clear hb3 K2 a0 a1 b0 b1 x0 x1
  have a0 := K3.out.c (g := w.heap.size) (t := /-T-/ 23) (cs := #[.int .i64 lo, .int .i64 hi]) (by simp) (i := 0) rfl
  have a1 := K3.out.c (g := w.heap.size) (t := /-T-/ 23) (cs := #[.int .i64 lo, .int .i64 hi]) (by simp) (i := 1) rfl
  have b0 := K3.out.c (g := w.heap.size + 1) (t := /-T-/ 23) (cs := #[.int .i64 alo, .int .i64 ahi]) (by simp) (i := 0) rfl
  have b1 := K3.out.c (g := w.heap.size + 1) (t := /-T-/ 23) (cs := #[.int .i64 alo, .int .i64 ahi]) (by simp) (i := 1) rfl
  have x0 := K3.out.c (g := w2.heap.size) (t := /-T-/ 23) (cs := #[.int .i64 0, .int .i64 0]) (by simp) (i := 0) rfl
  have x1 := K3.out.c (g := w2.heap.size) (t := /-T-/ 23) (cs := #[.int .i64 0, .int .i64 0]) (by simp) (i := 1) rfl
  have y0 := K3.out.c (g := w3.heap.size) (t := /-T-/ 23) (cs := #[.int .i64 0, .int .i64 0]) (by simp) (i := 0) rfl
  have y1 := K3.out.c (g := w3.heap.size) (t := /-T-/ 23) (cs := #[.int .i64 0, .int .i64 0]) (by simp) (i := 1) rfl
  go_wp2_with fail
  refine (C3.out _).mono ?_
  rintro e w4 ⟨rfl, hb4⟩
  have K4 := Lib.hid (K3.out.below hb4); clear hb4 K3 a0 a1 b0 b1 x0 x1 y0 y1
  have a0 := K4.out.c (g := w.heap.size) (t := /-T-/ 23) (cs := #[.int .i64 lo, .int .i64 hi]) (by simp) (i := 0) rfl
  have a1 := K4.out.c (g := w.heap.size) (t := /-T-/ 23) (cs := #[.int .i64 lo, .int .i64 hi]) (by simp) (i := 1) rfl
  have b0 := K4.out.c (g := w.heap.size + 1) (t := /-T-/ 23) (cs := #[.int .i64 alo, .int .i64 ahi]) (by simp) (i := 0) rfl
  have b1 := K4.out.c (g := w.heap.size + 1) (t := /-T-/ 23) (cs := #[.int .i64 alo, .int .i64 ahi]) (by simp) (i := 1) rfl
  have x0 := K4.out.c (g := w2.heap.size) (t := /-T-/ 23) (cs := #[.int .i64 0, .int .i64 0]) (by simp) (i := 0) rfl
  have x1 := K4.out.c (g := w2.heap.size) (t := /-T-/ 23) (cs := #[.int .i64 0, .int .i64 0]) (by simp) (i := 1) rfl
  have y0 := K4.out.c (g := w3.heap.size) (t := /-T-/ 23) (cs := #[.int .i64 0, .int .i64 0]) (by simp) (i := 0) rfl
  have y1 := K4.out.c (g := w3.heap.size) (t := /-T-/ 23) (cs := #[.int .i64 0, .int .i64 0]) (by simp) (i := 1) rfl
  go_wp2_with fail
  refine (C4.out _).mono ?_
  rintro e w5 ⟨rfl, hb5⟩
  have K5 := Lib.hid (K4.out.below hb5); clear hb5 K4 a0 a1 b0 b1 x0 x1 y0 y1
  have a0 := K5.out.c (g := w.heap.size) (t := /-T-/ 23) (cs := #[.int .i64 lo, .int .i64 hi]) (by simp) (i := 0) rfl
  have a1 := K5.out.c (g := w.heap.size) (t := /-T-/ 23) (cs := #[.int .i64 lo, .int .i64 hi]) (by simp) (i := 1) rfl
  have b0 := K5.out.c (g := w.heap.size + 1) (t := /-T-/ 23) (cs := #[.int .i64 alo, .int .i64 ahi]) (by simp) (i := 0) rfl
  have b1 := K5.out.c (g := w.heap.size + 1) (t := /-T-/ 23) (cs := #[.int .i64 alo, .int .i64 ahi]) (by simp) (i := 1) rfl
  have x0 := K5.out.c (g := w2.heap.size) (t := /-T-/ 23) (cs := #[.int .i64 0, .int .i64 0]) (by simp) (i := 0) rfl
  have x1 := K5.out.c (g := w2.heap.size) (t := /-T-/ 23) (cs := #[.int .i64 0, .int .i64 0]) (by simp) (i := 1) rfl
  have y0 := K5.out.c (g := w3.heap.size) (t := /-T-/ 23) (cs := #[.int .i64 0, .int .i64 0]) (by simp) (i := 0) rfl
  have y1 := K5.out.c (g := w3.heap.size) (t := /-T-/ 23) (cs := #[.int .i64 0, .int .i64 0]) (by simp) (i := 1) rfl
  go_wp2
  all_goals
    go_ret
    exact ⟨rfl, K5.out.1⟩
set_option maxRecDepth 100000 in
set_option maxHeartbeats 2000000 in
theorem law_both (lo hi alo ahi : Int) (w : World) (hl : latB lo hi = true) (ha : arcV alo ahi = true) :
    Calls Tryz.prog 3 #[.agg #[.int .i64 lo, .int .i64 hi], .agg #[.int .i64 alo, .int .i64 ahi]] w fun e w' => e = .returned (.bool true) ∧ Below w.heap.size w w' := by
  have C0 := Lib.hid c_awake44
  have C1 := fun w => c_Departure lo hi alo ahi w hl ha
  have C2 := fun w => c_Dlon lo hi alo ahi w hl ha
  have C3 := fun w => c_r44Latitude lo hi w
  rw [hl] at C3; replace C3 := Lib.hid C3
  have C4 := fun w => c_r5Valid alo ahi w
  rw [ha] at C4; replace C4 := Lib.hid C4
  have C5 := fun w => c_rDeparture lo hi alo ahi w hl ha
  have C6 := fun w => c_rDlon lo hi alo ahi w hl ha
  obtain ⟨x, y, ee, he⟩ := arcE_form (prLo (cosLo lo hi) (cosHi lo hi) alo ahi) (prHi (cosLo lo hi) (cosHi lo hi) alo ahi)
  obtain ⟨p, q, ff, hf⟩ := dlV_form (cosLo lo hi) (cosHi lo hi) alo ahi
  rw [he] at C1 C5; rw [hf] at C2 C6
  replace C5 := Lib.hid C5; replace C6 := Lib.hid C6; clear he hf
  have E1 := arc_eql x y; have E2 := arc_eql p q
  replace C1 := Lib.hid C1; replace C2 := Lib.hid C2
  clear hl ha
  have K0 := Lib.hid (((ks_start w).new w.heap.size rfl /-T-/ 23 #[.int .i64 lo, .int .i64 hi]).new (w.heap.size + 1) (by simp) /-T-/ 23 #[.int .i64 alo, .int .i64 ahi])
  go_enter Tryz.func3, Tryz.ntmps3
  go_wp2_with fail
  refine (C0.out _).mono ?_
  rintro e w1 ⟨rfl, hb1⟩
  have K1 := Lib.hid (K0.out.below hb1); clear hb1 K0
  have a0 := K1.out.c (g := w.heap.size) (t := /-T-/ 23) (cs := #[.int .i64 lo, .int .i64 hi]) (by simp) (i := 0) rfl
  have a1 := K1.out.c (g := w.heap.size) (t := /-T-/ 23) (cs := #[.int .i64 lo, .int .i64 hi]) (by simp) (i := 1) rfl
  have b0 := K1.out.c (g := w.heap.size + 1) (t := /-T-/ 23) (cs := #[.int .i64 alo, .int .i64 ahi]) (by simp) (i := 0) rfl
  have b1 := K1.out.c (g := w.heap.size + 1) (t := /-T-/ 23) (cs := #[.int .i64 alo, .int .i64 ahi]) (by simp) (i := 1) rfl
  go_wp2_with fail
  refine (C1.out _).mono ?_
  rintro e w2 ⟨rfl, hb2⟩
  have K2 := Lib.hid ((K1.out.below hb2).new w2.heap.size rfl /-T-/ 23 #[.int .i64 x, .int .i64 y]); clear hb2 K1 a0 a1 b0 b1
  have a0 := K2.out.c (g := w.heap.size) (t := /-T-/ 23) (cs := #[.int .i64 lo, .int .i64 hi]) (by simp) (i := 0) rfl
  have a1 := K2.out.c (g := w.heap.size) (t := /-T-/ 23) (cs := #[.int .i64 lo, .int .i64 hi]) (by simp) (i := 1) rfl
  have b0 := K2.out.c (g := w.heap.size + 1) (t := /-T-/ 23) (cs := #[.int .i64 alo, .int .i64 ahi]) (by simp) (i := 0) rfl
  have b1 := K2.out.c (g := w.heap.size + 1) (t := /-T-/ 23) (cs := #[.int .i64 alo, .int .i64 ahi]) (by simp) (i := 1) rfl
  have x0 := K2.out.c (g := w2.heap.size) (t := /-T-/ 23) (cs := #[.int .i64 x, .int .i64 y]) (by simp) (i := 0) rfl
  have x1 := K2.out.c (g := w2.heap.size) (t := /-T-/ 23) (cs := #[.int .i64 x, .int .i64 y]) (by simp) (i := 1) rfl
  go_wp2_with fail
  refine (C2.out _).mono ?_
  rintro e w3 ⟨rfl, hb3⟩
  have K3 := Lib.hid ((K2.out.below hb3).new w3.heap.size rfl /-T-/ 23 #[.int .i64 p, .int .i64 q]); clear hb3 K2 a0 a1 b0 b1 x0 x1
  have a0 := K3.out.c (g := w.heap.size) (t := /-T-/ 23) (cs := #[.int .i64 lo, .int .i64 hi]) (by simp) (i := 0) rfl
  have a1 := K3.out.c (g := w.heap.size) (t := /-T-/ 23) (cs := #[.int .i64 lo, .int .i64 hi]) (by simp) (i := 1) rfl
  have b0 := K3.out.c (g := w.heap.size + 1) (t := /-T-/ 23) (cs := #[.int .i64 alo, .int .i64 ahi]) (by simp) (i := 0) rfl
  have b1 := K3.out.c (g := w.heap.size + 1) (t := /-T-/ 23) (cs := #[.int .i64 alo, .int .i64 ahi]) (by simp) (i := 1) rfl
  have x0 := K3.out.c (g := w2.heap.size) (t := /-T-/ 23) (cs := #[.int .i64 x, .int .i64 y]) (by simp) (i := 0) rfl
  have x1 := K3.out.c (g := w2.heap.size) (t := /-T-/ 23) (cs := #[.int .i64 x, .int .i64 y]) (by simp) (i := 1) rfl
  have y0 := K3.out.c (g := w3.heap.size) (t := /-T-/ 23) (cs := #[.int .i64 p, .int .i64 q]) (by simp) (i := 0) rfl
  have y1 := K3.out.c (g := w3.heap.size) (t := /-T-/ 23) (cs := #[.int .i64 p, .int .i64 q]) (by simp) (i := 1) rfl
  go_wp2_with fail
  refine (C3.out _).mono ?_
  rintro e w4 ⟨rfl, hb4⟩
  have K4 := Lib.hid (K3.out.below hb4); clear hb4 K3 a0 a1 b0 b1 x0 x1 y0 y1
  have a0 := K4.out.c (g := w.heap.size) (t := /-T-/ 23) (cs := #[.int .i64 lo, .int .i64 hi]) (by simp) (i := 0) rfl
  have a1 := K4.out.c (g := w.heap.size) (t := /-T-/ 23) (cs := #[.int .i64 lo, .int .i64 hi]) (by simp) (i := 1) rfl
  have b0 := K4.out.c (g := w.heap.size + 1) (t := /-T-/ 23) (cs := #[.int .i64 alo, .int .i64 ahi]) (by simp) (i := 0) rfl
  have b1 := K4.out.c (g := w.heap.size + 1) (t := /-T-/ 23) (cs := #[.int .i64 alo, .int .i64 ahi]) (by simp) (i := 1) rfl
  have x0 := K4.out.c (g := w2.heap.size) (t := /-T-/ 23) (cs := #[.int .i64 x, .int .i64 y]) (by simp) (i := 0) rfl
  have x1 := K4.out.c (g := w2.heap.size) (t := /-T-/ 23) (cs := #[.int .i64 x, .int .i64 y]) (by simp) (i := 1) rfl
  have y0 := K4.out.c (g := w3.heap.size) (t := /-T-/ 23) (cs := #[.int .i64 p, .int .i64 q]) (by simp) (i := 0) rfl
  have y1 := K4.out.c (g := w3.heap.size) (t := /-T-/ 23) (cs := #[.int .i64 p, .int .i64 q]) (by simp) (i := 1) rfl
  go_wp2_with fail
  refine (C4.out _).mono ?_
  rintro e w5 ⟨rfl, hb5⟩
  have K5 := Lib.hid (K4.out.below hb5); clear hb5 K4 a0 a1 b0 b1 x0 x1 y0 y1
  have a0 := K5.out.c (g := w.heap.size) (t := /-T-/ 23) (cs := #[.int .i64 lo, .int .i64 hi]) (by simp) (i := 0) rfl
  have a1 := K5.out.c (g := w.heap.size) (t := /-T-/ 23) (cs := #[.int .i64 lo, .int .i64 hi]) (by simp) (i := 1) rfl
  have b0 := K5.out.c (g := w.heap.size + 1) (t := /-T-/ 23) (cs := #[.int .i64 alo, .int .i64 ahi]) (by simp) (i := 0) rfl
  have b1 := K5.out.c (g := w.heap.size + 1) (t := /-T-/ 23) (cs := #[.int .i64 alo, .int .i64 ahi]) (by simp) (i := 1) rfl
  have x0 := K5.out.c (g := w2.heap.size) (t := /-T-/ 23) (cs := #[.int .i64 x, .int .i64 y]) (by simp) (i := 0) rfl
  have x1 := K5.out.c (g := w2.heap.size) (t := /-T-/ 23) (cs := #[.int .i64 x, .int .i64 y]) (by simp) (i := 1) rfl
  have y0 := K5.out.c (g := w3.heap.size) (t := /-T-/ 23) (cs := #[.int .i64 p, .int .i64 q]) (by simp) (i := 0) rfl
  have y1 := K5.out.c (g := w3.heap.size) (t := /-T-/ 23) (cs := #[.int .i64 p, .int .i64 q]) (by simp) (i := 1) rfl
  go_wp2_with fail
  refine (C5.out _).mono ?_
  rintro e w6 ⟨rfl, hb6⟩
  have K6 := Lib.hid ((K5.out.below hb6).new w6.heap.size rfl /-T-/ 23 #[.int .i64 x, .int .i64 y]); clear hb6 K5 a0 a1 b0 b1 x0 x1 y0 y1
  have a0 := K6.out.c (g := w.heap.size) (t := /-T-/ 23) (cs := #[.int .i64 lo, .int .i64 hi]) (by simp) (i := 0) rfl
  have a1 := K6.out.c (g := w.heap.size) (t := /-T-/ 23) (cs := #[.int .i64 lo, .int .i64 hi]) (by simp) (i := 1) rfl
  have b0 := K6.out.c (g := w.heap.size + 1) (t := /-T-/ 23) (cs := #[.int .i64 alo, .int .i64 ahi]) (by simp) (i := 0) rfl
  have b1 := K6.out.c (g := w.heap.size + 1) (t := /-T-/ 23) (cs := #[.int .i64 alo, .int .i64 ahi]) (by simp) (i := 1) rfl
  have x0 := K6.out.c (g := w2.heap.size) (t := /-T-/ 23) (cs := #[.int .i64 x, .int .i64 y]) (by simp) (i := 0) rfl
  have x1 := K6.out.c (g := w2.heap.size) (t := /-T-/ 23) (cs := #[.int .i64 x, .int .i64 y]) (by simp) (i := 1) rfl
  have y0 := K6.out.c (g := w3.heap.size) (t := /-T-/ 23) (cs := #[.int .i64 p, .int .i64 q]) (by simp) (i := 0) rfl
  have y1 := K6.out.c (g := w3.heap.size) (t := /-T-/ 23) (cs := #[.int .i64 p, .int .i64 q]) (by simp) (i := 1) rfl
  have u0 := K6.out.c (g := w6.heap.size) (t := /-T-/ 23) (cs := #[.int .i64 x, .int .i64 y]) (by simp) (i := 0) rfl
  have u1 := K6.out.c (g := w6.heap.size) (t := /-T-/ 23) (cs := #[.int .i64 x, .int .i64 y]) (by simp) (i := 1) rfl
  go_wp2_with fail
  refine (C6.out _).mono ?_
  rintro e w7 ⟨rfl, hb7⟩
  have K7 := Lib.hid ((K6.out.below hb7).new w7.heap.size rfl /-T-/ 23 #[.int .i64 p, .int .i64 q]); clear hb7 K6 a0 a1 b0 b1 x0 x1 y0 y1 u0 u1
  have a0 := K7.out.c (g := w.heap.size) (t := /-T-/ 23) (cs := #[.int .i64 lo, .int .i64 hi]) (by simp) (i := 0) rfl
  have a1 := K7.out.c (g := w.heap.size) (t := /-T-/ 23) (cs := #[.int .i64 lo, .int .i64 hi]) (by simp) (i := 1) rfl
  have b0 := K7.out.c (g := w.heap.size + 1) (t := /-T-/ 23) (cs := #[.int .i64 alo, .int .i64 ahi]) (by simp) (i := 0) rfl
  have b1 := K7.out.c (g := w.heap.size + 1) (t := /-T-/ 23) (cs := #[.int .i64 alo, .int .i64 ahi]) (by simp) (i := 1) rfl
  have x0 := K7.out.c (g := w2.heap.size) (t := /-T-/ 23) (cs := #[.int .i64 x, .int .i64 y]) (by simp) (i := 0) rfl
  have x1 := K7.out.c (g := w2.heap.size) (t := /-T-/ 23) (cs := #[.int .i64 x, .int .i64 y]) (by simp) (i := 1) rfl
  have y0 := K7.out.c (g := w3.heap.size) (t := /-T-/ 23) (cs := #[.int .i64 p, .int .i64 q]) (by simp) (i := 0) rfl
  have y1 := K7.out.c (g := w3.heap.size) (t := /-T-/ 23) (cs := #[.int .i64 p, .int .i64 q]) (by simp) (i := 1) rfl
  have u0 := K7.out.c (g := w6.heap.size) (t := /-T-/ 23) (cs := #[.int .i64 x, .int .i64 y]) (by simp) (i := 0) rfl
  have u1 := K7.out.c (g := w6.heap.size) (t := /-T-/ 23) (cs := #[.int .i64 x, .int .i64 y]) (by simp) (i := 1) rfl
  have v0 := K7.out.c (g := w7.heap.size) (t := /-T-/ 23) (cs := #[.int .i64 p, .int .i64 q]) (by simp) (i := 0) rfl
  have v1 := K7.out.c (g := w7.heap.size) (t := /-T-/ 23) (cs := #[.int .i64 p, .int .i64 q]) (by simp) (i := 1) rfl
  go_wp2
  all_goals
    go_ret
    exact ⟨rfl, K7.out.1⟩
theorem c_law (lo hi alo ahi : Int) (w : World) :
    Calls Tryz.prog 3 #[.agg #[.int .i64 lo, .int .i64 hi], .agg #[.int .i64 alo, .int .i64 ahi]] w fun e w' => e = .returned (.bool true) ∧ Below w.heap.size w w' := by
  cases hl : latB lo hi
  · exact law_lat lo hi alo ahi w hl
  · cases ha : arcV alo ahi
    · exact law_arc lo hi alo ahi w hl ha
    · exact law_both lo hi alo ahi w hl ha
end Go.Proofs.YtlloiallkcfomaaGreat
