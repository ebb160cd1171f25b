/- The law of sums: the walk where there are no legs. -/
import Derived.Test.YtlloiallkcfomaaSumL2
import Derived.Shelf.Bytes.SlCase
set_option linter.unusedVariables false
set_option linter.unusedSimpArgs false
namespace Go.Proofs.Ytlloiallkcfomaa
open Go.RowKit Alm
theorem append_none (W : World) (b0 : Addr) (p : Option Addr) (c : Nat) :
    (Builtin.append_ #[/-T-/ 34, /-T-/ 34] /-T-/ 34 #[.slice (some b0) 0 0, .slice p 0 c]).run Try.prog W = .ok (.slice (some b0) 0 0) W := by
  obtain ⟨i, z, hi, _⟩ := leg_info
  cases p <;> simp [Builtin.append_, run_underlying Try.underlying34, sizeOf, typeInfo, hi, Builtin.lenOf, Builtin.firstCells, loadCells, loadCellsFrom, storeCells]
set_option maxRecDepth 100000 in
theorem c_clone0 (a : Option Addr) (cap : Nat) (w : World) (hnil : a = none → cap = 0) :
    Calls Try.prog 21 #[.slice a 0 cap] w fun e w' => ∃ a' c, e = .returned (.slice a' 0 c) ∧ Below w.heap.size w w' := by
  have q22 : ∀ (w : World) (a : Option Addr) (n c n' c' : Nat), (binOp .eql /-T-/ 34 (.slice a n c) (.slice none n' c')).run Try.prog w = .ok (.bool a.isNone) w := fun w a n c n' c' => Lib.run_eql_slice_nil w _ _ a n c n' c' Try.underlying34
  cases a with
  | none =>
    obtain rfl := hnil rfl
    go_enter Try.func21, Try.ntmps21
    go_wp2
    go_ret
    exact ⟨⟨none, 0, rfl⟩, Below.refl _ _⟩
  | some ad =>
    have hrun := append_none (w.alloc (.cells #[] /-T-/ 39)) ⟨w.heap.size, 0, none⟩ (some ad) cap
    clear hnil
    go_enter Try.func21, Try.ntmps21
    go_wp2_with (at_builtin; refine Lib.wpList_append_run_sl _ rfl _ _ /-T-/ 34 rfl _ _ rfl rfl hrun ?_)
    go_ret
    exact ⟨_, _, rfl, (Below.refl _ w).alloc (Nat.le_refl _) _⟩
set_option maxRecDepth 100000 in
theorem c_reverse0 (a : Option Addr) (cap : Nat) (w : World) :
    Calls Try.prog 22 #[.slice a 0 cap] w fun e w' => e = .returned (.tuple #[]) ∧ Below w.heap.size w w' := by
  go_enter Try.func22, Try.ntmps22
  go_wp2
  refine wp_loop_rounds 1 ?_
  rw [rounds_succ]
  go_wp2
  go_end0
  exact ⟨rfl, Below.refl _ _⟩
theorem slice_lo0 (a : Option Addr) (cap : Nat) (hnil : a = none → cap = 0) : ∃ (a' : Option Addr) (c' : Nat), ∀ w, (Instr.slice /-T-/ 34 (.slice a 0 cap) (some (.int .i64 0)) none none).run Try.prog w = .ok (.slice a' 0 c') w := by
  have he : Try.prog.elem /-T-/ 34 = /-T-/ 39 := by kernel_rfl
  cases a with
  | none =>
    obtain rfl := hnil rfl
    exact ⟨none, 0, fun w => by kernel_rfl⟩
  | some ad =>
    have e0 : (0 : Int) = ((0 : Nat) : Int) := rfl
    by_cases e : cap = 0
    · refine ⟨some ad, 0, fun w => ?_⟩
      rw [e0, run_slice_l w _ _ _ _ (by rw [he]; exact Try.underlying34) _ _ (by omega) (by omega), he, leg_size]
      simp [sliced, e]
    · refine ⟨some ad, cap, fun w => ?_⟩
      rw [e0, run_slice_l w _ _ _ _ (by rw [he]; exact Try.underlying34) _ _ (by omega) (by omega), he, leg_size]
      simp [sliced, e, Addr.add]
set_option maxRecDepth 100000 in
set_option maxHeartbeats 8000000 in
theorem sums_none (a : Option Addr) (cap : Nat) (cut : Int) (w : World) (hnil : a = none → cap = 0) (hc0 : 0 ≤ cut) (hc1 : cut ≤ 255) :
    Calls Try.prog 4 #[.slice a 0 cap, .int .u8 cut] w fun e w' => e = .returned (.bool true) ∧ Below w.heap.size w w' := by
  have ZN : ∀ l ∈ ([] : List Leg4), l.ok = true ∧ l.dh ≤ 1073741824 := by simp
  have TR : ∀ (a : Option Addr) (cap : Nat) (w : World), Calls Try.prog 20 #[.slice a 0 cap] w fun e w' => e = .returned (.tuple #[.agg #[.int .i64 0, .int .i64 0], .agg #[.int .i64 0, .int .i64 0], .int .i64 0]) ∧ Below w.heap.size w w' := fun a cap w => c_trav_ok a cap [] w (.inl rfl) (by simp) ZN
  have CO : ∀ w, Calls Try.prog 18 #[.slice a 0 cap, .func (.func 19) #[] #[]] w fun e w' => e = .returned (.bool false) ∧ Below w.heap.size w w' := fun w => c_contains a cap [] w (.inl rfl) (by simp)
  have CL : ∀ w, Calls Try.prog 21 #[.slice a 0 cap] w fun e w' => ∃ a' c, e = .returned (.slice a' 0 c) ∧ Below w.heap.size w w' := fun w => c_clone0 a cap w hnil
  obtain ⟨sa, sc, SL⟩ := slice_lo0 a cap hnil
  have tm : cut.tmod 1 = 0 := Int.tmod_one cut
  have C0 := Lib.hid c_awake44
  replace TR := Lib.hid TR; replace CO := Lib.hid CO; replace CL := Lib.hid CL
  have RV := Lib.hid c_reverse0
  have N1 := arc_neq 0 0
  have K0 := Lib.hid (ks_start w)
  clear ZN hnil
  go_enter Try.func4, Try.ntmps4
  go_wp2_with fail
  refine (C0.out _).mono ?_
  rintro e w1 ⟨rfl, hb1⟩
  have K1 := Lib.hid (K0.out.below hb1); clear hb1 K0
  go_wp2_with fail
  refine (CO.out _).mono ?_
  rintro e w2 ⟨rfl, hb1⟩
  have K2 := Lib.hid (K1.out.below hb1); clear hb1 K1
  go_wp2_with fail
  refine (TR.out _ _ _).mono ?_
  rintro e w3 ⟨rfl, hb1⟩
  have K3 := Lib.hid (((K2.out.below hb1).new w3.heap.size rfl /-T-/ 37 #[.int .i64 0, .int .i64 0]).new (w3.heap.size + 1) (by simp) /-T-/ 37 #[.int .i64 0, .int .i64 0]); clear hb1 K2
  go_wp2_with fail
  refine (CL.out _).mono ?_
  rintro e w4 ⟨a4, c4, rfl, hb1⟩
  have K4 := Lib.hid (K3.out.below hb1); clear hb1 K3
  go_wp2_with fail
  refine (RV.out _ _ _).mono ?_
  rintro e w5 ⟨rfl, hb1⟩
  have K5 := Lib.hid (K4.out.below hb1); clear hb1 K4
  go_wp2_with fail
  refine (TR.out _ _ _).mono ?_
  rintro e w6 ⟨rfl, hb1⟩
  have K6 := Lib.hid (((K5.out.below hb1).new w6.heap.size rfl /-T-/ 37 #[.int .i64 0, .int .i64 0]).new (w6.heap.size + 1) (by simp) /-T-/ 37 #[.int .i64 0, .int .i64 0]); clear hb1 K5
  go_wp2_with fail
  refine (TR.out _ _ _).mono ?_
  rintro e w7 ⟨rfl, hb1⟩
  have K7 := Lib.hid (((K6.out.below hb1).new w7.heap.size rfl /-T-/ 37 #[.int .i64 0, .int .i64 0]).new (w7.heap.size + 1) (by simp) /-T-/ 37 #[.int .i64 0, .int .i64 0]); clear hb1 K6
  go_wp2_with fail
  refine (TR.out _ _ _).mono ?_
  rintro e w8 ⟨rfl, hb1⟩
  have K8 := Lib.hid (((K7.out.below hb1).new w8.heap.size rfl /-T-/ 37 #[.int .i64 0, .int .i64 0]).new (w8.heap.size + 1) (by simp) /-T-/ 37 #[.int .i64 0, .int .i64 0]); clear hb1 K7
  have x0 := K8.out.c (g := w3.heap.size) (t := /-T-/ 37) (cs := #[.int .i64 0, .int .i64 0]) (by simp) (i := 0) rfl
  have x1 := K8.out.c (g := w3.heap.size) (t := /-T-/ 37) (cs := #[.int .i64 0, .int .i64 0]) (by simp) (i := 1) rfl
  have y0 := K8.out.c (g := w3.heap.size + 1) (t := /-T-/ 37) (cs := #[.int .i64 0, .int .i64 0]) (by simp) (i := 0) rfl
  have y1 := K8.out.c (g := w3.heap.size + 1) (t := /-T-/ 37) (cs := #[.int .i64 0, .int .i64 0]) (by simp) (i := 1) rfl
  have p0 := K8.out.c (g := w6.heap.size) (t := /-T-/ 37) (cs := #[.int .i64 0, .int .i64 0]) (by simp) (i := 0) rfl
  have p1 := K8.out.c (g := w6.heap.size) (t := /-T-/ 37) (cs := #[.int .i64 0, .int .i64 0]) (by simp) (i := 1) rfl
  have q0 := K8.out.c (g := w6.heap.size + 1) (t := /-T-/ 37) (cs := #[.int .i64 0, .int .i64 0]) (by simp) (i := 0) rfl
  have q1 := K8.out.c (g := w6.heap.size + 1) (t := /-T-/ 37) (cs := #[.int .i64 0, .int .i64 0]) (by simp) (i := 1) rfl
  have s0 := K8.out.c (g := w7.heap.size) (t := /-T-/ 37) (cs := #[.int .i64 0, .int .i64 0]) (by simp) (i := 0) rfl
  have s1 := K8.out.c (g := w7.heap.size) (t := /-T-/ 37) (cs := #[.int .i64 0, .int .i64 0]) (by simp) (i := 1) rfl
  have t0 := K8.out.c (g := w7.heap.size + 1) (t := /-T-/ 37) (cs := #[.int .i64 0, .int .i64 0]) (by simp) (i := 0) rfl
  have t1 := K8.out.c (g := w7.heap.size + 1) (t := /-T-/ 37) (cs := #[.int .i64 0, .int .i64 0]) (by simp) (i := 1) rfl
  have u0 := K8.out.c (g := w8.heap.size) (t := /-T-/ 37) (cs := #[.int .i64 0, .int .i64 0]) (by simp) (i := 0) rfl
  have u1 := K8.out.c (g := w8.heap.size) (t := /-T-/ 37) (cs := #[.int .i64 0, .int .i64 0]) (by simp) (i := 1) rfl
  have v0 := K8.out.c (g := w8.heap.size + 1) (t := /-T-/ 37) (cs := #[.int .i64 0, .int .i64 0]) (by simp) (i := 0) rfl
  have v1 := K8.out.c (g := w8.heap.size + 1) (t := /-T-/ 37) (cs := #[.int .i64 0, .int .i64 0]) (by simp) (i := 1) rfl
  go_wp2_with fail
  refine (CL.out _).mono ?_
  rintro e w9 ⟨a9, c9, rfl, hb1⟩
  have K9 := Lib.hid (K8.out.below hb1); clear hb1 K8 x0 x1 y0 y1 p0 p1 q0 q1 s0 s1 t0 t1 u0 u1 v0 v1 N1 SL
  go_wp2
  refine wp_loop_rounds 1 ?_
  rw [rounds_succ]
  go_wp2_with fail
  refine (TR.out _ _ _).mono ?_
  rintro e w10 ⟨rfl, hb1⟩
  have K10 := Lib.hid (K9.out.below hb1); clear hb1 K9
  go_wp2
  go_ret
  exact ⟨by simp, (K10.out.1.alloc K10.out.1.size _).alloc (by have := K10.out.1.size; simp; omega) _⟩
end Go.Proofs.Ytlloiallkcfomaa
