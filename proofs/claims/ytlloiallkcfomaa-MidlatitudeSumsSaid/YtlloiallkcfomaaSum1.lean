/- The contracts of Add on arcs, of the search over legs. -/
import Derived.Test.YtlloiallkcfomaaSumM
set_option linter.unusedVariables false
set_option linter.unusedSimpArgs false
namespace Go.Proofs.Ytlloiallkcfomaa
open Go.RowKit Alm
set_option maxRecDepth 100000 in
theorem c_result (lo hi : Int) (w : World) (h1 : factB lo = true) (h2 : factB hi = true) :
    Calls Try.prog 103 #[.int .i64 lo, .int .i64 hi] w fun e w' => e = .returned (.tuple #[.agg #[.int .i64 lo, .int .i64 hi], .int .i64 0]) ∧ Below w.heap.size w w' := by
  have C1 := fun w => c_fits lo w
  have C2 := fun w => c_fits hi w
  rw [h1] at C1; rw [h2] at C2
  replace C1 := Lib.hid C1; replace C2 := Lib.hid C2
  clear h1 h2
  go_enter Try.func103, Try.ntmps103
  go_wp2_with fail
  refine (C1.out _).mono ?_
  rintro e w' ⟨rfl, rfl⟩
  go_wp2_with fail
  refine (C2.out _).mono ?_
  rintro e w' ⟨rfl, rfl⟩
  go_wp2
  refine bodyPost_ret (by simp [results, Try.results103, go_sem]; try rfl) rfl ⟨rfl, by go_grown⟩
set_option maxRecDepth 100000 in
theorem c_aAdd (a b c d : Int) (w : World) (h1 : arcV a b = true) (h2 : arcV c d = true) (h3 : factB (a + c) = true) (h4 : factB (b + d) = true) :
    Calls Try.prog 60 #[.agg #[.int .i64 a, .int .i64 b], .agg #[.int .i64 c, .int .i64 d]] w fun e w' => e = .returned (.tuple #[.agg #[.int .i64 (a + c), .int .i64 (b + d)], .int .i64 0]) ∧ Below w.heap.size w w' := by
  have C1 := fun w => c_aValid a b w
  have C2 := fun w => c_aValid c d w
  rw [h1] at C1; rw [h2] at C2
  replace C1 := Lib.hid C1; replace C2 := Lib.hid C2
  have C3 := Lib.hid (fun w => c_result (a + c) (b + d) w h3 h4)
  have k3 : -1099511627776 ≤ a + c ∧ a + c ≤ 1099511627776 := by unfold factB at h3; simpa using h3
  have k4 : -1099511627776 ≤ b + d ∧ b + d ≤ 1099511627776 := by unfold factB at h4; simpa using h4
  clear h1 h2 h3 h4
  have K0 := Lib.hid ((((ks_start w).new w.heap.size rfl /-T-/ 37 #[.int .i64 a, .int .i64 b]).new (w.heap.size + 1) (by simp) /-T-/ 37 #[.int .i64 c, .int .i64 d]).new (w.heap.size + 1 + 1) (by simp) /-T-/ 37 #[.int .i64 0, .int .i64 0])
  go_enter Try.func60, Try.ntmps60
  go_wp2_with fail
  refine (C1.out _).mono ?_
  rintro e w1 ⟨rfl, hb1⟩
  have K1 := Lib.hid (K0.out.below hb1); clear hb1 K0
  have b0 := K1.out.c (g := w.heap.size + 1) (t := /-T-/ 37) (cs := #[.int .i64 c, .int .i64 d]) (by simp) (i := 0) rfl
  have b1 := K1.out.c (g := w.heap.size + 1) (t := /-T-/ 37) (cs := #[.int .i64 c, .int .i64 d]) (by simp) (i := 1) rfl
  go_wp2_with fail
  refine (C2.out _).mono ?_
  rintro e w2 ⟨rfl, hb1⟩
  have K2 := Lib.hid (K1.out.below hb1); clear hb1 K1 b0 b1
  have a0 := K2.out.c (g := w.heap.size) (t := /-T-/ 37) (cs := #[.int .i64 a, .int .i64 b]) (by simp) (i := 0) rfl
  have a1 := K2.out.c (g := w.heap.size) (t := /-T-/ 37) (cs := #[.int .i64 a, .int .i64 b]) (by simp) (i := 1) rfl
  have b0 := K2.out.c (g := w.heap.size + 1) (t := /-T-/ 37) (cs := #[.int .i64 c, .int .i64 d]) (by simp) (i := 0) rfl
  have b1 := K2.out.c (g := w.heap.size + 1) (t := /-T-/ 37) (cs := #[.int .i64 c, .int .i64 d]) (by simp) (i := 1) rfl
  go_wp2_with fail
  refine (C3.out _).mono ?_
  rintro e w3 ⟨rfl, hb1⟩
  have K3 := Lib.hid (K2.out.below hb1); clear hb1 K2 a0 a1 b0 b1
  have q0 := K3.out.c (g := w.heap.size + 1 + 1) (t := /-T-/ 37) (cs := #[.int .i64 0, .int .i64 0]) (by simp) (i := 0) rfl
  have q1 := K3.out.c (g := w.heap.size + 1 + 1) (t := /-T-/ 37) (cs := #[.int .i64 0, .int .i64 0]) (by simp) (i := 1) rfl
  have g0 := K3.out.f (g := w.heap.size + 1 + 1) (t := /-T-/ 37) (cs := #[.int .i64 0, .int .i64 0]) (by simp) 0
  have g1 := K3.out.f (g := w.heap.size + 1 + 1) (t := /-T-/ 37) (cs := #[.int .i64 0, .int .i64 0]) (by simp) 1
  go_wp2
  refine bodyPost_ret (by simp [results, Try.results60, go_sem, q0, q1]; try rfl) rfl ⟨rfl, by have := K3.out.1; go_light; go_grown⟩
/-- the cells of a leg, of legs one behind the other -/
def LegAt (w : World) (b o : Nat) (l : Leg4) : Prop := w.cell? ⟨b, o, none⟩ = some (.int .i64 l.cl) ∧ w.cell? ⟨b, o + 1, none⟩ = some (.int .i64 l.ch) ∧ w.cell? ⟨b, o + 2, none⟩ = some (.int .i64 l.dl) ∧ w.cell? ⟨b, o + 3, none⟩ = some (.int .i64 l.dh)
def LegRow (w : World) (b off : Nat) (L : List Leg4) : Prop := b < w.heap.size ∧ ∀ i (h : i < L.length), LegAt w b (off + i * 4) L[i]
theorem LegRow.below {w wx : World} {b off B : Nat} {L : List Leg4} (h : LegRow w b off L) (hb : Below B w wx) (hB : b < B) : LegRow wx b off L :=
  ⟨Nat.lt_of_lt_of_le h.1 hb.size, fun i hi => by
    obtain ⟨a, b', c, d⟩ := h.2 i hi
    exact ⟨(hb.cell hB).trans a, (hb.cell hB).trans b', (hb.cell hB).trans c, (hb.cell hB).trans d⟩⟩
/-- a slice of legs -/
def Legs (w : World) (a : Option Addr) (L : List Leg4) : Prop := L = [] ∨ ∃ b off, a = some ⟨b, off, none⟩ ∧ LegRow w b off L
theorem Legs.below {w wx : World} {a : Option Addr} {L : List Leg4} (h : Legs w a L) (hb : Below w.heap.size w wx) : Legs wx a L := by
  rcases h with h | ⟨b, off, h1, h2⟩
  · exact .inl h
  · exact .inr ⟨b, off, h1, h2.below hb h2.1⟩
def Leg4.v (l : Leg4) : Value := .agg #[.int .i64 l.cl, .int .i64 l.ch, .int .i64 l.dl, .int .i64 l.dh]
theorem c_big (l : Leg4) (w : World) :
    Calls Try.prog 19 #[.agg #[.int .i64 l.cl, .int .i64 l.ch, .int .i64 l.dl, .int .i64 l.dh]] w fun e w' => e = .returned (.bool (!l.small)) ∧ Below w.heap.size w w' := by
  have e1 : (!l.small) = (decide (1073741824 < l.dh) || (decide (1073741824 < l.ch) || decide (l.cl < -1073741824))) := by unfold Leg4.small; rw [Bool.eq_iff_iff]; simp [← Int.not_lt]; try omega
  rw [e1]; clear e1
  obtain ⟨a, b, c, d⟩ := l
  simp only []
  go_enter Try.func19, Try.ntmps19
  go_wp2
  all_goals
    go_ret
    exact ⟨ret_bool (by first | (simp <;> omega) | (simp_all <;> omega) | (rw [Bool.or_assoc]) | rfl), by go_grown⟩
end Go.Proofs.Ytlloiallkcfomaa
