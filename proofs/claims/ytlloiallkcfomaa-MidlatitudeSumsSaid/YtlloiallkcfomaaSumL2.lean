/- The law of sums: laws on memory and equality for the main walk. -/
import Derived.Test.YtlloiallkcfomaaSumL1
set_option linter.unusedVariables false
set_option linter.unusedSimpArgs false
namespace Go.Proofs.Ytlloiallkcfomaa
open Go.RowKit Alm
theorem arc_fields : ∃ f1 f2 : Field, (Try.prog.fieldsOf /-T-/ 37).toList = [f1, f2] ∧ (f1.name == "_") = false ∧ (f2.name == "_") = false ∧ f1.offset = 0 ∧ f2.offset = 1 ∧ (∀ w, (isAgg f1.type).run Try.prog w = .ok false w) ∧ (∀ w, (isAgg f2.type).run Try.prog w = .ok false w) ∧ Try.prog.underlying f1.type = some (.int .i64) ∧ Try.prog.underlying f2.type = some (.int .i64) := by
  refine ⟨(Try.prog.fieldsOf /-T-/ 37).toList[0]'(of_decide_eq_true (by kernel_rfl)), (Try.prog.fieldsOf /-T-/ 37).toList[1]'(of_decide_eq_true (by kernel_rfl)), by kernel_rfl, by kernel_rfl, by kernel_rfl, by kernel_rfl, by kernel_rfl, fun _ => by kernel_rfl, fun _ => by kernel_rfl, by kernel_rfl, by kernel_rfl⟩
theorem arc_neq (x y : Int) : ∀ w, (binOp .neq /-T-/ 37 (.agg #[.int .i64 x, .int .i64 y]) (.agg #[.int .i64 x, .int .i64 y])).run Try.prog w = .ok (.bool false) w := by
  intro w
  rw [run_neq_struct]
  have h : ((Op.equalIn 10000 /-T-/ 37 (.agg #[.int .i64 x, .int .i64 y]) (.agg #[.int .i64 x, .int .i64 y])).run Try.prog w) = .ok true w := by
    rw [run_equalIn_agg w 9999 _ _ _ (by kernel_rfl) (by kernel_rfl)]
    obtain ⟨f1, f2, e1, e2, e3, e4, e5, t1, t2, u1, u2⟩ := arc_fields
    have e2 := ne_of_beq_false e2; have e3 := ne_of_beq_false e3
    rw [e1]
    simp [Op.eqFields, e2, e3, e4, e5, part, t1, t2, u1, u2, run_equalIn_int w 9998 _ .i64 .i64 _ _ u1, run_equalIn_int w 9998 _ .i64 .i64 _ _ u2]
  rw [h]; rfl
theorem below_heap {w wx : World} {B k : Nat} (hb : Below B w wx) (hk : k < B) : wx.heap[k]? = w.heap[k]? := hb.block k hk
theorem owns_below {w wx : World} {base : Nat} {e : TypeId} {size n : Nat} {v : Value} {xs : List Value} (h : w.ownsRow base e size v n xs) (hb : Below w.heap.size w wx) : wx.ownsRow base e size v n xs := by
  refine ⟨h.1, ?_⟩
  rcases h.2 with h0 | ⟨g, cap, cur, hv, hg, hh, rest⟩
  · exact .inl h0
  · refine .inr ⟨g, cap, cur, hv, hg, ?_, rest⟩
    rw [below_heap hb ?_]; exact hh
    rcases Nat.lt_or_ge g w.heap.size with hlt | hge
    · exact hlt
    · rw [Array.getElem?_eq_none hge] at hh; cases hh
theorem news_new (w : World) (n : Nat) (hn : w.heap.size = n) (cs : Array Value) (t : TypeId) (j : Nat) (u : Value) (hj : cs.toList[j]? = some u) : (w.alloc (.cells cs t)).cell? ((⟨n, 0, none⟩ : Addr).add j) = some u := by
  subst hn
  exact World.news_of_block (bk_new w t cs) j u hj
theorem LegRow.take {w : World} {b off : Nat} {L : List Leg4} (h : LegRow w b off L) (k : Nat) : LegRow w b off (L.take k) :=
  ⟨h.1, fun i hi => by
    rw [List.length_take] at hi
    rw [List.getElem_take]; exact h.2 i (by omega)⟩
theorem LegRow.drop {w : World} {b off : Nat} {L : List Leg4} (h : LegRow w b off L) (k : Nat) (hk : k ≤ L.length) : LegRow w b (off + k * 4) (L.drop k) :=
  ⟨h.1, fun i hi => by
    rw [List.length_drop] at hi
    rw [List.getElem_drop]
    have := h.2 (k + i) (by omega)
    rwa [show off + (k + i) * 4 = off + k * 4 + i * 4 by omega] at this⟩
theorem sum_parts (f : Leg4 → Int) (L : List Leg4) (k : Nat) : sumOf f L = sumOf f (L.take k) + sumOf f (L.drop k) := by
  rw [← sumOf_append, List.take_append_drop]
theorem tmod_cut (cut : Int) (n : Nat) (h0 : 0 ≤ cut) : ∃ k : Nat, cut.tmod ((n : Int) + 1) = (k : Int) ∧ k ≤ n := by
  refine ⟨(cut % ((n : Int) + 1)).toNat, ?_, ?_⟩
  · rw [Int.tmod_eq_emod_of_nonneg h0]; have := Int.emod_nonneg cut (show (n : Int) + 1 ≠ 0 by omega); omega
  · have := Int.emod_lt_of_pos cut (show 0 < (n : Int) + 1 by omega); have := Int.emod_nonneg cut (show (n : Int) + 1 ≠ 0 by omega); omega
theorem leg_size : ∀ w, (sizeOf /-T-/ 39).run Try.prog w = .ok 4 w := fun _ => by kernel_rfl
theorem slice_hi (b off cap k : Nat) (n : Nat) (hk : k ≤ n) (hn : n ≤ cap) : ∀ w, (Instr.slice /-T-/ 34 (.slice (some ⟨b, off, none⟩) n cap) none (some (.int .i64 (k : Int))) none).run Try.prog w = .ok (.slice (some ⟨b, off, none⟩) k cap) w := by
  intro w
  have he : Try.prog.elem /-T-/ 34 = /-T-/ 39 := by kernel_rfl
  rw [run_slice_h w _ _ _ _ (by rw [he]; exact Try.underlying34) _ _ (by omega) (by omega), he, leg_size]
  simp [sliced, Addr.add]
theorem slice_lo (b off cap k : Nat) (n : Nat) (hk : k ≤ n) (hn : n ≤ cap) : ∃ o c' : Nat, (o = off + k * 4 ∨ n - k = 0) ∧ ∀ w, (Instr.slice /-T-/ 34 (.slice (some ⟨b, off, none⟩) n cap) (some (.int .i64 (k : Int))) none none).run Try.prog w = .ok (.slice (some ⟨b, o, none⟩) (n - k) c') w := by
  have he : Try.prog.elem /-T-/ 34 = /-T-/ 39 := by kernel_rfl
  by_cases e : cap = k
  · refine ⟨off, 0, .inr (by omega), fun w => ?_⟩
    rw [run_slice_l w _ _ _ _ (by rw [he]; exact Try.underlying34) _ _ (by omega) (by omega), he, leg_size]
    simp [sliced, e]
  · refine ⟨off + k * 4, cap - k, .inl rfl, fun w => ?_⟩
    rw [run_slice_l w _ _ _ _ (by rw [he]; exact Try.underlying34) _ _ (by omega) (by omega), he, leg_size]
    simp [sliced, e, Addr.add]
end Go.Proofs.Ytlloiallkcfomaa
