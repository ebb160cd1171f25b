/- The contract of Traverse where a leg is not valid. -/
import Derived.Test.YtlloiallkcfomaaSum3
set_option linter.unusedVariables false
set_option linter.unusedSimpArgs false
namespace Go.Proofs.Ytlloiallkcfomaa
open Go.RowKit Alm
set_option maxRecDepth 100000 in
set_option maxHeartbeats 4000000 in
theorem c_trav_bad (a : Option Addr) (cap : Nat) (L : List Leg4) (w : World) (hL : Legs w a L) (hn : L.length ≤ 60) (hok : L.all Leg4.ok = false) :
    Calls Try.prog 20 #[.slice a L.length cap] w fun e w' => e = .returned (.tuple #[.agg #[.int .i64 0, .int .i64 0], .agg #[.int .i64 0, .int .i64 0], .int .i64 1]) ∧ Below w.heap.size w w' := by
  have HL := Lib.hid hL; clear hL
  have HOK : Hid (¬ ∀ j (h : j < L.length), L[j].ok = true) := by
    intro h
    have : L.all Leg4.ok = true := by
      rw [List.all_eq_true]; intro x hx
      obtain ⟨j, hj, rfl⟩ := List.getElem_of_mem hx
      exact h j hj
    rw [this] at hok; cases hok
  clear hok
  have K0 := Lib.hid (((ks_start w).new w.heap.size rfl /-T-/ 37 #[.int .i64 0, .int .i64 0]).new (w.heap.size + 1) (by simp) /-T-/ 37 #[.int .i64 0, .int .i64 0])
  go_enter Try.func20, Try.ntmps20
  go_wp2
  go_loopw [15] (fun v wr => ∃ i : Nat, v = .int .i64 (i : Int) ∧ i ≤ L.length ∧ (∀ j (h : j < L.length), j < i → L[j].ok = true) ∧ KS w wr [(w.heap.size + 1, /-T-/ 37, #[.int .i64 0, .int .i64 0]), (w.heap.size, /-T-/ 37, #[.int .i64 0, .int .i64 0])]) (fun v _ => ((L.length : Int) - intOf v).toNat)
  case atStart =>
    exact ⟨0, rfl, by omega, fun j h hj => by omega, K0.out⟩
  case round =>
    obtain ⟨i, rfl, hi, hs, hK⟩ := hrel
    have K1 := Lib.hid hK; clear hK K0
    by_cases hl : i < L.length
    · have hLw := HL.out.below K1.out.1
      rcases hLw with h0 | ⟨b, off, rfl, hR⟩
      · rw [h0] at hl; simp at hl
      · obtain ⟨c0, c1, c2, c3⟩ := hR.2 i hl
        have C := fun w => c_mvalid L[i].cl L[i].ch L[i].dl L[i].dh w
        have FIN : Hid (L[i].ok = true → ∀ j (h : j < L.length), j < i + 1 → L[j].ok = true) := by
          intro h j hj hji
          by_cases e : j < i
          · exact hs j hj e
          · obtain rfl : j = i := by omega
            exact h
        clear hs
        have hl' : (i : Int) < (L.length : Int) := by omega
        change ∀ w : World, Calls Try.prog 59 #[.agg #[.int .i64 L[i].cl, .int .i64 L[i].ch, .int .i64 L[i].dl, .int .i64 L[i].dh]] w fun e w' => e = .returned (.bool L[i].ok) ∧ Below w.heap.size w w' at C
        cases hsm : L[i].ok
        · rw [hsm] at C; replace C := Lib.hid C
          go_wp2_with fail
          refine (C.out _).mono ?_
          rintro e w1 ⟨rfl, hb1⟩
          have K2 := Lib.hid ((K1.out.alloc _).below hb1)
          clear hb1 c0 c1 c2 c3 hR HL C K1 HOK FIN
          have a0 := K2.out.c (g := w.heap.size) (t := /-T-/ 37) (cs := #[.int .i64 0, .int .i64 0]) (by simp) (i := 0) rfl
          have a1 := K2.out.c (g := w.heap.size) (t := /-T-/ 37) (cs := #[.int .i64 0, .int .i64 0]) (by simp) (i := 1) rfl
          have fa0 := K2.out.f (g := w.heap.size) (t := /-T-/ 37) (cs := #[.int .i64 0, .int .i64 0]) (by simp) 0
          have fa1 := K2.out.f (g := w.heap.size) (t := /-T-/ 37) (cs := #[.int .i64 0, .int .i64 0]) (by simp) 1
          have b0 := K2.out.c (g := w.heap.size + 1) (t := /-T-/ 37) (cs := #[.int .i64 0, .int .i64 0]) (by simp) (i := 0) rfl
          have b1 := K2.out.c (g := w.heap.size + 1) (t := /-T-/ 37) (cs := #[.int .i64 0, .int .i64 0]) (by simp) (i := 1) rfl
          have fb0 := K2.out.f (g := w.heap.size + 1) (t := /-T-/ 37) (cs := #[.int .i64 0, .int .i64 0]) (by simp) 0
          have fb1 := K2.out.f (g := w.heap.size + 1) (t := /-T-/ 37) (cs := #[.int .i64 0, .int .i64 0]) (by simp) 1
          have hg := K2.out.1
          go_wp2
          refine bodyPost_ret (by simp [results, Try.results20, go_sem, a0, a1, b0, b1]; try rfl) rfl ⟨rfl, by go_light; go_grown⟩
        · rw [hsm] at C FIN; replace C := Lib.hid C
          go_wp2_with fail
          refine (C.out _).mono ?_
          rintro e w1 ⟨rfl, hb1⟩
          have K2 := Lib.hid ((K1.out.alloc _).below hb1)
          clear hb1 c0 c1 c2 c3 hR HL C K1 HOK
          go_wp2
          go_light
          exact ⟨⟨i + 1, by rw [show ((i + 1 : Nat) : Int) = (i : Int) + 1 by omega], by omega, FIN.out trivial, K2.out⟩, by simp only [intOf]; omega⟩
    · exact absurd (fun j hj => hs j hj (by omega)) HOK.out
end Go.Proofs.Ytlloiallkcfomaa
