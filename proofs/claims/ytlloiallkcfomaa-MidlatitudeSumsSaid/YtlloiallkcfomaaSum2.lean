/- The contract of the search over legs. -/
import Derived.Test.YtlloiallkcfomaaSum1
set_option linter.unusedVariables false
set_option linter.unusedSimpArgs false
namespace Go.Proofs.Ytlloiallkcfomaa
open Go.RowKit Alm
set_option maxRecDepth 100000 in
set_option maxHeartbeats 2000000 in
theorem c_index (a : Option Addr) (cap : Nat) (L : List Leg4) (w : World) (hL : Legs w a L) (hn : L.length ≤ 100) :
    Calls Try.prog 58 #[.slice a L.length cap, .func (.func 19) #[] #[]] w fun e w' => (∃ r : Int, e = .returned (.int .i64 r) ∧ -1 ≤ r ∧ (0 ≤ r ↔ L.all Leg4.small = false)) ∧ Below w.heap.size w w' := by
  have HL := Lib.hid hL; clear hL
  go_enter Try.func58, Try.ntmps58
  go_wp2
  go_loopw [8] (fun v wr => ∃ i : Nat, v = .int .i64 (i : Int) ∧ i ≤ L.length ∧ (∀ j (h : j < L.length), j < i → L[j].small = true) ∧ Below w.heap.size w wr) (fun v _ => ((L.length : Int) - intOf v).toNat)
  case atStart =>
    exact ⟨0, rfl, by omega, fun j h hj => by omega, Below.refl _ _⟩
  case round =>
    obtain ⟨i, rfl, hi, hs, hb⟩ := hrel
    have HB := Lib.hid hb; clear hb
    by_cases hl : i < L.length
    · have hLw := HL.out.below HB.out
      rcases hLw with h0 | ⟨b, off, rfl, hR⟩
      · rw [h0] at hl; simp at hl
      · obtain ⟨c0, c1, c2, c3⟩ := hR.2 i hl
        have hS := Lib.hid hs; clear hs
        have C := Lib.hid (fun w => c_big L[i] w)
        have hl' : (i : Int) < (L.length : Int) := by omega
        have FIN : Hid (L[i].small = true → ∀ j (h : j < L.length), j < i + 1 → L[j].small = true) := by
          intro h j hj hji
          by_cases e : j < i
          · exact hS.out j hj e
          · obtain rfl : j = i := by omega
            exact h
        have FIN2 : Hid (L[i].small = false → L.all Leg4.small = false) := by
          intro h
          cases hA : L.all Leg4.small
          · rfl
          · rw [List.all_eq_true] at hA
            have := hA _ (List.getElem_mem hl); rw [h] at this; cases this
        cases hsm : L[i].small
        · rw [hsm] at C FIN2
          go_wp2_with fail
          refine (C.out _).mono ?_
          rintro e w1 ⟨rfl, hb1⟩
          have HB1 : Hid (Below w.heap.size w w1) := HB.out.trans (hb1.mono HB.out.size)
          clear hb1 c0 c1 c2 c3 hR HL HB C FIN hS
          go_wp2
          go_ret
          exact ⟨⟨_, rfl, by omega, by first | (have := FIN2.out trivial; simp only [this]; simp; done) | exact ⟨fun _ => ⟨L[i], List.getElem_mem hl, hsm⟩, fun _ => by omega⟩⟩, HB1.out⟩
        · rw [hsm] at C FIN
          go_wp2_with fail
          refine (C.out _).mono ?_
          rintro e w1 ⟨rfl, hb1⟩
          have HB1 : Hid (Below w.heap.size w w1) := HB.out.trans (hb1.mono HB.out.size)
          clear hb1 c0 c1 c2 c3 hR HL HB C FIN2 hS
          go_wp2
          go_light
          exact ⟨⟨i + 1, by rw [show ((i + 1 : Nat) : Int) = (i : Int) + 1 by omega], by omega, FIN.out trivial, HB1.out⟩, by simp only [intOf]; omega⟩
    · have hl' : ¬ (i : Int) < (L.length : Int) := by omega
      have hA : L.all Leg4.small = true := by
        rw [List.all_eq_true]; intro x hx
        obtain ⟨j, hj, rfl⟩ := List.getElem_of_mem hx
        exact hs j hj (by omega)
      have HA := Lib.hid hA
      clear hs hl hi hA
      go_wp2
      go_ret
      exact ⟨⟨_, rfl, by omega, by first | (rw [HA.out]; simp) | exact ⟨fun h => by omega, fun ⟨x, hx, h⟩ => by have := List.all_eq_true.1 HA.out x hx; rw [h] at this; cases this⟩⟩, HB.out⟩
theorem c_contains (a : Option Addr) (cap : Nat) (L : List Leg4) (w : World) (hL : Legs w a L) (hn : L.length ≤ 100) :
    Calls Try.prog 18 #[.slice a L.length cap, .func (.func 19) #[] #[]] w fun e w' => e = .returned (.bool (!L.all Leg4.small)) ∧ Below w.heap.size w w' := by
  have C := Lib.hid (c_index a cap L w hL hn)
  clear hL
  go_enter Try.func18, Try.ntmps18
  go_wp2_with fail
  refine C.out.mono ?_
  rintro e w1 ⟨⟨r, rfl, hr0, hr⟩, hb⟩
  have HB := Lib.hid hb; clear hb
  by_cases h : 0 ≤ r
  · have h1 := Lib.hid (hr.1 h)
    clear hr C
    go_wp2
    go_ret
    exact ⟨by rw [h1.out]; rfl, HB.out⟩
  · have h1 : Hid (L.all Leg4.small = true) := by
      cases hA : L.all Leg4.small
      · exact absurd (hr.2 hA) h
      · exact Lib.hid rfl
    clear hr C
    have hd : decide (0 ≤ r) = false := by simpa using h
    go_wp2
    go_ret
    exact ⟨by rw [h1.out]; first | rfl | (show Ending.returned (.bool (decide (0 ≤ r))) = _; rw [hd]; rfl), HB.out⟩
end Go.Proofs.Ytlloiallkcfomaa
