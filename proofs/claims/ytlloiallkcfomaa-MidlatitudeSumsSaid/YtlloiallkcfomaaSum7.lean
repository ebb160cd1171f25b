/- The walk of Reverse over legs. -/
import Derived.Test.YtlloiallkcfomaaSum6
set_option linter.unusedVariables false
set_option linter.unusedSimpArgs false
namespace Go.Proofs.Ytlloiallkcfomaa
open Go.RowKit Alm
set_option maxRecDepth 100000 in
set_option maxHeartbeats 4000000 in
theorem c_reverse (B g cap : Nat) (L : List Leg4) (w : World) (hB : B ≤ g) (hR : LegRow w g 0 L) (hf : ∀ j, w.frozen? ⟨g, j, none⟩ = false) (h0 : 0 < L.length) (hn : L.length ≤ 60) :
    Calls Try.prog 22 #[.slice (some ⟨g, 0, none⟩) L.length cap] w fun e w' => e = .returned (.tuple #[]) ∧ LegRow w' g 0 L.reverse ∧ (∀ j, w'.frozen? ⟨g, j, none⟩ = false) ∧ Below B w w' := by
  have A0 : Hid (RevR B w w g L 0) := ⟨Below.refl _ _, hR.1, fun k hk => by rw [if_neg (by omega)]; have := hR.2 k hk; rwa [Nat.zero_add] at this, hf⟩
  clear hR hf
  go_enter Try.func22, Try.ntmps22
  go_wp2
  go_loopw [2, 3] (fun v2 v3 wr => ∃ i j : Nat, v2 = .int .i64 (i : Int) ∧ v3 = .int .i64 (j : Int) ∧ i + j + 1 = L.length ∧ RevR B w wr g L i) (fun v2 v3 _ => (intOf v3 - intOf v2 + 1).toNat)
  case atStart =>
    exact ⟨0, L.length - 1, rfl, by first | (congr 1; omega) | omega, by omega, A0.out⟩
  case round =>
    obtain ⟨i, j, rfl, rfl, hij, hr⟩ := hrel
    have HR := Lib.hid hr; clear hr A0
    by_cases hl : i < j
    · have STEP := Lib.hid ((rev_step hB HR.out hij hl).drew)
      have r1 := HR.out.row i (by omega)
      have r2 := HR.out.row j (by omega)
      rw [if_neg (by omega)] at r1 r2
      have ej : L.length - 1 - i = j := by omega
      obtain ⟨p0, p1, p2, p3⟩ := r1
      obtain ⟨q0, q1, q2, q3⟩ := r2
      have f0 := HR.out.free
      have hl' : (i : Int) < (j : Int) := by omega
      have hn' : (j : Int) < (L.length : Int) := by omega
      have hn'' : (i : Int) < (L.length : Int) := by omega
      clear h0
      go_wp2
      go_region
      all_goals
        go_wp2
        go_light
        exact ⟨⟨i + 1, j - 1, by rw [show ((i + 1 : Nat) : Int) = (i : Int) + 1 by omega], by rw [show ((j - 1 : Nat) : Int) = (j : Int) - 1 by omega], by omega, STEP.out⟩, by simp only [intOf]; omega⟩
    · have hl' : ¬ (i : Int) < (j : Int) := by omega
      have FIN := Lib.hid (rev_done HR.out (by omega))
      go_wp2
      go_end0
      exact ⟨rfl, FIN.out, HR.out.free, HR.out.below⟩
end Go.Proofs.Ytlloiallkcfomaa
