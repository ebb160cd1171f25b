/- The contracts of the reference's Quick and Exact. -/
import Derived.Test.YtlloiallkcfomaaGreatRef3
set_option linter.unusedVariables false
set_option linter.unusedSimpArgs false
namespace Go.Proofs.YtlloiallkcfomaaGreat
open Go.RowKit Alm
/-- the quick sine of an angle from 0 to less than a turn -/
def qVm (m : Int) : Int :=
  let r := m % 5400000
  let v := if 2700000 < r then (if m / 5400000 % 2 = 1 then qSin (5400000 - r).toNat else qCos (5400000 - r).toNat) else (if m / 5400000 % 2 = 1 then qCos r.toNat else qSin r.toNat)
  if 2 ≤ m / 5400000 then -v else v
theorem q_bd (r : Nat) (h : r ≤ 2700000) : (0 ≤ qSin r ∧ qSin r ≤ 4611686018427387904) ∧ (0 ≤ qCos r ∧ qCos r ≤ 4611686018427387904) := by
  have key : ∀ m T s j : Nat, s ≤ 2^62 → 0 ≤ aN m T s j ∧ aN m T s j ≤ T := by
    intro m
    induction m with
    | zero => intro T s j hs; simp [aN]
    | succ m ih =>
      intro T s j hs
      rw [aN_succ]
      have i := ih (highN T s / ((j + 1) * (j + 2))) s (j + 2) hs
      have h1 := highN_le T s hs
      have h2 := Nat.div_le_self (highN T s) ((j + 1) * (j + 2))
      generalize highN T s / ((j + 1) * (j + 2)) = T1 at *
      omega
  have a := key 34 (xq r) (sq62 r) 1 (sq62_le r h)
  have b := key 34 (2^62) (sq62 r) 0 (sq62_le r h)
  have c := xq_le r h
  unfold qSin qCos
  omega
theorem tmod_turn (n : Int) : (0 ≤ n.tmod 21600000 → n.tmod 21600000 = wrapTurn n) ∧ (n.tmod 21600000 < 0 → n.tmod 21600000 = wrapTurn n - 21600000) ∧ 0 ≤ wrapTurn n ∧ wrapTurn n < 21600000 := by
  unfold wrapTurn
  refine ⟨fun h => ?_, fun h => ?_, by omega, by omega⟩
  · rw [Int.tmod_eq_emod] at *; split at h <;> split <;> omega
  · rw [Int.tmod_eq_emod] at *; split at h <;> split <;> omega
set_option maxRecDepth 100000 in
set_option maxHeartbeats 2000000 in
theorem quick_q (n m r q : Int) (neg : Bool) (w : World) (ht : n.tmod 21600000 = if neg then m - 21600000 else m) (h0 : 0 ≤ m) (h1 : m < 21600000) (hq : m / 5400000 = q) (hr : m % 5400000 = r) :
    Calls Tryz.prog 195 #[.int .i64 n] w fun e w' => e = .returned (.int .i64 (qVm m)) ∧ w = w' := by
  have hr0 : 0 ≤ r ∧ r < 5400000 := by omega
  have hq0 : q = 0 ∨ q = 1 ∨ q = 2 ∨ q = 3 := by omega
  have e : qVm m = (if 2 ≤ q then -(if 2700000 < r then (if q % 2 = 1 then qSin (5400000 - r).toNat else qCos (5400000 - r).toNat) else (if q % 2 = 1 then qCos r.toNat else qSin r.toNat)) else (if 2700000 < r then (if q % 2 = 1 then qSin (5400000 - r).toNat else qCos (5400000 - r).toNat) else (if q % 2 = 1 then qCos r.toNat else qSin r.toNat))) := by
    unfold qVm; simp only [hq, hr]
  rw [e]; clear e
  obtain ⟨r0, r1⟩ := hr0
  by_cases hlt : 2700000 < r
  · have CS := Lib.hid (fun w => c_quickS (5400000 - r).toNat w (by omega))
    have CC := Lib.hid (fun w => c_quickC (5400000 - r).toNat w (by omega))
    have b := q_bd (5400000 - r).toNat (by omega)
    have er : (((5400000 - r).toNat : Nat) : Int) = 5400000 - r := by omega
    rw [er] at CS CC
    simp only [hlt, if_true]
    clear er
    obtain ⟨⟨b1, b2⟩, ⟨b3, b4⟩⟩ := b
    generalize qSin (5400000 - r).toNat = S at *
    generalize qCos (5400000 - r).toNat = C at *
    rcases hq0 with rfl | rfl | rfl | rfl <;> cases neg
    all_goals
      simp only [if_true, if_false, Bool.false_eq_true] at ht
      go_enter Tryz.func195, Tryz.ntmps195
      go_wp2_with fail
      first | (with_reducible refine (CS.out _).mono ?_) | (with_reducible refine (CC.out _).mono ?_)
      rintro e w' ⟨rfl, rfl⟩
      go_wp2
      go_ret
      exact ⟨ret_int (by simp), rfl⟩
  · have CS := Lib.hid (fun w => c_quickS r.toNat w (by omega))
    have CC := Lib.hid (fun w => c_quickC r.toNat w (by omega))
    have b := q_bd r.toNat (by omega)
    have er : ((r.toNat : Nat) : Int) = r := by omega
    rw [er] at CS CC
    simp only [hlt, if_false]
    clear er
    obtain ⟨⟨b1, b2⟩, ⟨b3, b4⟩⟩ := b
    generalize qSin r.toNat = S at *
    generalize qCos r.toNat = C at *
    rcases hq0 with rfl | rfl | rfl | rfl <;> cases neg
    all_goals
      simp only [if_true, if_false, Bool.false_eq_true] at ht
      go_enter Tryz.func195, Tryz.ntmps195
      go_wp2_with fail
      first | (with_reducible refine (CS.out _).mono ?_) | (with_reducible refine (CC.out _).mono ?_)
      rintro e w' ⟨rfl, rfl⟩
      go_wp2
      go_ret
      exact ⟨ret_int (by simp), rfl⟩
theorem c_Quick (n : Int) (w : World) :
    Calls Tryz.prog 195 #[.int .i64 n] w fun e w' => e = .returned (.int .i64 (qVm (wrapTurn n))) ∧ w = w' := by
  obtain ⟨h1, h2, h3, h4⟩ := tmod_turn n
  by_cases h : 0 ≤ n.tmod 21600000
  · exact quick_q n (wrapTurn n) _ _ false w (by rw [h1 h]; rfl) h3 h4 rfl rfl
  · exact quick_q n (wrapTurn n) _ _ true w (by rw [h2 (by omega)]; rfl) h3 h4 rfl rfl
end Go.Proofs.YtlloiallkcfomaaGreat
