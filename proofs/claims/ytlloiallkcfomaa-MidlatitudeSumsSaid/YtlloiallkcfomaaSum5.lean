/- The contract of Clone over legs. -/
import Derived.Test.YtlloiallkcfomaaSum4
import Derived.Deep.AppendLies
import Derived.Lib.SliceRun
set_option linter.unusedVariables false
set_option linter.unusedSimpArgs false
namespace Go.Proofs.Ytlloiallkcfomaa
open Go.RowKit Alm
/-- the cells of legs, one behind the other -/
def lv (l : Leg4) : List Value := [.int .i64 l.cl, .int .i64 l.ch, .int .i64 l.dl, .int .i64 l.dh]
def flat (L : List Leg4) : List Value := L.flatMap lv
theorem flat_cons (l : Leg4) (L : List Leg4) : flat (l :: L) = lv l ++ flat L := rfl
theorem flat_append (L M : List Leg4) : flat (L ++ M) = flat L ++ flat M := by unfold flat; simp
theorem flat_len (L : List Leg4) : (flat L).length = L.length * 4 := by
  induction L with
  | nil => rfl
  | cons l L ih => rw [flat_cons, List.length_append, ih, List.length_cons]; simp [lv]; omega
theorem flat_get (L : List Leg4) : ∀ (i : Nat) (hi : i < L.length) (k : Nat) (hk : k < 4), (flat L)[i * 4 + k]? = (lv L[i])[k]? := by
  induction L with
  | nil => intro i hi; simp at hi
  | cons l L ih =>
    intro i hi k hk
    have hl : (lv l).length = 4 := rfl
    rw [flat_cons]
    cases i with
    | zero => rw [List.getElem?_append_left (by omega)]; simp
    | succ i =>
      rw [List.getElem?_append_right (by omega), show (i + 1) * 4 + k - (lv l).length = i * 4 + k by omega, ih i (by simp at hi; omega) k hk]
      rfl
theorem flat_one (L : List Leg4) : ∀ u ∈ flat L, u.oneCell' = true := by
  intro u hu
  unfold flat at hu
  rw [List.mem_flatMap] at hu
  obtain ⟨l, _, h⟩ := hu
  unfold lv at h
  simp at h
  rcases h with rfl | rfl | rfl | rfl <;> rfl
theorem legrow_flat {w : World} {b off : Nat} {L : List Leg4} (h : LegRow w b off L) : ∀ j u, (flat L)[j]? = some u → w.cell? ⟨b, off + j, none⟩ = some u := by
  intro j u hu
  have hj : j < (flat L).length := by
    rcases Nat.lt_or_ge j (flat L).length with h | h
    · exact h
    · rw [List.getElem?_eq_none h] at hu; cases hu
  rw [flat_len] at hj
  have e : j = j / 4 * 4 + j % 4 := by omega
  have hi : j / 4 < L.length := by omega
  rw [e, flat_get L (j / 4) hi (j % 4) (by omega)] at hu
  obtain ⟨c0, c1, c2, c3⟩ := h.2 (j / 4) hi
  have hk : j % 4 = 0 ∨ j % 4 = 1 ∨ j % 4 = 2 ∨ j % 4 = 3 := by omega
  rw [show off + j = off + j / 4 * 4 + j % 4 by omega]
  unfold lv at hu
  rcases hk with k | k | k | k <;> rw [k] at hu ⊢ <;> simp at hu <;> subst hu <;> assumption
theorem owns_legs {w : World} {base n : Nat} {e : TypeId} {g cap : Nat} {L : List Leg4} (h : w.ownsRow base e 4 (.slice (some ⟨g, 0, none⟩) n cap) n (flat L)) (h0 : 0 < n) : n = L.length ∧ base ≤ g ∧ g < w.heap.size ∧ LegRow w g 0 L ∧ (∀ j, w.frozen? ⟨g, j, none⟩ = false) := by
  obtain ⟨hl, h | ⟨g', cap', cur, hv, hb, hg, hc, hm, hs, ht⟩⟩ := h
  · omega
  · injection hv with e1 e2 e3
    obtain rfl : g = g' := by injection e1 with e1; injection e1
    have hgl : g < w.heap.size := by
      rcases Nat.lt_or_ge g w.heap.size with hlt | hge
      · exact hlt
      · rw [Array.getElem?_eq_none hge] at hg; cases hg
    rw [flat_len] at hl
    have hn : n = L.length := by omega
    have hcell : ∀ j u, (flat L)[j]? = some u → w.cell? ⟨g, j, none⟩ = some u := by
      intro j u hu
      rw [cell_of_row w g j cur e (0, 0) hg]
      have hj : j < (flat L).length := by
        rcases Nat.lt_or_ge j (flat L).length with h | h
        · exact h
        · rw [List.getElem?_eq_none h] at hu; cases hu
      rw [← ht] at hu hj
      rw [List.getElem?_take_of_lt (by rw [List.length_take] at hj; omega)] at hu
      simpa using hu
    refine ⟨hn, hb, hgl, ⟨hgl, fun i hi => ?_⟩, fun j => ?_⟩
    · have k0 := flat_get L i hi 0 (by omega); have k1 := flat_get L i hi 1 (by omega); have k2 := flat_get L i hi 2 (by omega); have k3 := flat_get L i hi 3 (by omega)
      unfold LegAt
      simp only [Nat.zero_add]
      exact ⟨hcell _ _ k0, hcell _ _ k1, hcell _ _ k2, hcell _ _ k3⟩
    · simp [World.frozen?, hg]
/-- what the model knows of the type of a leg -/
theorem leg_info : ∃ (i : TypeInfo) (z : Value), Try.prog.info? /-T-/ 39 = some i ∧ i.zero = some z ∧ i.size = 4 ∧ i.bytes = 32 ∧ z.cells.size = 4 := by
  have h1 : ((Try.prog.info? /-T-/ 39).bind fun i => i.zero.map fun z => (i.size, i.bytes, z.cells.size)) = some (4, 32, 4) := by kernel_rfl
  cases hi : Try.prog.info? /-T-/ 39 with
  | none => rw [hi] at h1; simp at h1
  | some i =>
    rw [hi] at h1
    cases hz : i.zero with
    | none => simp [hz] at h1
    | some z =>
      simp [hz] at h1
      exact ⟨i, z, rfl, hz, h1.1, h1.2.1, h1.2.2⟩
set_option maxRecDepth 100000 in
set_option maxHeartbeats 2000000 in
theorem c_clone (b off cap : Nat) (L : List Leg4) (w : World) (hR : LegRow w b off L) (h0 : 0 < L.length) (hn : L.length ≤ 60) :
    Calls Try.prog 21 #[.slice (some ⟨b, off, none⟩) L.length cap] w fun e w' => ∃ g c, e = .returned (.slice (some ⟨g, 0, none⟩) L.length c) ∧ w'.ownsRow w.heap.size /-T-/ 39 4 (.slice (some ⟨g, 0, none⟩) L.length c) L.length (flat L) ∧ Below w.heap.size w w' := by
  obtain ⟨i, z, hi, hz, hs, hb, hzs⟩ := leg_info
  have q22 : ∀ (w : World) (a : Option Addr) (n c n' c' : Nat), (binOp .eql /-T-/ 34 (.slice a n c) (.slice none n' c')).run Try.prog w = .ok (.bool a.isNone) w := fun w a n c n' c' => Lib.run_eql_slice_nil w _ _ a n c n' c' Try.underlying34
  have A := Lib.hid hR
  clear hR
  go_enter Try.func21, Try.ntmps21
  go_wp2_with (at_builtin; refine wpList_append_lies _ rfl _ _ /-T-/ 34 rfl w.heap.size /-T-/ 39 i z 4 32 Try.underlying34 hi hz hs hb hzs (by omega) _ _ _ rfl (World.ownsRow_made w #[] 0 (Nat.le_refl _) (Nat.zero_le _) (by simp)) ⟨b, off, none⟩ L.length cap (flat L) rfl ?qc1 ?qc2 ?qc3 ?qc7 ?qc4 ?qc5 ?qc6 _ rfl ?_)
  case qc1 => exact flat_len L
  case qc2 =>
    intro j u hj
    rw [Addr.add_lit]
    exact Lib.cell?_alloc_some _ (legrow_flat A.out j u hj)
  case qc3 => exact flat_one L
  case qc7 => exact h0
  case qc4 => simp [maxLen]; omega
  case qc5 => omega
  case qc6 => simp
  intro g c w1 hown hgrow hat hlt
  go_wp2
  go_ret
  refine ⟨g, c, by first | rfl | simp, by simpa using hown, ?_⟩
  exact ((Below.refl _ w).alloc (Nat.le_refl _) _).grown hgrow (by simp) (by intro k hk; simp [Value.ownBlock] at hk; omega)
end Go.Proofs.Ytlloiallkcfomaa
