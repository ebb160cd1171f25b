/- The contract of Reverse over legs. -/
import Derived.Test.YtlloiallkcfomaaSum5
set_option linter.unusedVariables false
set_option linter.unusedSimpArgs false
namespace Go.Proofs.Ytlloiallkcfomaa
open Go.RowKit Alm
def putLeg (w : World) (g o : Nat) (l : Leg4) : World := (((w.setCell ⟨g, o, none⟩ (.int .i64 l.cl)).setCell ⟨g, o + 1, none⟩ (.int .i64 l.ch)).setCell ⟨g, o + 2, none⟩ (.int .i64 l.dl)).setCell ⟨g, o + 3, none⟩ (.int .i64 l.dh)
theorem put_other (w : World) (g o p : Nat) (l : Leg4) (h : p < o ∨ o + 4 ≤ p) : (putLeg w g o l).cell? ⟨g, p, none⟩ = w.cell? ⟨g, p, none⟩ := by
  unfold putLeg
  rw [World.cell?_setCell_other _ _ _ _ (by intro e; injection e with _ e; omega), World.cell?_setCell_other _ _ _ _ (by intro e; injection e with _ e; omega), World.cell?_setCell_other _ _ _ _ (by intro e; injection e with _ e; omega), World.cell?_setCell_other _ _ _ _ (by intro e; injection e with _ e; omega)]
theorem put_far (w : World) (g o p : Nat) (l m : Leg4) (h : LegAt w g p m) (hp : p + 4 ≤ o ∨ o + 4 ≤ p) : LegAt (putLeg w g o l) g p m := by
  obtain ⟨a, b, c, d⟩ := h
  refine ⟨?_, ?_, ?_, ?_⟩ <;> rw [put_other _ _ _ _ _ (by omega)] <;> assumption
theorem put_at (w : World) (g o : Nat) (l m : Leg4) (h : LegAt w g o m) : LegAt (putLeg w g o l) g o l := by
  obtain ⟨a, b, c, d⟩ := h
  unfold putLeg
  have sm : ∀ (w : World) (p : Nat) (v u : Value), w.cell? ⟨g, p, none⟩ = some u → (w.setCell ⟨g, p, none⟩ v).cell? ⟨g, p, none⟩ = some v := fun w p v u h => World.cell?_setCell_same _ _ _ h
  have ot : ∀ (w : World) (p q : Nat) (v : Value), p ≠ q → (w.setCell ⟨g, p, none⟩ v).cell? ⟨g, q, none⟩ = w.cell? ⟨g, q, none⟩ := fun w p q v h => World.cell?_setCell_other _ _ _ _ (by intro e; injection e with _ e; exact h e)
  refine ⟨?_, ?_, ?_, ?_⟩
  · rw [ot _ _ _ _ (by omega), ot _ _ _ _ (by omega), ot _ _ _ _ (by omega)]; exact sm _ _ _ _ a
  · rw [ot _ _ _ _ (by omega), ot _ _ _ _ (by omega)]; exact sm _ _ _ _ (by rw [ot _ _ _ _ (by omega)]; exact b)
  · rw [ot _ _ _ _ (by omega)]; exact sm _ _ _ _ (by rw [ot _ _ _ _ (by omega), ot _ _ _ _ (by omega)]; exact c)
  · exact sm _ _ _ _ (by rw [ot _ _ _ _ (by omega), ot _ _ _ _ (by omega), ot _ _ _ _ (by omega)]; exact d)
theorem put_below {w0 w : World} {N g : Nat} (h : Below N w0 w) (o : Nat) (l : Leg4) (hg : N ≤ g) : Below N w0 (putLeg w g o l) :=
  (((h.setCell (p := ⟨g, o, none⟩) hg _).setCell (p := ⟨g, o + 1, none⟩) hg _).setCell (p := ⟨g, o + 2, none⟩) hg _).setCell (p := ⟨g, o + 3, none⟩) hg _
theorem put_size (w : World) (g o : Nat) (l : Leg4) : (putLeg w g o l).heap.size = w.heap.size := by simp [putLeg]
theorem put_frozen (w : World) (g o : Nat) (l : Leg4) (a : Addr) : (putLeg w g o l).frozen? a = w.frozen? a := by simp [putLeg]
/-- the row, the first i and the last i of it exchanged -/
def RevAt (w : World) (g : Nat) (L : List Leg4) (i : Nat) : Prop := ∀ k (h : k < L.length), LegAt w g (k * 4) (if k < i ∨ L.length ≤ k + i then L[L.length - 1 - k] else L[k])
structure RevR (B : Nat) (w wr : World) (g : Nat) (L : List Leg4) (i : Nat) : Prop where
  below : Below B w wr
  lt : g < wr.heap.size
  row : RevAt wr g L i
  free : ∀ j, wr.frozen? ⟨g, j, none⟩ = false
theorem RevR.drew {B : Nat} {w wr : World} {g : Nat} {L : List Leg4} {i : Nat} (h : RevR B w wr g L i) : RevR B w wr.drew g L i := ⟨h.below.drew, h.lt, h.row, h.free⟩
theorem rev_step {B : Nat} {w wr : World} {g : Nat} {L : List Leg4} {i j : Nat} (hB : B ≤ g) (h : RevR B w wr g L i) (hij : i + j + 1 = L.length) (hi : i < j) :
    RevR B w (putLeg (putLeg wr g (i * 4) (L[j])) g (j * 4) (L[i])) g L (i + 1) := by
  refine ⟨put_below (put_below h.below _ _ hB) _ _ hB, by rw [put_size, put_size]; exact h.lt, ?_, fun j => by rw [put_frozen, put_frozen]; exact h.free j⟩
  intro k hk
  have r := h.row k hk
  by_cases e1 : k = i
  · subst e1
    have e3 : L[L.length - 1 - k]'(by omega) = L[j] := by congr 1; omega
    rw [if_pos (by omega), e3]
    rw [if_neg (by omega)] at r
    exact put_far _ _ _ _ _ _ (put_at _ _ _ _ _ r) (by omega)
  · by_cases e2 : k = j
    · have e3 : L[L.length - 1 - k]'(by omega) = L[i] := by congr 1; omega
      rw [if_pos (by omega), e3]
      rw [if_neg (by omega)] at r
      subst e2
      exact put_at _ _ _ _ _ (put_far _ _ _ _ _ _ r (by omega))
    · have e4 : (k < i + 1 ∨ L.length ≤ k + (i + 1)) ↔ (k < i ∨ L.length ≤ k + i) := by omega
      simp only [e4]
      exact put_far _ _ _ _ _ _ (put_far _ _ _ _ _ _ r (by omega)) (by omega)
theorem rev_done {B : Nat} {w wr : World} {g : Nat} {L : List Leg4} {i : Nat} (h : RevR B w wr g L i) (hi : ¬ 2 * i + 1 < L.length) : LegRow wr g 0 L.reverse := by
  refine ⟨h.lt, fun k hk => ?_⟩
  rw [List.length_reverse] at hk
  have r := h.row k hk
  rw [List.getElem_reverse, Nat.zero_add]
  by_cases e : k < i ∨ L.length ≤ k + i
  · rw [if_pos e] at r; exact r
  · rw [if_neg e] at r
    have : L[L.length - 1 - k]'(by omega) = L[k] := by congr 1; omega
    rw [this]; exact r
end Go.Proofs.Ytlloiallkcfomaa
