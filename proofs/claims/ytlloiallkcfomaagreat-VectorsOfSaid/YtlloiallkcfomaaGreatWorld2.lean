/- Small laws on memory: blocks of two cells. -/
import Derived.Test.YtlloiallkcfomaaGreatWorld
set_option linter.unusedVariables false
namespace Go.Proofs.YtlloiallkcfomaaGreat
open Go.RowKit
/-- a block of two cells -/
structure P2 (w : World) (b : Nat) (x y : Value) : Prop where
  c0 : w.cell? ⟨b, 0, none⟩ = some x
  c1 : w.cell? ⟨b, 1, none⟩ = some y
  f0 : w.frozen? ⟨b, 0, none⟩ = false
  f1 : w.frozen? ⟨b, 1, none⟩ = false
theorem P2.below {w wx : World} {b B : Nat} {x y : Value} (h : P2 w b x y) (hb : Below B w wx) (hB : b < B) : P2 wx b x y :=
  ⟨(hb.cell (p := ⟨b, 0, none⟩) hB).trans h.c0, (hb.cell (p := ⟨b, 1, none⟩) hB).trans h.c1, (hb.frozen (p := ⟨b, 0, none⟩) hB).trans h.f0, (hb.frozen (p := ⟨b, 1, none⟩) hB).trans h.f1⟩
theorem P2.drew {w : World} {b : Nat} {x y : Value} (h : P2 w b x y) : P2 w.drew b x y := ⟨h.c0, h.c1, h.f0, h.f1⟩
theorem P2.drewN {w : World} {b : Nat} {x y : Value} (h : P2 w b x y) (n : Nat) : P2 (w.drewN n) b x y := ⟨h.c0, h.c1, h.f0, h.f1⟩
theorem p2_new (w : World) (x y : Value) (T : TypeId) : P2 (w.alloc (.cells #[x, y] T)) w.heap.size x y :=
  ⟨by simp [go_sem], by simp [go_sem], by simp [go_sem], by simp [go_sem]⟩
theorem P2.alloc {w : World} {b : Nat} {x y : Value} (h : P2 w b x y) (hb : b < w.heap.size) (o : Obj) : P2 (w.alloc o) b x y :=
  h.below (B := b + 1) ((Below.refl _ _).alloc (by omega) o) (by omega)
theorem P2.other {w : World} {b b' i : Nat} {x y : Value} (h : P2 w b x y) (v : Value) (hb : b' ≠ b) : P2 (w.setCell ⟨b', i, none⟩ v) b x y := by
  have e : ∀ k, (w.setCell ⟨b', i, none⟩ v).cell? ⟨b, k, none⟩ = w.cell? ⟨b, k, none⟩ := fun k =>
    World.cell?_setCell_other _ _ _ _ (by intro e; injection e with e1; exact hb e1)
  exact ⟨(e 0).trans h.c0, (e 1).trans h.c1, by rw [World.frozen?_setCell]; exact h.f0, by rw [World.frozen?_setCell]; exact h.f1⟩
end Go.Proofs.YtlloiallkcfomaaGreat
