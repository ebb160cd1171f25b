/- Small laws on memory: blocks that are known whole. -/
import Derived.Test.YtlloiallkcfomaaGreatWorld2
import Derived.Laws.Rows
import Derived.Laws.OwnMore
import Derived.Deep.Draws
set_option linter.unusedVariables false
namespace Go.Proofs.YtlloiallkcfomaaGreat
open Go.RowKit
/-- block g holds just these cells -/
def BK (w : World) (g : Nat) (t : TypeId) (cs : Array Value) : Prop := w.heap[g]? = some (.cells cs t (0, 0))
theorem BK.lt {w : World} {g : Nat} {t : TypeId} {cs : Array Value} (h : BK w g t cs) : g < w.heap.size := by
  apply Decidable.byContradiction
  intro hn
  have h2 : w.heap[g]? = none := Array.getElem?_eq_none (by omega)
  unfold BK at h; rw [h2] at h; cases h
theorem BK.cell {w : World} {g : Nat} {t : TypeId} {cs : Array Value} (h : BK w g t cs) (i : Nat) : w.cell? ⟨g, i, none⟩ = cs[i]? := cell_of_row w g i cs t (0, 0) h
theorem BK.frozen {w : World} {g : Nat} {t : TypeId} {cs : Array Value} (h : BK w g t cs) (i : Nat) : w.frozen? ⟨g, i, none⟩ = false := by
  unfold BK at h; simp [World.frozen?, h]
theorem bk_new (w : World) (t : TypeId) (cs : Array Value) : BK (w.alloc (.cells cs t)) w.heap.size t cs := heap_alloc_new w _
theorem bk_at (w : World) (n : Nat) (t : TypeId) (cs : Array Value) (h : w.heap.size = n) : BK (w.alloc (.cells cs t)) n t cs := by subst h; exact bk_new w t cs
theorem BK.drew {w : World} {g : Nat} {t : TypeId} {cs : Array Value} (h : BK w g t cs) : BK w.drew g t cs := h
theorem BK.drewN {w : World} {g : Nat} {t : TypeId} {cs : Array Value} (h : BK w g t cs) (n : Nat) : BK (w.drewN n) g t cs := h
theorem BK.alloc {w : World} {g : Nat} {t : TypeId} {cs : Array Value} (h : BK w g t cs) (o : Obj) : BK (w.alloc o) g t cs := (Below.heap_alloc w o g h.lt).trans h
theorem BK.set {w : World} {g : Nat} {t : TypeId} {cs : Array Value} (h : BK w g t cs) (i : Nat) (u : Value) : BK (w.setCell ⟨g, i, none⟩ u) g t (cs.setIfInBounds i u) := by
  unfold BK at h ⊢
  simp [World.setCell, Array.getElem?_modify, h]
theorem BK.far {w : World} {g : Nat} {t : TypeId} {cs : Array Value} (h : BK w g t cs) {p : Addr} (hp : g ≠ p.block) (u : Value) : BK (w.setCell p u) g t cs := (Below.heap_setCell w p u g hp).trans h
theorem BK.below {w w' : World} {g : Nat} {t : TypeId} {cs : Array Value} {B : Nat} (h : BK w g t cs) (hb : Below B w w') (hg : g < B) : BK w' g t cs := (hb.block g hg).trans h
theorem size_sc (w : World) (p : Addr) (u : Value) : (w.setCell p u).heap.size = w.heap.size := by simp [World.setCell]
theorem le2 (n : Nat) : n ≤ n + 1 + 1 := by omega
end Go.Proofs.YtlloiallkcfomaaGreat
