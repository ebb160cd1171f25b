/- Small laws on memory: rows of cells of 64 bits. -/
import Derived.Test.YtlloiallkcfomaaGreatBits
set_option linter.unusedVariables false
namespace Go.Proofs.YtlloiallkcfomaaGreat
open Go.RowKit

theorem flip_w {P : Program} {f : FuncId} {args : Array Value} {w : World} {A : Ending → Prop} (h : Calls P f args w fun e w' => A e ∧ w = w') : Calls P f args w fun e w' => A e ∧ w' = w :=
  h.mono fun e w' ⟨h1, h2⟩ => ⟨h1, h2.symm⟩
theorem quiet_w {P : Program} {f : FuncId} {args : Array Value} {w : World} {A : Ending → Prop} (h : Calls P f args w fun e w' => A e ∧ w = w') : Calls P f args w fun e w' => A e ∧ ∃ n, w' = w.drewN n :=
  h.mono fun e w' ⟨h1, h2⟩ => ⟨h1, 0, h2.symm⟩

/-- what a call that only makes new blocks leaves: all old cells and marks read as before -/
theorem bcell {W w1 : World} (hb : Below W.heap.size W w1) : (∀ b o, b < W.heap.size → w1.cell? ⟨b, o, none⟩ = W.cell? ⟨b, o, none⟩) ∧ (∀ b o, b < W.heap.size → w1.frozen? ⟨b, o, none⟩ = W.frozen? ⟨b, o, none⟩) :=
  ⟨fun b o h => hb.cell (p := ⟨b, o, none⟩) h, fun b o h => hb.frozen (p := ⟨b, o, none⟩) h⟩
/-- a row of n cells of 64 bits at the head of block b -/
def Row (wr : World) (b n : Nat) (o : Nat → Int) : Prop := ∀ k, k < n → wr.cell? ⟨b, k, none⟩ = some (.int .u64 (o k)) ∧ wr.frozen? ⟨b, k, none⟩ = false ∧ U64 (o k)
def updR (o : Nat → Int) (i : Nat) (v : Int) : Nat → Int := fun k => if k = i then v else o k

theorem Row.drewN {wr : World} {b n : Nat} {o : Nat → Int} (h : Row wr b n o) (k : Nat) : Row (wr.drewN k) b n o := fun i hi => h i hi
theorem Row.drew {wr : World} {b n : Nat} {o : Nat → Int} (h : Row wr b n o) : Row wr.drew b n o := fun i hi => h i hi
theorem Row.below {wr wx : World} {b n B : Nat} {o : Nat → Int} (h : Row wr b n o) (hb : Below B wr wx) (hB : b < B) : Row wx b n o := fun i hi => by
  obtain ⟨h1, h2, h3⟩ := h i hi
  exact ⟨(hb.cell (p := ⟨b, i, none⟩) hB).trans h1, (hb.frozen (p := ⟨b, i, none⟩) hB).trans h2, h3⟩
theorem Row.other {wr : World} {b n : Nat} {o : Nat → Int} (h : Row wr b n o) {b' i : Nat} (v : Value) (hb : b' ≠ b) : Row (wr.setCell ⟨b', i, none⟩ v) b n o := fun k hk => by
  obtain ⟨h1, h2, h3⟩ := h k hk
  refine ⟨?_, ?_, h3⟩
  · rw [World.cell?_setCell_other _ _ _ _ (by intro e; injection e with e1; exact hb e1)]; exact h1
  · rw [World.frozen?_setCell]; exact h2
theorem Row.set {wr : World} {b n : Nat} {o : Nat → Int} (h : Row wr b n o) {i : Nat} (v : Int) (hi : i < n) (hv : U64 v) : Row (wr.setCell ⟨b, i, none⟩ (.int .u64 v)) b n (updR o i v) := fun k hk => by
  obtain ⟨h1, h2, h3⟩ := h k hk
  refine ⟨?_, ?_, ?_⟩
  · by_cases e : k = i
    · subst e; rw [World.cell?_setCell_same _ _ _ h1]; simp [updR]
    · rw [World.cell?_setCell_other _ _ _ _ (by intro e2; injection e2 with e3 e4; exact e e4.symm), h1]; simp [updR, e]
  · rw [World.frozen?_setCell]; exact h2
  · by_cases e : k = i
    · subst e; simpa [updR] using hv
    · simpa [updR, e] using h3
theorem Row.alloc {wr : World} {b n : Nat} {o : Nat → Int} (h : Row wr b n o) (hb : b < wr.heap.size) (x : Obj) : Row (wr.alloc x) b n o :=
  h.below (B := b + 1) ((Below.refl _ _).alloc (by omega) x) (by omega)
theorem row4_new (w : World) (a0 a1 a2 a3 : Int) (T : TypeId) (h0 : U64 a0) (h1 : U64 a1) (h2 : U64 a2) (h3 : U64 a3) :
    Row (w.alloc (.cells #[.int .u64 a0, .int .u64 a1, .int .u64 a2, .int .u64 a3] T)) w.heap.size 4 (fun k => match k with | 0 => a0 | 1 => a1 | 2 => a2 | _ => a3) := by
  intro k hk
  have : k = 0 ∨ k = 1 ∨ k = 2 ∨ k = 3 := by omega
  rcases this with rfl | rfl | rfl | rfl <;> refine ⟨by simp [go_sem], by simp [go_sem], ?_⟩ <;> assumption
end Go.Proofs.YtlloiallkcfomaaGreat
