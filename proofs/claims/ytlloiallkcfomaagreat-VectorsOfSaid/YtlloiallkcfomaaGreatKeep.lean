/- Small laws on memory: blocks that a walk keeps. -/
import Derived.Test.YtlloiallkcfomaaGreatCells
set_option linter.unusedVariables false
namespace Go.Proofs.YtlloiallkcfomaaGreat
open Go.RowKit
/-- the world wr has come out of w; the old blocks are as they were, and these blocks hold these cells -/
def KS (w wr : World) (l : List (Nat × TypeId × Array Value)) : Prop := Below w.heap.size w wr ∧ ∀ p ∈ l, BK wr p.1 p.2.1 p.2.2
theorem ks_start (w : World) : KS w w [] := ⟨Below.refl _ _, by simp⟩
theorem KS.below {w wr wx : World} {l : List (Nat × TypeId × Array Value)} (h : KS w wr l) (hb : Below wr.heap.size wr wx) : KS w wx l :=
  ⟨h.1.trans (hb.mono h.1.size), fun p hp => (h.2 p hp).below hb (h.2 p hp).lt⟩
theorem KS.alloc {w wr : World} {l : List (Nat × TypeId × Array Value)} (h : KS w wr l) (o : Obj) : KS w (wr.alloc o) l :=
  ⟨h.1.alloc h.1.size o, fun p hp => (h.2 p hp).alloc o⟩
theorem KS.new {w wr : World} {l : List (Nat × TypeId × Array Value)} (h : KS w wr l) (n : Nat) (hn : wr.heap.size = n) (t : TypeId) (cs : Array Value) : KS w (wr.alloc (.cells cs t)) ((n, t, cs) :: l) :=
  ⟨h.1.alloc h.1.size _, fun p hp => by
    rcases List.mem_cons.1 hp with rfl | hp
    · exact bk_at wr n t cs hn
    · exact (h.2 p hp).alloc _⟩
theorem KS.drew {w wr : World} {l : List (Nat × TypeId × Array Value)} (h : KS w wr l) : KS w wr.drew l := ⟨h.1.drew, fun p hp => (h.2 p hp).drew⟩
theorem KS.drewN {w wr : World} {l : List (Nat × TypeId × Array Value)} (h : KS w wr l) (k : Nat) : KS w (wr.drewN k) l := ⟨below_drewN h.1 k, fun p hp => (h.2 p hp).drewN k⟩
/-- a store into the first block -/
theorem KS.set {w wr : World} {l : List (Nat × TypeId × Array Value)} {n : Nat} {t : TypeId} {cs : Array Value} (h : KS w wr ((n, t, cs) :: l)) (hn : w.heap.size ≤ n) (hd : ∀ p ∈ l, p.1 ≠ n) (i : Nat) (u : Value) :
    KS w (wr.setCell ⟨n, i, none⟩ u) ((n, t, cs.setIfInBounds i u) :: l) :=
  ⟨h.1.setCell hn u, fun p hp => by
    rcases List.mem_cons.1 hp with rfl | hp
    · exact (h.2 _ (List.mem_cons_self ..)).set i u
    · exact (h.2 p (List.mem_cons_of_mem _ hp)).far (by exact hd p hp) u⟩
theorem KS.sub {w wr : World} {l l' : List (Nat × TypeId × Array Value)} (h : KS w wr l) (hl : ∀ p ∈ l', p ∈ l) : KS w wr l' := ⟨h.1, fun p hp => h.2 p (hl p hp)⟩
theorem KS.c {w wr : World} {l : List (Nat × TypeId × Array Value)} {g : Nat} {t : TypeId} {cs : Array Value} (h : KS w wr l) (hm : (g, t, cs) ∈ l) {i : Nat} {v : Value} (hi : cs[i]? = some v) : wr.cell? ⟨g, i, none⟩ = some v :=
  ((h.2 _ hm).cell i).trans hi
theorem KS.f {w wr : World} {l : List (Nat × TypeId × Array Value)} {g : Nat} {t : TypeId} {cs : Array Value} (h : KS w wr l) (hm : (g, t, cs) ∈ l) (i : Nat) : wr.frozen? ⟨g, i, none⟩ = false := (h.2 _ hm).frozen i
theorem KS.lt {w wr : World} {l : List (Nat × TypeId × Array Value)} {g : Nat} {t : TypeId} {cs : Array Value} (h : KS w wr l) (hm : (g, t, cs) ∈ l) : g < wr.heap.size := (h.2 _ hm).lt
theorem cell_far (w : World) (g b i j : Nat) (u : Value) (h : g ≠ b) : (w.setCell ⟨g, i, none⟩ u).cell? ⟨b, j, none⟩ = w.cell? ⟨b, j, none⟩ :=
  World.cell?_setCell_other _ _ _ _ (by intro e; injection e with e1; exact h e1)
end Go.Proofs.YtlloiallkcfomaaGreat
