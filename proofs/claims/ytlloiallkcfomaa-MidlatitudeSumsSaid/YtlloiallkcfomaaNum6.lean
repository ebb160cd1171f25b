import Derived.Test.YtlloiallkcfomaaNum2
import Derived.Test.YtlloiallkcfomaaNum5
set_option linter.unusedVariables false
namespace Alm
/-- 2^96 -/
def F96 : Nat := 2^96
def rs1 : Nat := 23046538269650701392778
def rc1 : Nat := 79228162514260985610427347966
def rsT : Nat := 46093073939162458779889859
def rcT : Nat := 79228149106332249358948278227
/-- one step, and 2000 steps, of (cosine, sine) times 2^96 -/
def st1 (p : Nat × Nat) : Nat × Nat := ((p.1 * rc1 - p.2 * rs1) / F96, (p.2 * rc1 + p.1 * rs1) / F96)
def stT (p : Nat × Nat) : Nat × Nat := ((p.1 * rcT - p.2 * rsT) / F96, (p.2 * rcT + p.1 * rsT) / F96)
theorem st1_eq (p : Nat × Nat) : st1 p = ((p.1 * rc1 - p.2 * rs1) / F96, (p.2 * rc1 + p.1 * rs1) / F96) := rfl
theorem stT_eq (p : Nat × Nat) : stT p = ((p.1 * rcT - p.2 * rsT) / F96, (p.2 * rcT + p.1 * rsT) / F96) := rfl
attribute [irreducible] st1 stT
/-- the table: the values from p on -/
def tab : Nat → Nat × Nat → List (Nat × Nat)
  | 0, _ => []
  | k + 1, p => p :: tab k (st1 p)
def tabP : Nat → Nat × Nat → Nat × Nat
  | 0, _ => (0, 0)
  | k + 1, p => (p.1 + SW * (tabP k (st1 p)).1, p.2 + SW * (tabP k (st1 p)).2)
def look : Nat → Nat × Nat → Nat × Nat → Nat → Bool
  | 0, _, _, _ => true
  | q + 1, p, t, O => chk O (p.2 * t.1 + p.1 * t.2) && chk O (p.1 * t.1 - p.2 * t.2) && look q (stT p) t O

theorem tabP_pack (k : Nat) (p : Nat × Nat) : (tabP k p).1 = pack ((tab k p).map (·.1)) ∧ (tabP k p).2 = pack ((tab k p).map (·.2)) := by
  induction k generalizing p with
  | zero => simp [tabP, tab, pack]
  | succ k ih => simp only [tabP, tab, List.map, pack, (ih (st1 p)).1, (ih (st1 p)).2]; exact ⟨trivial, trivial⟩
theorem tab_length (k : Nat) (p : Nat × Nat) : (tab k p).length = k := by
  induction k generalizing p with
  | zero => rfl
  | succ k ih => simp [tab, ih]
theorem pack_lin (a b : Nat) (l : List (Nat × Nat)) : a * pack (l.map (·.1)) + b * pack (l.map (·.2)) = pack (l.map fun p => a * p.1 + b * p.2) := by
  induction l with
  | nil => simp [pack]
  | cons p l ih => simp only [List.map, pack]; rw [← ih]; grind
theorem pack_sub (a b : Nat) (l : List (Nat × Nat)) (h : ∀ p ∈ l, b * p.2 ≤ a * p.1) : b * pack (l.map (·.2)) ≤ a * pack (l.map (·.1)) ∧ a * pack (l.map (·.1)) - b * pack (l.map (·.2)) = pack (l.map fun p => a * p.1 - b * p.2) := by
  induction l with
  | nil => simp [pack]
  | cons p l ih =>
    have i := ih (fun q hq => h q (by simp [hq]))
    have hp := h p (by simp)
    simp only [List.map, pack]
    rw [← i.2]
    have e1 : a * (p.1 + SW * pack (l.map (·.1))) = a * p.1 + SW * (a * pack (l.map (·.1))) := by grind
    have e2 : b * (p.2 + SW * pack (l.map (·.2))) = b * p.2 + SW * (b * pack (l.map (·.2))) := by grind
    rw [e1, e2]
    generalize a * pack (l.map (·.1)) = x at *
    generalize b * pack (l.map (·.2)) = y at *
    have hm : SW * y ≤ SW * x := Nat.mul_le_mul_left _ i.1
    have e3 : SW * (x - y) = SW * x - SW * y := Nat.mul_sub SW x y
    rw [e3]
    constructor <;> omega
/-- the table's pairs are small, the sine the smaller one -/
def Sm (p : Nat × Nat) : Prop := p.1 ≤ 2 * F96 ∧ p.2 ≤ 2 * F96
theorem look_one (p : Nat × Nat) (l : List (Nat × Nat)) (hp : Sm p) (hl : ∀ x ∈ l, Sm x) (hs : ∀ x ∈ l, p.2 * x.2 ≤ p.1 * x.1)
    (h1 : chk (ones l.length) (p.2 * pack (l.map (·.1)) + p.1 * pack (l.map (·.2))) = true) (h2 : chk (ones l.length) (p.1 * pack (l.map (·.1)) - p.2 * pack (l.map (·.2))) = true) :
    ∀ x ∈ l, Far (p.2 * x.1 + p.1 * x.2) ∧ Far (p.1 * x.1 - p.2 * x.2) := by
  rw [pack_lin] at h1
  rw [(pack_sub p.1 p.2 l hs).2] at h2
  have hb : ∀ x ∈ l, p.2 * x.1 ≤ 2 * F96 * (2 * F96) ∧ p.1 * x.2 ≤ 2 * F96 * (2 * F96) ∧ p.1 * x.1 ≤ 2 * F96 * (2 * F96) := fun x hx =>
    ⟨Nat.mul_le_mul hp.2 (hl x hx).1, Nat.mul_le_mul hp.1 (hl x hx).2, Nat.mul_le_mul hp.1 (hl x hx).1⟩
  have hF : 2 * F96 * (2 * F96) * 2 < 2^200 := by decide +kernel
  have a1 := chk_all (l.map fun x => p.2 * x.1 + p.1 * x.2) (by
    intro y hy; obtain ⟨x, hx, rfl⟩ := List.mem_map.1 hy
    have := hb x hx; omega) (by rw [List.length_map]; exact h1)
  have a2 := chk_all (l.map fun x => p.1 * x.1 - p.2 * x.2) (by
    intro y hy; obtain ⟨x, hx, rfl⟩ := List.mem_map.1 hy
    have := hb x hx; omega) (by rw [List.length_map]; exact h2)
  intro x hx
  exact ⟨a1 _ (List.mem_map.2 ⟨x, hx, rfl⟩), a2 _ (List.mem_map.2 ⟨x, hx, rfl⟩)⟩

/-- the blocks from 1 to 899, 900 without its first place, 901 to 1349, 0 without its first place -/
def iterP (f : Nat × Nat → Nat × Nat) : Nat → Nat × Nat → Nat × Nat
  | 0, p => p
  | k + 1, p => iterP f k (f p)
theorem iterP_succ (f : Nat × Nat → Nat × Nat) (k : Nat) (p : Nat × Nat) : iterP f (k + 1) p = iterP f k (f p) := rfl
def stTn (k : Nat) (p : Nat × Nat) : Nat × Nat := iterP stT k p
theorem stTn_zero (p : Nat × Nat) : stTn 0 p = p := rfl
theorem stTn_succ (k : Nat) (p : Nat × Nat) : stTn (k + 1) p = stTn k (stT p) := iterP_succ stT k p
def lookAll : Bool :=
  let t := tabP 2000 (F96, 0)
  let u := tabP 1999 (st1 (F96, 0))
  let O := ones 2000
  let O' := ones 1999
  let p := stTn 900 (F96, 0)
  look 899 (stT (F96, 0)) t O && look 1 p u O' && look 449 (stT p) t O && look 1 (F96, 0) u O'
theorem look_ok : lookAll = true := by decide +kernel
end Alm
