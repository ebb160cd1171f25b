/- Plain laws of a traverse: half a turn more turns the sums around; sums of parts, and in another order. -/
import Derived.Test.YtlloiallkcfomaaMid4
set_option linter.unusedVariables false
set_option linter.unusedSimpArgs false
namespace Go.Proofs.Ytlloiallkcfomaa
open Go.RowKit Alm
theorem half_b (n : Int) : bLo (n + 10800000) = -(bHi n) ∧ bHi (n + 10800000) = -(bLo n) := by
  have hw : wrapTurn n = n % 21600000 := rfl
  have hw2 : wrapTurn (n + 10800000) = (n + 10800000) % 21600000 := rfl
  have z0 : sinV 0 = 0 := by unfold sinV; simp
  have e0 : sinE 0 = true := by unfold sinE; simp
  by_cases hz : n % 21600000 = 0 ∨ n % 21600000 = 10800000
  · have f1 : foldQ n = 0 := by unfold foldQ; simp only []; split <;> split <;> omega
    have f2 : foldQ (n + 10800000) = 0 := by unfold foldQ; simp only []; split <;> split <;> omega
    unfold bLo bHi
    rw [f1, f2, z0, e0]; simp
  · have f : foldQ (n + 10800000) = foldQ n := by unfold foldQ; simp only []; split <;> split <;> split <;> split <;> omega
    unfold bLo bHi
    rw [f]
    by_cases h : 10800000 < n % 21600000
    · have s1 : south n = true := by unfold south; simp; omega
      have s2 : south (n + 10800000) = false := by unfold south; simp; omega
      rw [s1, s2]; simp
    · have s1 : south n = false := by unfold south; simp; omega
      have s2 : south (n + 10800000) = true := by unfold south; simp; omega
      rw [s1, s2]; simp
theorem half_meets (lo hi n : Int) : meetsB (lo + 10800000) (hi + 10800000) (n + 10800000) = meetsB lo hi n := by
  unfold meetsB
  have e1 : n + 10800000 - (lo + 10800000) = n - lo := by omega
  have e2 : hi + 10800000 - (lo + 10800000) = hi - lo := by omega
  rw [e1, e2]
theorem half_meets2 (lo hi : Int) : meetsB (lo + 10800000) (hi + 10800000) 5400000 = meetsB lo hi 16200000 := by
  unfold meetsB
  have e1 : wrapTurn (5400000 - (lo + 10800000)) = wrapTurn (16200000 - lo) := by unfold wrapTurn; omega
  have e2 : hi + 10800000 - (lo + 10800000) = hi - lo := by omega
  rw [e1, e2]
theorem half_en (lo hi : Int) : enLo (lo + 10800000) (hi + 10800000) = -(enHi lo hi) ∧ enHi (lo + 10800000) (hi + 10800000) = -(enLo lo hi) := by
  have h1 := half_b lo; have h2 := half_b hi
  have m1 : meetsB (lo + 10800000) (hi + 10800000) 16200000 = meetsB lo hi 5400000 := half_meets lo hi 5400000
  unfold enLo enHi
  rw [m1, half_meets2, h1.1, h1.2, h2.1, h2.2]
  constructor
  · split <;> omega
  · split <;> omega
theorem neg_sc (lo hi n : Int) : scLo (-hi) (-lo) n = -(scHi lo hi n) ∧ scHi (-hi) (-lo) n = -(scLo lo hi n) := by
  unfold scLo scHi qFl qCe
  rw [Int.neg_mul, Int.neg_mul]
  generalize lo * n = P
  generalize hi * n = Q
  omega
theorem neg_pr (flo fhi lo hi : Int) : prLo (-fhi) (-flo) lo hi = -(prHi flo fhi lo hi) ∧ prHi (-fhi) (-flo) lo hi = -(prLo flo fhi lo hi) := by
  unfold prLo prHi
  have a := neg_sc flo fhi lo; have b := neg_sc flo fhi hi
  rw [a.1, a.2, b.1, b.2]; omega
theorem q_unit (x n : Int) (hx : -1073741824 ≤ x ∧ x ≤ 1073741824) (hn : 0 ≤ n) : -n ≤ qFl x n 1073741824 ∧ qFl x n 1073741824 ≤ qCe x n 1073741824 ∧ qCe x n 1073741824 ≤ n := by
  have h1 : x * n ≤ 1073741824 * n := Int.mul_le_mul_of_nonneg_right hx.2 hn
  have h2 : -1073741824 * n ≤ x * n := Int.mul_le_mul_of_nonneg_right hx.1 hn
  unfold qFl qCe
  generalize x * n = P at *
  omega
theorem pr_bd (flo fhi lo hi : Int) (h1 : -1073741824 ≤ flo) (h2 : flo ≤ fhi) (h3 : fhi ≤ 1073741824) (hlo : 0 ≤ lo) (hl : lo ≤ hi) :
    -hi ≤ prLo flo fhi lo hi ∧ prLo flo fhi lo hi ≤ prHi flo fhi lo hi ∧ prHi flo fhi lo hi ≤ hi := by
  have a := q_unit flo lo ⟨by omega, by omega⟩ (by omega)
  have b := q_unit fhi lo ⟨by omega, by omega⟩ (by omega)
  have c := q_unit flo hi ⟨by omega, by omega⟩ (by omega)
  have d := q_unit fhi hi ⟨by omega, by omega⟩ (by omega)
  unfold prLo prHi scLo scHi
  omega
/-- a leg: course from, to; distance from, to -/
structure Leg4 where
  cl : Int
  ch : Int
  dl : Int
  dh : Int
def Leg4.ok (l : Leg4) : Bool := legB l.cl l.ch l.dl l.dh
def Leg4.xl (l : Leg4) : Int := prLo (cosLo l.cl l.ch) (cosHi l.cl l.ch) l.dl l.dh
def Leg4.xh (l : Leg4) : Int := prHi (cosLo l.cl l.ch) (cosHi l.cl l.ch) l.dl l.dh
def Leg4.yl (l : Leg4) : Int := prLo (enLo l.cl l.ch) (enHi l.cl l.ch) l.dl l.dh
def Leg4.yh (l : Leg4) : Int := prHi (enLo l.cl l.ch) (enHi l.cl l.ch) l.dl l.dh
/-- what the law lets by -/
def Leg4.small (l : Leg4) : Bool := decide (l.dh ≤ 1073741824 ∧ l.ch ≤ 1073741824 ∧ -1073741824 ≤ l.cl)
def Leg4.back (l : Leg4) : Leg4 := ⟨l.cl + 10800000, l.ch + 10800000, l.dl, l.dh⟩
theorem leg_ok (l : Leg4) (h : l.ok = true) : l.cl ≤ l.ch ∧ -1099511627776 ≤ l.cl ∧ l.ch ≤ 1099511627776 ∧ 0 ≤ l.dl ∧ l.dl ≤ l.dh ∧ l.dh ≤ 1099511627776 := by
  unfold Leg4.ok legB at h
  simp only [Bool.and_eq_true, decide_eq_true_eq, arcV_iff] at h
  omega
theorem leg_bd (l : Leg4) (h : l.ok = true) : -l.dh ≤ l.xl ∧ l.xl ≤ l.xh ∧ l.xh ≤ l.dh ∧ -l.dh ≤ l.yl ∧ l.yl ≤ l.yh ∧ l.yh ≤ l.dh := by
  have k := leg_ok l h
  have e1 := en_bd (l.cl + 5400000) (l.ch + 5400000); have e2 := en_bd l.cl l.ch
  have a := pr_bd (cosLo l.cl l.ch) (cosHi l.cl l.ch) l.dl l.dh (by unfold cosLo; omega) (by unfold cosLo cosHi; omega) (by unfold cosHi; omega) (by omega) (by omega)
  have b := pr_bd (enLo l.cl l.ch) (enHi l.cl l.ch) l.dl l.dh (by omega) (by omega) (by omega) (by omega) (by omega)
  exact ⟨a.1, a.2.1, a.2.2, b.1, b.2.1, b.2.2⟩
theorem back_x (l : Leg4) : l.back.xl = -l.xh ∧ l.back.xh = -l.xl ∧ l.back.yl = -l.yh ∧ l.back.yh = -l.yl := by
  have e : cosLo (l.cl + 10800000) (l.ch + 10800000) = -(cosHi l.cl l.ch) ∧ cosHi (l.cl + 10800000) (l.ch + 10800000) = -(cosLo l.cl l.ch) := by
    unfold cosLo cosHi
    have e1 : l.cl + 10800000 + 5400000 = l.cl + 5400000 + 10800000 := by omega
    have e2 : l.ch + 10800000 + 5400000 = l.ch + 5400000 + 10800000 := by omega
    rw [e1, e2]; exact half_en _ _
  have f := half_en l.cl l.ch
  have a := neg_pr (cosLo l.cl l.ch) (cosHi l.cl l.ch) l.dl l.dh
  have b := neg_pr (enLo l.cl l.ch) (enHi l.cl l.ch) l.dl l.dh
  unfold Leg4.xl Leg4.xh Leg4.yl Leg4.yh Leg4.back
  simp only []
  rw [e.1, e.2, f.1, f.2]
  exact ⟨a.1, a.2, b.1, b.2⟩
theorem back_ok (l : Leg4) (h : l.ok = true) (hs : l.small = true) : l.back.ok = true ∧ l.back.dh = l.dh := by
  have k := leg_ok l h
  unfold Leg4.small at hs; simp at hs
  refine ⟨?_, rfl⟩
  unfold Leg4.ok legB Leg4.back
  simp only [Bool.and_eq_true, decide_eq_true_eq, arcV_iff]
  omega
def sumOf (f : Leg4 → Int) (L : List Leg4) : Int := (L.map f).sum
theorem sumOf_nil (f : Leg4 → Int) : sumOf f [] = 0 := rfl
theorem sumOf_cons (f : Leg4 → Int) (l : Leg4) (L : List Leg4) : sumOf f (l :: L) = f l + sumOf f L := by unfold sumOf; simp
theorem sumOf_append (f : Leg4 → Int) (L M : List Leg4) : sumOf f (L ++ M) = sumOf f L + sumOf f M := by
  induction L with
  | nil => simp [sumOf_nil]
  | cons l L ih => rw [List.cons_append, sumOf_cons, sumOf_cons, ih]; omega
theorem sumOf_reverse (f : Leg4 → Int) (L : List Leg4) : sumOf f L.reverse = sumOf f L := by
  induction L with
  | nil => rfl
  | cons l L ih => rw [List.reverse_cons, sumOf_append, sumOf_cons, sumOf_cons, sumOf_nil, ih]; omega
theorem sumOf_back (L : List Leg4) : sumOf Leg4.xl (L.map Leg4.back) = -(sumOf Leg4.xh L) ∧ sumOf Leg4.xh (L.map Leg4.back) = -(sumOf Leg4.xl L) ∧ sumOf Leg4.yl (L.map Leg4.back) = -(sumOf Leg4.yh L) ∧ sumOf Leg4.yh (L.map Leg4.back) = -(sumOf Leg4.yl L) := by
  induction L with
  | nil => simp [sumOf_nil]
  | cons l L ih =>
    have b := back_x l
    simp only [List.map_cons, sumOf_cons]
    omega
theorem sumOf_le (L : List Leg4) (h : ∀ l ∈ L, l.ok = true) : sumOf Leg4.xl L ≤ sumOf Leg4.xh L ∧ sumOf Leg4.yl L ≤ sumOf Leg4.yh L := by
  induction L with
  | nil => simp [sumOf_nil]
  | cons l L ih =>
    have b := leg_bd l (h l (by simp))
    have c := ih (fun x hx => h x (by simp [hx]))
    simp only [sumOf_cons]
    omega
theorem sumOf_bd (L : List Leg4) (h : ∀ l ∈ L, l.ok = true ∧ l.dh ≤ 1073741824) : -(1073741824 * (L.length : Int)) ≤ sumOf Leg4.xl L ∧ sumOf Leg4.xl L ≤ sumOf Leg4.xh L ∧ sumOf Leg4.xh L ≤ 1073741824 * (L.length : Int) ∧ -(1073741824 * (L.length : Int)) ≤ sumOf Leg4.yl L ∧ sumOf Leg4.yl L ≤ sumOf Leg4.yh L ∧ sumOf Leg4.yh L ≤ 1073741824 * (L.length : Int) := by
  induction L with
  | nil => simp [sumOf_nil]
  | cons l L ih =>
    have k := h l (by simp)
    have b := leg_bd l k.1
    have c := ih (fun x hx => h x (by simp [hx]))
    simp only [sumOf_cons, List.length_cons]
    omega
end Go.Proofs.Ytlloiallkcfomaa
