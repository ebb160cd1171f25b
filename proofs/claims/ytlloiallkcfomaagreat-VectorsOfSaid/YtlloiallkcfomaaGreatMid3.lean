/- Facts on enclosures. -/
import Derived.Test.YtlloiallkcfomaaGreatMid2
set_option linter.unusedVariables false
set_option linter.unusedSimpArgs false
namespace Go.Proofs.YtlloiallkcfomaaGreat
open Go.RowKit Alm
theorem en_bd (lo hi : Int) : -1073741824 ≤ enLo lo hi ∧ enLo lo hi ≤ enHi lo hi ∧ enHi lo hi ≤ 1073741824 := by
  have h1 := bnd_bd lo; have h2 := bnd_bd hi
  unfold enLo enHi
  split <;> split <;> omega
theorem en_fx (lo hi : Int) : fxV (enLo lo hi) (enHi lo hi) = true := by
  have h := en_bd lo hi
  rw [fxV_iff]; omega
def cosLo (lo hi : Int) : Int := enLo (lo + 5400000) (hi + 5400000)
def cosHi (lo hi : Int) : Int := enHi (lo + 5400000) (hi + 5400000)
theorem arcV_fact {lo hi : Int} (h : arcV lo hi = true) : factB lo = true ∧ factB hi = true := by
  have := (arcV_iff lo hi).1 h
  unfold factB; simp; omega
theorem latB_arcV {lo hi : Int} (h : latB lo hi = true) : arcV lo hi = true := by
  unfold latB at h; rw [arcV_iff]; simp at h; omega
end Go.Proofs.YtlloiallkcfomaaGreat
