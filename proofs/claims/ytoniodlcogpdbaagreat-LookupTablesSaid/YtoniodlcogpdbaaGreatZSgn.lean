/- Plain numbers: the signs of enclosures, what half a turn makes of them. -/
import Derived.Test.YtoniodlcogpdbaaGreatZUnit
set_option linter.unusedVariables false
set_option linter.unusedSimpArgs false
namespace Go.Proofs.YtoniodlcogpdbaaGreat
open Go.RowKit Alm Sx
theorem adl (n:Int):bLo (-n)=-bHi n/\bHi (-n)=-bLo n:=by
 have g:∀ n:Int,bLo (-n)=-bHi n:=by
  intro n
  by_cases h:n%10800000=0
  . have f1:aI n=0:=by unfold aI au;simp only [];split<;>split<;>omega
    have f2:aI (-n)=0:=by unfold aI au;simp only [];split<;>split<;>omega
    have s1:dm n=false:=by unfold dm au;simp;omega
    have s2:dm (-n)=false:=by unfold dm au;simp;omega
    unfold bLo bHi;rw [f1,f2,s1,s2];decide
  . have f:aI (-n)=aI n:=by unfold aI au;simp only [];split<;>split<;>(repeat' split)<;>omega
    have s:dm (-n)=!dm n:=by
     unfold dm au;rw [Bool.eq_iff_iff];simp;omega
    unfold bLo bHi;rw [f,s];cases dm n<;>simp
 have h:=g (-n);rw [Int.neg_neg] at h;exact ⟨g n,by omega⟩
