/- Plain numbers: the signs of enclosures, what half a turn makes of them. -/
import Derived.Test.YtdbaccfgkacffaaGreatZUnit
set_option linter.unusedVariables false
set_option linter.unusedSimpArgs false
namespace Go.Proofs.YtdbaccfgkacffaaGreat
open Go.RowKit Alm Sx
theorem adi (n:Int):bLo (-n)=-bHi n/\bHi (-n)=-bLo n:=by
 have g:∀ n:Int,bLo (-n)=-bHi n:=by
  intro n
  by_cases h:n%10800000=0
  . have f1:aJ n=0:=by unfold aJ au;simp only [];split<;>split<;>omega
    have f2:aJ (-n)=0:=by unfold aJ au;simp only [];split<;>split<;>omega
    have s1:dM n=false:=by unfold dM au;simp;omega
    have s2:dM (-n)=false:=by unfold dM au;simp;omega
    unfold bLo bHi;rw [f1,f2,s1,s2];decide
  . have f:aJ (-n)=aJ n:=by unfold aJ au;simp only [];split<;>split<;>(repeat' split)<;>omega
    have s:dM (-n)=!dM n:=by
     unfold dM au;rw [Bool.eq_iff_iff];simp;omega
    unfold bLo bHi;rw [f,s];cases dM n<;>simp
 have h:=g (-n);rw [Int.neg_neg] at h;exact ⟨g n,by omega⟩
