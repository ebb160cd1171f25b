/- Plain numbers: the signs of enclosures, what half a turn makes of them. -/
import Derived.Test.YtmldbeipmappnaaZUnit
set_option linter.unusedVariables false
set_option linter.unusedSimpArgs false
namespace Go.Proofs.Ytmldbeipmappnaa
open Go.RowKit Alm Sx
theorem ack (n:Int):bLo (-n)=-bHi n/\bHi (-n)=-bLo n:=by
 have g:∀ n:Int,bLo (-n)=-bHi n:=by
  intro n
  by_cases h:n%10800000=0
  . have f1:aI n=0:=by unfold aI av;simp only [];split<;>split<;>omega
    have f2:aI (-n)=0:=by unfold aI av;simp only [];split<;>split<;>omega
    have s1:bv n=false:=by unfold bv av;simp;omega
    have s2:bv (-n)=false:=by unfold bv av;simp;omega
    unfold bLo bHi;rw [f1,f2,s1,s2];decide
  . have f:aI (-n)=aI n:=by unfold aI av;simp only [];split<;>split<;>(repeat' split)<;>omega
    have s:bv (-n)=!bv n:=by
     unfold bv av;rw [Bool.eq_iff_iff];simp;omega
    unfold bLo bHi;rw [f,s];cases bv n<;>simp
 have h:=g (-n);rw [Int.neg_neg] at h;exact ⟨g n,by omega⟩
