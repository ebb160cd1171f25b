/- Plain numbers: the signs of enclosures, what half a turn makes of them. -/
import Derived.Test.YtpcfajiiijndiaaZUnit
set_option linter.unusedVariables false
set_option linter.unusedSimpArgs false
namespace Go.Proofs.Ytpcfajiiijndiaa
open Go.RowKit Alm Sx
theorem WC {p:IV} (h:U p):U (uN p):=by unfold U uN at *;simp only;omega
theorem Vg (n:Int):bLo (-n)=-bHi n/\bHi (-n)=-bLo n:=by
 have g:∀ n:Int,bLo (-n)=-bHi n:=by
  intro n
  by_cases h:n%10800000=0
  . have f1:aG n=0:=by unfold aG av;simp only [];split<;>split<;>omega
    have f2:aG (-n)=0:=by unfold aG av;simp only [];split<;>split<;>omega
    have s1:bU n=false:=by unfold bU av;simp;omega
    have s2:bU (-n)=false:=by unfold bU av;simp;omega
    unfold bLo bHi;rw [f1,f2,s1,s2];decide
  . have f:aG (-n)=aG n:=by unfold aG av;simp only [];split<;>split<;>(repeat' split)<;>omega
    have s:bU (-n)=!bU n:=by
     unfold bU av;rw [Bool.eq_iff_iff];simp;omega
    unfold bLo bHi;rw [f,s];cases bU n<;>simp
 have h:=g (-n);rw [Int.neg_neg] at h;exact ⟨g n,by omega⟩
