/- The contracts of Vertex of both sides. -/
import Derived.Test.YtknhbpnclokciaaZGc
set_option linter.unusedVariables false
set_option linter.unusedSimpArgs false
namespace Alm
end Alm
namespace Go.Proofs.Ytknhbpnclokciaa
open Go.RowKit Alm Sx
theorem Jt (n:Int) (h0:-5400000<=n) (h1:n<=5400000):bHi (-n)=-bLo n:=by
 rcases Int.lt_trichotomy n 0 with h|h|h
 . obtain ⟨a,b⟩:=tT n h0 h;obtain ⟨a',b'⟩:=rQ (-n) (by omega) (by omega)
   unfold bHi bLo;rw [a,b,a',b'];simp
 . subst h;decide
 . obtain ⟨a,b⟩:=rQ n (by omega) h1
   obtain ⟨a',b'⟩:=tT (-n) (by omega) (by omega)
   unfold bHi bLo;rw [a,b,a',b'];simp
theorem Ox (lo hi:Int) (h:lo<=hi):bE lo<=-bE (-hi):=by
 obtain ⟨a0,a1,a2,_⟩:=dR lo;obtain ⟨b0,b1,b2,_⟩:=dR (-hi)
 by_cases hh:bE lo<=-bE (-hi)
 . exact hh
 . have m:=GJ (-bE (-hi)) (bE lo) (by omega) (by omega) (by omega)
   have n:=Jt (-bE (-hi)) (by omega) (by omega)
   rw [Int.neg_neg] at n;omega
