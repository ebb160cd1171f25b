/- Facts on enclosures. -/
import Derived.Test.YtknhbpnclokciaaGreatZMid2
import Derived.Test.YtknhbpnclokciaaGreatZRefS
import Derived.Test.YtknhbpnclokciaaGreatZWides
set_option linter.unusedVariables false
set_option linter.unusedSimpArgs false
namespace Go.Proofs.YtknhbpnclokciaaGreat
open Go.RowKit Alm
theorem cK {lo hi:Int} (h:aH lo hi=true):aX lo=true/\aX hi=true:=by
 have:=(eF lo hi).1 h;unfold aX;simp;omega
theorem Ir {lo hi:Int} (h:Cm lo hi=true):aH lo hi=true:=by
 unfold Cm at h;rw [eF];simp at h;omega
