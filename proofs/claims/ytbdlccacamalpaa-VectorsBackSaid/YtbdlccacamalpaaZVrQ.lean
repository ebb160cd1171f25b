/- Plain: angles between unit vectors. -/
import Derived.Test.YtbdlccacamalpaaZVrP
set_option linter.unusedVariables false
set_option linter.unusedSimpArgs false
namespace Go.Proofs.Ytbdlccacamalpaa
open Go.RowKit Alm Sx
theorem Dv:1000000*ee<=1/2000000000:=by unfold ee;decide +kernel
theorem vo {p:IV} {k:Int} {e:Rat} (h:Tr p 0 k e) (he:e<=1000000*ee):p.1<=0/\0<=p.2:=by
 obtain ⟨_,_,h3,h4⟩:=h;have u:=ic;have b:=Dv;have bp:=bC
 have f:e<u30:=by
  have:(1:Rat)/2000000000<u30:=by rw [dm];decide +kernel
  grind
 refine ⟨ule (x:=e) (by grind) (by rw [show ((0:Int):Rat)=0 from rfl];grind),uge (x:=-e) (by grind) (by rw [show ((0:Int):Rat)=0 from rfl];grind)⟩
