/- Plain: the place, the length and the local coordinates of the vector of a position. -/
import Derived.Test.YtbdlccacamalpaaZVpP
set_option linter.unusedVariables false
set_option linter.unusedSimpArgs false
namespace Go.Proofs.Ytbdlccacamalpaa
open Go.RowKit Alm Sx
theorem qA {L H:Int} {x e:Rat} (h:InE L H x e) (he:1073741824*e<=1/40000000):(L:Rat)-1/40000000<=1073741824*x/\1073741824*x<=(H:Rat)+1/40000000:=by
 obtain ⟨h1,h2⟩:=h;have u1:=dz
 have c1:((L:Rat)*u30)*1073741824=L:=by
  have:((L:Rat)*u30)*1073741824=L*(1073741824*u30):=by grind
  rw [this,u1,Rat.mul_one]
 have c2:((H:Rat)*u30)*1073741824=H:=by
  have:((H:Rat)*u30)*1073741824=H*(1073741824*u30):=by grind
  rw [this,u1,Rat.mul_one]
 have k1:=Rat.mul_nonneg (show 0<=x-(L:Rat)*u30+e by grind) (show (0:Rat)<=1073741824 by decide)
 have k2:=Rat.mul_nonneg (show 0<=(H:Rat)*u30+e-x by grind) (show (0:Rat)<=1073741824 by decide)
 constructor<;>grind
