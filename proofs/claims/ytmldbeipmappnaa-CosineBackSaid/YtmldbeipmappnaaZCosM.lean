/- Plain numbers: the triangle, mirrored. -/
import Derived.Test.YtmldbeipmappnaaZCosP
import Derived.Test.YtmldbeipmappnaaZMir
import Derived.Test.YtmldbeipmappnaaZSgn
import Derived.Test.YtmldbeipmappnaaZTru
set_option linter.unusedVariables false
set_option linter.unusedSimpArgs false
namespace Go.Proofs.Ytmldbeipmappnaa
open Go.RowKit Alm Sx
end Go.Proofs.Ytmldbeipmappnaa
namespace Go.Proofs.Ytmldbeipmappnaa
open Alm Sx
theorem agz {x y:Rat} (hx:O1 x) (hy:O1 y):O1 (x*y):=by
 have h:=Nr.mul (Nr.refl x) (Nr.refl y) hx hy Rat.le_refl Rat.le_refl;unfold O1 at *
 have a:=Rat.mul_nonneg (show 0<=1-x by grind) (show 0<=1-y by grind)
 have b:=Rat.mul_nonneg (show 0<=1+x by grind) (show 0<=1+y by grind)
 have c:=Rat.mul_nonneg (show 0<=1-x by grind) (show 0<=1+y by grind)
 have d:=Rat.mul_nonneg (show 0<=1+x by grind) (show 0<=1-y by grind)
 constructor<;>grind
theorem afe (a c e f n:Int) (h:n=e∨n=f):InE (VB a a c c e f).1 (VB a a c c e f).2 (sg a*sg c+cg a*cg c*cg n) (10*ee):=by
 have p:=bz;have s:=fI (U_S a a) (U_S c c) (CG a a a (.inl rfl)) (CG c c c (.inl rfl)) (by grind) (by grind) (g1 a).2
 have t:=fI (U_C a a) (U_C c c) (lM a a a (.inl rfl)) (lM c c c (.inl rfl)) (by grind) (by grind) (g1 a).1
 have u:=fI (U_M (U_C a a) (U_C c c)).2.2 (U_C e f) t (lM e f n h) (by grind) (by grind) (agz (g1 a).1 (g1 c).1)
 have v:=Cq (U_M (U_S a a) (U_S c c)).2.2 (U_M (U_M (U_C a a) (U_C c c)).2.2 (U_C e f)).2.2 s u;have k:2*ee+2*ee+(2*ee+2*ee+2*ee)=10*ee:=by grind
 rw [k] at v;exact v
