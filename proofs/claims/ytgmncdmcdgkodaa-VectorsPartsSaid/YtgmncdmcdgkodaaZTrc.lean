/- Intervals that hold a true number and are narrow: sums, products, squares and roots of such. -/
import Derived.Test.YtgmncdmcdgkodaaZUAdd
import Derived.Test.YtgmncdmcdgkodaaZIso
import Derived.Test.YtgmncdmcdgkodaaZSgn
set_option linter.unusedVariables false
set_option linter.unusedSimpArgs false
namespace Go.Proofs.Ytgmncdmcdgkodaa
open Go.RowKit Alm Sx
def Tr (p:IV) (x:Rat) (k:Int) (e:Rat):Prop:=p.1<=p.2/\p.2-p.1<=k/\InE p.1 p.2 x e
def uQ (p:IV):IV:=((ak 3 [p.1,p.2]).getD 0 0,(ak 3 [p.1,p.2]).getD 1 0)
def uR (p:IV):IV:=((ak 4 [p.1,p.2]).getD 0 0,(ak 4 [p.1,p.2]).getD 1 0)
theorem kF {L H:Int} (h:-2147483648<=L/\L<=H/\H<=2147483648):fB L H=L/\dY L H=H/\jJ L H=0:=by
 unfold fB dY jJ;rw [if_pos h,if_pos h,if_pos h];exact ⟨rfl,rfl,rfl⟩
theorem ule {n:Int} {m:Int} {x:Rat} (h:(n:Rat)*u30<=x) (hx:x<((m:Rat)+1)*u30):n<=m:=by
 have u:=fM;refine Int.not_lt.1 fun hh=>?_
 have c:((m+1:Int):Rat)<=(n:Rat):=Rat.intCast_le_intCast.2 (by omega)
 rw [Rat.intCast_add,show ((1:Int):Rat)=1 from rfl] at c
 have:=Rat.mul_le_mul_of_nonneg_right c (Rat.le_of_lt u);grind
theorem uge {n:Int} {m:Int} {x:Rat} (h:x<=(n:Rat)*u30) (hx:((m:Rat)-1)*u30<x):m<=n:=by
 have u:=fM;refine Int.not_lt.1 fun hh=>?_
 have c:(n:Rat)<=((m-1:Int):Rat):=Rat.intCast_le_intCast.2 (by omega)
 rw [Rat.intCast_sub,show ((1:Int):Rat)=1 from rfl] at c
 have:=Rat.mul_le_mul_of_nonneg_right c (Rat.le_of_lt u);grind
theorem fT:1/2000000000<=u30:=by rw [dL];decide +kernel
theorem yZ {p:IV} {x e:Rat} {k:Int} (h:Tr p x k e) (o1:-(3/2)<=x) (o2:x<=3/2) (he:e<=1/4000000000) (hk:k<=1000000):fxV p.1 p.2=true:=by
 obtain ⟨h1,h2,h3,h4⟩:=h;have u:=gz;have us:=fT;have i1:p.1<=1610612738:=ule (x:=x+e) (by grind) (by rw [show ((1610612738:Int):Rat)=1610612738 from rfl];grind)
 have i2:-1610612738<=p.2:=uge (x:=x-e) (by grind) (by rw [show ((-1610612738:Int):Rat)=-1610612738 from rfl];grind)
 rw [bM];omega
