/- Plain numbers: the place that is reached along a great circle. -/
import Derived.Test.YtmldbeipmappnaaZUnMB
import Derived.Test.YtmldbeipmappnaaZSgn
set_option linter.unusedVariables false
set_option linter.unusedSimpArgs false
namespace Go.Proofs.Ytmldbeipmappnaa
open Go.RowKit Alm Sx
def jX (a b c d e f:Int):IV:=uA (uM (uS a b) (uC c d)) (uM (uM (uC a b) (uS c d)) (uC e f))
theorem Ka (a b c d e f:Int):(jX a b c d e f).1<=1073741824/\-1073741824<=(jX a b c d e f).2:=by
 have h:=Le a b (c+5400000) (d+5400000) (e+10800000) (f+10800000);have e1:uS (c+5400000) (d+5400000)=uC c d:=rfl
 have e2:uC (c+5400000) (d+5400000)=uN (uS c d):=by
  rw [<-Gn];show uS (c+5400000+5400000) (d+5400000+5400000)=_;rw [show c+5400000+5400000=c+10800000 by omega,show d+5400000+5400000=d+10800000 by omega]
 have e3:uC (e+10800000) (f+10800000)=uN (uC e f):=by
  have:=Gn (e+5400000) (f+5400000);show uS (e+10800000+5400000) (f+10800000+5400000)=_;rw [show e+10800000+5400000=e+5400000+10800000 by omega,show f+10800000+5400000=f+5400000+10800000 by omega,this]
  rfl
 unfold VB at h;rw [e1,e2,e3,Uo (U_C a b) (U_S c d),Uo (Zu (U_M (U_C a b) (U_S c d)).2.2) (U_C e f),Uu (U_M (U_C a b) (U_S c d)).2.2 (U_C e f),abG] at h;exact h
