/- Plain numbers: the place that is reached along a great circle. -/
import Derived.Test.YtmldbeipmappnaaZUnMB
import Derived.Test.YtmldbeipmappnaaZSgn
set_option linter.unusedVariables false
set_option linter.unusedSimpArgs false
namespace Go.Proofs.Ytmldbeipmappnaa
open Go.RowKit Alm Sx
def yc (a b c d e f:Int):IV:=uA (uM (uS a b) (uC c d)) (uM (uM (uC a b) (uS c d)) (uC e f))
theorem G6 (a b c d e f:Int):(yc a b c d e f).1<=1073741824/\-1073741824<=(yc a b c d e f).2:=by
 have h:=FJ a b (c+5400000) (d+5400000) (e+10800000) (f+10800000);have e1:uS (c+5400000) (d+5400000)=uC c d:=rfl
 have e2:uC (c+5400000) (d+5400000)=uN (uS c d):=by
  rw [<-Dr];show uS (c+5400000+5400000) (d+5400000+5400000)=_;rw [show c+5400000+5400000=c+10800000 by omega,show d+5400000+5400000=d+10800000 by omega]
 have e3:uC (e+10800000) (f+10800000)=uN (uC e f):=by
  have:=Dr (e+5400000) (f+5400000);show uS (e+10800000+5400000) (f+10800000+5400000)=_;rw [show e+10800000+5400000=e+5400000+10800000 by omega,show f+10800000+5400000=f+5400000+10800000 by omega,this]
  rfl
 unfold QC at h;rw [e1,e2,e3,Ot (U_C a b) (U_S c d),Ot (Po (U_M (U_C a b) (U_S c d)).2.2) (U_C e f),N9 (U_M (U_C a b) (U_S c d)).2.2 (U_C e f),Td] at h;exact h
