/- Plain numbers: the place that is reached along a great circle. -/
import Derived.Test.YtknhbpnclokciaaGreatZUnMB
import Derived.Test.YtknhbpnclokciaaGreatZSgn
set_option linter.unusedVariables false
set_option linter.unusedSimpArgs false
namespace Go.Proofs.YtknhbpnclokciaaGreat
open Go.RowKit Alm Sx
def Zz (a b c d e f:Int):aek:=aeo (aes (aeu a b) (aep c d)) (aes (aes (aep a b) (aeu c d)) (aep e f))
theorem abd (a b c d e f:Int):(Zz a b c d e f).1<=1073741824/\-1073741824<=(Zz a b c d e f).2:=by
 have h:=aa2 a b (c+5400000) (d+5400000) (e+10800000) (f+10800000);have e1:aeu (c+5400000) (d+5400000)=aep c d:=rfl
 have e2:aep (c+5400000) (d+5400000)=aet (aeu c d):=by
  rw [<-aaZ];show aeu (c+5400000+5400000) (d+5400000+5400000)=_;rw [show c+5400000+5400000=c+10800000 by omega,show d+5400000+5400000=d+10800000 by omega]
 have e3:aep (e+10800000) (f+10800000)=aet (aep e f):=by
  have:=aaZ (e+5400000) (f+5400000);show aeu (e+10800000+5400000) (f+10800000+5400000)=_;rw [show e+10800000+5400000=e+5400000+10800000 by omega,show f+10800000+5400000=f+5400000+10800000 by omega,this]
  rfl
 unfold ac8 at h;rw [e1,e2,e3,acY (U_C a b) (U_S c d),acY (adv (U_M (U_C a b) (U_S c d)).2.2) (U_C e f),ac4 (U_M (U_C a b) (U_S c d)).2.2 (U_C e f),adU] at h;exact h
