/- Interpolation: values between two arcs, and the nodes that reckon them. -/
import Derived.Test.YtbcnifkfaknnaaaGreatZSpE
import Derived.Test.YtbcnifkfaknnaaaGreatZEv
set_option linter.unusedVariables false
set_option linter.unusedSimpArgs false
namespace Go.Proofs.YtbcnifkfaknnaaaGreat
open Go.RowKit Alm Sx
def sgt (x:Int):Int:=if x%21600000>=10800000 then x%21600000-21600000 else x%21600000
theorem wM {x r c s z:Int} (hx:-1000000000000000<=x/\x<=1000000000000000) (er:r=Int.tmod x 21600000) (ec:c=b2i (decide (r<0))) (es:s=IntKind.i64.wrap (r+21600000)) (ez:z=if c≠0 then s else r):z=x%21600000:=by
 rw [Int.tmod_eq_emod] at er
 by_cases P:0<=x∨(21600000:Int) ∣ x
 . rw [if_pos P] at er;rw [ez,ec,decide_eq_false (by omega),er]
   show x%21600000-((0:Nat):Int)=_;omega
 . rw [if_neg P] at er;have na:((Int.natAbs (21600000:Int):Nat):Int)=21600000:=rfl;rw [na] at er;rw [Go.IntWalk.i64_in _ (by omega)] at es
   rw [ez,ec,decide_eq_true (by omega),es,er]
   show x%21600000-21600000+21600000=_;omega
theorem Ce {x w g s z:Int} (ew:w=x%21600000) (eg:g=b2i (decide (w>=10800000))) (es:s=IntKind.i64.wrap (w-21600000)) (ez:z=if g≠0 then s else w):z=sgt x/\-10800000<=z/\z<=10800000:=by
 rw [Go.IntWalk.i64_in _ (by omega)] at es
 unfold sgt
 by_cases q:w>=10800000
 . rw [decide_eq_true q] at eg;rw [ez,eg,if_pos (by decide),es,if_pos (by omega)];omega
 . rw [decide_eq_false q] at eg;rw [ez,eg,if_neg (by decide),if_neg (by omega)];omega
def hrB (a2 a3 b2 b3:Int):Prop:=¬ a3-a2>=21600000/\¬ b3-b2>=21600000
instance (a2 a3 b2 b3:Int):Decidable (hrB a2 a3 b2 b3):=by unfold hrB;infer_instance
