/- The contracts of altitude, azimuth and Valid of the cosine formula, and of the reference's. -/
import Derived.Test.YtmldbeipmappnaaZUnMB
import Derived.Test.YtmldbeipmappnaaZSpE
import Derived.Test.YtmldbeipmappnaaZUnit
set_option linter.unusedVariables false
set_option linter.unusedSimpArgs false
namespace Go.Proofs.Ytmldbeipmappnaa
open Go.RowKit Alm Sx
theorem aB {X:Cx} {v:Nat->Int} {ext:Ext} (he:gJ X ext) {l:List Nd} (hs:aA X v l.reverse) {ps:List (Nat × Rf)} (hp:∀ q∈ps,v q.1=q.2.val v) {k j:Nat} (h:Rf.eq ((norm ext ps [] l).rep (.n k)) ((norm ext ps [] l).rep (.n j))=true):v k=v j:=by
 have a:=jD (jy he hs hp az) (.n k);have b:=jD (jy he hs hp az) (.n j);rw [Rf.eq_eq h] at a;exact a.symm.trans b
theorem bb2 {p q:Prop} [Decidable p] [Decidable q]:(if b2i (decide p)≠0 then b2i (decide q) else 0)=b2i (decide (p/\q)):=by
 by_cases h1:p<;>by_cases h2:q<;>simp [b2i,h1,h2]
def acH (a b c d e f:Int):Prop:=(-5400000<=a/\a<=b/\b<=5400000)/\(-5400000<=c/\c<=d/\d<=5400000)/\(-1099511627776<=e/\e<=f/\f<=1099511627776)
instance (a b c d e f:Int):Decidable (acH a b c d e f):=by unfold acH;infer_instance
theorem uo (x y z:Int):[x,y,z].getD 0 0=x/\[x,y,z].getD 1 0=y/\[x,y,z].getD 2 0=z:=⟨rfl,rfl,rfl⟩
