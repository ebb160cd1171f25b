/- The known functions of great circles: arcsines and arccosines; small lemmas on nodes. -/
import Derived.Test.YtknhbpnclokciaaZSpN
import Derived.Test.YtknhbpnclokciaaZSpC
import Derived.Test.YtknhbpnclokciaaZEv
set_option linter.unusedVariables false
set_option linter.unusedSimpArgs false
namespace Go.Proofs.Ytknhbpnclokciaa
open Go.RowKit Alm Sx
theorem aJ {X:Cx} {v:Nat->Int} {ext:Ext} (he:nZ X ext) {l:List Nd} (hs:ja X v l.reverse) {ps:List (Nat × Rf)} (hp:∀ q∈ps,v q.1=q.2.val v) {k j:Nat} (h:Rf.eq ((norm ext ps [] l).rep (.n k)) ((norm ext ps [] l).rep (.n j))=true):v k=v j:=by
 have a:=xX (Cj he hs hp bf) (.n k);have b:=xX (Cj he hs hp bf) (.n j);rw [Rf.eq_eq h] at a;exact a.symm.trans b
def kA (f:Nat):Bool:=f==36 || f==46
def mR:Nat->List Int->List Int
 | 36,[a,b]=>[if Ch a b=0 then Ru a else 0,if Ch a b=0 then Gu b else 0,Ch a b]
 | 46,[a,b]=>[o9 b,qK a,0]
 | _,_=>[]
def aew:Nat->List Int->Prop
 | 36,[a,b]=>fxV a b=true
 | 46,[a,b]=>fxV a b=true/\a<=1073741824/\-1073741824<=b
 | _,_=>False
def cxA (args:List Int):Cx:=(cxB args).plus kA mR aew
theorem aaW (args:List Int):yI (cxB args):=⟨fun _ _ _=>rfl,fun _ _ _ h=>h⟩
theorem Xx (args:List Int):yI (cxA args):=nG (aaW args) fun f h=>by
 unfold kA;rcases h with h|rfl
 . simp;omega
 . rfl
def Us:Sx.Spec:=⟨42,46,[(true,[some .i64,some .i64])],[(true,[some .i64,some .i64]),(false,[some .i64])]⟩
