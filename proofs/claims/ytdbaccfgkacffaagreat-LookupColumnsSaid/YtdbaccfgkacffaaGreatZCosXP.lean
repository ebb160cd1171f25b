/- More known functions of the program: quotients, arccosines, altitudes and azimuths. -/
import Derived.Test.YtdbaccfgkacffaaGreatZCosP
import Derived.Test.YtdbaccfgkacffaaGreatZQoP
import Derived.Test.YtdbaccfgkacffaaGreatZAcos
import Derived.Test.YtdbaccfgkacffaaGreatZEv
import Derived.Test.YtdbaccfgkacffaaGreatZPlus
set_option linter.unusedVariables false
set_option linter.unusedSimpArgs false
namespace Go.Proofs.YtdbaccfgkacffaaGreat
open Go.RowKit Alm Sx
def kF (f:Nat):Bool:=f==12 || f==46 || f==50 || f==51 || f==52
def FL:Nat->List Int->List Int
 | 12,[a,b,c,d,n]=>[(qoV a b c d n).getD 0 0,(qoV a b c d n).getD 1 0,(qoV a b c d n).getD 2 0]
 | 46,[a,b]=>[adn b,ac6 a,0]
 | 50,[a,b,c,d,e,f]=>jr a b c d e f
 | 51,[a,b,c,d,e,f]=>azV a b c d e f
 | 52,[a,b,c,d,e,f]=>[b2i (decide (gy a b c d e f))]
 | _,_=>[]
def adj:Nat->List Int->Prop
 | 12,[a,b,c,d,n]=>qoP a b c d n
 | 46,[a,b]=>fxV a b=true/\a<=1073741824/\-1073741824<=b
 | 50,[a,b,c,d,e,f]=>bf a b=true/\bf c d=true/\bf e f=true
 | 51,[a,b,c,d,e,f]=>bf a b=true/\bf c d=true/\bf e f=true
 | 52,[_,_,_,_,_,_]=>True
 | _,_=>False
def cxF (args:List Int):Cx:=(cxE args).plus kF FL adj
theorem WP (args:List Int):AA (cxF args):=rT (Ww args) fun f h=>by
 unfold kF;rcases h with h|rfl
 . simp;omega
 . rfl
def aar (t:Tab):Nd->Option Rf
 | .app 46 2 [_,_]=>some (.c 0)
 | .app 50 2 [_,_,_,_,_,_]=>some (.c 0)
 | .app 51 2 [_,_,_,_,_,_]=>some (.c 0)
 | .app 20 0 []=>some (.c 1)
 | x=>Lc t x
theorem pK (args:List Int):jA (cxF args) aar:=by
 intro v t x r ht h;unfold aar at h;split at h
 . cases h;rfl
 . cases h;exact (jD _ _ _ _ _ _).2.2.symm
 . cases h;exact (mr _ _ _ _ _ _).2.2.symm
 . cases h;rfl
 . exact uF (WP args) v t x r ht h
def aau:Sx.Spec:=⟨127,12,[(true,[some .i64,some .i64]),(true,[some .i64,some .i64]),(false,[some .i64])],[(false,[some .i64]),(false,[some .i64]),(false,[some .i64])]⟩
def ac9:Sx.Spec:=⟨199,50,[(true,[some .i64,some .i64,some .i64,some .i64,some .i64,some .i64])],[(true,[some .i64,some .i64]),(false,[some .i64])]⟩
def sAz:Sx.Spec:=⟨200,51,[(true,[some .i64,some .i64,some .i64,some .i64,some .i64,some .i64])],[(true,[some .i64,some .i64]),(false,[some .i64])]⟩
def acV:Sx.Spec:=⟨43,52,[(true,[some .i64,some .i64,some .i64,some .i64,some .i64,some .i64])],[(false,[none])]⟩
