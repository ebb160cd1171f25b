/- More known functions of the program: quotients, arccosines, altitudes and azimuths. -/
import Derived.Test.YtdbaccfgkacffaaGreatZCosP
import Derived.Test.YtdbaccfgkacffaaGreatZQoP
import Derived.Test.YtdbaccfgkacffaaGreatZAcos
import Derived.Test.YtdbaccfgkacffaaGreatZEv
import Derived.Test.YtdbaccfgkacffaaGreatZPlus
set_option linter.unusedVariables false
set_option linter.unusedSimpArgs false
namespace Go.Proofs.YtdbaccfgkacffaaGreat
open Go.RowKit Alm Sx
def kF (f:Nat):Bool:=f==12 || f==46 || f==50 || f==51 || f==52
def rO:Nat->List Int->List Int
 | 12,[a,b,c,d,n]=>[(qoV a b c d n).getD 0 0,(qoV a b c d n).getD 1 0,(qoV a b c d n).getD 2 0]
 | 46,[a,b]=>[ad8 b,adG a,0]
 | 50,[a,b,c,d,e,f]=>jD a b c d e f
 | 51,[a,b,c,d,e,f]=>azV a b c d e f
 | 52,[a,b,c,d,e,f]=>[b2i (decide (dI a b c d e f))]
 | _,_=>[]
def adM:Nat->List Int->Prop
 | 12,[a,b,c,d,n]=>qoP a b c d n
 | 46,[a,b]=>fxV a b=true/\a<=1073741824/\-1073741824<=b
 | 50,[a,b,c,d,e,f]=>aY a b=true/\aY c d=true/\aY e f=true
 | 51,[a,b,c,d,e,f]=>aY a b=true/\aY c d=true/\aY e f=true
 | 52,[_,_,_,_,_,_]=>True
 | _,_=>False
def cxF (args:List Int):Cx:=(cxE args).plus kF rO adM
theorem Oq (args:List Int):uk (cxF args):=jY (WH args) fun f h=>by
 unfold kF;rcases h with h|rfl
 . simp;omega
 . rfl
def acU (t:Tab):Nd->Option Rf
 | .app 46 2 [_,_]=>some (.c 0)
 | .app 50 2 [_,_,_,_,_,_]=>some (.c 0)
 | .app 51 2 [_,_,_,_,_,_]=>some (.c 0)
 | .app 20 0 []=>some (.c 1)
 | x=>EY t x
theorem qz (args:List Int):jA (cxF args) acU:=by
 intro v t x r ht h;unfold acU at h;split at h
 . cases h;rfl
 . cases h;exact (jK _ _ _ _ _ _).2.2.symm
 . cases h;exact (iU _ _ _ _ _ _).2.2.symm
 . cases h;rfl
 . exact qH (Oq args) v t x r ht h
def abd:Sx.Spec:=⟨127,12,[(true,[some .i64,some .i64]),(true,[some .i64,some .i64]),(false,[some .i64])],[(false,[some .i64]),(false,[some .i64]),(false,[some .i64])]⟩
def adV:Sx.Spec:=⟨199,50,[(true,[some .i64,some .i64,some .i64,some .i64,some .i64,some .i64])],[(true,[some .i64,some .i64]),(false,[some .i64])]⟩
def sAz:Sx.Spec:=⟨200,51,[(true,[some .i64,some .i64,some .i64,some .i64,some .i64,some .i64])],[(true,[some .i64,some .i64]),(false,[some .i64])]⟩
def adC:Sx.Spec:=⟨43,52,[(true,[some .i64,some .i64,some .i64,some .i64,some .i64,some .i64])],[(false,[none])]⟩
