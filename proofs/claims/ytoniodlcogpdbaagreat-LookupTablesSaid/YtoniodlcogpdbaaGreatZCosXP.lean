/- More known functions of the program: quotients, arccosines, altitudes and azimuths. -/
import Derived.Test.YtoniodlcogpdbaaGreatZCosP
import Derived.Test.YtoniodlcogpdbaaGreatZQoP
import Derived.Test.YtoniodlcogpdbaaGreatZAcos
import Derived.Test.YtoniodlcogpdbaaGreatZEv
set_option linter.unusedVariables false
set_option linter.unusedSimpArgs false
namespace Go.Proofs.YtoniodlcogpdbaaGreat
open Go.RowKit Alm Sx
def kF (f:Nat):Bool:=f==12 || f==46 || f==50 || f==51 || f==52
def tF:Nat->List Int->List Int
 | 12,[a,b,c,d,n]=>[(qoV a b c d n).getD 0 0,(qoV a b c d n).getD 1 0,(qoV a b c d n).getD 2 0]
 | 46,[a,b]=>[adD b,adn a,0]
 | 50,[a,b,c,d,e,f]=>jy a b c d e f
 | 51,[a,b,c,d,e,f]=>azV a b c d e f
 | 52,[a,b,c,d,e,f]=>[b2i (decide (fB a b c d e f))]
 | _,_=>[]
def adr:Nat->List Int->Prop
 | 12,[a,b,c,d,n]=>qoP a b c d n
 | 46,[a,b]=>fxV a b=true/\a<=1073741824/\-1073741824<=b
 | 50,[a,b,c,d,e,f]=>aQ a b=true/\aQ c d=true/\aQ e f=true
 | 51,[a,b,c,d,e,f]=>aQ a b=true/\aQ c d=true/\aQ e f=true
 | 52,[_,_,_,_,_,_]=>True
 | _,_=>False
def cxF (args:List Int):Cx:=(cxE args).plus kF tF adr
theorem Ww (args:List Int):Cq (cxF args):=ui (WO args) fun f h=>by
 unfold kF;rcases h with h|rfl
 . simp;omega
 . rfl
def acd (t:Tab):Nd->Option Rf
 | .app 46 2 [_,_]=>some (.c 0)
 | .app 50 2 [_,_,_,_,_,_]=>some (.c 0)
 | .app 51 2 [_,_,_,_,_,_]=>some (.c 0)
 | .app 20 0 []=>some (.c 1)
 | x=>Nb t x
theorem pU (args:List Int):jG (cxF args) acd:=by
 intro v t x r ht h;unfold acd at h;split at h
 . cases h;rfl
 . cases h;exact (jD _ _ _ _ _ _).2.2.symm
 . cases h;exact (ng _ _ _ _ _ _).2.2.symm
 . cases h;rfl
 . exact vB (Ww args) v t x r ht h
def abC:Sx.Spec:=⟨48,12,[(true,[some .i64,some .i64]),(true,[some .i64,some .i64]),(false,[some .i64])],[(false,[some .i64]),(false,[some .i64]),(false,[some .i64])]⟩
def adS:Sx.Spec:=⟨94,50,[(true,[some .i64,some .i64,some .i64,some .i64,some .i64,some .i64])],[(true,[some .i64,some .i64]),(false,[some .i64])]⟩
def sAz:Sx.Spec:=⟨95,51,[(true,[some .i64,some .i64,some .i64,some .i64,some .i64,some .i64])],[(true,[some .i64,some .i64]),(false,[some .i64])]⟩
def adN:Sx.Spec:=⟨27,52,[(true,[some .i64,some .i64,some .i64,some .i64,some .i64,some .i64])],[(false,[none])]⟩
