/- More known functions of both sides; the example of layer 25. -/
import Derived.Test.YtdbaccfgkacffaaGreatZCosXP
import Derived.Test.YtdbaccfgkacffaaGreatZCos
import Derived.Test.YtdbaccfgkacffaaGreatZQo
set_option linter.unusedVariables false
set_option linter.unusedSimpArgs false
namespace Go.Proofs.YtdbaccfgkacffaaGreat
open Go.RowKit Alm Sx
def abI:Sx.Spec:=⟨139,12,[(true,[some .i64,some .i64]),(true,[some .i64,some .i64]),(false,[some .i64])],[(false,[some .i64]),(false,[some .i64]),(false,[some .i64])]⟩
def ac5:Sx.Spec:=⟨212,50,[(true,[some .i64,some .i64,some .i64,some .i64,some .i64,some .i64])],[(true,[some .i64,some .i64])]⟩
def rAz:Sx.Spec:=⟨213,51,[(true,[some .i64,some .i64,some .i64,some .i64,some .i64,some .i64])],[(true,[some .i64,some .i64])]⟩
def adw:Sx.Spec:=⟨12,52,[(true,[some .i64,some .i64,some .i64,some .i64,some .i64,some .i64])],[(false,[none])]⟩
