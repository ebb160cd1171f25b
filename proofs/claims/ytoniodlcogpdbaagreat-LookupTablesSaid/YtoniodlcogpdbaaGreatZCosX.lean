/- More known functions of both sides; the example of layer 25. -/
import Derived.Test.YtoniodlcogpdbaaGreatZCosXP
import Derived.Test.YtoniodlcogpdbaaGreatZCos
import Derived.Test.YtoniodlcogpdbaaGreatZQo
set_option linter.unusedVariables false
set_option linter.unusedSimpArgs false
namespace Go.Proofs.YtoniodlcogpdbaaGreat
open Go.RowKit Alm Sx
def aaJ:Sx.Spec:=⟨52,12,[(true,[some .i64,some .i64]),(true,[some .i64,some .i64]),(false,[some .i64])],[(false,[some .i64]),(false,[some .i64]),(false,[some .i64])]⟩
def adH:Sx.Spec:=⟨25,50,[(true,[some .i64,some .i64,some .i64,some .i64,some .i64,some .i64])],[(true,[some .i64,some .i64])]⟩
def rAz:Sx.Spec:=⟨26,51,[(true,[some .i64,some .i64,some .i64,some .i64,some .i64,some .i64])],[(true,[some .i64,some .i64])]⟩
