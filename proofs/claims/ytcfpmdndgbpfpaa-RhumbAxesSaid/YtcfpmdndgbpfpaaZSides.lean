/- The reference's quick look at the side of a point. -/
import Derived.Test.YtcfpmdndgbpfpaaZBigs
import Derived.Test.YtcfpmdndgbpfpaaZDirs
import Derived.Test.YtcfpmdndgbpfpaaZRefA
import Derived.Test.YtcfpmdndgbpfpaaZSp
import Derived.Deep.QuietTactic
import Derived.BigQuiet
import Derived.Deep.DeepCutAuto
import Derived.Deep.RegionHeld3
set_option linter.unusedVariables false
set_option linter.unusedSimpArgs false
namespace Alm
def tS (k:Nat):Rat:=if k<=2700000 then zs k else zc (5400000-k)
def tC (k:Nat):Rat:=if k<=2700000 then zc k else zs (5400000-k)
end Alm
namespace Go.Proofs.Ytcfpmdndgbpfpaa
open Go.RowKit Alm Sx
end Go.Proofs.Ytcfpmdndgbpfpaa
namespace Go.Proofs.Ytcfpmdndgbpfpaa
open Go.RowKit Alm
def du (k:Nat):Rat:=1/((BB^k:Nat):Rat)
end Go.Proofs.Ytcfpmdndgbpfpaa
namespace Go.Proofs.Ytcfpmdndgbpfpaa
open Go.RowKit Alm
end Go.Proofs.Ytcfpmdndgbpfpaa
namespace Go.Proofs.Ytcfpmdndgbpfpaa
open Go.RowKit Alm
