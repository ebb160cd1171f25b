/- The reference's quick look at the side of a point. -/
import Derived.Test.YtbdlccacamalpaaZBigs
import Derived.Test.YtbdlccacamalpaaZDirs
import Derived.Test.YtbdlccacamalpaaZRefA
import Derived.Test.YtbdlccacamalpaaZSp
import Derived.Deep.QuietTactic
import Derived.BigQuiet
import Derived.Deep.DeepCutAuto
import Derived.Deep.RegionHeld3
import Derived.Test.YtbdlccacamalpaaZKp
import Derived.Deep.Light
import Derived.Test.YtbdlccacamalpaaZTrigs
import Derived.Test.YtbdlccacamalpaaZVecs
import Derived.Test.YtbdlccacamalpaaZSxL
import Derived.IntWalk
set_option linter.unusedVariables false
set_option linter.unusedSimpArgs false
namespace Alm
def tS (k:Nat):Rat:=if k<=2700000 then zs k else zc (5400000-k)
def tC (k:Nat):Rat:=if k<=2700000 then zc k else zs (5400000-k)
end Alm
namespace Go.Proofs.Ytbdlccacamalpaa
open Go.RowKit Alm Sx
theorem iQ (x:Nat) (s A B:Int) (hx:(x:Int)<=A) (hs:0<=s/\s<=B):0<=(x:Int)*s/\(x:Int)*s<=A*B:=by
 have h1:=Int.mul_le_mul_of_nonneg_right hx hs.1;have h2:=Int.mul_le_mul_of_nonneg_left hs.2 (show 0<=A by omega)
 exact ⟨Int.mul_nonneg (by omega) hs.1,by omega⟩
end Go.Proofs.Ytbdlccacamalpaa
namespace Go.Proofs.Ytbdlccacamalpaa
open Go.RowKit Alm
end Go.Proofs.Ytbdlccacamalpaa
namespace Go.Proofs.Ytbdlccacamalpaa
open Go.RowKit Alm
end Go.Proofs.Ytbdlccacamalpaa
namespace Go.Proofs.Ytbdlccacamalpaa
open Go.RowKit Alm
end Go.Proofs.Ytbdlccacamalpaa
namespace Alm
def roX (n:Int):Int:=n*3373259426/10800000
end Alm
namespace Go.Proofs.Ytbdlccacamalpaa
open Go.RowKit Alm
end Go.Proofs.Ytbdlccacamalpaa
namespace Alm
end Alm
namespace Go.Proofs.Ytbdlccacamalpaa
open Go.RowKit Alm
end Go.Proofs.Ytbdlccacamalpaa
namespace Go.Proofs.Ytbdlccacamalpaa
open Go.RowKit Alm
end Go.Proofs.Ytbdlccacamalpaa
namespace Go.Proofs.Ytbdlccacamalpaa
open Go.RowKit Alm
end Go.Proofs.Ytbdlccacamalpaa
namespace Alm
end Alm
namespace Go.Proofs.Ytbdlccacamalpaa
open Go.RowKit Alm
end Go.Proofs.Ytbdlccacamalpaa
namespace Go.Proofs.Ytbdlccacamalpaa
open Go.RowKit Alm Sx
end Go.Proofs.Ytbdlccacamalpaa
namespace Go.Proofs.Ytbdlccacamalpaa
open Go.RowKit Alm Sx
end Go.Proofs.Ytbdlccacamalpaa
namespace Go.Proofs.Ytbdlccacamalpaa
open Go.RowKit Alm Sx
