/-
  No cell of these rows narrows 'for every input' (looked for: loops, veiled, ifaces, maps, wideKeys, modest, calm, conditions, laid).
  DERIVED. THE GIVEN ROWS OF THIS SEAT. 4 by the template 'for every input the law returns true; each argument reads behind the call as it read before'; 0 by the template 'total and deterministic' (their statements: YtgmncdmcdgkodaaGreatTotals.lean).
  GIVEN WITH THE SEED: the statements are not yours to turn. If you find one false, say at which input.
  Laid BY PROGRAM, IN A SANDBOX (cutbox-rows.mjs): the forced cells as the released guide's own fill.sh prints them over the translation 8bb0ccc95153eee2… (all of the seat's roots in one cut). By AI agents, Wed Nov 11 2026. No macro, syntax, notation, axiom, sorry.
-/
import Derived.Test.YtgmncdmcdgkodaaGreatChecked
import GoSem.Claim
import GoSem.ClaimJoined
import GoSem.ClaimMapViews
import Derived.JoinedTies
import Derived.KernelRfl
namespace Go.Proofs.YtgmncdmcdgkodaaGreat
/- THE CELL 'sum', in the pinned program and in every row, IS THE sha256 OF THE DUMP (.gsa) THAT YtgmncdmcdgkodaaGreatProg.lean LOADS. Nothing in Lean hashes anything: it is a label: what it is worth is what the hold of that sum in a sandbox is worth. -/
noncomputable def Tryz.pinned : Pinned := { name := "ytgmncdmcdgkodaagreat", sum := "8bb0ccc95153eee23900774987ac2fb3d35868606062bb8771b2d4274d453cdf", checked := Tryz.checked }
namespace Rows
def none {H : Type} : Left H := { results := [], args := [] }

/-- 'almucantarlaw46.ReckoningLater': WHATEVER THE INPUT: true; the input reads as it did. -/
def reckoningLaterSpec : ChangeSpec := { name := "reckoningLater", fn := fun _ => fun
  | [d1, d2, d3, d4, d5] => { results := [.lit (.bool true)], args := [d1, d2, d3, d4, d5] }
  | _ => none }
def reckoningLaterRow : OpenClaim := { program := "ytgmncdmcdgkodaagreat", sum := "8bb0ccc95153eee23900774987ac2fb3d35868606062bb8771b2d4274d453cdf", func := "almucantar/almucantarlaw46.ReckoningLater", spec := "reckoningLater", inPlace := ["math/bits.Add64", "math/bits.Sub64"], unfollowed := true, recurses := true, named := ["math/bits.divideError", "math/bits.overflowError"], apart := false }
def ReckoningLaterSaid : Prop := reckoningLaterRow.holds Tryz.pinned (OpenSpec.ofChange reckoningLaterSpec)

/-- ITS FALSE NEIGHBOUR: 'it returns false'. Refute it at one input. -/
def reckoningLaterWrong : ChangeSpec := { name := "reckoningLater", fn := fun _ => fun
  | [d1, d2, d3, d4, d5] => { results := [.lit (.bool false)], args := [d1, d2, d3, d4, d5] }
  | _ => none }
def ReckoningLaterWrongFalsely : Prop := reckoningLaterRow.holds Tryz.pinned (OpenSpec.ofChange reckoningLaterWrong)

/-- 'almucantarlaw46.ReckoningOrder': WHATEVER THE INPUT: true; the input reads as it did. -/
def reckoningOrderSpec : ChangeSpec := { name := "reckoningOrder", fn := fun _ => fun
  | [d1, d2, d3] => { results := [.lit (.bool true)], args := [d1, d2, d3] }
  | _ => none }
def reckoningOrderRow : OpenClaim := { program := "ytgmncdmcdgkodaagreat", sum := "8bb0ccc95153eee23900774987ac2fb3d35868606062bb8771b2d4274d453cdf", func := "almucantar/almucantarlaw46.ReckoningOrder", spec := "reckoningOrder", inPlace := ["math/bits.Add64", "math/bits.Sub64"], unfollowed := true, recurses := true, named := ["math/bits.divideError", "math/bits.overflowError"], apart := false }
def ReckoningOrderSaid : Prop := reckoningOrderRow.holds Tryz.pinned (OpenSpec.ofChange reckoningOrderSpec)

/-- ITS FALSE NEIGHBOUR: 'it returns false'. Refute it at one input. -/
def reckoningOrderWrong : ChangeSpec := { name := "reckoningOrder", fn := fun _ => fun
  | [d1, d2, d3] => { results := [.lit (.bool false)], args := [d1, d2, d3] }
  | _ => none }
def ReckoningOrderWrongFalsely : Prop := reckoningOrderRow.holds Tryz.pinned (OpenSpec.ofChange reckoningOrderWrong)

/-- 'almucantarlaw46.ReckoningLegs': WHATEVER THE INPUT: true; the input reads as it did. -/
def reckoningLegsSpec : ChangeSpec := { name := "reckoningLegs", fn := fun _ => fun
  | [d1, d2, d3] => { results := [.lit (.bool true)], args := [d1, d2, d3] }
  | _ => none }
def reckoningLegsRow : OpenClaim := { program := "ytgmncdmcdgkodaagreat", sum := "8bb0ccc95153eee23900774987ac2fb3d35868606062bb8771b2d4274d453cdf", func := "almucantar/almucantarlaw46.ReckoningLegs", spec := "reckoningLegs", inPlace := ["math/bits.Add64", "math/bits.Sub64"], unfollowed := true, recurses := true, named := ["math/bits.divideError", "math/bits.overflowError"], apart := false }
def ReckoningLegsSaid : Prop := reckoningLegsRow.holds Tryz.pinned (OpenSpec.ofChange reckoningLegsSpec)

/-- ITS FALSE NEIGHBOUR: 'it returns false'. Refute it at one input. -/
def reckoningLegsWrong : ChangeSpec := { name := "reckoningLegs", fn := fun _ => fun
  | [d1, d2, d3] => { results := [.lit (.bool false)], args := [d1, d2, d3] }
  | _ => none }
def ReckoningLegsWrongFalsely : Prop := reckoningLegsRow.holds Tryz.pinned (OpenSpec.ofChange reckoningLegsWrong)

/-- 'almucantarlaw46.ReckoningTimes': WHATEVER THE INPUT: true; the input reads as it did. -/
def reckoningTimesSpec : ChangeSpec := { name := "reckoningTimes", fn := fun _ => fun
  | [d1, d2, d3] => { results := [.lit (.bool true)], args := [d1, d2, d3] }
  | _ => none }
def reckoningTimesRow : OpenClaim := { program := "ytgmncdmcdgkodaagreat", sum := "8bb0ccc95153eee23900774987ac2fb3d35868606062bb8771b2d4274d453cdf", func := "almucantar/almucantarlaw46.ReckoningTimes", spec := "reckoningTimes", inPlace := ["math/bits.Add64", "math/bits.Sub64"], unfollowed := true, recurses := true, named := ["math/bits.divideError", "math/bits.overflowError"], apart := false }
def ReckoningTimesSaid : Prop := reckoningTimesRow.holds Tryz.pinned (OpenSpec.ofChange reckoningTimesSpec)

/-- ITS FALSE NEIGHBOUR: 'it returns false'. Refute it at one input. -/
def reckoningTimesWrong : ChangeSpec := { name := "reckoningTimes", fn := fun _ => fun
  | [d1, d2, d3] => { results := [.lit (.bool false)], args := [d1, d2, d3] }
  | _ => none }
def ReckoningTimesWrongFalsely : Prop := reckoningTimesRow.holds Tryz.pinned (OpenSpec.ofChange reckoningTimesWrong)

/- THE SECOND FORM. 'bulk': how many values and letters a reading holds, each counted each time it is reached (what is shared counts as often as it is met; a slice's spare places count too). A statement '..UptoSaid' is the law's where the arguments, and the package variables that the reading takes, are together of bulk at most 1048576: NARROWER than '..Said'. Prove '..Said' where nothing that the law and all that it calls make is longer than what came in: it says more and counts as full. Else prove '..UptoSaid'. A law counts once. -/
mutual
def uptoBulk {H : Type} : DataW H → Nat
  | .lit (.string bytes) => bytes.length + 1
  | .lit _ => 1
  | .nil => 1
  | .ptr d => uptoBulk d + 1
  | .slice elems spare => uptoBulkAll elems + uptoBulkAll spare + 1
  | .agg parts => uptoBulkAll parts + 1
  | .iface _ d => uptoBulk d + 1
  | .map entries => uptoBulkEntries entries + 1
  | .held _ => 1
def uptoBulkAll {H : Type} : List (DataW H) → Nat
  | [] => 0
  | d :: r => uptoBulk d + uptoBulkAll r
def uptoBulkEntries {H : Type} : List (Lit × DataW H) → Nat
  | [] => 0
  | x :: r => uptoBulkEntry x + uptoBulkEntries r
def uptoBulkEntry {H : Type} : Lit × DataW H → Nat
  | (.string bytes, d) => bytes.length + uptoBulk d + 1
  | (_, d) => uptoBulk d + 1
 end
def uptoSmall : (H : Type) → List (DataW H) → Bool := fun _ ds => decide (uptoBulkAll ds ≤ 1048576)
def OpenSpec.upto (s : _root_.Go.ChangeSpec) : _root_.Go.OpenSpec := { _root_.Go.OpenSpec.ofChange s with cond := some uptoSmall }

/-- 'almucantarlaw46.ReckoningLater', WHERE WHAT IT READS IS OF BULK AT MOST 1048576: true; the input reads as it did. -/
def reckoningLaterUptoRow : OpenClaim := { program := "ytgmncdmcdgkodaagreat", sum := "8bb0ccc95153eee23900774987ac2fb3d35868606062bb8771b2d4274d453cdf", func := "almucantar/almucantarlaw46.ReckoningLater", spec := "reckoningLater", inPlace := ["math/bits.Add64", "math/bits.Sub64"], unfollowed := true, recurses := true, named := ["math/bits.divideError", "math/bits.overflowError"], apart := false, narrowed := true }
def ReckoningLaterUptoSaid : Prop := reckoningLaterUptoRow.holds Tryz.pinned (OpenSpec.upto reckoningLaterSpec)

/-- 'almucantarlaw46.ReckoningOrder', WHERE WHAT IT READS IS OF BULK AT MOST 1048576: true; the input reads as it did. -/
def reckoningOrderUptoRow : OpenClaim := { program := "ytgmncdmcdgkodaagreat", sum := "8bb0ccc95153eee23900774987ac2fb3d35868606062bb8771b2d4274d453cdf", func := "almucantar/almucantarlaw46.ReckoningOrder", spec := "reckoningOrder", inPlace := ["math/bits.Add64", "math/bits.Sub64"], unfollowed := true, recurses := true, named := ["math/bits.divideError", "math/bits.overflowError"], apart := false, narrowed := true }
def ReckoningOrderUptoSaid : Prop := reckoningOrderUptoRow.holds Tryz.pinned (OpenSpec.upto reckoningOrderSpec)

/-- 'almucantarlaw46.ReckoningLegs', WHERE WHAT IT READS IS OF BULK AT MOST 1048576: true; the input reads as it did. -/
def reckoningLegsUptoRow : OpenClaim := { program := "ytgmncdmcdgkodaagreat", sum := "8bb0ccc95153eee23900774987ac2fb3d35868606062bb8771b2d4274d453cdf", func := "almucantar/almucantarlaw46.ReckoningLegs", spec := "reckoningLegs", inPlace := ["math/bits.Add64", "math/bits.Sub64"], unfollowed := true, recurses := true, named := ["math/bits.divideError", "math/bits.overflowError"], apart := false, narrowed := true }
def ReckoningLegsUptoSaid : Prop := reckoningLegsUptoRow.holds Tryz.pinned (OpenSpec.upto reckoningLegsSpec)

/-- 'almucantarlaw46.ReckoningTimes', WHERE WHAT IT READS IS OF BULK AT MOST 1048576: true; the input reads as it did. -/
def reckoningTimesUptoRow : OpenClaim := { program := "ytgmncdmcdgkodaagreat", sum := "8bb0ccc95153eee23900774987ac2fb3d35868606062bb8771b2d4274d453cdf", func := "almucantar/almucantarlaw46.ReckoningTimes", spec := "reckoningTimes", inPlace := ["math/bits.Add64", "math/bits.Sub64"], unfollowed := true, recurses := true, named := ["math/bits.divideError", "math/bits.overflowError"], apart := false, narrowed := true }
def ReckoningTimesUptoSaid : Prop := reckoningTimesUptoRow.holds Tryz.pinned (OpenSpec.upto reckoningTimesSpec)

end Rows
end Go.Proofs.YtgmncdmcdgkodaaGreat
