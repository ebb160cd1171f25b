/-
  No cell of these rows narrows 'for every input' (looked for: loops, veiled, ifaces, maps, wideKeys, modest, calm, conditions, laid).
  DERIVED. THE GIVEN ROWS OF THIS SEAT. 7 by the template 'for every input the law returns true; each argument reads behind the call as it read before'; 0 by the template 'total and deterministic' (their statements: YtdbaccfgkacffaaGreatTotals.lean).
  GIVEN WITH THE SEED: the statements are not yours to turn. If you find one false, say at which input.
  Laid BY PROGRAM, IN A SANDBOX (cutbox-rows.mjs): the forced cells as the released guide's own fill.sh prints them over the translation efe11dcbf698f3ce… (all of the seat's roots in one cut). By AI agents, Wed Nov 11 2026. No macro, syntax, notation, axiom, sorry.
-/
import Derived.Test.YtdbaccfgkacffaaGreatChecked
import GoSem.Claim
import GoSem.ClaimJoined
import GoSem.ClaimMapViews
import Derived.JoinedTies
import Derived.KernelRfl
namespace Go.Proofs.YtdbaccfgkacffaaGreat
/- THE CELL 'sum', in the pinned program and in every row, IS THE sha256 OF THE DUMP (.gsa) THAT YtdbaccfgkacffaaGreatProg.lean LOADS. Nothing in Lean hashes anything: it is a label: what it is worth is what the hold of that sum in a sandbox is worth. -/
noncomputable def Tryz.pinned : Pinned := { name := "ytdbaccfgkacffaagreat", sum := "efe11dcbf698f3ce54e1a579449dc9404c4878d047185082ae86b814579ec436", checked := Tryz.checked }
namespace Rows
def none {H : Type} : Left H := { results := [], args := [] }

/-- 'almucantarlaw32.LookupSolves': WHATEVER THE INPUT: true; the input reads as it did. -/
def lookupSolvesSpec : ChangeSpec := { name := "lookupSolves", fn := fun _ => fun
  | [d] => { results := [.lit (.bool true)], args := [d] }
  | _ => none }
def lookupSolvesRow : OpenClaim := { program := "ytdbaccfgkacffaagreat", sum := "efe11dcbf698f3ce54e1a579449dc9404c4878d047185082ae86b814579ec436", func := "almucantar/almucantarlaw32.LookupSolves", spec := "lookupSolves", inPlace := ["math/bits.Add64", "math/bits.Sub64"], recurses := true, named := ["math/bits.divideError", "math/bits.overflowError"], apart := false }
def LookupSolvesSaid : Prop := lookupSolvesRow.holds Tryz.pinned (OpenSpec.ofChange lookupSolvesSpec)

/-- ITS FALSE NEIGHBOUR: 'it returns false'. Refute it at one input. -/
def lookupSolvesWrong : ChangeSpec := { name := "lookupSolves", fn := fun _ => fun
  | [d] => { results := [.lit (.bool false)], args := [d] }
  | _ => none }
def LookupSolvesWrongFalsely : Prop := lookupSolvesRow.holds Tryz.pinned (OpenSpec.ofChange lookupSolvesWrong)

/-- 'almucantarlaw32.LookupMirrors': WHATEVER THE INPUT: true; the input reads as it did. -/
def lookupMirrorsSpec : ChangeSpec := { name := "lookupMirrors", fn := fun _ => fun
  | [d] => { results := [.lit (.bool true)], args := [d] }
  | _ => none }
def lookupMirrorsRow : OpenClaim := { program := "ytdbaccfgkacffaagreat", sum := "efe11dcbf698f3ce54e1a579449dc9404c4878d047185082ae86b814579ec436", func := "almucantar/almucantarlaw32.LookupMirrors", spec := "lookupMirrors", inPlace := ["math/bits.Add64", "math/bits.Sub64"], recurses := true, named := ["math/bits.divideError", "math/bits.overflowError"], apart := false }
def LookupMirrorsSaid : Prop := lookupMirrorsRow.holds Tryz.pinned (OpenSpec.ofChange lookupMirrorsSpec)

/-- ITS FALSE NEIGHBOUR: 'it returns false'. Refute it at one input. -/
def lookupMirrorsWrong : ChangeSpec := { name := "lookupMirrors", fn := fun _ => fun
  | [d] => { results := [.lit (.bool false)], args := [d] }
  | _ => none }
def LookupMirrorsWrongFalsely : Prop := lookupMirrorsRow.holds Tryz.pinned (OpenSpec.ofChange lookupMirrorsWrong)

/-- 'almucantarlaw42.GreatcircleWays': WHATEVER THE INPUT: true; the input reads as it did. -/
def greatcircleWaysSpec : ChangeSpec := { name := "greatcircleWays", fn := fun _ => fun
  | [d1, d2, d3] => { results := [.lit (.bool true)], args := [d1, d2, d3] }
  | _ => none }
def greatcircleWaysRow : OpenClaim := { program := "ytdbaccfgkacffaagreat", sum := "efe11dcbf698f3ce54e1a579449dc9404c4878d047185082ae86b814579ec436", func := "almucantar/almucantarlaw42.GreatcircleWays", spec := "greatcircleWays", inPlace := ["math/bits.Add64", "math/bits.Sub64"], recurses := true, named := ["math/bits.divideError", "math/bits.overflowError"], apart := false }
def GreatcircleWaysSaid : Prop := greatcircleWaysRow.holds Tryz.pinned (OpenSpec.ofChange greatcircleWaysSpec)

/-- ITS FALSE NEIGHBOUR: 'it returns false'. Refute it at one input. -/
def greatcircleWaysWrong : ChangeSpec := { name := "greatcircleWays", fn := fun _ => fun
  | [d1, d2, d3] => { results := [.lit (.bool false)], args := [d1, d2, d3] }
  | _ => none }
def GreatcircleWaysWrongFalsely : Prop := greatcircleWaysRow.holds Tryz.pinned (OpenSpec.ofChange greatcircleWaysWrong)

/-- 'almucantarlaw45.CurrentParts': WHATEVER THE INPUT: true; the input reads as it did. -/
def currentPartsSpec : ChangeSpec := { name := "currentParts", fn := fun _ => fun
  | [d1, d2] => { results := [.lit (.bool true)], args := [d1, d2] }
  | _ => none }
def currentPartsRow : OpenClaim := { program := "ytdbaccfgkacffaagreat", sum := "efe11dcbf698f3ce54e1a579449dc9404c4878d047185082ae86b814579ec436", func := "almucantar/almucantarlaw45.CurrentParts", spec := "currentParts", inPlace := ["math/bits.Add64", "math/bits.Sub64"], unfollowed := true, recurses := true, named := ["math/bits.divideError", "math/bits.overflowError"], apart := false }
def CurrentPartsSaid : Prop := currentPartsRow.holds Tryz.pinned (OpenSpec.ofChange currentPartsSpec)

/-- ITS FALSE NEIGHBOUR: 'it returns false'. Refute it at one input. -/
def currentPartsWrong : ChangeSpec := { name := "currentParts", fn := fun _ => fun
  | [d1, d2] => { results := [.lit (.bool false)], args := [d1, d2] }
  | _ => none }
def CurrentPartsWrongFalsely : Prop := currentPartsRow.holds Tryz.pinned (OpenSpec.ofChange currentPartsWrong)

/-- 'almucantarlaw46.ReckoningLegs': WHATEVER THE INPUT: true; the input reads as it did. -/
def reckoningLegsSpec : ChangeSpec := { name := "reckoningLegs", fn := fun _ => fun
  | [d1, d2, d3] => { results := [.lit (.bool true)], args := [d1, d2, d3] }
  | _ => none }
def reckoningLegsRow : OpenClaim := { program := "ytdbaccfgkacffaagreat", sum := "efe11dcbf698f3ce54e1a579449dc9404c4878d047185082ae86b814579ec436", func := "almucantar/almucantarlaw46.ReckoningLegs", spec := "reckoningLegs", inPlace := ["math/bits.Add64", "math/bits.Sub64"], unfollowed := true, recurses := true, named := ["math/bits.divideError", "math/bits.overflowError"], apart := false }
def ReckoningLegsSaid : Prop := reckoningLegsRow.holds Tryz.pinned (OpenSpec.ofChange reckoningLegsSpec)

/-- ITS FALSE NEIGHBOUR: 'it returns false'. Refute it at one input. -/
def reckoningLegsWrong : ChangeSpec := { name := "reckoningLegs", fn := fun _ => fun
  | [d1, d2, d3] => { results := [.lit (.bool false)], args := [d1, d2, d3] }
  | _ => none }
def ReckoningLegsWrongFalsely : Prop := reckoningLegsRow.holds Tryz.pinned (OpenSpec.ofChange reckoningLegsWrong)

/-- 'almucantarlaw46.ReckoningTimes': WHATEVER THE INPUT: true; the input reads as it did. -/
def reckoningTimesSpec : ChangeSpec := { name := "reckoningTimes", fn := fun _ => fun
  | [d1, d2, d3] => { results := [.lit (.bool true)], args := [d1, d2, d3] }
  | _ => none }
def reckoningTimesRow : OpenClaim := { program := "ytdbaccfgkacffaagreat", sum := "efe11dcbf698f3ce54e1a579449dc9404c4878d047185082ae86b814579ec436", func := "almucantar/almucantarlaw46.ReckoningTimes", spec := "reckoningTimes", inPlace := ["math/bits.Add64", "math/bits.Sub64"], unfollowed := true, recurses := true, named := ["math/bits.divideError", "math/bits.overflowError"], apart := false }
def ReckoningTimesSaid : Prop := reckoningTimesRow.holds Tryz.pinned (OpenSpec.ofChange reckoningTimesSpec)

/-- ITS FALSE NEIGHBOUR: 'it returns false'. Refute it at one input. -/
def reckoningTimesWrong : ChangeSpec := { name := "reckoningTimes", fn := fun _ => fun
  | [d1, d2, d3] => { results := [.lit (.bool false)], args := [d1, d2, d3] }
  | _ => none }
def ReckoningTimesWrongFalsely : Prop := reckoningTimesRow.holds Tryz.pinned (OpenSpec.ofChange reckoningTimesWrong)

/-- 'almucantarlaw32.LookupColumns': WHATEVER THE INPUT: true; the input reads as it did. -/
def lookupColumnsSpec : ChangeSpec := { name := "lookupColumns", fn := fun _ => fun
  | [d1, d2, d3, d4] => { results := [.lit (.bool true)], args := [d1, d2, d3, d4] }
  | _ => none }
def lookupColumnsRow : OpenClaim := { program := "ytdbaccfgkacffaagreat", sum := "efe11dcbf698f3ce54e1a579449dc9404c4878d047185082ae86b814579ec436", func := "almucantar/almucantarlaw32.LookupColumns", spec := "lookupColumns", inPlace := ["math/bits.Add64", "math/bits.Sub64"], unfollowed := true, recurses := true, named := ["math/bits.divideError", "math/bits.overflowError"], apart := false }
def LookupColumnsSaid : Prop := lookupColumnsRow.holds Tryz.pinned (OpenSpec.ofChange lookupColumnsSpec)

/-- ITS FALSE NEIGHBOUR: 'it returns false'. Refute it at one input. -/
def lookupColumnsWrong : ChangeSpec := { name := "lookupColumns", fn := fun _ => fun
  | [d1, d2, d3, d4] => { results := [.lit (.bool false)], args := [d1, d2, d3, d4] }
  | _ => none }
def LookupColumnsWrongFalsely : Prop := lookupColumnsRow.holds Tryz.pinned (OpenSpec.ofChange lookupColumnsWrong)

/- THE SECOND FORM. 'bulk': how many values and letters a reading holds, each counted each time it is reached (what is shared counts as often as it is met; a slice's spare places count too). A statement '..UptoSaid' is the law's where the arguments, and the package variables that the reading takes, are together of bulk at most 1048576: NARROWER than '..Said'. Prove '..Said' where nothing that the law and all that it calls make is longer than what came in: it says more and counts as full. Else prove '..UptoSaid'. A law counts once. -/
mutual
def uptoBulk {H : Type} : DataW H → Nat
  | .lit (.string bytes) => bytes.length + 1
  | .lit _ => 1
  | .nil => 1
  | .ptr d => uptoBulk d + 1
  | .slice elems spare => uptoBulkAll elems + uptoBulkAll spare + 1
  | .agg parts => uptoBulkAll parts + 1
  | .iface _ d => uptoBulk d + 1
  | .map entries => uptoBulkEntries entries + 1
  | .held _ => 1
def uptoBulkAll {H : Type} : List (DataW H) → Nat
  | [] => 0
  | d :: r => uptoBulk d + uptoBulkAll r
def uptoBulkEntries {H : Type} : List (Lit × DataW H) → Nat
  | [] => 0
  | x :: r => uptoBulkEntry x + uptoBulkEntries r
def uptoBulkEntry {H : Type} : Lit × DataW H → Nat
  | (.string bytes, d) => bytes.length + uptoBulk d + 1
  | (_, d) => uptoBulk d + 1
 end
def uptoSmall : (H : Type) → List (DataW H) → Bool := fun _ ds => decide (uptoBulkAll ds ≤ 1048576)
def OpenSpec.upto (s : _root_.Go.ChangeSpec) : _root_.Go.OpenSpec := { _root_.Go.OpenSpec.ofChange s with cond := some uptoSmall }

/-- 'almucantarlaw32.LookupSolves', WHERE WHAT IT READS IS OF BULK AT MOST 1048576: true; the input reads as it did. -/
def lookupSolvesUptoRow : OpenClaim := { program := "ytdbaccfgkacffaagreat", sum := "efe11dcbf698f3ce54e1a579449dc9404c4878d047185082ae86b814579ec436", func := "almucantar/almucantarlaw32.LookupSolves", spec := "lookupSolves", inPlace := ["math/bits.Add64", "math/bits.Sub64"], recurses := true, named := ["math/bits.divideError", "math/bits.overflowError"], apart := false, narrowed := true }
def LookupSolvesUptoSaid : Prop := lookupSolvesUptoRow.holds Tryz.pinned (OpenSpec.upto lookupSolvesSpec)

/-- 'almucantarlaw32.LookupMirrors', WHERE WHAT IT READS IS OF BULK AT MOST 1048576: true; the input reads as it did. -/
def lookupMirrorsUptoRow : OpenClaim := { program := "ytdbaccfgkacffaagreat", sum := "efe11dcbf698f3ce54e1a579449dc9404c4878d047185082ae86b814579ec436", func := "almucantar/almucantarlaw32.LookupMirrors", spec := "lookupMirrors", inPlace := ["math/bits.Add64", "math/bits.Sub64"], recurses := true, named := ["math/bits.divideError", "math/bits.overflowError"], apart := false, narrowed := true }
def LookupMirrorsUptoSaid : Prop := lookupMirrorsUptoRow.holds Tryz.pinned (OpenSpec.upto lookupMirrorsSpec)

/-- 'almucantarlaw42.GreatcircleWays', WHERE WHAT IT READS IS OF BULK AT MOST 1048576: true; the input reads as it did. -/
def greatcircleWaysUptoRow : OpenClaim := { program := "ytdbaccfgkacffaagreat", sum := "efe11dcbf698f3ce54e1a579449dc9404c4878d047185082ae86b814579ec436", func := "almucantar/almucantarlaw42.GreatcircleWays", spec := "greatcircleWays", inPlace := ["math/bits.Add64", "math/bits.Sub64"], recurses := true, named := ["math/bits.divideError", "math/bits.overflowError"], apart := false, narrowed := true }
def GreatcircleWaysUptoSaid : Prop := greatcircleWaysUptoRow.holds Tryz.pinned (OpenSpec.upto greatcircleWaysSpec)

/-- 'almucantarlaw45.CurrentParts', WHERE WHAT IT READS IS OF BULK AT MOST 1048576: true; the input reads as it did. -/
def currentPartsUptoRow : OpenClaim := { program := "ytdbaccfgkacffaagreat", sum := "efe11dcbf698f3ce54e1a579449dc9404c4878d047185082ae86b814579ec436", func := "almucantar/almucantarlaw45.CurrentParts", spec := "currentParts", inPlace := ["math/bits.Add64", "math/bits.Sub64"], unfollowed := true, recurses := true, named := ["math/bits.divideError", "math/bits.overflowError"], apart := false, narrowed := true }
def CurrentPartsUptoSaid : Prop := currentPartsUptoRow.holds Tryz.pinned (OpenSpec.upto currentPartsSpec)

/-- 'almucantarlaw46.ReckoningLegs', WHERE WHAT IT READS IS OF BULK AT MOST 1048576: true; the input reads as it did. -/
def reckoningLegsUptoRow : OpenClaim := { program := "ytdbaccfgkacffaagreat", sum := "efe11dcbf698f3ce54e1a579449dc9404c4878d047185082ae86b814579ec436", func := "almucantar/almucantarlaw46.ReckoningLegs", spec := "reckoningLegs", inPlace := ["math/bits.Add64", "math/bits.Sub64"], unfollowed := true, recurses := true, named := ["math/bits.divideError", "math/bits.overflowError"], apart := false, narrowed := true }
def ReckoningLegsUptoSaid : Prop := reckoningLegsUptoRow.holds Tryz.pinned (OpenSpec.upto reckoningLegsSpec)

/-- 'almucantarlaw46.ReckoningTimes', WHERE WHAT IT READS IS OF BULK AT MOST 1048576: true; the input reads as it did. -/
def reckoningTimesUptoRow : OpenClaim := { program := "ytdbaccfgkacffaagreat", sum := "efe11dcbf698f3ce54e1a579449dc9404c4878d047185082ae86b814579ec436", func := "almucantar/almucantarlaw46.ReckoningTimes", spec := "reckoningTimes", inPlace := ["math/bits.Add64", "math/bits.Sub64"], unfollowed := true, recurses := true, named := ["math/bits.divideError", "math/bits.overflowError"], apart := false, narrowed := true }
def ReckoningTimesUptoSaid : Prop := reckoningTimesUptoRow.holds Tryz.pinned (OpenSpec.upto reckoningTimesSpec)

/-- 'almucantarlaw32.LookupColumns', WHERE WHAT IT READS IS OF BULK AT MOST 1048576: true; the input reads as it did. -/
def lookupColumnsUptoRow : OpenClaim := { program := "ytdbaccfgkacffaagreat", sum := "efe11dcbf698f3ce54e1a579449dc9404c4878d047185082ae86b814579ec436", func := "almucantar/almucantarlaw32.LookupColumns", spec := "lookupColumns", inPlace := ["math/bits.Add64", "math/bits.Sub64"], unfollowed := true, recurses := true, named := ["math/bits.divideError", "math/bits.overflowError"], apart := false, narrowed := true }
def LookupColumnsUptoSaid : Prop := lookupColumnsUptoRow.holds Tryz.pinned (OpenSpec.upto lookupColumnsSpec)

end Rows
end Go.Proofs.YtdbaccfgkacffaaGreat
