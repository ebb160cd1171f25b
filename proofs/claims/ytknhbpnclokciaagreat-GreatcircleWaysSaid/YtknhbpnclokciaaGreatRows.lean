/-
  No cell of these rows narrows 'for every input' (looked for: loops, veiled, ifaces, maps, wideKeys, modest, calm, conditions, laid).
  DERIVED. THE GIVEN ROWS OF THIS SEAT. 10 by the template 'for every input the law returns true; each argument reads behind the call as it read before'; 0 by the template 'total and deterministic' (their statements: YtknhbpnclokciaaGreatTotals.lean).
  GIVEN WITH THE SEED: the statements are not yours to turn. If you find one false, say at which input.
  Laid BY PROGRAM, IN A SANDBOX (cutbox-rows.mjs): the forced cells as the released guide's own fill.sh prints them over the translation 1b03581f6340d563… (all of the seat's roots in one cut). By AI agents, Wed Nov 11 2026. No macro, syntax, notation, axiom, sorry.
-/
import Derived.Test.YtknhbpnclokciaaGreatChecked
import GoSem.Claim
import GoSem.ClaimJoined
import GoSem.ClaimMapViews
import Derived.JoinedTies
import Derived.KernelRfl
namespace Go.Proofs.YtknhbpnclokciaaGreat
/- THE CELL 'sum', in the pinned program and in every row, IS THE sha256 OF THE DUMP (.gsa) THAT YtknhbpnclokciaaGreatProg.lean LOADS. Nothing in Lean hashes anything: it is a label: what it is worth is what the hold of that sum in a sandbox is worth. -/
noncomputable def Tryz.pinned : Pinned := { name := "ytknhbpnclokciaagreat", sum := "1b03581f6340d563f1d61e5090dd2f4665d60b731fdb2dc003df78a9d03ee2c5", checked := Tryz.checked }
namespace Rows
def none {H : Type} : Left H := { results := [], args := [] }

/-- 'almucantarlaw43.CompositePlans': WHATEVER THE INPUT: true; the input reads as it did. -/
def compositePlansSpec : ChangeSpec := { name := "compositePlans", fn := fun _ => fun
  | [d1, d2, d3] => { results := [.lit (.bool true)], args := [d1, d2, d3] }
  | _ => none }
def compositePlansRow : OpenClaim := { program := "ytknhbpnclokciaagreat", sum := "1b03581f6340d563f1d61e5090dd2f4665d60b731fdb2dc003df78a9d03ee2c5", func := "almucantar/almucantarlaw43.CompositePlans", spec := "compositePlans", inPlace := ["math/bits.Add64", "math/bits.Sub64"], unfollowed := true, recurses := true, named := ["math/bits.divideError", "math/bits.overflowError"], apart := false }
def CompositePlansSaid : Prop := compositePlansRow.holds Tryz.pinned (OpenSpec.ofChange compositePlansSpec)

/-- ITS FALSE NEIGHBOUR: 'it returns false'. Refute it at one input. -/
def compositePlansWrong : ChangeSpec := { name := "compositePlans", fn := fun _ => fun
  | [d1, d2, d3] => { results := [.lit (.bool false)], args := [d1, d2, d3] }
  | _ => none }
def CompositePlansWrongFalsely : Prop := compositePlansRow.holds Tryz.pinned (OpenSpec.ofChange compositePlansWrong)

/-- 'almucantarlaw43.CompositeLegs': WHATEVER THE INPUT: true; the input reads as it did. -/
def compositeLegsSpec : ChangeSpec := { name := "compositeLegs", fn := fun _ => fun
  | [d1, d2] => { results := [.lit (.bool true)], args := [d1, d2] }
  | _ => none }
def compositeLegsRow : OpenClaim := { program := "ytknhbpnclokciaagreat", sum := "1b03581f6340d563f1d61e5090dd2f4665d60b731fdb2dc003df78a9d03ee2c5", func := "almucantar/almucantarlaw43.CompositeLegs", spec := "compositeLegs", inPlace := ["math/bits.Add64", "math/bits.Sub64"], unfollowed := true, recurses := true, named := ["math/bits.divideError", "math/bits.overflowError"], apart := false }
def CompositeLegsSaid : Prop := compositeLegsRow.holds Tryz.pinned (OpenSpec.ofChange compositeLegsSpec)

/-- ITS FALSE NEIGHBOUR: 'it returns false'. Refute it at one input. -/
def compositeLegsWrong : ChangeSpec := { name := "compositeLegs", fn := fun _ => fun
  | [d1, d2] => { results := [.lit (.bool false)], args := [d1, d2] }
  | _ => none }
def CompositeLegsWrongFalsely : Prop := compositeLegsRow.holds Tryz.pinned (OpenSpec.ofChange compositeLegsWrong)

/-- 'almucantarlaw43.CompositeDistances': WHATEVER THE INPUT: true; the input reads as it did. -/
def compositeDistancesSpec : ChangeSpec := { name := "compositeDistances", fn := fun _ => fun
  | [d1, d2, d3] => { results := [.lit (.bool true)], args := [d1, d2, d3] }
  | _ => none }
def compositeDistancesRow : OpenClaim := { program := "ytknhbpnclokciaagreat", sum := "1b03581f6340d563f1d61e5090dd2f4665d60b731fdb2dc003df78a9d03ee2c5", func := "almucantar/almucantarlaw43.CompositeDistances", spec := "compositeDistances", inPlace := ["math/bits.Add64", "math/bits.Sub64"], unfollowed := true, recurses := true, named := ["math/bits.divideError", "math/bits.overflowError"], apart := false }
def CompositeDistancesSaid : Prop := compositeDistancesRow.holds Tryz.pinned (OpenSpec.ofChange compositeDistancesSpec)

/-- ITS FALSE NEIGHBOUR: 'it returns false'. Refute it at one input. -/
def compositeDistancesWrong : ChangeSpec := { name := "compositeDistances", fn := fun _ => fun
  | [d1, d2, d3] => { results := [.lit (.bool false)], args := [d1, d2, d3] }
  | _ => none }
def CompositeDistancesWrongFalsely : Prop := compositeDistancesRow.holds Tryz.pinned (OpenSpec.ofChange compositeDistancesWrong)

/-- 'almucantarlaw43.CompositeSums': WHATEVER THE INPUT: true; the input reads as it did. -/
def compositeSumsSpec : ChangeSpec := { name := "compositeSums", fn := fun _ => fun
  | [d1, d2, d3] => { results := [.lit (.bool true)], args := [d1, d2, d3] }
  | _ => none }
def compositeSumsRow : OpenClaim := { program := "ytknhbpnclokciaagreat", sum := "1b03581f6340d563f1d61e5090dd2f4665d60b731fdb2dc003df78a9d03ee2c5", func := "almucantar/almucantarlaw43.CompositeSums", spec := "compositeSums", inPlace := ["math/bits.Add64", "math/bits.Sub64"], unfollowed := true, recurses := true, named := ["math/bits.divideError", "math/bits.overflowError"], apart := false }
def CompositeSumsSaid : Prop := compositeSumsRow.holds Tryz.pinned (OpenSpec.ofChange compositeSumsSpec)

/-- ITS FALSE NEIGHBOUR: 'it returns false'. Refute it at one input. -/
def compositeSumsWrong : ChangeSpec := { name := "compositeSums", fn := fun _ => fun
  | [d1, d2, d3] => { results := [.lit (.bool false)], args := [d1, d2, d3] }
  | _ => none }
def CompositeSumsWrongFalsely : Prop := compositeSumsRow.holds Tryz.pinned (OpenSpec.ofChange compositeSumsWrong)

/-- 'almucantarlaw32.LookupSolves': WHATEVER THE INPUT: true; the input reads as it did. -/
def lookupSolvesSpec : ChangeSpec := { name := "lookupSolves", fn := fun _ => fun
  | [d] => { results := [.lit (.bool true)], args := [d] }
  | _ => none }
def lookupSolvesRow : OpenClaim := { program := "ytknhbpnclokciaagreat", sum := "1b03581f6340d563f1d61e5090dd2f4665d60b731fdb2dc003df78a9d03ee2c5", func := "almucantar/almucantarlaw32.LookupSolves", spec := "lookupSolves", inPlace := ["math/bits.Add64", "math/bits.Sub64"], recurses := true, named := ["math/bits.divideError", "math/bits.overflowError"], apart := false }
def LookupSolvesSaid : Prop := lookupSolvesRow.holds Tryz.pinned (OpenSpec.ofChange lookupSolvesSpec)

/-- ITS FALSE NEIGHBOUR: 'it returns false'. Refute it at one input. -/
def lookupSolvesWrong : ChangeSpec := { name := "lookupSolves", fn := fun _ => fun
  | [d] => { results := [.lit (.bool false)], args := [d] }
  | _ => none }
def LookupSolvesWrongFalsely : Prop := lookupSolvesRow.holds Tryz.pinned (OpenSpec.ofChange lookupSolvesWrong)

/-- 'almucantarlaw44.MidlatitudeLegs': WHATEVER THE INPUT: true; the input reads as it did. -/
def midlatitudeLegsSpec : ChangeSpec := { name := "midlatitudeLegs", fn := fun _ => fun
  | [d1, d2, d3] => { results := [.lit (.bool true)], args := [d1, d2, d3] }
  | _ => none }
def midlatitudeLegsRow : OpenClaim := { program := "ytknhbpnclokciaagreat", sum := "1b03581f6340d563f1d61e5090dd2f4665d60b731fdb2dc003df78a9d03ee2c5", func := "almucantar/almucantarlaw44.MidlatitudeLegs", spec := "midlatitudeLegs", inPlace := ["math/bits.Add64", "math/bits.Sub64"], unfollowed := true, recurses := true, named := ["math/bits.divideError", "math/bits.overflowError"], apart := false }
def MidlatitudeLegsSaid : Prop := midlatitudeLegsRow.holds Tryz.pinned (OpenSpec.ofChange midlatitudeLegsSpec)

/-- ITS FALSE NEIGHBOUR: 'it returns false'. Refute it at one input. -/
def midlatitudeLegsWrong : ChangeSpec := { name := "midlatitudeLegs", fn := fun _ => fun
  | [d1, d2, d3] => { results := [.lit (.bool false)], args := [d1, d2, d3] }
  | _ => none }
def MidlatitudeLegsWrongFalsely : Prop := midlatitudeLegsRow.holds Tryz.pinned (OpenSpec.ofChange midlatitudeLegsWrong)

/-- 'almucantarlaw42.GreatcircleWays': WHATEVER THE INPUT: true; the input reads as it did. -/
def greatcircleWaysSpec : ChangeSpec := { name := "greatcircleWays", fn := fun _ => fun
  | [d1, d2, d3] => { results := [.lit (.bool true)], args := [d1, d2, d3] }
  | _ => none }
def greatcircleWaysRow : OpenClaim := { program := "ytknhbpnclokciaagreat", sum := "1b03581f6340d563f1d61e5090dd2f4665d60b731fdb2dc003df78a9d03ee2c5", func := "almucantar/almucantarlaw42.GreatcircleWays", spec := "greatcircleWays", inPlace := ["math/bits.Add64", "math/bits.Sub64"], recurses := true, named := ["math/bits.divideError", "math/bits.overflowError"], apart := false }
def GreatcircleWaysSaid : Prop := greatcircleWaysRow.holds Tryz.pinned (OpenSpec.ofChange greatcircleWaysSpec)

/-- ITS FALSE NEIGHBOUR: 'it returns false'. Refute it at one input. -/
def greatcircleWaysWrong : ChangeSpec := { name := "greatcircleWays", fn := fun _ => fun
  | [d1, d2, d3] => { results := [.lit (.bool false)], args := [d1, d2, d3] }
  | _ => none }
def GreatcircleWaysWrongFalsely : Prop := greatcircleWaysRow.holds Tryz.pinned (OpenSpec.ofChange greatcircleWaysWrong)

/-- 'almucantarlaw32.LookupMirrors': WHATEVER THE INPUT: true; the input reads as it did. -/
def lookupMirrorsSpec : ChangeSpec := { name := "lookupMirrors", fn := fun _ => fun
  | [d] => { results := [.lit (.bool true)], args := [d] }
  | _ => none }
def lookupMirrorsRow : OpenClaim := { program := "ytknhbpnclokciaagreat", sum := "1b03581f6340d563f1d61e5090dd2f4665d60b731fdb2dc003df78a9d03ee2c5", func := "almucantar/almucantarlaw32.LookupMirrors", spec := "lookupMirrors", inPlace := ["math/bits.Add64", "math/bits.Sub64"], recurses := true, named := ["math/bits.divideError", "math/bits.overflowError"], apart := false }
def LookupMirrorsSaid : Prop := lookupMirrorsRow.holds Tryz.pinned (OpenSpec.ofChange lookupMirrorsSpec)

/-- ITS FALSE NEIGHBOUR: 'it returns false'. Refute it at one input. -/
def lookupMirrorsWrong : ChangeSpec := { name := "lookupMirrors", fn := fun _ => fun
  | [d] => { results := [.lit (.bool false)], args := [d] }
  | _ => none }
def LookupMirrorsWrongFalsely : Prop := lookupMirrorsRow.holds Tryz.pinned (OpenSpec.ofChange lookupMirrorsWrong)

/-- 'almucantarlaw45.CurrentParts': WHATEVER THE INPUT: true; the input reads as it did. -/
def currentPartsSpec : ChangeSpec := { name := "currentParts", fn := fun _ => fun
  | [d1, d2] => { results := [.lit (.bool true)], args := [d1, d2] }
  | _ => none }
def currentPartsRow : OpenClaim := { program := "ytknhbpnclokciaagreat", sum := "1b03581f6340d563f1d61e5090dd2f4665d60b731fdb2dc003df78a9d03ee2c5", func := "almucantar/almucantarlaw45.CurrentParts", spec := "currentParts", inPlace := ["math/bits.Add64", "math/bits.Sub64"], unfollowed := true, recurses := true, named := ["math/bits.divideError", "math/bits.overflowError"], apart := false }
def CurrentPartsSaid : Prop := currentPartsRow.holds Tryz.pinned (OpenSpec.ofChange currentPartsSpec)

/-- ITS FALSE NEIGHBOUR: 'it returns false'. Refute it at one input. -/
def currentPartsWrong : ChangeSpec := { name := "currentParts", fn := fun _ => fun
  | [d1, d2] => { results := [.lit (.bool false)], args := [d1, d2] }
  | _ => none }
def CurrentPartsWrongFalsely : Prop := currentPartsRow.holds Tryz.pinned (OpenSpec.ofChange currentPartsWrong)

/-- 'almucantarlaw24.VectorsAngles': WHATEVER THE INPUT: true; the input reads as it did. -/
def vectorsAnglesSpec : ChangeSpec := { name := "vectorsAngles", fn := fun _ => fun
  | [d1, d2] => { results := [.lit (.bool true)], args := [d1, d2] }
  | _ => none }
def vectorsAnglesRow : OpenClaim := { program := "ytknhbpnclokciaagreat", sum := "1b03581f6340d563f1d61e5090dd2f4665d60b731fdb2dc003df78a9d03ee2c5", func := "almucantar/almucantarlaw24.VectorsAngles", spec := "vectorsAngles", inPlace := ["math/bits.Add64", "math/bits.Sub64"], recurses := true, named := ["math/bits.divideError", "math/bits.overflowError"], apart := false }
def VectorsAnglesSaid : Prop := vectorsAnglesRow.holds Tryz.pinned (OpenSpec.ofChange vectorsAnglesSpec)

/-- ITS FALSE NEIGHBOUR: 'it returns false'. Refute it at one input. -/
def vectorsAnglesWrong : ChangeSpec := { name := "vectorsAngles", fn := fun _ => fun
  | [d1, d2] => { results := [.lit (.bool false)], args := [d1, d2] }
  | _ => none }
def VectorsAnglesWrongFalsely : Prop := vectorsAnglesRow.holds Tryz.pinned (OpenSpec.ofChange vectorsAnglesWrong)

/- THE SECOND FORM. 'bulk': how many values and letters a reading holds, each counted each time it is reached (what is shared counts as often as it is met; a slice's spare places count too). A statement '..UptoSaid' is the law's where the arguments, and the package variables that the reading takes, are together of bulk at most 1048576: NARROWER than '..Said'. Prove '..Said' where nothing that the law and all that it calls make is longer than what came in: it says more and counts as full. Else prove '..UptoSaid'. A law counts once. -/
mutual
def uptoBulk {H : Type} : DataW H → Nat
  | .lit (.string bytes) => bytes.length + 1
  | .lit _ => 1
  | .nil => 1
  | .ptr d => uptoBulk d + 1
  | .slice elems spare => uptoBulkAll elems + uptoBulkAll spare + 1
  | .agg parts => uptoBulkAll parts + 1
  | .iface _ d => uptoBulk d + 1
  | .map entries => uptoBulkEntries entries + 1
  | .held _ => 1
def uptoBulkAll {H : Type} : List (DataW H) → Nat
  | [] => 0
  | d :: r => uptoBulk d + uptoBulkAll r
def uptoBulkEntries {H : Type} : List (Lit × DataW H) → Nat
  | [] => 0
  | x :: r => uptoBulkEntry x + uptoBulkEntries r
def uptoBulkEntry {H : Type} : Lit × DataW H → Nat
  | (.string bytes, d) => bytes.length + uptoBulk d + 1
  | (_, d) => uptoBulk d + 1
 end
def uptoSmall : (H : Type) → List (DataW H) → Bool := fun _ ds => decide (uptoBulkAll ds ≤ 1048576)
def OpenSpec.upto (s : _root_.Go.ChangeSpec) : _root_.Go.OpenSpec := { _root_.Go.OpenSpec.ofChange s with cond := some uptoSmall }

/-- 'almucantarlaw43.CompositePlans', WHERE WHAT IT READS IS OF BULK AT MOST 1048576: true; the input reads as it did. -/
def compositePlansUptoRow : OpenClaim := { program := "ytknhbpnclokciaagreat", sum := "1b03581f6340d563f1d61e5090dd2f4665d60b731fdb2dc003df78a9d03ee2c5", func := "almucantar/almucantarlaw43.CompositePlans", spec := "compositePlans", inPlace := ["math/bits.Add64", "math/bits.Sub64"], unfollowed := true, recurses := true, named := ["math/bits.divideError", "math/bits.overflowError"], apart := false, narrowed := true }
def CompositePlansUptoSaid : Prop := compositePlansUptoRow.holds Tryz.pinned (OpenSpec.upto compositePlansSpec)

/-- 'almucantarlaw43.CompositeLegs', WHERE WHAT IT READS IS OF BULK AT MOST 1048576: true; the input reads as it did. -/
def compositeLegsUptoRow : OpenClaim := { program := "ytknhbpnclokciaagreat", sum := "1b03581f6340d563f1d61e5090dd2f4665d60b731fdb2dc003df78a9d03ee2c5", func := "almucantar/almucantarlaw43.CompositeLegs", spec := "compositeLegs", inPlace := ["math/bits.Add64", "math/bits.Sub64"], unfollowed := true, recurses := true, named := ["math/bits.divideError", "math/bits.overflowError"], apart := false, narrowed := true }
def CompositeLegsUptoSaid : Prop := compositeLegsUptoRow.holds Tryz.pinned (OpenSpec.upto compositeLegsSpec)

/-- 'almucantarlaw43.CompositeDistances', WHERE WHAT IT READS IS OF BULK AT MOST 1048576: true; the input reads as it did. -/
def compositeDistancesUptoRow : OpenClaim := { program := "ytknhbpnclokciaagreat", sum := "1b03581f6340d563f1d61e5090dd2f4665d60b731fdb2dc003df78a9d03ee2c5", func := "almucantar/almucantarlaw43.CompositeDistances", spec := "compositeDistances", inPlace := ["math/bits.Add64", "math/bits.Sub64"], unfollowed := true, recurses := true, named := ["math/bits.divideError", "math/bits.overflowError"], apart := false, narrowed := true }
def CompositeDistancesUptoSaid : Prop := compositeDistancesUptoRow.holds Tryz.pinned (OpenSpec.upto compositeDistancesSpec)

/-- 'almucantarlaw43.CompositeSums', WHERE WHAT IT READS IS OF BULK AT MOST 1048576: true; the input reads as it did. -/
def compositeSumsUptoRow : OpenClaim := { program := "ytknhbpnclokciaagreat", sum := "1b03581f6340d563f1d61e5090dd2f4665d60b731fdb2dc003df78a9d03ee2c5", func := "almucantar/almucantarlaw43.CompositeSums", spec := "compositeSums", inPlace := ["math/bits.Add64", "math/bits.Sub64"], unfollowed := true, recurses := true, named := ["math/bits.divideError", "math/bits.overflowError"], apart := false, narrowed := true }
def CompositeSumsUptoSaid : Prop := compositeSumsUptoRow.holds Tryz.pinned (OpenSpec.upto compositeSumsSpec)

/-- 'almucantarlaw32.LookupSolves', WHERE WHAT IT READS IS OF BULK AT MOST 1048576: true; the input reads as it did. -/
def lookupSolvesUptoRow : OpenClaim := { program := "ytknhbpnclokciaagreat", sum := "1b03581f6340d563f1d61e5090dd2f4665d60b731fdb2dc003df78a9d03ee2c5", func := "almucantar/almucantarlaw32.LookupSolves", spec := "lookupSolves", inPlace := ["math/bits.Add64", "math/bits.Sub64"], recurses := true, named := ["math/bits.divideError", "math/bits.overflowError"], apart := false, narrowed := true }
def LookupSolvesUptoSaid : Prop := lookupSolvesUptoRow.holds Tryz.pinned (OpenSpec.upto lookupSolvesSpec)

/-- 'almucantarlaw44.MidlatitudeLegs', WHERE WHAT IT READS IS OF BULK AT MOST 1048576: true; the input reads as it did. -/
def midlatitudeLegsUptoRow : OpenClaim := { program := "ytknhbpnclokciaagreat", sum := "1b03581f6340d563f1d61e5090dd2f4665d60b731fdb2dc003df78a9d03ee2c5", func := "almucantar/almucantarlaw44.MidlatitudeLegs", spec := "midlatitudeLegs", inPlace := ["math/bits.Add64", "math/bits.Sub64"], unfollowed := true, recurses := true, named := ["math/bits.divideError", "math/bits.overflowError"], apart := false, narrowed := true }
def MidlatitudeLegsUptoSaid : Prop := midlatitudeLegsUptoRow.holds Tryz.pinned (OpenSpec.upto midlatitudeLegsSpec)

/-- 'almucantarlaw42.GreatcircleWays', WHERE WHAT IT READS IS OF BULK AT MOST 1048576: true; the input reads as it did. -/
def greatcircleWaysUptoRow : OpenClaim := { program := "ytknhbpnclokciaagreat", sum := "1b03581f6340d563f1d61e5090dd2f4665d60b731fdb2dc003df78a9d03ee2c5", func := "almucantar/almucantarlaw42.GreatcircleWays", spec := "greatcircleWays", inPlace := ["math/bits.Add64", "math/bits.Sub64"], recurses := true, named := ["math/bits.divideError", "math/bits.overflowError"], apart := false, narrowed := true }
def GreatcircleWaysUptoSaid : Prop := greatcircleWaysUptoRow.holds Tryz.pinned (OpenSpec.upto greatcircleWaysSpec)

/-- 'almucantarlaw32.LookupMirrors', WHERE WHAT IT READS IS OF BULK AT MOST 1048576: true; the input reads as it did. -/
def lookupMirrorsUptoRow : OpenClaim := { program := "ytknhbpnclokciaagreat", sum := "1b03581f6340d563f1d61e5090dd2f4665d60b731fdb2dc003df78a9d03ee2c5", func := "almucantar/almucantarlaw32.LookupMirrors", spec := "lookupMirrors", inPlace := ["math/bits.Add64", "math/bits.Sub64"], recurses := true, named := ["math/bits.divideError", "math/bits.overflowError"], apart := false, narrowed := true }
def LookupMirrorsUptoSaid : Prop := lookupMirrorsUptoRow.holds Tryz.pinned (OpenSpec.upto lookupMirrorsSpec)

/-- 'almucantarlaw45.CurrentParts', WHERE WHAT IT READS IS OF BULK AT MOST 1048576: true; the input reads as it did. -/
def currentPartsUptoRow : OpenClaim := { program := "ytknhbpnclokciaagreat", sum := "1b03581f6340d563f1d61e5090dd2f4665d60b731fdb2dc003df78a9d03ee2c5", func := "almucantar/almucantarlaw45.CurrentParts", spec := "currentParts", inPlace := ["math/bits.Add64", "math/bits.Sub64"], unfollowed := true, recurses := true, named := ["math/bits.divideError", "math/bits.overflowError"], apart := false, narrowed := true }
def CurrentPartsUptoSaid : Prop := currentPartsUptoRow.holds Tryz.pinned (OpenSpec.upto currentPartsSpec)

/-- 'almucantarlaw24.VectorsAngles', WHERE WHAT IT READS IS OF BULK AT MOST 1048576: true; the input reads as it did. -/
def vectorsAnglesUptoRow : OpenClaim := { program := "ytknhbpnclokciaagreat", sum := "1b03581f6340d563f1d61e5090dd2f4665d60b731fdb2dc003df78a9d03ee2c5", func := "almucantar/almucantarlaw24.VectorsAngles", spec := "vectorsAngles", inPlace := ["math/bits.Add64", "math/bits.Sub64"], recurses := true, named := ["math/bits.divideError", "math/bits.overflowError"], apart := false, narrowed := true }
def VectorsAnglesUptoSaid : Prop := vectorsAnglesUptoRow.holds Tryz.pinned (OpenSpec.upto vectorsAnglesSpec)

end Rows
end Go.Proofs.YtknhbpnclokciaaGreat
