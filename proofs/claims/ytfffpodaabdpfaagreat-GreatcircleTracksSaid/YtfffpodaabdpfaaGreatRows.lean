/-
  No cell of these rows narrows 'for every input' (looked for: loops, veiled, ifaces, maps, wideKeys, modest, calm, conditions, laid).
  DERIVED. THE GIVEN ROWS OF THIS SEAT. 12 by the template 'for every input the law returns true; each argument reads behind the call as it read before'; 0 by the template 'total and deterministic' (their statements: YtfffpodaabdpfaaGreatTotals.lean).
  GIVEN WITH THE SEED: the statements are not yours to turn. If you find one false, say at which input.
  Laid BY PROGRAM, IN A SANDBOX (cutbox-rows.mjs): the forced cells as the released guide's own fill.sh prints them over the translation cac583d010a74863… (all of the seat's roots in one cut). By AI agents, Wed Nov 11 2026. No macro, syntax, notation, axiom, sorry.
-/
import Derived.Test.YtfffpodaabdpfaaGreatChecked
import GoSem.Claim
import GoSem.ClaimJoined
import GoSem.ClaimMapViews
import Derived.JoinedTies
import Derived.KernelRfl
namespace Go.Proofs.YtfffpodaabdpfaaGreat
/- THE CELL 'sum', in the pinned program and in every row, IS THE sha256 OF THE DUMP (.gsa) THAT YtfffpodaabdpfaaGreatProg.lean LOADS. Nothing in Lean hashes anything: it is a label: what it is worth is what the hold of that sum in a sandbox is worth. -/
noncomputable def Tryz.pinned : Pinned := { name := "ytfffpodaabdpfaagreat", sum := "cac583d010a74863707283331310c23271f3e733abae2b17a6cd05efbbad9cd4", checked := Tryz.checked }
namespace Rows
def none {H : Type} : Left H := { results := [], args := [] }

/-- 'almucantarlaw24.VectorsAngles': WHATEVER THE INPUT: true; the input reads as it did. -/
def vectorsAnglesSpec : ChangeSpec := { name := "vectorsAngles", fn := fun _ => fun
  | [d1, d2] => { results := [.lit (.bool true)], args := [d1, d2] }
  | _ => none }
def vectorsAnglesRow : OpenClaim := { program := "ytfffpodaabdpfaagreat", sum := "cac583d010a74863707283331310c23271f3e733abae2b17a6cd05efbbad9cd4", func := "almucantar/almucantarlaw24.VectorsAngles", spec := "vectorsAngles", inPlace := ["math/bits.Add64", "math/bits.Sub64"], recurses := true, named := ["math/bits.divideError", "math/bits.overflowError"], apart := false }
def VectorsAnglesSaid : Prop := vectorsAnglesRow.holds Tryz.pinned (OpenSpec.ofChange vectorsAnglesSpec)

/-- ITS FALSE NEIGHBOUR: 'it returns false'. Refute it at one input. -/
def vectorsAnglesWrong : ChangeSpec := { name := "vectorsAngles", fn := fun _ => fun
  | [d1, d2] => { results := [.lit (.bool false)], args := [d1, d2] }
  | _ => none }
def VectorsAnglesWrongFalsely : Prop := vectorsAnglesRow.holds Tryz.pinned (OpenSpec.ofChange vectorsAnglesWrong)

/-- 'almucantarlaw44.MidlatitudeLegs': WHATEVER THE INPUT: true; the input reads as it did. -/
def midlatitudeLegsSpec : ChangeSpec := { name := "midlatitudeLegs", fn := fun _ => fun
  | [d1, d2, d3] => { results := [.lit (.bool true)], args := [d1, d2, d3] }
  | _ => none }
def midlatitudeLegsRow : OpenClaim := { program := "ytfffpodaabdpfaagreat", sum := "cac583d010a74863707283331310c23271f3e733abae2b17a6cd05efbbad9cd4", func := "almucantar/almucantarlaw44.MidlatitudeLegs", spec := "midlatitudeLegs", inPlace := ["math/bits.Add64", "math/bits.Sub64"], unfollowed := true, recurses := true, named := ["math/bits.divideError", "math/bits.overflowError"], apart := false }
def MidlatitudeLegsSaid : Prop := midlatitudeLegsRow.holds Tryz.pinned (OpenSpec.ofChange midlatitudeLegsSpec)

/-- ITS FALSE NEIGHBOUR: 'it returns false'. Refute it at one input. -/
def midlatitudeLegsWrong : ChangeSpec := { name := "midlatitudeLegs", fn := fun _ => fun
  | [d1, d2, d3] => { results := [.lit (.bool false)], args := [d1, d2, d3] }
  | _ => none }
def MidlatitudeLegsWrongFalsely : Prop := midlatitudeLegsRow.holds Tryz.pinned (OpenSpec.ofChange midlatitudeLegsWrong)

/-- 'almucantarlaw25.CosineSolves': WHATEVER THE INPUT: true; the input reads as it did. -/
def cosineSolvesSpec : ChangeSpec := { name := "cosineSolves", fn := fun _ => fun
  | [d] => { results := [.lit (.bool true)], args := [d] }
  | _ => none }
def cosineSolvesRow : OpenClaim := { program := "ytfffpodaabdpfaagreat", sum := "cac583d010a74863707283331310c23271f3e733abae2b17a6cd05efbbad9cd4", func := "almucantar/almucantarlaw25.CosineSolves", spec := "cosineSolves", inPlace := ["math/bits.Add64", "math/bits.Sub64"], recurses := true, named := ["math/bits.divideError", "math/bits.overflowError"], apart := false }
def CosineSolvesSaid : Prop := cosineSolvesRow.holds Tryz.pinned (OpenSpec.ofChange cosineSolvesSpec)

/-- ITS FALSE NEIGHBOUR: 'it returns false'. Refute it at one input. -/
def cosineSolvesWrong : ChangeSpec := { name := "cosineSolves", fn := fun _ => fun
  | [d] => { results := [.lit (.bool false)], args := [d] }
  | _ => none }
def CosineSolvesWrongFalsely : Prop := cosineSolvesRow.holds Tryz.pinned (OpenSpec.ofChange cosineSolvesWrong)

/-- 'almucantarlaw25.CosineHours': WHATEVER THE INPUT: true; the input reads as it did. -/
def cosineHoursSpec : ChangeSpec := { name := "cosineHours", fn := fun _ => fun
  | [d1, d2, d3] => { results := [.lit (.bool true)], args := [d1, d2, d3] }
  | _ => none }
def cosineHoursRow : OpenClaim := { program := "ytfffpodaabdpfaagreat", sum := "cac583d010a74863707283331310c23271f3e733abae2b17a6cd05efbbad9cd4", func := "almucantar/almucantarlaw25.CosineHours", spec := "cosineHours", inPlace := ["math/bits.Add64", "math/bits.Sub64"], recurses := true, named := ["math/bits.divideError", "math/bits.overflowError"], apart := false }
def CosineHoursSaid : Prop := cosineHoursRow.holds Tryz.pinned (OpenSpec.ofChange cosineHoursSpec)

/-- ITS FALSE NEIGHBOUR: 'it returns false'. Refute it at one input. -/
def cosineHoursWrong : ChangeSpec := { name := "cosineHours", fn := fun _ => fun
  | [d1, d2, d3] => { results := [.lit (.bool false)], args := [d1, d2, d3] }
  | _ => none }
def CosineHoursWrongFalsely : Prop := cosineHoursRow.holds Tryz.pinned (OpenSpec.ofChange cosineHoursWrong)

/-- 'almucantarlaw42.GreatcircleTracks': WHATEVER THE INPUT: true; the input reads as it did. -/
def greatcircleTracksSpec : ChangeSpec := { name := "greatcircleTracks", fn := fun _ => fun
  | [d1, d2, d3, d4] => { results := [.lit (.bool true)], args := [d1, d2, d3, d4] }
  | _ => none }
def greatcircleTracksRow : OpenClaim := { program := "ytfffpodaabdpfaagreat", sum := "cac583d010a74863707283331310c23271f3e733abae2b17a6cd05efbbad9cd4", func := "almucantar/almucantarlaw42.GreatcircleTracks", spec := "greatcircleTracks", inPlace := ["math/bits.Add64", "math/bits.Sub64"], recurses := true, named := ["math/bits.divideError", "math/bits.overflowError"], apart := false }
def GreatcircleTracksSaid : Prop := greatcircleTracksRow.holds Tryz.pinned (OpenSpec.ofChange greatcircleTracksSpec)

/-- ITS FALSE NEIGHBOUR: 'it returns false'. Refute it at one input. -/
def greatcircleTracksWrong : ChangeSpec := { name := "greatcircleTracks", fn := fun _ => fun
  | [d1, d2, d3, d4] => { results := [.lit (.bool false)], args := [d1, d2, d3, d4] }
  | _ => none }
def GreatcircleTracksWrongFalsely : Prop := greatcircleTracksRow.holds Tryz.pinned (OpenSpec.ofChange greatcircleTracksWrong)

/-- 'almucantarlaw45.CurrentSteers': WHATEVER THE INPUT: true; the input reads as it did. -/
def currentSteersSpec : ChangeSpec := { name := "currentSteers", fn := fun _ => fun
  | [d1, d2, d3] => { results := [.lit (.bool true)], args := [d1, d2, d3] }
  | _ => none }
def currentSteersRow : OpenClaim := { program := "ytfffpodaabdpfaagreat", sum := "cac583d010a74863707283331310c23271f3e733abae2b17a6cd05efbbad9cd4", func := "almucantar/almucantarlaw45.CurrentSteers", spec := "currentSteers", inPlace := ["math/bits.Add64", "math/bits.Sub64"], unfollowed := true, recurses := true, named := ["math/bits.divideError", "math/bits.overflowError"], apart := false }
def CurrentSteersSaid : Prop := currentSteersRow.holds Tryz.pinned (OpenSpec.ofChange currentSteersSpec)

/-- ITS FALSE NEIGHBOUR: 'it returns false'. Refute it at one input. -/
def currentSteersWrong : ChangeSpec := { name := "currentSteers", fn := fun _ => fun
  | [d1, d2, d3] => { results := [.lit (.bool false)], args := [d1, d2, d3] }
  | _ => none }
def CurrentSteersWrongFalsely : Prop := currentSteersRow.holds Tryz.pinned (OpenSpec.ofChange currentSteersWrong)

/-- 'almucantarlaw45.CurrentMotions': WHATEVER THE INPUT: true; the input reads as it did. -/
def currentMotionsSpec : ChangeSpec := { name := "currentMotions", fn := fun _ => fun
  | [d1, d2, d3] => { results := [.lit (.bool true)], args := [d1, d2, d3] }
  | _ => none }
def currentMotionsRow : OpenClaim := { program := "ytfffpodaabdpfaagreat", sum := "cac583d010a74863707283331310c23271f3e733abae2b17a6cd05efbbad9cd4", func := "almucantar/almucantarlaw45.CurrentMotions", spec := "currentMotions", inPlace := ["math/bits.Add64", "math/bits.Sub64"], unfollowed := true, recurses := true, named := ["math/bits.divideError", "math/bits.overflowError"], apart := false }
def CurrentMotionsSaid : Prop := currentMotionsRow.holds Tryz.pinned (OpenSpec.ofChange currentMotionsSpec)

/-- ITS FALSE NEIGHBOUR: 'it returns false'. Refute it at one input. -/
def currentMotionsWrong : ChangeSpec := { name := "currentMotions", fn := fun _ => fun
  | [d1, d2, d3] => { results := [.lit (.bool false)], args := [d1, d2, d3] }
  | _ => none }
def CurrentMotionsWrongFalsely : Prop := currentMotionsRow.holds Tryz.pinned (OpenSpec.ofChange currentMotionsWrong)

/-- 'almucantarlaw45.CurrentParts': WHATEVER THE INPUT: true; the input reads as it did. -/
def currentPartsSpec : ChangeSpec := { name := "currentParts", fn := fun _ => fun
  | [d1, d2] => { results := [.lit (.bool true)], args := [d1, d2] }
  | _ => none }
def currentPartsRow : OpenClaim := { program := "ytfffpodaabdpfaagreat", sum := "cac583d010a74863707283331310c23271f3e733abae2b17a6cd05efbbad9cd4", func := "almucantar/almucantarlaw45.CurrentParts", spec := "currentParts", inPlace := ["math/bits.Add64", "math/bits.Sub64"], unfollowed := true, recurses := true, named := ["math/bits.divideError", "math/bits.overflowError"], apart := false }
def CurrentPartsSaid : Prop := currentPartsRow.holds Tryz.pinned (OpenSpec.ofChange currentPartsSpec)

/-- ITS FALSE NEIGHBOUR: 'it returns false'. Refute it at one input. -/
def currentPartsWrong : ChangeSpec := { name := "currentParts", fn := fun _ => fun
  | [d1, d2] => { results := [.lit (.bool false)], args := [d1, d2] }
  | _ => none }
def CurrentPartsWrongFalsely : Prop := currentPartsRow.holds Tryz.pinned (OpenSpec.ofChange currentPartsWrong)

/-- 'almucantarlaw32.LookupSolves': WHATEVER THE INPUT: true; the input reads as it did. -/
def lookupSolvesSpec : ChangeSpec := { name := "lookupSolves", fn := fun _ => fun
  | [d] => { results := [.lit (.bool true)], args := [d] }
  | _ => none }
def lookupSolvesRow : OpenClaim := { program := "ytfffpodaabdpfaagreat", sum := "cac583d010a74863707283331310c23271f3e733abae2b17a6cd05efbbad9cd4", func := "almucantar/almucantarlaw32.LookupSolves", spec := "lookupSolves", inPlace := ["math/bits.Add64", "math/bits.Sub64"], recurses := true, named := ["math/bits.divideError", "math/bits.overflowError"], apart := false }
def LookupSolvesSaid : Prop := lookupSolvesRow.holds Tryz.pinned (OpenSpec.ofChange lookupSolvesSpec)

/-- ITS FALSE NEIGHBOUR: 'it returns false'. Refute it at one input. -/
def lookupSolvesWrong : ChangeSpec := { name := "lookupSolves", fn := fun _ => fun
  | [d] => { results := [.lit (.bool false)], args := [d] }
  | _ => none }
def LookupSolvesWrongFalsely : Prop := lookupSolvesRow.holds Tryz.pinned (OpenSpec.ofChange lookupSolvesWrong)

/-- 'almucantarlaw32.LookupAssumes': WHATEVER THE INPUT: true; the input reads as it did. -/
def lookupAssumesSpec : ChangeSpec := { name := "lookupAssumes", fn := fun _ => fun
  | [d1, d2] => { results := [.lit (.bool true)], args := [d1, d2] }
  | _ => none }
def lookupAssumesRow : OpenClaim := { program := "ytfffpodaabdpfaagreat", sum := "cac583d010a74863707283331310c23271f3e733abae2b17a6cd05efbbad9cd4", func := "almucantar/almucantarlaw32.LookupAssumes", spec := "lookupAssumes", inPlace := ["math/bits.Add64", "math/bits.Sub64"], recurses := true, named := ["math/bits.divideError", "math/bits.overflowError"], apart := false }
def LookupAssumesSaid : Prop := lookupAssumesRow.holds Tryz.pinned (OpenSpec.ofChange lookupAssumesSpec)

/-- ITS FALSE NEIGHBOUR: 'it returns false'. Refute it at one input. -/
def lookupAssumesWrong : ChangeSpec := { name := "lookupAssumes", fn := fun _ => fun
  | [d1, d2] => { results := [.lit (.bool false)], args := [d1, d2] }
  | _ => none }
def LookupAssumesWrongFalsely : Prop := lookupAssumesRow.holds Tryz.pinned (OpenSpec.ofChange lookupAssumesWrong)

/-- 'almucantarlaw43.CompositeLegs': WHATEVER THE INPUT: true; the input reads as it did. -/
def compositeLegsSpec : ChangeSpec := { name := "compositeLegs", fn := fun _ => fun
  | [d1, d2] => { results := [.lit (.bool true)], args := [d1, d2] }
  | _ => none }
def compositeLegsRow : OpenClaim := { program := "ytfffpodaabdpfaagreat", sum := "cac583d010a74863707283331310c23271f3e733abae2b17a6cd05efbbad9cd4", func := "almucantar/almucantarlaw43.CompositeLegs", spec := "compositeLegs", inPlace := ["math/bits.Add64", "math/bits.Sub64"], unfollowed := true, recurses := true, named := ["math/bits.divideError", "math/bits.overflowError"], apart := false }
def CompositeLegsSaid : Prop := compositeLegsRow.holds Tryz.pinned (OpenSpec.ofChange compositeLegsSpec)

/-- ITS FALSE NEIGHBOUR: 'it returns false'. Refute it at one input. -/
def compositeLegsWrong : ChangeSpec := { name := "compositeLegs", fn := fun _ => fun
  | [d1, d2] => { results := [.lit (.bool false)], args := [d1, d2] }
  | _ => none }
def CompositeLegsWrongFalsely : Prop := compositeLegsRow.holds Tryz.pinned (OpenSpec.ofChange compositeLegsWrong)

/-- 'almucantarlaw43.CompositeDistances': WHATEVER THE INPUT: true; the input reads as it did. -/
def compositeDistancesSpec : ChangeSpec := { name := "compositeDistances", fn := fun _ => fun
  | [d1, d2, d3] => { results := [.lit (.bool true)], args := [d1, d2, d3] }
  | _ => none }
def compositeDistancesRow : OpenClaim := { program := "ytfffpodaabdpfaagreat", sum := "cac583d010a74863707283331310c23271f3e733abae2b17a6cd05efbbad9cd4", func := "almucantar/almucantarlaw43.CompositeDistances", spec := "compositeDistances", inPlace := ["math/bits.Add64", "math/bits.Sub64"], unfollowed := true, recurses := true, named := ["math/bits.divideError", "math/bits.overflowError"], apart := false }
def CompositeDistancesSaid : Prop := compositeDistancesRow.holds Tryz.pinned (OpenSpec.ofChange compositeDistancesSpec)

/-- ITS FALSE NEIGHBOUR: 'it returns false'. Refute it at one input. -/
def compositeDistancesWrong : ChangeSpec := { name := "compositeDistances", fn := fun _ => fun
  | [d1, d2, d3] => { results := [.lit (.bool false)], args := [d1, d2, d3] }
  | _ => none }
def CompositeDistancesWrongFalsely : Prop := compositeDistancesRow.holds Tryz.pinned (OpenSpec.ofChange compositeDistancesWrong)

/- THE SECOND FORM. 'bulk': how many values and letters a reading holds, each counted each time it is reached (what is shared counts as often as it is met; a slice's spare places count too). A statement '..UptoSaid' is the law's where the arguments, and the package variables that the reading takes, are together of bulk at most 1048576: NARROWER than '..Said'. Prove '..Said' where nothing that the law and all that it calls make is longer than what came in: it says more and counts as full. Else prove '..UptoSaid'. A law counts once. -/
mutual
def uptoBulk {H : Type} : DataW H → Nat
  | .lit (.string bytes) => bytes.length + 1
  | .lit _ => 1
  | .nil => 1
  | .ptr d => uptoBulk d + 1
  | .slice elems spare => uptoBulkAll elems + uptoBulkAll spare + 1
  | .agg parts => uptoBulkAll parts + 1
  | .iface _ d => uptoBulk d + 1
  | .map entries => uptoBulkEntries entries + 1
  | .held _ => 1
def uptoBulkAll {H : Type} : List (DataW H) → Nat
  | [] => 0
  | d :: r => uptoBulk d + uptoBulkAll r
def uptoBulkEntries {H : Type} : List (Lit × DataW H) → Nat
  | [] => 0
  | x :: r => uptoBulkEntry x + uptoBulkEntries r
def uptoBulkEntry {H : Type} : Lit × DataW H → Nat
  | (.string bytes, d) => bytes.length + uptoBulk d + 1
  | (_, d) => uptoBulk d + 1
 end
def uptoSmall : (H : Type) → List (DataW H) → Bool := fun _ ds => decide (uptoBulkAll ds ≤ 1048576)
def OpenSpec.upto (s : _root_.Go.ChangeSpec) : _root_.Go.OpenSpec := { _root_.Go.OpenSpec.ofChange s with cond := some uptoSmall }

/-- 'almucantarlaw24.VectorsAngles', WHERE WHAT IT READS IS OF BULK AT MOST 1048576: true; the input reads as it did. -/
def vectorsAnglesUptoRow : OpenClaim := { program := "ytfffpodaabdpfaagreat", sum := "cac583d010a74863707283331310c23271f3e733abae2b17a6cd05efbbad9cd4", func := "almucantar/almucantarlaw24.VectorsAngles", spec := "vectorsAngles", inPlace := ["math/bits.Add64", "math/bits.Sub64"], recurses := true, named := ["math/bits.divideError", "math/bits.overflowError"], apart := false, narrowed := true }
def VectorsAnglesUptoSaid : Prop := vectorsAnglesUptoRow.holds Tryz.pinned (OpenSpec.upto vectorsAnglesSpec)

/-- 'almucantarlaw44.MidlatitudeLegs', WHERE WHAT IT READS IS OF BULK AT MOST 1048576: true; the input reads as it did. -/
def midlatitudeLegsUptoRow : OpenClaim := { program := "ytfffpodaabdpfaagreat", sum := "cac583d010a74863707283331310c23271f3e733abae2b17a6cd05efbbad9cd4", func := "almucantar/almucantarlaw44.MidlatitudeLegs", spec := "midlatitudeLegs", inPlace := ["math/bits.Add64", "math/bits.Sub64"], unfollowed := true, recurses := true, named := ["math/bits.divideError", "math/bits.overflowError"], apart := false, narrowed := true }
def MidlatitudeLegsUptoSaid : Prop := midlatitudeLegsUptoRow.holds Tryz.pinned (OpenSpec.upto midlatitudeLegsSpec)

/-- 'almucantarlaw25.CosineSolves', WHERE WHAT IT READS IS OF BULK AT MOST 1048576: true; the input reads as it did. -/
def cosineSolvesUptoRow : OpenClaim := { program := "ytfffpodaabdpfaagreat", sum := "cac583d010a74863707283331310c23271f3e733abae2b17a6cd05efbbad9cd4", func := "almucantar/almucantarlaw25.CosineSolves", spec := "cosineSolves", inPlace := ["math/bits.Add64", "math/bits.Sub64"], recurses := true, named := ["math/bits.divideError", "math/bits.overflowError"], apart := false, narrowed := true }
def CosineSolvesUptoSaid : Prop := cosineSolvesUptoRow.holds Tryz.pinned (OpenSpec.upto cosineSolvesSpec)

/-- 'almucantarlaw25.CosineHours', WHERE WHAT IT READS IS OF BULK AT MOST 1048576: true; the input reads as it did. -/
def cosineHoursUptoRow : OpenClaim := { program := "ytfffpodaabdpfaagreat", sum := "cac583d010a74863707283331310c23271f3e733abae2b17a6cd05efbbad9cd4", func := "almucantar/almucantarlaw25.CosineHours", spec := "cosineHours", inPlace := ["math/bits.Add64", "math/bits.Sub64"], recurses := true, named := ["math/bits.divideError", "math/bits.overflowError"], apart := false, narrowed := true }
def CosineHoursUptoSaid : Prop := cosineHoursUptoRow.holds Tryz.pinned (OpenSpec.upto cosineHoursSpec)

/-- 'almucantarlaw42.GreatcircleTracks', WHERE WHAT IT READS IS OF BULK AT MOST 1048576: true; the input reads as it did. -/
def greatcircleTracksUptoRow : OpenClaim := { program := "ytfffpodaabdpfaagreat", sum := "cac583d010a74863707283331310c23271f3e733abae2b17a6cd05efbbad9cd4", func := "almucantar/almucantarlaw42.GreatcircleTracks", spec := "greatcircleTracks", inPlace := ["math/bits.Add64", "math/bits.Sub64"], recurses := true, named := ["math/bits.divideError", "math/bits.overflowError"], apart := false, narrowed := true }
def GreatcircleTracksUptoSaid : Prop := greatcircleTracksUptoRow.holds Tryz.pinned (OpenSpec.upto greatcircleTracksSpec)

/-- 'almucantarlaw45.CurrentSteers', WHERE WHAT IT READS IS OF BULK AT MOST 1048576: true; the input reads as it did. -/
def currentSteersUptoRow : OpenClaim := { program := "ytfffpodaabdpfaagreat", sum := "cac583d010a74863707283331310c23271f3e733abae2b17a6cd05efbbad9cd4", func := "almucantar/almucantarlaw45.CurrentSteers", spec := "currentSteers", inPlace := ["math/bits.Add64", "math/bits.Sub64"], unfollowed := true, recurses := true, named := ["math/bits.divideError", "math/bits.overflowError"], apart := false, narrowed := true }
def CurrentSteersUptoSaid : Prop := currentSteersUptoRow.holds Tryz.pinned (OpenSpec.upto currentSteersSpec)

/-- 'almucantarlaw45.CurrentMotions', WHERE WHAT IT READS IS OF BULK AT MOST 1048576: true; the input reads as it did. -/
def currentMotionsUptoRow : OpenClaim := { program := "ytfffpodaabdpfaagreat", sum := "cac583d010a74863707283331310c23271f3e733abae2b17a6cd05efbbad9cd4", func := "almucantar/almucantarlaw45.CurrentMotions", spec := "currentMotions", inPlace := ["math/bits.Add64", "math/bits.Sub64"], unfollowed := true, recurses := true, named := ["math/bits.divideError", "math/bits.overflowError"], apart := false, narrowed := true }
def CurrentMotionsUptoSaid : Prop := currentMotionsUptoRow.holds Tryz.pinned (OpenSpec.upto currentMotionsSpec)

/-- 'almucantarlaw45.CurrentParts', WHERE WHAT IT READS IS OF BULK AT MOST 1048576: true; the input reads as it did. -/
def currentPartsUptoRow : OpenClaim := { program := "ytfffpodaabdpfaagreat", sum := "cac583d010a74863707283331310c23271f3e733abae2b17a6cd05efbbad9cd4", func := "almucantar/almucantarlaw45.CurrentParts", spec := "currentParts", inPlace := ["math/bits.Add64", "math/bits.Sub64"], unfollowed := true, recurses := true, named := ["math/bits.divideError", "math/bits.overflowError"], apart := false, narrowed := true }
def CurrentPartsUptoSaid : Prop := currentPartsUptoRow.holds Tryz.pinned (OpenSpec.upto currentPartsSpec)

/-- 'almucantarlaw32.LookupSolves', WHERE WHAT IT READS IS OF BULK AT MOST 1048576: true; the input reads as it did. -/
def lookupSolvesUptoRow : OpenClaim := { program := "ytfffpodaabdpfaagreat", sum := "cac583d010a74863707283331310c23271f3e733abae2b17a6cd05efbbad9cd4", func := "almucantar/almucantarlaw32.LookupSolves", spec := "lookupSolves", inPlace := ["math/bits.Add64", "math/bits.Sub64"], recurses := true, named := ["math/bits.divideError", "math/bits.overflowError"], apart := false, narrowed := true }
def LookupSolvesUptoSaid : Prop := lookupSolvesUptoRow.holds Tryz.pinned (OpenSpec.upto lookupSolvesSpec)

/-- 'almucantarlaw32.LookupAssumes', WHERE WHAT IT READS IS OF BULK AT MOST 1048576: true; the input reads as it did. -/
def lookupAssumesUptoRow : OpenClaim := { program := "ytfffpodaabdpfaagreat", sum := "cac583d010a74863707283331310c23271f3e733abae2b17a6cd05efbbad9cd4", func := "almucantar/almucantarlaw32.LookupAssumes", spec := "lookupAssumes", inPlace := ["math/bits.Add64", "math/bits.Sub64"], recurses := true, named := ["math/bits.divideError", "math/bits.overflowError"], apart := false, narrowed := true }
def LookupAssumesUptoSaid : Prop := lookupAssumesUptoRow.holds Tryz.pinned (OpenSpec.upto lookupAssumesSpec)

/-- 'almucantarlaw43.CompositeLegs', WHERE WHAT IT READS IS OF BULK AT MOST 1048576: true; the input reads as it did. -/
def compositeLegsUptoRow : OpenClaim := { program := "ytfffpodaabdpfaagreat", sum := "cac583d010a74863707283331310c23271f3e733abae2b17a6cd05efbbad9cd4", func := "almucantar/almucantarlaw43.CompositeLegs", spec := "compositeLegs", inPlace := ["math/bits.Add64", "math/bits.Sub64"], unfollowed := true, recurses := true, named := ["math/bits.divideError", "math/bits.overflowError"], apart := false, narrowed := true }
def CompositeLegsUptoSaid : Prop := compositeLegsUptoRow.holds Tryz.pinned (OpenSpec.upto compositeLegsSpec)

/-- 'almucantarlaw43.CompositeDistances', WHERE WHAT IT READS IS OF BULK AT MOST 1048576: true; the input reads as it did. -/
def compositeDistancesUptoRow : OpenClaim := { program := "ytfffpodaabdpfaagreat", sum := "cac583d010a74863707283331310c23271f3e733abae2b17a6cd05efbbad9cd4", func := "almucantar/almucantarlaw43.CompositeDistances", spec := "compositeDistances", inPlace := ["math/bits.Add64", "math/bits.Sub64"], unfollowed := true, recurses := true, named := ["math/bits.divideError", "math/bits.overflowError"], apart := false, narrowed := true }
def CompositeDistancesUptoSaid : Prop := compositeDistancesUptoRow.holds Tryz.pinned (OpenSpec.upto compositeDistancesSpec)

end Rows
end Go.Proofs.YtfffpodaabdpfaaGreat
