/-
  No cell of these rows narrows 'for every input' (looked for: loops, veiled, ifaces, maps, wideKeys, modest, calm, conditions, laid).
  DERIVED. THE GIVEN ROWS OF THIS SEAT. 8 by the template 'for every input the law returns true; each argument reads behind the call as it read before'; 0 by the template 'total and deterministic' (their statements: YtgmncdmcdgkodaaTotals.lean).
  GIVEN WITH THE SEED: the statements are not yours to turn. If you find one false, say at which input.
  Laid BY PROGRAM, IN A SANDBOX (cutbox-rows.mjs): the forced cells as the released guide's own fill.sh prints them over the translation f92774053e0f024a… (all of the seat's roots in one cut). By AI agents, Wed Nov 11 2026. No macro, syntax, notation, axiom, sorry.
-/
import Derived.Test.YtgmncdmcdgkodaaChecked
import GoSem.Claim
import GoSem.ClaimJoined
import GoSem.ClaimMapViews
import Derived.JoinedTies
import Derived.KernelRfl
namespace Go.Proofs.Ytgmncdmcdgkodaa
/- THE CELL 'sum', in the pinned program and in every row, IS THE sha256 OF THE DUMP (.gsa) THAT YtgmncdmcdgkodaaProg.lean LOADS. Nothing in Lean hashes anything: it is a label: what it is worth is what the hold of that sum in a sandbox is worth. -/
noncomputable def Try.pinned : Pinned := { name := "ytgmncdmcdgkodaa", sum := "f92774053e0f024aab68b40c0d28c1ec99c21d5f4e57325c5800742f50fb67c7", checked := Try.checked }
namespace Rows
def none {H : Type} : Left H := { results := [], args := [] }

/-- 'almucantarlaw25.CosineParts': WHATEVER THE INPUT: true; the input reads as it did. -/
def cosinePartsSpec : ChangeSpec := { name := "cosineParts", fn := fun _ => fun
  | [d1, d2, d3, d4] => { results := [.lit (.bool true)], args := [d1, d2, d3, d4] }
  | _ => none }
def cosinePartsRow : OpenClaim := { program := "ytgmncdmcdgkodaa", sum := "f92774053e0f024aab68b40c0d28c1ec99c21d5f4e57325c5800742f50fb67c7", func := "almucantar/almucantarlaw25.CosineParts", spec := "cosineParts", inPlace := ["math/bits.Add64", "math/bits.Sub64"], recurses := true, named := ["math/bits.divideError", "math/bits.overflowError"], apart := false }
def CosinePartsSaid : Prop := cosinePartsRow.holds Try.pinned (OpenSpec.ofChange cosinePartsSpec)

/-- ITS FALSE NEIGHBOUR: 'it returns false'. Refute it at one input. -/
def cosinePartsWrong : ChangeSpec := { name := "cosineParts", fn := fun _ => fun
  | [d1, d2, d3, d4] => { results := [.lit (.bool false)], args := [d1, d2, d3, d4] }
  | _ => none }
def CosinePartsWrongFalsely : Prop := cosinePartsRow.holds Try.pinned (OpenSpec.ofChange cosinePartsWrong)

/-- 'almucantarlaw25.CosineMeridian': WHATEVER THE INPUT: true; the input reads as it did. -/
def cosineMeridianSpec : ChangeSpec := { name := "cosineMeridian", fn := fun _ => fun
  | [d1, d2, d3] => { results := [.lit (.bool true)], args := [d1, d2, d3] }
  | _ => none }
def cosineMeridianRow : OpenClaim := { program := "ytgmncdmcdgkodaa", sum := "f92774053e0f024aab68b40c0d28c1ec99c21d5f4e57325c5800742f50fb67c7", func := "almucantar/almucantarlaw25.CosineMeridian", spec := "cosineMeridian", inPlace := ["math/bits.Add64", "math/bits.Sub64"], recurses := true, named := ["math/bits.divideError", "math/bits.overflowError"], apart := false }
def CosineMeridianSaid : Prop := cosineMeridianRow.holds Try.pinned (OpenSpec.ofChange cosineMeridianSpec)

/-- ITS FALSE NEIGHBOUR: 'it returns false'. Refute it at one input. -/
def cosineMeridianWrong : ChangeSpec := { name := "cosineMeridian", fn := fun _ => fun
  | [d1, d2, d3] => { results := [.lit (.bool false)], args := [d1, d2, d3] }
  | _ => none }
def CosineMeridianWrongFalsely : Prop := cosineMeridianRow.holds Try.pinned (OpenSpec.ofChange cosineMeridianWrong)

/-- 'almucantarlaw45.CurrentInside': WHATEVER THE INPUT: true; the input reads as it did. -/
def currentInsideSpec : ChangeSpec := { name := "currentInside", fn := fun _ => fun
  | [d1, d2, d3, d4, d5, d6] => { results := [.lit (.bool true)], args := [d1, d2, d3, d4, d5, d6] }
  | _ => none }
def currentInsideRow : OpenClaim := { program := "ytgmncdmcdgkodaa", sum := "f92774053e0f024aab68b40c0d28c1ec99c21d5f4e57325c5800742f50fb67c7", func := "almucantar/almucantarlaw45.CurrentInside", spec := "currentInside", inPlace := ["math/bits.Add64", "math/bits.Sub64"], unfollowed := true, recurses := true, named := ["math/bits.divideError", "math/bits.overflowError"], apart := false }
def CurrentInsideSaid : Prop := currentInsideRow.holds Try.pinned (OpenSpec.ofChange currentInsideSpec)

/-- ITS FALSE NEIGHBOUR: 'it returns false'. Refute it at one input. -/
def currentInsideWrong : ChangeSpec := { name := "currentInside", fn := fun _ => fun
  | [d1, d2, d3, d4, d5, d6] => { results := [.lit (.bool false)], args := [d1, d2, d3, d4, d5, d6] }
  | _ => none }
def CurrentInsideWrongFalsely : Prop := currentInsideRow.holds Try.pinned (OpenSpec.ofChange currentInsideWrong)

/-- 'almucantarlaw24.VectorsParts': WHATEVER THE INPUT: true; the input reads as it did. -/
def vectorsPartsSpec : ChangeSpec := { name := "vectorsParts", fn := fun _ => fun
  | [d1, d2, d3, d4, d5, d6] => { results := [.lit (.bool true)], args := [d1, d2, d3, d4, d5, d6] }
  | _ => none }
def vectorsPartsRow : OpenClaim := { program := "ytgmncdmcdgkodaa", sum := "f92774053e0f024aab68b40c0d28c1ec99c21d5f4e57325c5800742f50fb67c7", func := "almucantar/almucantarlaw24.VectorsParts", spec := "vectorsParts", inPlace := ["math/bits.Add64", "math/bits.Sub64"], recurses := true, named := ["math/bits.divideError", "math/bits.overflowError"], apart := false }
def VectorsPartsSaid : Prop := vectorsPartsRow.holds Try.pinned (OpenSpec.ofChange vectorsPartsSpec)

/-- ITS FALSE NEIGHBOUR: 'it returns false'. Refute it at one input. -/
def vectorsPartsWrong : ChangeSpec := { name := "vectorsParts", fn := fun _ => fun
  | [d1, d2, d3, d4, d5, d6] => { results := [.lit (.bool false)], args := [d1, d2, d3, d4, d5, d6] }
  | _ => none }
def VectorsPartsWrongFalsely : Prop := vectorsPartsRow.holds Try.pinned (OpenSpec.ofChange vectorsPartsWrong)

/-- 'almucantarlaw42.GreatcircleParts': WHATEVER THE INPUT: true; the input reads as it did. -/
def greatcirclePartsSpec : ChangeSpec := { name := "greatcircleParts", fn := fun _ => fun
  | [d1, d2, d3, d4, d5, d6] => { results := [.lit (.bool true)], args := [d1, d2, d3, d4, d5, d6] }
  | _ => none }
def greatcirclePartsRow : OpenClaim := { program := "ytgmncdmcdgkodaa", sum := "f92774053e0f024aab68b40c0d28c1ec99c21d5f4e57325c5800742f50fb67c7", func := "almucantar/almucantarlaw42.GreatcircleParts", spec := "greatcircleParts", inPlace := ["math/bits.Add64", "math/bits.Sub64"], unfollowed := true, recurses := true, named := ["math/bits.divideError", "math/bits.overflowError"], apart := false }
def GreatcirclePartsSaid : Prop := greatcirclePartsRow.holds Try.pinned (OpenSpec.ofChange greatcirclePartsSpec)

/-- ITS FALSE NEIGHBOUR: 'it returns false'. Refute it at one input. -/
def greatcirclePartsWrong : ChangeSpec := { name := "greatcircleParts", fn := fun _ => fun
  | [d1, d2, d3, d4, d5, d6] => { results := [.lit (.bool false)], args := [d1, d2, d3, d4, d5, d6] }
  | _ => none }
def GreatcirclePartsWrongFalsely : Prop := greatcirclePartsRow.holds Try.pinned (OpenSpec.ofChange greatcirclePartsWrong)

/-- 'almucantarlaw24.VectorsRight': WHATEVER THE INPUT: true; the input reads as it did. -/
def vectorsRightSpec : ChangeSpec := { name := "vectorsRight", fn := fun _ => fun
  | [d1, d2, d3, d4] => { results := [.lit (.bool true)], args := [d1, d2, d3, d4] }
  | _ => none }
def vectorsRightRow : OpenClaim := { program := "ytgmncdmcdgkodaa", sum := "f92774053e0f024aab68b40c0d28c1ec99c21d5f4e57325c5800742f50fb67c7", func := "almucantar/almucantarlaw24.VectorsRight", spec := "vectorsRight", inPlace := ["math/bits.Add64", "math/bits.Sub64"], recurses := true, named := ["math/bits.divideError", "math/bits.overflowError"], apart := false }
def VectorsRightSaid : Prop := vectorsRightRow.holds Try.pinned (OpenSpec.ofChange vectorsRightSpec)

/-- ITS FALSE NEIGHBOUR: 'it returns false'. Refute it at one input. -/
def vectorsRightWrong : ChangeSpec := { name := "vectorsRight", fn := fun _ => fun
  | [d1, d2, d3, d4] => { results := [.lit (.bool false)], args := [d1, d2, d3, d4] }
  | _ => none }
def VectorsRightWrongFalsely : Prop := vectorsRightRow.holds Try.pinned (OpenSpec.ofChange vectorsRightWrong)

/-- 'almucantarlaw45.CurrentComposes': WHATEVER THE INPUT: true; the input reads as it did. -/
def currentComposesSpec : ChangeSpec := { name := "currentComposes", fn := fun _ => fun
  | [d1, d2] => { results := [.lit (.bool true)], args := [d1, d2] }
  | _ => none }
def currentComposesRow : OpenClaim := { program := "ytgmncdmcdgkodaa", sum := "f92774053e0f024aab68b40c0d28c1ec99c21d5f4e57325c5800742f50fb67c7", func := "almucantar/almucantarlaw45.CurrentComposes", spec := "currentComposes", inPlace := ["math/bits.Add64", "math/bits.Sub64"], unfollowed := true, recurses := true, named := ["math/bits.divideError", "math/bits.overflowError"], apart := false }
def CurrentComposesSaid : Prop := currentComposesRow.holds Try.pinned (OpenSpec.ofChange currentComposesSpec)

/-- ITS FALSE NEIGHBOUR: 'it returns false'. Refute it at one input. -/
def currentComposesWrong : ChangeSpec := { name := "currentComposes", fn := fun _ => fun
  | [d1, d2] => { results := [.lit (.bool false)], args := [d1, d2] }
  | _ => none }
def CurrentComposesWrongFalsely : Prop := currentComposesRow.holds Try.pinned (OpenSpec.ofChange currentComposesWrong)

/-- 'almucantarlaw45.CurrentFinds': WHATEVER THE INPUT: true; the input reads as it did. -/
def currentFindsSpec : ChangeSpec := { name := "currentFinds", fn := fun _ => fun
  | [d1, d2] => { results := [.lit (.bool true)], args := [d1, d2] }
  | _ => none }
def currentFindsRow : OpenClaim := { program := "ytgmncdmcdgkodaa", sum := "f92774053e0f024aab68b40c0d28c1ec99c21d5f4e57325c5800742f50fb67c7", func := "almucantar/almucantarlaw45.CurrentFinds", spec := "currentFinds", inPlace := ["math/bits.Add64", "math/bits.Sub64"], unfollowed := true, recurses := true, named := ["math/bits.divideError", "math/bits.overflowError"], apart := false }
def CurrentFindsSaid : Prop := currentFindsRow.holds Try.pinned (OpenSpec.ofChange currentFindsSpec)

/-- ITS FALSE NEIGHBOUR: 'it returns false'. Refute it at one input. -/
def currentFindsWrong : ChangeSpec := { name := "currentFinds", fn := fun _ => fun
  | [d1, d2] => { results := [.lit (.bool false)], args := [d1, d2] }
  | _ => none }
def CurrentFindsWrongFalsely : Prop := currentFindsRow.holds Try.pinned (OpenSpec.ofChange currentFindsWrong)

/- THE SECOND FORM. 'bulk': how many values and letters a reading holds, each counted each time it is reached (what is shared counts as often as it is met; a slice's spare places count too). A statement '..UptoSaid' is the law's where the arguments, and the package variables that the reading takes, are together of bulk at most 1048576: NARROWER than '..Said'. Prove '..Said' where nothing that the law and all that it calls make is longer than what came in: it says more and counts as full. Else prove '..UptoSaid'. A law counts once. -/
mutual
def uptoBulk {H : Type} : DataW H → Nat
  | .lit (.string bytes) => bytes.length + 1
  | .lit _ => 1
  | .nil => 1
  | .ptr d => uptoBulk d + 1
  | .slice elems spare => uptoBulkAll elems + uptoBulkAll spare + 1
  | .agg parts => uptoBulkAll parts + 1
  | .iface _ d => uptoBulk d + 1
  | .map entries => uptoBulkEntries entries + 1
  | .held _ => 1
def uptoBulkAll {H : Type} : List (DataW H) → Nat
  | [] => 0
  | d :: r => uptoBulk d + uptoBulkAll r
def uptoBulkEntries {H : Type} : List (Lit × DataW H) → Nat
  | [] => 0
  | x :: r => uptoBulkEntry x + uptoBulkEntries r
def uptoBulkEntry {H : Type} : Lit × DataW H → Nat
  | (.string bytes, d) => bytes.length + uptoBulk d + 1
  | (_, d) => uptoBulk d + 1
 end
def uptoSmall : (H : Type) → List (DataW H) → Bool := fun _ ds => decide (uptoBulkAll ds ≤ 1048576)
def OpenSpec.upto (s : _root_.Go.ChangeSpec) : _root_.Go.OpenSpec := { _root_.Go.OpenSpec.ofChange s with cond := some uptoSmall }

/-- 'almucantarlaw25.CosineParts', WHERE WHAT IT READS IS OF BULK AT MOST 1048576: true; the input reads as it did. -/
def cosinePartsUptoRow : OpenClaim := { program := "ytgmncdmcdgkodaa", sum := "f92774053e0f024aab68b40c0d28c1ec99c21d5f4e57325c5800742f50fb67c7", func := "almucantar/almucantarlaw25.CosineParts", spec := "cosineParts", inPlace := ["math/bits.Add64", "math/bits.Sub64"], recurses := true, named := ["math/bits.divideError", "math/bits.overflowError"], apart := false, narrowed := true }
def CosinePartsUptoSaid : Prop := cosinePartsUptoRow.holds Try.pinned (OpenSpec.upto cosinePartsSpec)

/-- 'almucantarlaw25.CosineMeridian', WHERE WHAT IT READS IS OF BULK AT MOST 1048576: true; the input reads as it did. -/
def cosineMeridianUptoRow : OpenClaim := { program := "ytgmncdmcdgkodaa", sum := "f92774053e0f024aab68b40c0d28c1ec99c21d5f4e57325c5800742f50fb67c7", func := "almucantar/almucantarlaw25.CosineMeridian", spec := "cosineMeridian", inPlace := ["math/bits.Add64", "math/bits.Sub64"], recurses := true, named := ["math/bits.divideError", "math/bits.overflowError"], apart := false, narrowed := true }
def CosineMeridianUptoSaid : Prop := cosineMeridianUptoRow.holds Try.pinned (OpenSpec.upto cosineMeridianSpec)

/-- 'almucantarlaw45.CurrentInside', WHERE WHAT IT READS IS OF BULK AT MOST 1048576: true; the input reads as it did. -/
def currentInsideUptoRow : OpenClaim := { program := "ytgmncdmcdgkodaa", sum := "f92774053e0f024aab68b40c0d28c1ec99c21d5f4e57325c5800742f50fb67c7", func := "almucantar/almucantarlaw45.CurrentInside", spec := "currentInside", inPlace := ["math/bits.Add64", "math/bits.Sub64"], unfollowed := true, recurses := true, named := ["math/bits.divideError", "math/bits.overflowError"], apart := false, narrowed := true }
def CurrentInsideUptoSaid : Prop := currentInsideUptoRow.holds Try.pinned (OpenSpec.upto currentInsideSpec)

/-- 'almucantarlaw24.VectorsParts', WHERE WHAT IT READS IS OF BULK AT MOST 1048576: true; the input reads as it did. -/
def vectorsPartsUptoRow : OpenClaim := { program := "ytgmncdmcdgkodaa", sum := "f92774053e0f024aab68b40c0d28c1ec99c21d5f4e57325c5800742f50fb67c7", func := "almucantar/almucantarlaw24.VectorsParts", spec := "vectorsParts", inPlace := ["math/bits.Add64", "math/bits.Sub64"], recurses := true, named := ["math/bits.divideError", "math/bits.overflowError"], apart := false, narrowed := true }
def VectorsPartsUptoSaid : Prop := vectorsPartsUptoRow.holds Try.pinned (OpenSpec.upto vectorsPartsSpec)

/-- 'almucantarlaw42.GreatcircleParts', WHERE WHAT IT READS IS OF BULK AT MOST 1048576: true; the input reads as it did. -/
def greatcirclePartsUptoRow : OpenClaim := { program := "ytgmncdmcdgkodaa", sum := "f92774053e0f024aab68b40c0d28c1ec99c21d5f4e57325c5800742f50fb67c7", func := "almucantar/almucantarlaw42.GreatcircleParts", spec := "greatcircleParts", inPlace := ["math/bits.Add64", "math/bits.Sub64"], unfollowed := true, recurses := true, named := ["math/bits.divideError", "math/bits.overflowError"], apart := false, narrowed := true }
def GreatcirclePartsUptoSaid : Prop := greatcirclePartsUptoRow.holds Try.pinned (OpenSpec.upto greatcirclePartsSpec)

/-- 'almucantarlaw24.VectorsRight', WHERE WHAT IT READS IS OF BULK AT MOST 1048576: true; the input reads as it did. -/
def vectorsRightUptoRow : OpenClaim := { program := "ytgmncdmcdgkodaa", sum := "f92774053e0f024aab68b40c0d28c1ec99c21d5f4e57325c5800742f50fb67c7", func := "almucantar/almucantarlaw24.VectorsRight", spec := "vectorsRight", inPlace := ["math/bits.Add64", "math/bits.Sub64"], recurses := true, named := ["math/bits.divideError", "math/bits.overflowError"], apart := false, narrowed := true }
def VectorsRightUptoSaid : Prop := vectorsRightUptoRow.holds Try.pinned (OpenSpec.upto vectorsRightSpec)

/-- 'almucantarlaw45.CurrentComposes', WHERE WHAT IT READS IS OF BULK AT MOST 1048576: true; the input reads as it did. -/
def currentComposesUptoRow : OpenClaim := { program := "ytgmncdmcdgkodaa", sum := "f92774053e0f024aab68b40c0d28c1ec99c21d5f4e57325c5800742f50fb67c7", func := "almucantar/almucantarlaw45.CurrentComposes", spec := "currentComposes", inPlace := ["math/bits.Add64", "math/bits.Sub64"], unfollowed := true, recurses := true, named := ["math/bits.divideError", "math/bits.overflowError"], apart := false, narrowed := true }
def CurrentComposesUptoSaid : Prop := currentComposesUptoRow.holds Try.pinned (OpenSpec.upto currentComposesSpec)

/-- 'almucantarlaw45.CurrentFinds', WHERE WHAT IT READS IS OF BULK AT MOST 1048576: true; the input reads as it did. -/
def currentFindsUptoRow : OpenClaim := { program := "ytgmncdmcdgkodaa", sum := "f92774053e0f024aab68b40c0d28c1ec99c21d5f4e57325c5800742f50fb67c7", func := "almucantar/almucantarlaw45.CurrentFinds", spec := "currentFinds", inPlace := ["math/bits.Add64", "math/bits.Sub64"], unfollowed := true, recurses := true, named := ["math/bits.divideError", "math/bits.overflowError"], apart := false, narrowed := true }
def CurrentFindsUptoSaid : Prop := currentFindsUptoRow.holds Try.pinned (OpenSpec.upto currentFindsSpec)

end Rows
end Go.Proofs.Ytgmncdmcdgkodaa
