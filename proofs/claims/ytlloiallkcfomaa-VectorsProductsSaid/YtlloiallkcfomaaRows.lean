/-
  No cell of these rows narrows 'for every input' (looked for: loops, veiled, ifaces, maps, wideKeys, modest, calm, conditions, laid).
  DERIVED. THE GIVEN ROWS OF THIS SEAT. 8 by the template 'for every input the law returns true; each argument reads behind the call as it read before'; 0 by the template 'total and deterministic' (their statements: YtlloiallkcfomaaTotals.lean).
  GIVEN WITH THE SEED: the statements are not yours to turn. If you find one false, say at which input.
  Laid BY PROGRAM, IN A SANDBOX (cutbox-rows.mjs): the forced cells as the released guide's own fill.sh prints them over the translation d7f5da294fa3b04a… (all of the seat's roots in one cut). By AI agents, Wed Nov 11 2026. No macro, syntax, notation, axiom, sorry.
-/
import Derived.Test.YtlloiallkcfomaaChecked
import GoSem.Claim
import GoSem.ClaimJoined
import GoSem.ClaimMapViews
import Derived.JoinedTies
import Derived.KernelRfl
namespace Go.Proofs.Ytlloiallkcfomaa
/- THE CELL 'sum', in the pinned program and in every row, IS THE sha256 OF THE DUMP (.gsa) THAT YtlloiallkcfomaaProg.lean LOADS. Nothing in Lean hashes anything: it is a label: what it is worth is what the hold of that sum in a sandbox is worth. -/
noncomputable def Try.pinned : Pinned := { name := "ytlloiallkcfomaa", sum := "d7f5da294fa3b04a33511f3c907041d28e06b974c9b1048f796049c9278f82a6", checked := Try.checked }
namespace Rows
def none {H : Type} : Left H := { results := [], args := [] }

/-- 'almucantarlaw43.CompositeBack': WHATEVER THE INPUT: true; the input reads as it did. -/
def compositeBackSpec : ChangeSpec := { name := "compositeBack", fn := fun _ => fun
  | [d1, d2, d3] => { results := [.lit (.bool true)], args := [d1, d2, d3] }
  | _ => none }
def compositeBackRow : OpenClaim := { program := "ytlloiallkcfomaa", sum := "d7f5da294fa3b04a33511f3c907041d28e06b974c9b1048f796049c9278f82a6", func := "almucantar/almucantarlaw43.CompositeBack", spec := "compositeBack", inPlace := ["math/bits.Add64", "math/bits.Sub64"], unfollowed := true, recurses := true, named := ["math/bits.divideError", "math/bits.overflowError"], apart := false }
def CompositeBackSaid : Prop := compositeBackRow.holds Try.pinned (OpenSpec.ofChange compositeBackSpec)

/-- ITS FALSE NEIGHBOUR: 'it returns false'. Refute it at one input. -/
def compositeBackWrong : ChangeSpec := { name := "compositeBack", fn := fun _ => fun
  | [d1, d2, d3] => { results := [.lit (.bool false)], args := [d1, d2, d3] }
  | _ => none }
def CompositeBackWrongFalsely : Prop := compositeBackRow.holds Try.pinned (OpenSpec.ofChange compositeBackWrong)

/-- 'almucantarlaw44.MidlatitudeSums': WHATEVER THE INPUT: true; the input reads as it did. -/
def midlatitudeSumsSpec : ChangeSpec := { name := "midlatitudeSums", fn := fun _ => fun
  | [d1, d2] => { results := [.lit (.bool true)], args := [d1, d2] }
  | _ => none }
def midlatitudeSumsRow : OpenClaim := { program := "ytlloiallkcfomaa", sum := "d7f5da294fa3b04a33511f3c907041d28e06b974c9b1048f796049c9278f82a6", func := "almucantar/almucantarlaw44.MidlatitudeSums", spec := "midlatitudeSums", inPlace := ["math/bits.Add64", "math/bits.Sub64"], unfollowed := true, recurses := true, named := ["math/bits.divideError", "math/bits.overflowError"], apart := false }
def MidlatitudeSumsSaid : Prop := midlatitudeSumsRow.holds Try.pinned (OpenSpec.ofChange midlatitudeSumsSpec)

/-- ITS FALSE NEIGHBOUR: 'it returns false'. Refute it at one input. -/
def midlatitudeSumsWrong : ChangeSpec := { name := "midlatitudeSums", fn := fun _ => fun
  | [d1, d2] => { results := [.lit (.bool false)], args := [d1, d2] }
  | _ => none }
def MidlatitudeSumsWrongFalsely : Prop := midlatitudeSumsRow.holds Try.pinned (OpenSpec.ofChange midlatitudeSumsWrong)

/-- 'almucantarlaw24.VectorsTurned': WHATEVER THE INPUT: true; the input reads as it did. -/
def vectorsTurnedSpec : ChangeSpec := { name := "vectorsTurned", fn := fun _ => fun
  | [d1, d2, d3, d4, d5] => { results := [.lit (.bool true)], args := [d1, d2, d3, d4, d5] }
  | _ => none }
def vectorsTurnedRow : OpenClaim := { program := "ytlloiallkcfomaa", sum := "d7f5da294fa3b04a33511f3c907041d28e06b974c9b1048f796049c9278f82a6", func := "almucantar/almucantarlaw24.VectorsTurned", spec := "vectorsTurned", inPlace := ["math/bits.Add64", "math/bits.Sub64"], recurses := true, named := ["math/bits.divideError", "math/bits.overflowError"], apart := false }
def VectorsTurnedSaid : Prop := vectorsTurnedRow.holds Try.pinned (OpenSpec.ofChange vectorsTurnedSpec)

/-- ITS FALSE NEIGHBOUR: 'it returns false'. Refute it at one input. -/
def vectorsTurnedWrong : ChangeSpec := { name := "vectorsTurned", fn := fun _ => fun
  | [d1, d2, d3, d4, d5] => { results := [.lit (.bool false)], args := [d1, d2, d3, d4, d5] }
  | _ => none }
def VectorsTurnedWrongFalsely : Prop := vectorsTurnedRow.holds Try.pinned (OpenSpec.ofChange vectorsTurnedWrong)

/-- 'almucantarlaw24.VectorsProducts': WHATEVER THE INPUT: true; the input reads as it did. -/
def vectorsProductsSpec : ChangeSpec := { name := "vectorsProducts", fn := fun _ => fun
  | [d1, d2] => { results := [.lit (.bool true)], args := [d1, d2] }
  | _ => none }
def vectorsProductsRow : OpenClaim := { program := "ytlloiallkcfomaa", sum := "d7f5da294fa3b04a33511f3c907041d28e06b974c9b1048f796049c9278f82a6", func := "almucantar/almucantarlaw24.VectorsProducts", spec := "vectorsProducts", inPlace := ["math/bits.Add64", "math/bits.Sub64"], recurses := true, named := ["math/bits.divideError", "math/bits.overflowError"], apart := false }
def VectorsProductsSaid : Prop := vectorsProductsRow.holds Try.pinned (OpenSpec.ofChange vectorsProductsSpec)

/-- ITS FALSE NEIGHBOUR: 'it returns false'. Refute it at one input. -/
def vectorsProductsWrong : ChangeSpec := { name := "vectorsProducts", fn := fun _ => fun
  | [d1, d2] => { results := [.lit (.bool false)], args := [d1, d2] }
  | _ => none }
def VectorsProductsWrongFalsely : Prop := vectorsProductsRow.holds Try.pinned (OpenSpec.ofChange vectorsProductsWrong)

/-- 'almucantarlaw24.VectorsRight': WHATEVER THE INPUT: true; the input reads as it did. -/
def vectorsRightSpec : ChangeSpec := { name := "vectorsRight", fn := fun _ => fun
  | [d1, d2, d3, d4] => { results := [.lit (.bool true)], args := [d1, d2, d3, d4] }
  | _ => none }
def vectorsRightRow : OpenClaim := { program := "ytlloiallkcfomaa", sum := "d7f5da294fa3b04a33511f3c907041d28e06b974c9b1048f796049c9278f82a6", func := "almucantar/almucantarlaw24.VectorsRight", spec := "vectorsRight", inPlace := ["math/bits.Add64", "math/bits.Sub64"], recurses := true, named := ["math/bits.divideError", "math/bits.overflowError"], apart := false }
def VectorsRightSaid : Prop := vectorsRightRow.holds Try.pinned (OpenSpec.ofChange vectorsRightSpec)

/-- ITS FALSE NEIGHBOUR: 'it returns false'. Refute it at one input. -/
def vectorsRightWrong : ChangeSpec := { name := "vectorsRight", fn := fun _ => fun
  | [d1, d2, d3, d4] => { results := [.lit (.bool false)], args := [d1, d2, d3, d4] }
  | _ => none }
def VectorsRightWrongFalsely : Prop := vectorsRightRow.holds Try.pinned (OpenSpec.ofChange vectorsRightWrong)

/-- 'almucantarlaw24.VectorsParts': WHATEVER THE INPUT: true; the input reads as it did. -/
def vectorsPartsSpec : ChangeSpec := { name := "vectorsParts", fn := fun _ => fun
  | [d1, d2, d3, d4, d5, d6] => { results := [.lit (.bool true)], args := [d1, d2, d3, d4, d5, d6] }
  | _ => none }
def vectorsPartsRow : OpenClaim := { program := "ytlloiallkcfomaa", sum := "d7f5da294fa3b04a33511f3c907041d28e06b974c9b1048f796049c9278f82a6", func := "almucantar/almucantarlaw24.VectorsParts", spec := "vectorsParts", inPlace := ["math/bits.Add64", "math/bits.Sub64"], recurses := true, named := ["math/bits.divideError", "math/bits.overflowError"], apart := false }
def VectorsPartsSaid : Prop := vectorsPartsRow.holds Try.pinned (OpenSpec.ofChange vectorsPartsSpec)

/-- ITS FALSE NEIGHBOUR: 'it returns false'. Refute it at one input. -/
def vectorsPartsWrong : ChangeSpec := { name := "vectorsParts", fn := fun _ => fun
  | [d1, d2, d3, d4, d5, d6] => { results := [.lit (.bool false)], args := [d1, d2, d3, d4, d5, d6] }
  | _ => none }
def VectorsPartsWrongFalsely : Prop := vectorsPartsRow.holds Try.pinned (OpenSpec.ofChange vectorsPartsWrong)

/-- 'almucantarlaw42.GreatcircleTriangle': WHATEVER THE INPUT: true; the input reads as it did. -/
def greatcircleTriangleSpec : ChangeSpec := { name := "greatcircleTriangle", fn := fun _ => fun
  | [d1, d2, d3] => { results := [.lit (.bool true)], args := [d1, d2, d3] }
  | _ => none }
def greatcircleTriangleRow : OpenClaim := { program := "ytlloiallkcfomaa", sum := "d7f5da294fa3b04a33511f3c907041d28e06b974c9b1048f796049c9278f82a6", func := "almucantar/almucantarlaw42.GreatcircleTriangle", spec := "greatcircleTriangle", inPlace := ["math/bits.Add64", "math/bits.Sub64"], recurses := true, named := ["math/bits.divideError", "math/bits.overflowError"], apart := false }
def GreatcircleTriangleSaid : Prop := greatcircleTriangleRow.holds Try.pinned (OpenSpec.ofChange greatcircleTriangleSpec)

/-- ITS FALSE NEIGHBOUR: 'it returns false'. Refute it at one input. -/
def greatcircleTriangleWrong : ChangeSpec := { name := "greatcircleTriangle", fn := fun _ => fun
  | [d1, d2, d3] => { results := [.lit (.bool false)], args := [d1, d2, d3] }
  | _ => none }
def GreatcircleTriangleWrongFalsely : Prop := greatcircleTriangleRow.holds Try.pinned (OpenSpec.ofChange greatcircleTriangleWrong)

/-- 'almucantarlaw24.VectorsBack': WHATEVER THE INPUT: true; the input reads as it did. -/
def vectorsBackSpec : ChangeSpec := { name := "vectorsBack", fn := fun _ => fun
  | [d] => { results := [.lit (.bool true)], args := [d] }
  | _ => none }
def vectorsBackRow : OpenClaim := { program := "ytlloiallkcfomaa", sum := "d7f5da294fa3b04a33511f3c907041d28e06b974c9b1048f796049c9278f82a6", func := "almucantar/almucantarlaw24.VectorsBack", spec := "vectorsBack", inPlace := ["math/bits.Add64", "math/bits.Sub64"], recurses := true, named := ["math/bits.divideError", "math/bits.overflowError"], apart := false }
def VectorsBackSaid : Prop := vectorsBackRow.holds Try.pinned (OpenSpec.ofChange vectorsBackSpec)

/-- ITS FALSE NEIGHBOUR: 'it returns false'. Refute it at one input. -/
def vectorsBackWrong : ChangeSpec := { name := "vectorsBack", fn := fun _ => fun
  | [d] => { results := [.lit (.bool false)], args := [d] }
  | _ => none }
def VectorsBackWrongFalsely : Prop := vectorsBackRow.holds Try.pinned (OpenSpec.ofChange vectorsBackWrong)

/- THE SECOND FORM. 'bulk': how many values and letters a reading holds, each counted each time it is reached (what is shared counts as often as it is met; a slice's spare places count too). A statement '..UptoSaid' is the law's where the arguments, and the package variables that the reading takes, are together of bulk at most 1048576: NARROWER than '..Said'. Prove '..Said' where nothing that the law and all that it calls make is longer than what came in: it says more and counts as full. Else prove '..UptoSaid'. A law counts once. -/
mutual
def uptoBulk {H : Type} : DataW H → Nat
  | .lit (.string bytes) => bytes.length + 1
  | .lit _ => 1
  | .nil => 1
  | .ptr d => uptoBulk d + 1
  | .slice elems spare => uptoBulkAll elems + uptoBulkAll spare + 1
  | .agg parts => uptoBulkAll parts + 1
  | .iface _ d => uptoBulk d + 1
  | .map entries => uptoBulkEntries entries + 1
  | .held _ => 1
def uptoBulkAll {H : Type} : List (DataW H) → Nat
  | [] => 0
  | d :: r => uptoBulk d + uptoBulkAll r
def uptoBulkEntries {H : Type} : List (Lit × DataW H) → Nat
  | [] => 0
  | x :: r => uptoBulkEntry x + uptoBulkEntries r
def uptoBulkEntry {H : Type} : Lit × DataW H → Nat
  | (.string bytes, d) => bytes.length + uptoBulk d + 1
  | (_, d) => uptoBulk d + 1
 end
def uptoSmall : (H : Type) → List (DataW H) → Bool := fun _ ds => decide (uptoBulkAll ds ≤ 1048576)
def OpenSpec.upto (s : _root_.Go.ChangeSpec) : _root_.Go.OpenSpec := { _root_.Go.OpenSpec.ofChange s with cond := some uptoSmall }

/-- 'almucantarlaw43.CompositeBack', WHERE WHAT IT READS IS OF BULK AT MOST 1048576: true; the input reads as it did. -/
def compositeBackUptoRow : OpenClaim := { program := "ytlloiallkcfomaa", sum := "d7f5da294fa3b04a33511f3c907041d28e06b974c9b1048f796049c9278f82a6", func := "almucantar/almucantarlaw43.CompositeBack", spec := "compositeBack", inPlace := ["math/bits.Add64", "math/bits.Sub64"], unfollowed := true, recurses := true, named := ["math/bits.divideError", "math/bits.overflowError"], apart := false, narrowed := true }
def CompositeBackUptoSaid : Prop := compositeBackUptoRow.holds Try.pinned (OpenSpec.upto compositeBackSpec)

/-- 'almucantarlaw44.MidlatitudeSums', WHERE WHAT IT READS IS OF BULK AT MOST 1048576: true; the input reads as it did. -/
def midlatitudeSumsUptoRow : OpenClaim := { program := "ytlloiallkcfomaa", sum := "d7f5da294fa3b04a33511f3c907041d28e06b974c9b1048f796049c9278f82a6", func := "almucantar/almucantarlaw44.MidlatitudeSums", spec := "midlatitudeSums", inPlace := ["math/bits.Add64", "math/bits.Sub64"], unfollowed := true, recurses := true, named := ["math/bits.divideError", "math/bits.overflowError"], apart := false, narrowed := true }
def MidlatitudeSumsUptoSaid : Prop := midlatitudeSumsUptoRow.holds Try.pinned (OpenSpec.upto midlatitudeSumsSpec)

/-- 'almucantarlaw24.VectorsTurned', WHERE WHAT IT READS IS OF BULK AT MOST 1048576: true; the input reads as it did. -/
def vectorsTurnedUptoRow : OpenClaim := { program := "ytlloiallkcfomaa", sum := "d7f5da294fa3b04a33511f3c907041d28e06b974c9b1048f796049c9278f82a6", func := "almucantar/almucantarlaw24.VectorsTurned", spec := "vectorsTurned", inPlace := ["math/bits.Add64", "math/bits.Sub64"], recurses := true, named := ["math/bits.divideError", "math/bits.overflowError"], apart := false, narrowed := true }
def VectorsTurnedUptoSaid : Prop := vectorsTurnedUptoRow.holds Try.pinned (OpenSpec.upto vectorsTurnedSpec)

/-- 'almucantarlaw24.VectorsProducts', WHERE WHAT IT READS IS OF BULK AT MOST 1048576: true; the input reads as it did. -/
def vectorsProductsUptoRow : OpenClaim := { program := "ytlloiallkcfomaa", sum := "d7f5da294fa3b04a33511f3c907041d28e06b974c9b1048f796049c9278f82a6", func := "almucantar/almucantarlaw24.VectorsProducts", spec := "vectorsProducts", inPlace := ["math/bits.Add64", "math/bits.Sub64"], recurses := true, named := ["math/bits.divideError", "math/bits.overflowError"], apart := false, narrowed := true }
def VectorsProductsUptoSaid : Prop := vectorsProductsUptoRow.holds Try.pinned (OpenSpec.upto vectorsProductsSpec)

/-- 'almucantarlaw24.VectorsRight', WHERE WHAT IT READS IS OF BULK AT MOST 1048576: true; the input reads as it did. -/
def vectorsRightUptoRow : OpenClaim := { program := "ytlloiallkcfomaa", sum := "d7f5da294fa3b04a33511f3c907041d28e06b974c9b1048f796049c9278f82a6", func := "almucantar/almucantarlaw24.VectorsRight", spec := "vectorsRight", inPlace := ["math/bits.Add64", "math/bits.Sub64"], recurses := true, named := ["math/bits.divideError", "math/bits.overflowError"], apart := false, narrowed := true }
def VectorsRightUptoSaid : Prop := vectorsRightUptoRow.holds Try.pinned (OpenSpec.upto vectorsRightSpec)

/-- 'almucantarlaw24.VectorsParts', WHERE WHAT IT READS IS OF BULK AT MOST 1048576: true; the input reads as it did. -/
def vectorsPartsUptoRow : OpenClaim := { program := "ytlloiallkcfomaa", sum := "d7f5da294fa3b04a33511f3c907041d28e06b974c9b1048f796049c9278f82a6", func := "almucantar/almucantarlaw24.VectorsParts", spec := "vectorsParts", inPlace := ["math/bits.Add64", "math/bits.Sub64"], recurses := true, named := ["math/bits.divideError", "math/bits.overflowError"], apart := false, narrowed := true }
def VectorsPartsUptoSaid : Prop := vectorsPartsUptoRow.holds Try.pinned (OpenSpec.upto vectorsPartsSpec)

/-- 'almucantarlaw42.GreatcircleTriangle', WHERE WHAT IT READS IS OF BULK AT MOST 1048576: true; the input reads as it did. -/
def greatcircleTriangleUptoRow : OpenClaim := { program := "ytlloiallkcfomaa", sum := "d7f5da294fa3b04a33511f3c907041d28e06b974c9b1048f796049c9278f82a6", func := "almucantar/almucantarlaw42.GreatcircleTriangle", spec := "greatcircleTriangle", inPlace := ["math/bits.Add64", "math/bits.Sub64"], recurses := true, named := ["math/bits.divideError", "math/bits.overflowError"], apart := false, narrowed := true }
def GreatcircleTriangleUptoSaid : Prop := greatcircleTriangleUptoRow.holds Try.pinned (OpenSpec.upto greatcircleTriangleSpec)

/-- 'almucantarlaw24.VectorsBack', WHERE WHAT IT READS IS OF BULK AT MOST 1048576: true; the input reads as it did. -/
def vectorsBackUptoRow : OpenClaim := { program := "ytlloiallkcfomaa", sum := "d7f5da294fa3b04a33511f3c907041d28e06b974c9b1048f796049c9278f82a6", func := "almucantar/almucantarlaw24.VectorsBack", spec := "vectorsBack", inPlace := ["math/bits.Add64", "math/bits.Sub64"], recurses := true, named := ["math/bits.divideError", "math/bits.overflowError"], apart := false, narrowed := true }
def VectorsBackUptoSaid : Prop := vectorsBackUptoRow.holds Try.pinned (OpenSpec.upto vectorsBackSpec)

end Rows
end Go.Proofs.Ytlloiallkcfomaa
