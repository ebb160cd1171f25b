/-
  No cell of these rows narrows 'for every input' (looked for: loops, veiled, ifaces, maps, wideKeys, modest, calm, conditions, laid).
  DERIVED. THE GIVEN ROWS OF THIS SEAT. 4 by the template 'for every input the law returns true; each argument reads behind the call as it read before'; 0 by the template 'total and deterministic' (their statements: YtlloiallkcfomaaGreatTotals.lean).
  GIVEN WITH THE SEED: the statements are not yours to turn. If you find one false, say at which input.
  Laid BY PROGRAM, IN A SANDBOX (cutbox-rows.mjs): the forced cells as the released guide's own fill.sh prints them over the translation a0b9a3b4e4291204… (all of the seat's roots in one cut). By AI agents, Wed Nov 11 2026. No macro, syntax, notation, axiom, sorry.
-/
import Derived.Test.YtlloiallkcfomaaGreatChecked
import GoSem.Claim
import GoSem.ClaimJoined
import GoSem.ClaimMapViews
import Derived.JoinedTies
import Derived.KernelRfl
namespace Go.Proofs.YtlloiallkcfomaaGreat
/- THE CELL 'sum', in the pinned program and in every row, IS THE sha256 OF THE DUMP (.gsa) THAT YtlloiallkcfomaaGreatProg.lean LOADS. Nothing in Lean hashes anything: it is a label: what it is worth is what the hold of that sum in a sandbox is worth. -/
noncomputable def Tryz.pinned : Pinned := { name := "ytlloiallkcfomaagreat", sum := "a0b9a3b4e4291204103d8b1cfe254ba57c6e84b252494ee2239b297fc2d92a82", checked := Tryz.checked }
namespace Rows
def none {H : Type} : Left H := { results := [], args := [] }

/-- 'almucantarlaw44.MidlatitudeParallels': WHATEVER THE INPUT: true; the input reads as it did. -/
def midlatitudeParallelsSpec : ChangeSpec := { name := "midlatitudeParallels", fn := fun _ => fun
  | [d1, d2] => { results := [.lit (.bool true)], args := [d1, d2] }
  | _ => none }
def midlatitudeParallelsRow : OpenClaim := { program := "ytlloiallkcfomaagreat", sum := "a0b9a3b4e4291204103d8b1cfe254ba57c6e84b252494ee2239b297fc2d92a82", func := "almucantar/almucantarlaw44.MidlatitudeParallels", spec := "midlatitudeParallels", inPlace := ["math/bits.Add64", "math/bits.Sub64"], unfollowed := true, recurses := true, named := ["math/bits.divideError", "math/bits.overflowError"], apart := false }
def MidlatitudeParallelsSaid : Prop := midlatitudeParallelsRow.holds Tryz.pinned (OpenSpec.ofChange midlatitudeParallelsSpec)

/-- ITS FALSE NEIGHBOUR: 'it returns false'. Refute it at one input. -/
def midlatitudeParallelsWrong : ChangeSpec := { name := "midlatitudeParallels", fn := fun _ => fun
  | [d1, d2] => { results := [.lit (.bool false)], args := [d1, d2] }
  | _ => none }
def MidlatitudeParallelsWrongFalsely : Prop := midlatitudeParallelsRow.holds Tryz.pinned (OpenSpec.ofChange midlatitudeParallelsWrong)

/-- 'almucantarlaw43.CompositePlans': WHATEVER THE INPUT: true; the input reads as it did. -/
def compositePlansSpec : ChangeSpec := { name := "compositePlans", fn := fun _ => fun
  | [d1, d2, d3] => { results := [.lit (.bool true)], args := [d1, d2, d3] }
  | _ => none }
def compositePlansRow : OpenClaim := { program := "ytlloiallkcfomaagreat", sum := "a0b9a3b4e4291204103d8b1cfe254ba57c6e84b252494ee2239b297fc2d92a82", func := "almucantar/almucantarlaw43.CompositePlans", spec := "compositePlans", inPlace := ["math/bits.Add64", "math/bits.Sub64"], unfollowed := true, recurses := true, named := ["math/bits.divideError", "math/bits.overflowError"], apart := false }
def CompositePlansSaid : Prop := compositePlansRow.holds Tryz.pinned (OpenSpec.ofChange compositePlansSpec)

/-- ITS FALSE NEIGHBOUR: 'it returns false'. Refute it at one input. -/
def compositePlansWrong : ChangeSpec := { name := "compositePlans", fn := fun _ => fun
  | [d1, d2, d3] => { results := [.lit (.bool false)], args := [d1, d2, d3] }
  | _ => none }
def CompositePlansWrongFalsely : Prop := compositePlansRow.holds Tryz.pinned (OpenSpec.ofChange compositePlansWrong)

/-- 'almucantarlaw24.VectorsOf': WHATEVER THE INPUT: true; the input reads as it did. -/
def vectorsOfSpec : ChangeSpec := { name := "vectorsOf", fn := fun _ => fun
  | [d1, d2, d3] => { results := [.lit (.bool true)], args := [d1, d2, d3] }
  | _ => none }
def vectorsOfRow : OpenClaim := { program := "ytlloiallkcfomaagreat", sum := "a0b9a3b4e4291204103d8b1cfe254ba57c6e84b252494ee2239b297fc2d92a82", func := "almucantar/almucantarlaw24.VectorsOf", spec := "vectorsOf", inPlace := ["math/bits.Add64", "math/bits.Sub64"], recurses := true, named := ["math/bits.divideError", "math/bits.overflowError"], apart := false }
def VectorsOfSaid : Prop := vectorsOfRow.holds Tryz.pinned (OpenSpec.ofChange vectorsOfSpec)

/-- ITS FALSE NEIGHBOUR: 'it returns false'. Refute it at one input. -/
def vectorsOfWrong : ChangeSpec := { name := "vectorsOf", fn := fun _ => fun
  | [d1, d2, d3] => { results := [.lit (.bool false)], args := [d1, d2, d3] }
  | _ => none }
def VectorsOfWrongFalsely : Prop := vectorsOfRow.holds Tryz.pinned (OpenSpec.ofChange vectorsOfWrong)

/-- 'almucantarlaw24.VectorsAngles': WHATEVER THE INPUT: true; the input reads as it did. -/
def vectorsAnglesSpec : ChangeSpec := { name := "vectorsAngles", fn := fun _ => fun
  | [d1, d2] => { results := [.lit (.bool true)], args := [d1, d2] }
  | _ => none }
def vectorsAnglesRow : OpenClaim := { program := "ytlloiallkcfomaagreat", sum := "a0b9a3b4e4291204103d8b1cfe254ba57c6e84b252494ee2239b297fc2d92a82", func := "almucantar/almucantarlaw24.VectorsAngles", spec := "vectorsAngles", inPlace := ["math/bits.Add64", "math/bits.Sub64"], recurses := true, named := ["math/bits.divideError", "math/bits.overflowError"], apart := false }
def VectorsAnglesSaid : Prop := vectorsAnglesRow.holds Tryz.pinned (OpenSpec.ofChange vectorsAnglesSpec)

/-- ITS FALSE NEIGHBOUR: 'it returns false'. Refute it at one input. -/
def vectorsAnglesWrong : ChangeSpec := { name := "vectorsAngles", fn := fun _ => fun
  | [d1, d2] => { results := [.lit (.bool false)], args := [d1, d2] }
  | _ => none }
def VectorsAnglesWrongFalsely : Prop := vectorsAnglesRow.holds Tryz.pinned (OpenSpec.ofChange vectorsAnglesWrong)

/- THE SECOND FORM. 'bulk': how many values and letters a reading holds, each counted each time it is reached (what is shared counts as often as it is met; a slice's spare places count too). A statement '..UptoSaid' is the law's where the arguments, and the package variables that the reading takes, are together of bulk at most 1048576: NARROWER than '..Said'. Prove '..Said' where nothing that the law and all that it calls make is longer than what came in: it says more and counts as full. Else prove '..UptoSaid'. A law counts once. -/
mutual
def uptoBulk {H : Type} : DataW H → Nat
  | .lit (.string bytes) => bytes.length + 1
  | .lit _ => 1
  | .nil => 1
  | .ptr d => uptoBulk d + 1
  | .slice elems spare => uptoBulkAll elems + uptoBulkAll spare + 1
  | .agg parts => uptoBulkAll parts + 1
  | .iface _ d => uptoBulk d + 1
  | .map entries => uptoBulkEntries entries + 1
  | .held _ => 1
def uptoBulkAll {H : Type} : List (DataW H) → Nat
  | [] => 0
  | d :: r => uptoBulk d + uptoBulkAll r
def uptoBulkEntries {H : Type} : List (Lit × DataW H) → Nat
  | [] => 0
  | x :: r => uptoBulkEntry x + uptoBulkEntries r
def uptoBulkEntry {H : Type} : Lit × DataW H → Nat
  | (.string bytes, d) => bytes.length + uptoBulk d + 1
  | (_, d) => uptoBulk d + 1
 end
def uptoSmall : (H : Type) → List (DataW H) → Bool := fun _ ds => decide (uptoBulkAll ds ≤ 1048576)
def OpenSpec.upto (s : _root_.Go.ChangeSpec) : _root_.Go.OpenSpec := { _root_.Go.OpenSpec.ofChange s with cond := some uptoSmall }

/-- 'almucantarlaw44.MidlatitudeParallels', WHERE WHAT IT READS IS OF BULK AT MOST 1048576: true; the input reads as it did. -/
def midlatitudeParallelsUptoRow : OpenClaim := { program := "ytlloiallkcfomaagreat", sum := "a0b9a3b4e4291204103d8b1cfe254ba57c6e84b252494ee2239b297fc2d92a82", func := "almucantar/almucantarlaw44.MidlatitudeParallels", spec := "midlatitudeParallels", inPlace := ["math/bits.Add64", "math/bits.Sub64"], unfollowed := true, recurses := true, named := ["math/bits.divideError", "math/bits.overflowError"], apart := false, narrowed := true }
def MidlatitudeParallelsUptoSaid : Prop := midlatitudeParallelsUptoRow.holds Tryz.pinned (OpenSpec.upto midlatitudeParallelsSpec)

/-- 'almucantarlaw43.CompositePlans', WHERE WHAT IT READS IS OF BULK AT MOST 1048576: true; the input reads as it did. -/
def compositePlansUptoRow : OpenClaim := { program := "ytlloiallkcfomaagreat", sum := "a0b9a3b4e4291204103d8b1cfe254ba57c6e84b252494ee2239b297fc2d92a82", func := "almucantar/almucantarlaw43.CompositePlans", spec := "compositePlans", inPlace := ["math/bits.Add64", "math/bits.Sub64"], unfollowed := true, recurses := true, named := ["math/bits.divideError", "math/bits.overflowError"], apart := false, narrowed := true }
def CompositePlansUptoSaid : Prop := compositePlansUptoRow.holds Tryz.pinned (OpenSpec.upto compositePlansSpec)

/-- 'almucantarlaw24.VectorsOf', WHERE WHAT IT READS IS OF BULK AT MOST 1048576: true; the input reads as it did. -/
def vectorsOfUptoRow : OpenClaim := { program := "ytlloiallkcfomaagreat", sum := "a0b9a3b4e4291204103d8b1cfe254ba57c6e84b252494ee2239b297fc2d92a82", func := "almucantar/almucantarlaw24.VectorsOf", spec := "vectorsOf", inPlace := ["math/bits.Add64", "math/bits.Sub64"], recurses := true, named := ["math/bits.divideError", "math/bits.overflowError"], apart := false, narrowed := true }
def VectorsOfUptoSaid : Prop := vectorsOfUptoRow.holds Tryz.pinned (OpenSpec.upto vectorsOfSpec)

/-- 'almucantarlaw24.VectorsAngles', WHERE WHAT IT READS IS OF BULK AT MOST 1048576: true; the input reads as it did. -/
def vectorsAnglesUptoRow : OpenClaim := { program := "ytlloiallkcfomaagreat", sum := "a0b9a3b4e4291204103d8b1cfe254ba57c6e84b252494ee2239b297fc2d92a82", func := "almucantar/almucantarlaw24.VectorsAngles", spec := "vectorsAngles", inPlace := ["math/bits.Add64", "math/bits.Sub64"], recurses := true, named := ["math/bits.divideError", "math/bits.overflowError"], apart := false, narrowed := true }
def VectorsAnglesUptoSaid : Prop := vectorsAnglesUptoRow.holds Tryz.pinned (OpenSpec.upto vectorsAnglesSpec)

end Rows
end Go.Proofs.YtlloiallkcfomaaGreat
