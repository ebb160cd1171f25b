/-
  No cell of these rows narrows 'for every input' (looked for: loops, veiled, ifaces, maps, wideKeys, modest, calm, conditions, laid).
  DERIVED. THE GIVEN ROWS OF THIS SEAT. 2 by the template 'for every input the law returns true; each argument reads behind the call as it read before'; 0 by the template 'total and deterministic' (their statements: YtbdlccacamalpaaTotals.lean).
  GIVEN WITH THE SEED: the statements are not yours to turn. If you find one false, say at which input.
  Laid BY PROGRAM, IN A SANDBOX (cutbox-rows.mjs): the forced cells as the released guide's own fill.sh prints them over the translation 727651931da83616… (all of the seat's roots in one cut). By AI agents, Wed Nov 11 2026. No macro, syntax, notation, axiom, sorry.
-/
import Derived.Test.YtbdlccacamalpaaChecked
import GoSem.Claim
import GoSem.ClaimJoined
import GoSem.ClaimMapViews
import Derived.JoinedTies
import Derived.KernelRfl
namespace Go.Proofs.Ytbdlccacamalpaa
/- THE CELL 'sum', in the pinned program and in every row, IS THE sha256 OF THE DUMP (.gsa) THAT YtbdlccacamalpaaProg.lean LOADS. Nothing in Lean hashes anything: it is a label: what it is worth is what the hold of that sum in a sandbox is worth. -/
noncomputable def Try.pinned : Pinned := { name := "ytbdlccacamalpaa", sum := "727651931da83616f2ebb9cf977abb2dd738ee68bb0bcaa9912b7aa3bb3a82c5", checked := Try.checked }
namespace Rows
def none {H : Type} : Left H := { results := [], args := [] }

/-- 'almucantarlaw24.VectorsTurned': WHATEVER THE INPUT: true; the input reads as it did. -/
def vectorsTurnedSpec : ChangeSpec := { name := "vectorsTurned", fn := fun _ => fun
  | [d1, d2, d3, d4, d5] => { results := [.lit (.bool true)], args := [d1, d2, d3, d4, d5] }
  | _ => none }
def vectorsTurnedRow : OpenClaim := { program := "ytbdlccacamalpaa", sum := "727651931da83616f2ebb9cf977abb2dd738ee68bb0bcaa9912b7aa3bb3a82c5", func := "almucantar/almucantarlaw24.VectorsTurned", spec := "vectorsTurned", inPlace := ["math/bits.Add64", "math/bits.Sub64"], recurses := true, named := ["math/bits.divideError", "math/bits.overflowError"], apart := false }
def VectorsTurnedSaid : Prop := vectorsTurnedRow.holds Try.pinned (OpenSpec.ofChange vectorsTurnedSpec)

/-- ITS FALSE NEIGHBOUR: 'it returns false'. Refute it at one input. -/
def vectorsTurnedWrong : ChangeSpec := { name := "vectorsTurned", fn := fun _ => fun
  | [d1, d2, d3, d4, d5] => { results := [.lit (.bool false)], args := [d1, d2, d3, d4, d5] }
  | _ => none }
def VectorsTurnedWrongFalsely : Prop := vectorsTurnedRow.holds Try.pinned (OpenSpec.ofChange vectorsTurnedWrong)

/-- 'almucantarlaw24.VectorsBack': WHATEVER THE INPUT: true; the input reads as it did. -/
def vectorsBackSpec : ChangeSpec := { name := "vectorsBack", fn := fun _ => fun
  | [d] => { results := [.lit (.bool true)], args := [d] }
  | _ => none }
def vectorsBackRow : OpenClaim := { program := "ytbdlccacamalpaa", sum := "727651931da83616f2ebb9cf977abb2dd738ee68bb0bcaa9912b7aa3bb3a82c5", func := "almucantar/almucantarlaw24.VectorsBack", spec := "vectorsBack", inPlace := ["math/bits.Add64", "math/bits.Sub64"], recurses := true, named := ["math/bits.divideError", "math/bits.overflowError"], apart := false }
def VectorsBackSaid : Prop := vectorsBackRow.holds Try.pinned (OpenSpec.ofChange vectorsBackSpec)

/-- ITS FALSE NEIGHBOUR: 'it returns false'. Refute it at one input. -/
def vectorsBackWrong : ChangeSpec := { name := "vectorsBack", fn := fun _ => fun
  | [d] => { results := [.lit (.bool false)], args := [d] }
  | _ => none }
def VectorsBackWrongFalsely : Prop := vectorsBackRow.holds Try.pinned (OpenSpec.ofChange vectorsBackWrong)

/- THE SECOND FORM. 'bulk': how many values and letters a reading holds, each counted each time it is reached (what is shared counts as often as it is met; a slice's spare places count too). A statement '..UptoSaid' is the law's where the arguments, and the package variables that the reading takes, are together of bulk at most 1048576: NARROWER than '..Said'. Prove '..Said' where nothing that the law and all that it calls make is longer than what came in: it says more and counts as full. Else prove '..UptoSaid'. A law counts once. -/
mutual
def uptoBulk {H : Type} : DataW H → Nat
  | .lit (.string bytes) => bytes.length + 1
  | .lit _ => 1
  | .nil => 1
  | .ptr d => uptoBulk d + 1
  | .slice elems spare => uptoBulkAll elems + uptoBulkAll spare + 1
  | .agg parts => uptoBulkAll parts + 1
  | .iface _ d => uptoBulk d + 1
  | .map entries => uptoBulkEntries entries + 1
  | .held _ => 1
def uptoBulkAll {H : Type} : List (DataW H) → Nat
  | [] => 0
  | d :: r => uptoBulk d + uptoBulkAll r
def uptoBulkEntries {H : Type} : List (Lit × DataW H) → Nat
  | [] => 0
  | x :: r => uptoBulkEntry x + uptoBulkEntries r
def uptoBulkEntry {H : Type} : Lit × DataW H → Nat
  | (.string bytes, d) => bytes.length + uptoBulk d + 1
  | (_, d) => uptoBulk d + 1
 end
def uptoSmall : (H : Type) → List (DataW H) → Bool := fun _ ds => decide (uptoBulkAll ds ≤ 1048576)
def OpenSpec.upto (s : _root_.Go.ChangeSpec) : _root_.Go.OpenSpec := { _root_.Go.OpenSpec.ofChange s with cond := some uptoSmall }

/-- 'almucantarlaw24.VectorsTurned', WHERE WHAT IT READS IS OF BULK AT MOST 1048576: true; the input reads as it did. -/
def vectorsTurnedUptoRow : OpenClaim := { program := "ytbdlccacamalpaa", sum := "727651931da83616f2ebb9cf977abb2dd738ee68bb0bcaa9912b7aa3bb3a82c5", func := "almucantar/almucantarlaw24.VectorsTurned", spec := "vectorsTurned", inPlace := ["math/bits.Add64", "math/bits.Sub64"], recurses := true, named := ["math/bits.divideError", "math/bits.overflowError"], apart := false, narrowed := true }
def VectorsTurnedUptoSaid : Prop := vectorsTurnedUptoRow.holds Try.pinned (OpenSpec.upto vectorsTurnedSpec)

/-- 'almucantarlaw24.VectorsBack', WHERE WHAT IT READS IS OF BULK AT MOST 1048576: true; the input reads as it did. -/
def vectorsBackUptoRow : OpenClaim := { program := "ytbdlccacamalpaa", sum := "727651931da83616f2ebb9cf977abb2dd738ee68bb0bcaa9912b7aa3bb3a82c5", func := "almucantar/almucantarlaw24.VectorsBack", spec := "vectorsBack", inPlace := ["math/bits.Add64", "math/bits.Sub64"], recurses := true, named := ["math/bits.divideError", "math/bits.overflowError"], apart := false, narrowed := true }
def VectorsBackUptoSaid : Prop := vectorsBackUptoRow.holds Try.pinned (OpenSpec.upto vectorsBackSpec)

end Rows
end Go.Proofs.Ytbdlccacamalpaa
