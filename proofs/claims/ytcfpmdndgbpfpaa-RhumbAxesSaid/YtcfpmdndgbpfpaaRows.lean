/-
  No cell of these rows narrows 'for every input' (looked for: loops, veiled, ifaces, maps, wideKeys, modest, calm, conditions, laid).
  DERIVED. THE GIVEN ROWS OF THIS SEAT. 3 by the template 'for every input the law returns true; each argument reads behind the call as it read before'; 0 by the template 'total and deterministic' (their statements: YtcfpmdndgbpfpaaTotals.lean).
  GIVEN WITH THE SEED: the statements are not yours to turn. If you find one false, say at which input.
  Laid BY PROGRAM, IN A SANDBOX (cutbox-rows.mjs): the forced cells as the released guide's own fill.sh prints them over the translation b9f1eeb7267d5468… (all of the seat's roots in one cut). By AI agents, Wed Nov 11 2026. No macro, syntax, notation, axiom, sorry.
-/
import Derived.Test.YtcfpmdndgbpfpaaChecked
import GoSem.Claim
import GoSem.ClaimJoined
import GoSem.ClaimMapViews
import Derived.JoinedTies
import Derived.KernelRfl
namespace Go.Proofs.Ytcfpmdndgbpfpaa
/- THE CELL 'sum', in the pinned program and in every row, IS THE sha256 OF THE DUMP (.gsa) THAT YtcfpmdndgbpfpaaProg.lean LOADS. Nothing in Lean hashes anything: it is a label: what it is worth is what the hold of that sum in a sandbox is worth. -/
noncomputable def Try.pinned : Pinned := { name := "ytcfpmdndgbpfpaa", sum := "b9f1eeb7267d5468e7329dc9d06017460e99950f62f206d9f8d8d078b561be2e", checked := Try.checked }
namespace Rows
def none {H : Type} : Left H := { results := [], args := [] }

/-- 'almucantarlaw41.RhumbAscends': WHATEVER THE INPUT: true; the input reads as it did. -/
def rhumbAscendsSpec : ChangeSpec := { name := "rhumbAscends", fn := fun _ => fun
  | [d1, d2] => { results := [.lit (.bool true)], args := [d1, d2] }
  | _ => none }
def rhumbAscendsRow : OpenClaim := { program := "ytcfpmdndgbpfpaa", sum := "b9f1eeb7267d5468e7329dc9d06017460e99950f62f206d9f8d8d078b561be2e", func := "almucantar/almucantarlaw41.RhumbAscends", spec := "rhumbAscends", inPlace := ["math/bits.Add64", "math/bits.Sub64"], recurses := true, named := ["math/bits.divideError", "math/bits.overflowError"], apart := false }
def RhumbAscendsSaid : Prop := rhumbAscendsRow.holds Try.pinned (OpenSpec.ofChange rhumbAscendsSpec)

/-- ITS FALSE NEIGHBOUR: 'it returns false'. Refute it at one input. -/
def rhumbAscendsWrong : ChangeSpec := { name := "rhumbAscends", fn := fun _ => fun
  | [d1, d2] => { results := [.lit (.bool false)], args := [d1, d2] }
  | _ => none }
def RhumbAscendsWrongFalsely : Prop := rhumbAscendsRow.holds Try.pinned (OpenSpec.ofChange rhumbAscendsWrong)

/-- 'almucantarlaw41.RhumbAxes': WHATEVER THE INPUT: true; the input reads as it did. -/
def rhumbAxesSpec : ChangeSpec := { name := "rhumbAxes", fn := fun _ => fun
  | [d1, d2] => { results := [.lit (.bool true)], args := [d1, d2] }
  | _ => none }
def rhumbAxesRow : OpenClaim := { program := "ytcfpmdndgbpfpaa", sum := "b9f1eeb7267d5468e7329dc9d06017460e99950f62f206d9f8d8d078b561be2e", func := "almucantar/almucantarlaw41.RhumbAxes", spec := "rhumbAxes", inPlace := ["math/bits.Add64", "math/bits.Sub64"], unfollowed := true, recurses := true, named := ["math/bits.divideError", "math/bits.overflowError"], apart := false }
def RhumbAxesSaid : Prop := rhumbAxesRow.holds Try.pinned (OpenSpec.ofChange rhumbAxesSpec)

/-- ITS FALSE NEIGHBOUR: 'it returns false'. Refute it at one input. -/
def rhumbAxesWrong : ChangeSpec := { name := "rhumbAxes", fn := fun _ => fun
  | [d1, d2] => { results := [.lit (.bool false)], args := [d1, d2] }
  | _ => none }
def RhumbAxesWrongFalsely : Prop := rhumbAxesRow.holds Try.pinned (OpenSpec.ofChange rhumbAxesWrong)

/-- 'almucantarlaw41.RhumbBack': WHATEVER THE INPUT: true; the input reads as it did. -/
def rhumbBackSpec : ChangeSpec := { name := "rhumbBack", fn := fun _ => fun
  | [d1, d2] => { results := [.lit (.bool true)], args := [d1, d2] }
  | _ => none }
def rhumbBackRow : OpenClaim := { program := "ytcfpmdndgbpfpaa", sum := "b9f1eeb7267d5468e7329dc9d06017460e99950f62f206d9f8d8d078b561be2e", func := "almucantar/almucantarlaw41.RhumbBack", spec := "rhumbBack", inPlace := ["math/bits.Add64", "math/bits.Sub64"], recurses := true, named := ["math/bits.divideError", "math/bits.overflowError"], apart := false }
def RhumbBackSaid : Prop := rhumbBackRow.holds Try.pinned (OpenSpec.ofChange rhumbBackSpec)

/-- ITS FALSE NEIGHBOUR: 'it returns false'. Refute it at one input. -/
def rhumbBackWrong : ChangeSpec := { name := "rhumbBack", fn := fun _ => fun
  | [d1, d2] => { results := [.lit (.bool false)], args := [d1, d2] }
  | _ => none }
def RhumbBackWrongFalsely : Prop := rhumbBackRow.holds Try.pinned (OpenSpec.ofChange rhumbBackWrong)

/- THE SECOND FORM. 'bulk': how many values and letters a reading holds, each counted each time it is reached (what is shared counts as often as it is met; a slice's spare places count too). A statement '..UptoSaid' is the law's where the arguments, and the package variables that the reading takes, are together of bulk at most 1048576: NARROWER than '..Said'. Prove '..Said' where nothing that the law and all that it calls make is longer than what came in: it says more and counts as full. Else prove '..UptoSaid'. A law counts once. -/
mutual
def uptoBulk {H : Type} : DataW H → Nat
  | .lit (.string bytes) => bytes.length + 1
  | .lit _ => 1
  | .nil => 1
  | .ptr d => uptoBulk d + 1
  | .slice elems spare => uptoBulkAll elems + uptoBulkAll spare + 1
  | .agg parts => uptoBulkAll parts + 1
  | .iface _ d => uptoBulk d + 1
  | .map entries => uptoBulkEntries entries + 1
  | .held _ => 1
def uptoBulkAll {H : Type} : List (DataW H) → Nat
  | [] => 0
  | d :: r => uptoBulk d + uptoBulkAll r
def uptoBulkEntries {H : Type} : List (Lit × DataW H) → Nat
  | [] => 0
  | x :: r => uptoBulkEntry x + uptoBulkEntries r
def uptoBulkEntry {H : Type} : Lit × DataW H → Nat
  | (.string bytes, d) => bytes.length + uptoBulk d + 1
  | (_, d) => uptoBulk d + 1
 end
def uptoSmall : (H : Type) → List (DataW H) → Bool := fun _ ds => decide (uptoBulkAll ds ≤ 1048576)
def OpenSpec.upto (s : _root_.Go.ChangeSpec) : _root_.Go.OpenSpec := { _root_.Go.OpenSpec.ofChange s with cond := some uptoSmall }

/-- 'almucantarlaw41.RhumbAscends', WHERE WHAT IT READS IS OF BULK AT MOST 1048576: true; the input reads as it did. -/
def rhumbAscendsUptoRow : OpenClaim := { program := "ytcfpmdndgbpfpaa", sum := "b9f1eeb7267d5468e7329dc9d06017460e99950f62f206d9f8d8d078b561be2e", func := "almucantar/almucantarlaw41.RhumbAscends", spec := "rhumbAscends", inPlace := ["math/bits.Add64", "math/bits.Sub64"], recurses := true, named := ["math/bits.divideError", "math/bits.overflowError"], apart := false, narrowed := true }
def RhumbAscendsUptoSaid : Prop := rhumbAscendsUptoRow.holds Try.pinned (OpenSpec.upto rhumbAscendsSpec)

/-- 'almucantarlaw41.RhumbAxes', WHERE WHAT IT READS IS OF BULK AT MOST 1048576: true; the input reads as it did. -/
def rhumbAxesUptoRow : OpenClaim := { program := "ytcfpmdndgbpfpaa", sum := "b9f1eeb7267d5468e7329dc9d06017460e99950f62f206d9f8d8d078b561be2e", func := "almucantar/almucantarlaw41.RhumbAxes", spec := "rhumbAxes", inPlace := ["math/bits.Add64", "math/bits.Sub64"], unfollowed := true, recurses := true, named := ["math/bits.divideError", "math/bits.overflowError"], apart := false, narrowed := true }
def RhumbAxesUptoSaid : Prop := rhumbAxesUptoRow.holds Try.pinned (OpenSpec.upto rhumbAxesSpec)

/-- 'almucantarlaw41.RhumbBack', WHERE WHAT IT READS IS OF BULK AT MOST 1048576: true; the input reads as it did. -/
def rhumbBackUptoRow : OpenClaim := { program := "ytcfpmdndgbpfpaa", sum := "b9f1eeb7267d5468e7329dc9d06017460e99950f62f206d9f8d8d078b561be2e", func := "almucantar/almucantarlaw41.RhumbBack", spec := "rhumbBack", inPlace := ["math/bits.Add64", "math/bits.Sub64"], recurses := true, named := ["math/bits.divideError", "math/bits.overflowError"], apart := false, narrowed := true }
def RhumbBackUptoSaid : Prop := rhumbBackUptoRow.holds Try.pinned (OpenSpec.upto rhumbBackSpec)

end Rows
end Go.Proofs.Ytcfpmdndgbpfpaa
