/-
  No cell of these rows narrows 'for every input' (looked for: loops, veiled, ifaces, maps, wideKeys, modest, calm, conditions, laid).
  DERIVED. THE GIVEN ROWS OF THIS SEAT. 10 by the template 'for every input the law returns true; each argument reads behind the call as it read before'; 0 by the template 'total and deterministic' (their statements: YtmldbeipmappnaaTotals.lean).
  GIVEN WITH THE SEED: the statements are not yours to turn. If you find one false, say at which input.
  Laid BY PROGRAM, IN A SANDBOX (cutbox-rows.mjs): the forced cells as the released guide's own fill.sh prints them over the translation 4efc960010b9b3cd… (all of the seat's roots in one cut). By AI agents, Wed Nov 11 2026. No macro, syntax, notation, axiom, sorry.
-/
import Derived.Test.YtmldbeipmappnaaChecked
import GoSem.Claim
import GoSem.ClaimJoined
import GoSem.ClaimMapViews
import Derived.JoinedTies
import Derived.KernelRfl
namespace Go.Proofs.Ytmldbeipmappnaa
/- THE CELL 'sum', in the pinned program and in every row, IS THE sha256 OF THE DUMP (.gsa) THAT YtmldbeipmappnaaProg.lean LOADS. Nothing in Lean hashes anything: it is a label: what it is worth is what the hold of that sum in a sandbox is worth. -/
noncomputable def Try.pinned : Pinned := { name := "ytmldbeipmappnaa", sum := "4efc960010b9b3cd43b6d67fb1604dcf1d82b801a35a0bcf27e085ebdb236888", checked := Try.checked }
namespace Rows
def none {H : Type} : Left H := { results := [], args := [] }

/-- 'almucantarlaw42.GreatcircleTriangle': WHATEVER THE INPUT: true; the input reads as it did. -/
def greatcircleTriangleSpec : ChangeSpec := { name := "greatcircleTriangle", fn := fun _ => fun
  | [d1, d2, d3] => { results := [.lit (.bool true)], args := [d1, d2, d3] }
  | _ => none }
def greatcircleTriangleRow : OpenClaim := { program := "ytmldbeipmappnaa", sum := "4efc960010b9b3cd43b6d67fb1604dcf1d82b801a35a0bcf27e085ebdb236888", func := "almucantar/almucantarlaw42.GreatcircleTriangle", spec := "greatcircleTriangle", inPlace := ["math/bits.Add64", "math/bits.Sub64"], recurses := true, named := ["math/bits.divideError", "math/bits.overflowError"], apart := false }
def GreatcircleTriangleSaid : Prop := greatcircleTriangleRow.holds Try.pinned (OpenSpec.ofChange greatcircleTriangleSpec)

/-- ITS FALSE NEIGHBOUR: 'it returns false'. Refute it at one input. -/
def greatcircleTriangleWrong : ChangeSpec := { name := "greatcircleTriangle", fn := fun _ => fun
  | [d1, d2, d3] => { results := [.lit (.bool false)], args := [d1, d2, d3] }
  | _ => none }
def GreatcircleTriangleWrongFalsely : Prop := greatcircleTriangleRow.holds Try.pinned (OpenSpec.ofChange greatcircleTriangleWrong)

/-- 'almucantarlaw42.GreatcircleThere': WHATEVER THE INPUT: true; the input reads as it did. -/
def greatcircleThereSpec : ChangeSpec := { name := "greatcircleThere", fn := fun _ => fun
  | [d1, d2] => { results := [.lit (.bool true)], args := [d1, d2] }
  | _ => none }
def greatcircleThereRow : OpenClaim := { program := "ytmldbeipmappnaa", sum := "4efc960010b9b3cd43b6d67fb1604dcf1d82b801a35a0bcf27e085ebdb236888", func := "almucantar/almucantarlaw42.GreatcircleThere", spec := "greatcircleThere", inPlace := ["math/bits.Add64", "math/bits.Sub64"], recurses := true, named := ["math/bits.divideError", "math/bits.overflowError"], apart := false }
def GreatcircleThereSaid : Prop := greatcircleThereRow.holds Try.pinned (OpenSpec.ofChange greatcircleThereSpec)

/-- ITS FALSE NEIGHBOUR: 'it returns false'. Refute it at one input. -/
def greatcircleThereWrong : ChangeSpec := { name := "greatcircleThere", fn := fun _ => fun
  | [d1, d2] => { results := [.lit (.bool false)], args := [d1, d2] }
  | _ => none }
def GreatcircleThereWrongFalsely : Prop := greatcircleThereRow.holds Try.pinned (OpenSpec.ofChange greatcircleThereWrong)

/-- 'almucantarlaw42.GreatcircleVertex': WHATEVER THE INPUT: true; the input reads as it did. -/
def greatcircleVertexSpec : ChangeSpec := { name := "greatcircleVertex", fn := fun _ => fun
  | [d1, d2] => { results := [.lit (.bool true)], args := [d1, d2] }
  | _ => none }
def greatcircleVertexRow : OpenClaim := { program := "ytmldbeipmappnaa", sum := "4efc960010b9b3cd43b6d67fb1604dcf1d82b801a35a0bcf27e085ebdb236888", func := "almucantar/almucantarlaw42.GreatcircleVertex", spec := "greatcircleVertex", inPlace := ["math/bits.Add64", "math/bits.Sub64"], recurses := true, named := ["math/bits.divideError", "math/bits.overflowError"], apart := false }
def GreatcircleVertexSaid : Prop := greatcircleVertexRow.holds Try.pinned (OpenSpec.ofChange greatcircleVertexSpec)

/-- ITS FALSE NEIGHBOUR: 'it returns false'. Refute it at one input. -/
def greatcircleVertexWrong : ChangeSpec := { name := "greatcircleVertex", fn := fun _ => fun
  | [d1, d2] => { results := [.lit (.bool false)], args := [d1, d2] }
  | _ => none }
def GreatcircleVertexWrongFalsely : Prop := greatcircleVertexRow.holds Try.pinned (OpenSpec.ofChange greatcircleVertexWrong)

/-- 'almucantarlaw42.GreatcircleOn': WHATEVER THE INPUT: true; the input reads as it did. -/
def greatcircleOnSpec : ChangeSpec := { name := "greatcircleOn", fn := fun _ => fun
  | [d1, d2, d3, d4, d5] => { results := [.lit (.bool true)], args := [d1, d2, d3, d4, d5] }
  | _ => none }
def greatcircleOnRow : OpenClaim := { program := "ytmldbeipmappnaa", sum := "4efc960010b9b3cd43b6d67fb1604dcf1d82b801a35a0bcf27e085ebdb236888", func := "almucantar/almucantarlaw42.GreatcircleOn", spec := "greatcircleOn", inPlace := ["math/bits.Add64", "math/bits.Sub64"], recurses := true, named := ["math/bits.divideError", "math/bits.overflowError"], apart := false }
def GreatcircleOnSaid : Prop := greatcircleOnRow.holds Try.pinned (OpenSpec.ofChange greatcircleOnSpec)

/-- ITS FALSE NEIGHBOUR: 'it returns false'. Refute it at one input. -/
def greatcircleOnWrong : ChangeSpec := { name := "greatcircleOn", fn := fun _ => fun
  | [d1, d2, d3, d4, d5] => { results := [.lit (.bool false)], args := [d1, d2, d3, d4, d5] }
  | _ => none }
def GreatcircleOnWrongFalsely : Prop := greatcircleOnRow.holds Try.pinned (OpenSpec.ofChange greatcircleOnWrong)

/-- 'almucantarlaw25.CosineBack': WHATEVER THE INPUT: true; the input reads as it did. -/
def cosineBackSpec : ChangeSpec := { name := "cosineBack", fn := fun _ => fun
  | [d1, d2, d3] => { results := [.lit (.bool true)], args := [d1, d2, d3] }
  | _ => none }
def cosineBackRow : OpenClaim := { program := "ytmldbeipmappnaa", sum := "4efc960010b9b3cd43b6d67fb1604dcf1d82b801a35a0bcf27e085ebdb236888", func := "almucantar/almucantarlaw25.CosineBack", spec := "cosineBack", inPlace := ["math/bits.Add64", "math/bits.Sub64"], recurses := true, named := ["math/bits.divideError", "math/bits.overflowError"], apart := false }
def CosineBackSaid : Prop := cosineBackRow.holds Try.pinned (OpenSpec.ofChange cosineBackSpec)

/-- ITS FALSE NEIGHBOUR: 'it returns false'. Refute it at one input. -/
def cosineBackWrong : ChangeSpec := { name := "cosineBack", fn := fun _ => fun
  | [d1, d2, d3] => { results := [.lit (.bool false)], args := [d1, d2, d3] }
  | _ => none }
def CosineBackWrongFalsely : Prop := cosineBackRow.holds Try.pinned (OpenSpec.ofChange cosineBackWrong)

/-- 'almucantarlaw45.CurrentFinds': WHATEVER THE INPUT: true; the input reads as it did. -/
def currentFindsSpec : ChangeSpec := { name := "currentFinds", fn := fun _ => fun
  | [d1, d2] => { results := [.lit (.bool true)], args := [d1, d2] }
  | _ => none }
def currentFindsRow : OpenClaim := { program := "ytmldbeipmappnaa", sum := "4efc960010b9b3cd43b6d67fb1604dcf1d82b801a35a0bcf27e085ebdb236888", func := "almucantar/almucantarlaw45.CurrentFinds", spec := "currentFinds", inPlace := ["math/bits.Add64", "math/bits.Sub64"], unfollowed := true, recurses := true, named := ["math/bits.divideError", "math/bits.overflowError"], apart := false }
def CurrentFindsSaid : Prop := currentFindsRow.holds Try.pinned (OpenSpec.ofChange currentFindsSpec)

/-- ITS FALSE NEIGHBOUR: 'it returns false'. Refute it at one input. -/
def currentFindsWrong : ChangeSpec := { name := "currentFinds", fn := fun _ => fun
  | [d1, d2] => { results := [.lit (.bool false)], args := [d1, d2] }
  | _ => none }
def CurrentFindsWrongFalsely : Prop := currentFindsRow.holds Try.pinned (OpenSpec.ofChange currentFindsWrong)

/-- 'almucantarlaw44.MidlatitudeBack': WHATEVER THE INPUT: true; the input reads as it did. -/
def midlatitudeBackSpec : ChangeSpec := { name := "midlatitudeBack", fn := fun _ => fun
  | [d1, d2, d3, d4] => { results := [.lit (.bool true)], args := [d1, d2, d3, d4] }
  | _ => none }
def midlatitudeBackRow : OpenClaim := { program := "ytmldbeipmappnaa", sum := "4efc960010b9b3cd43b6d67fb1604dcf1d82b801a35a0bcf27e085ebdb236888", func := "almucantar/almucantarlaw44.MidlatitudeBack", spec := "midlatitudeBack", inPlace := ["math/bits.Add64", "math/bits.Sub64"], unfollowed := true, recurses := true, named := ["math/bits.divideError", "math/bits.overflowError"], apart := false }
def MidlatitudeBackSaid : Prop := midlatitudeBackRow.holds Try.pinned (OpenSpec.ofChange midlatitudeBackSpec)

/-- ITS FALSE NEIGHBOUR: 'it returns false'. Refute it at one input. -/
def midlatitudeBackWrong : ChangeSpec := { name := "midlatitudeBack", fn := fun _ => fun
  | [d1, d2, d3, d4] => { results := [.lit (.bool false)], args := [d1, d2, d3, d4] }
  | _ => none }
def MidlatitudeBackWrongFalsely : Prop := midlatitudeBackRow.holds Try.pinned (OpenSpec.ofChange midlatitudeBackWrong)

/-- 'almucantarlaw41.RhumbAscends': WHATEVER THE INPUT: true; the input reads as it did. -/
def rhumbAscendsSpec : ChangeSpec := { name := "rhumbAscends", fn := fun _ => fun
  | [d1, d2] => { results := [.lit (.bool true)], args := [d1, d2] }
  | _ => none }
def rhumbAscendsRow : OpenClaim := { program := "ytmldbeipmappnaa", sum := "4efc960010b9b3cd43b6d67fb1604dcf1d82b801a35a0bcf27e085ebdb236888", func := "almucantar/almucantarlaw41.RhumbAscends", spec := "rhumbAscends", inPlace := ["math/bits.Add64", "math/bits.Sub64"], recurses := true, named := ["math/bits.divideError", "math/bits.overflowError"], apart := false }
def RhumbAscendsSaid : Prop := rhumbAscendsRow.holds Try.pinned (OpenSpec.ofChange rhumbAscendsSpec)

/-- ITS FALSE NEIGHBOUR: 'it returns false'. Refute it at one input. -/
def rhumbAscendsWrong : ChangeSpec := { name := "rhumbAscends", fn := fun _ => fun
  | [d1, d2] => { results := [.lit (.bool false)], args := [d1, d2] }
  | _ => none }
def RhumbAscendsWrongFalsely : Prop := rhumbAscendsRow.holds Try.pinned (OpenSpec.ofChange rhumbAscendsWrong)

/-- 'almucantarlaw41.RhumbAxes': WHATEVER THE INPUT: true; the input reads as it did. -/
def rhumbAxesSpec : ChangeSpec := { name := "rhumbAxes", fn := fun _ => fun
  | [d1, d2] => { results := [.lit (.bool true)], args := [d1, d2] }
  | _ => none }
def rhumbAxesRow : OpenClaim := { program := "ytmldbeipmappnaa", sum := "4efc960010b9b3cd43b6d67fb1604dcf1d82b801a35a0bcf27e085ebdb236888", func := "almucantar/almucantarlaw41.RhumbAxes", spec := "rhumbAxes", inPlace := ["math/bits.Add64", "math/bits.Sub64"], unfollowed := true, recurses := true, named := ["math/bits.divideError", "math/bits.overflowError"], apart := false }
def RhumbAxesSaid : Prop := rhumbAxesRow.holds Try.pinned (OpenSpec.ofChange rhumbAxesSpec)

/-- ITS FALSE NEIGHBOUR: 'it returns false'. Refute it at one input. -/
def rhumbAxesWrong : ChangeSpec := { name := "rhumbAxes", fn := fun _ => fun
  | [d1, d2] => { results := [.lit (.bool false)], args := [d1, d2] }
  | _ => none }
def RhumbAxesWrongFalsely : Prop := rhumbAxesRow.holds Try.pinned (OpenSpec.ofChange rhumbAxesWrong)

/-- 'almucantarlaw41.RhumbBack': WHATEVER THE INPUT: true; the input reads as it did. -/
def rhumbBackSpec : ChangeSpec := { name := "rhumbBack", fn := fun _ => fun
  | [d1, d2] => { results := [.lit (.bool true)], args := [d1, d2] }
  | _ => none }
def rhumbBackRow : OpenClaim := { program := "ytmldbeipmappnaa", sum := "4efc960010b9b3cd43b6d67fb1604dcf1d82b801a35a0bcf27e085ebdb236888", func := "almucantar/almucantarlaw41.RhumbBack", spec := "rhumbBack", inPlace := ["math/bits.Add64", "math/bits.Sub64"], recurses := true, named := ["math/bits.divideError", "math/bits.overflowError"], apart := false }
def RhumbBackSaid : Prop := rhumbBackRow.holds Try.pinned (OpenSpec.ofChange rhumbBackSpec)

/-- ITS FALSE NEIGHBOUR: 'it returns false'. Refute it at one input. -/
def rhumbBackWrong : ChangeSpec := { name := "rhumbBack", fn := fun _ => fun
  | [d1, d2] => { results := [.lit (.bool false)], args := [d1, d2] }
  | _ => none }
def RhumbBackWrongFalsely : Prop := rhumbBackRow.holds Try.pinned (OpenSpec.ofChange rhumbBackWrong)

/- THE SECOND FORM. 'bulk': how many values and letters a reading holds, each counted each time it is reached (what is shared counts as often as it is met; a slice's spare places count too). A statement '..UptoSaid' is the law's where the arguments, and the package variables that the reading takes, are together of bulk at most 1048576: NARROWER than '..Said'. Prove '..Said' where nothing that the law and all that it calls make is longer than what came in: it says more and counts as full. Else prove '..UptoSaid'. A law counts once. -/
mutual
def uptoBulk {H : Type} : DataW H → Nat
  | .lit (.string bytes) => bytes.length + 1
  | .lit _ => 1
  | .nil => 1
  | .ptr d => uptoBulk d + 1
  | .slice elems spare => uptoBulkAll elems + uptoBulkAll spare + 1
  | .agg parts => uptoBulkAll parts + 1
  | .iface _ d => uptoBulk d + 1
  | .map entries => uptoBulkEntries entries + 1
  | .held _ => 1
def uptoBulkAll {H : Type} : List (DataW H) → Nat
  | [] => 0
  | d :: r => uptoBulk d + uptoBulkAll r
def uptoBulkEntries {H : Type} : List (Lit × DataW H) → Nat
  | [] => 0
  | x :: r => uptoBulkEntry x + uptoBulkEntries r
def uptoBulkEntry {H : Type} : Lit × DataW H → Nat
  | (.string bytes, d) => bytes.length + uptoBulk d + 1
  | (_, d) => uptoBulk d + 1
 end
def uptoSmall : (H : Type) → List (DataW H) → Bool := fun _ ds => decide (uptoBulkAll ds ≤ 1048576)
def OpenSpec.upto (s : _root_.Go.ChangeSpec) : _root_.Go.OpenSpec := { _root_.Go.OpenSpec.ofChange s with cond := some uptoSmall }

/-- 'almucantarlaw42.GreatcircleTriangle', WHERE WHAT IT READS IS OF BULK AT MOST 1048576: true; the input reads as it did. -/
def greatcircleTriangleUptoRow : OpenClaim := { program := "ytmldbeipmappnaa", sum := "4efc960010b9b3cd43b6d67fb1604dcf1d82b801a35a0bcf27e085ebdb236888", func := "almucantar/almucantarlaw42.GreatcircleTriangle", spec := "greatcircleTriangle", inPlace := ["math/bits.Add64", "math/bits.Sub64"], recurses := true, named := ["math/bits.divideError", "math/bits.overflowError"], apart := false, narrowed := true }
def GreatcircleTriangleUptoSaid : Prop := greatcircleTriangleUptoRow.holds Try.pinned (OpenSpec.upto greatcircleTriangleSpec)

/-- 'almucantarlaw42.GreatcircleThere', WHERE WHAT IT READS IS OF BULK AT MOST 1048576: true; the input reads as it did. -/
def greatcircleThereUptoRow : OpenClaim := { program := "ytmldbeipmappnaa", sum := "4efc960010b9b3cd43b6d67fb1604dcf1d82b801a35a0bcf27e085ebdb236888", func := "almucantar/almucantarlaw42.GreatcircleThere", spec := "greatcircleThere", inPlace := ["math/bits.Add64", "math/bits.Sub64"], recurses := true, named := ["math/bits.divideError", "math/bits.overflowError"], apart := false, narrowed := true }
def GreatcircleThereUptoSaid : Prop := greatcircleThereUptoRow.holds Try.pinned (OpenSpec.upto greatcircleThereSpec)

/-- 'almucantarlaw42.GreatcircleVertex', WHERE WHAT IT READS IS OF BULK AT MOST 1048576: true; the input reads as it did. -/
def greatcircleVertexUptoRow : OpenClaim := { program := "ytmldbeipmappnaa", sum := "4efc960010b9b3cd43b6d67fb1604dcf1d82b801a35a0bcf27e085ebdb236888", func := "almucantar/almucantarlaw42.GreatcircleVertex", spec := "greatcircleVertex", inPlace := ["math/bits.Add64", "math/bits.Sub64"], recurses := true, named := ["math/bits.divideError", "math/bits.overflowError"], apart := false, narrowed := true }
def GreatcircleVertexUptoSaid : Prop := greatcircleVertexUptoRow.holds Try.pinned (OpenSpec.upto greatcircleVertexSpec)

/-- 'almucantarlaw42.GreatcircleOn', WHERE WHAT IT READS IS OF BULK AT MOST 1048576: true; the input reads as it did. -/
def greatcircleOnUptoRow : OpenClaim := { program := "ytmldbeipmappnaa", sum := "4efc960010b9b3cd43b6d67fb1604dcf1d82b801a35a0bcf27e085ebdb236888", func := "almucantar/almucantarlaw42.GreatcircleOn", spec := "greatcircleOn", inPlace := ["math/bits.Add64", "math/bits.Sub64"], recurses := true, named := ["math/bits.divideError", "math/bits.overflowError"], apart := false, narrowed := true }
def GreatcircleOnUptoSaid : Prop := greatcircleOnUptoRow.holds Try.pinned (OpenSpec.upto greatcircleOnSpec)

/-- 'almucantarlaw25.CosineBack', WHERE WHAT IT READS IS OF BULK AT MOST 1048576: true; the input reads as it did. -/
def cosineBackUptoRow : OpenClaim := { program := "ytmldbeipmappnaa", sum := "4efc960010b9b3cd43b6d67fb1604dcf1d82b801a35a0bcf27e085ebdb236888", func := "almucantar/almucantarlaw25.CosineBack", spec := "cosineBack", inPlace := ["math/bits.Add64", "math/bits.Sub64"], recurses := true, named := ["math/bits.divideError", "math/bits.overflowError"], apart := false, narrowed := true }
def CosineBackUptoSaid : Prop := cosineBackUptoRow.holds Try.pinned (OpenSpec.upto cosineBackSpec)

/-- 'almucantarlaw45.CurrentFinds', WHERE WHAT IT READS IS OF BULK AT MOST 1048576: true; the input reads as it did. -/
def currentFindsUptoRow : OpenClaim := { program := "ytmldbeipmappnaa", sum := "4efc960010b9b3cd43b6d67fb1604dcf1d82b801a35a0bcf27e085ebdb236888", func := "almucantar/almucantarlaw45.CurrentFinds", spec := "currentFinds", inPlace := ["math/bits.Add64", "math/bits.Sub64"], unfollowed := true, recurses := true, named := ["math/bits.divideError", "math/bits.overflowError"], apart := false, narrowed := true }
def CurrentFindsUptoSaid : Prop := currentFindsUptoRow.holds Try.pinned (OpenSpec.upto currentFindsSpec)

/-- 'almucantarlaw44.MidlatitudeBack', WHERE WHAT IT READS IS OF BULK AT MOST 1048576: true; the input reads as it did. -/
def midlatitudeBackUptoRow : OpenClaim := { program := "ytmldbeipmappnaa", sum := "4efc960010b9b3cd43b6d67fb1604dcf1d82b801a35a0bcf27e085ebdb236888", func := "almucantar/almucantarlaw44.MidlatitudeBack", spec := "midlatitudeBack", inPlace := ["math/bits.Add64", "math/bits.Sub64"], unfollowed := true, recurses := true, named := ["math/bits.divideError", "math/bits.overflowError"], apart := false, narrowed := true }
def MidlatitudeBackUptoSaid : Prop := midlatitudeBackUptoRow.holds Try.pinned (OpenSpec.upto midlatitudeBackSpec)

/-- 'almucantarlaw41.RhumbAscends', WHERE WHAT IT READS IS OF BULK AT MOST 1048576: true; the input reads as it did. -/
def rhumbAscendsUptoRow : OpenClaim := { program := "ytmldbeipmappnaa", sum := "4efc960010b9b3cd43b6d67fb1604dcf1d82b801a35a0bcf27e085ebdb236888", func := "almucantar/almucantarlaw41.RhumbAscends", spec := "rhumbAscends", inPlace := ["math/bits.Add64", "math/bits.Sub64"], recurses := true, named := ["math/bits.divideError", "math/bits.overflowError"], apart := false, narrowed := true }
def RhumbAscendsUptoSaid : Prop := rhumbAscendsUptoRow.holds Try.pinned (OpenSpec.upto rhumbAscendsSpec)

/-- 'almucantarlaw41.RhumbAxes', WHERE WHAT IT READS IS OF BULK AT MOST 1048576: true; the input reads as it did. -/
def rhumbAxesUptoRow : OpenClaim := { program := "ytmldbeipmappnaa", sum := "4efc960010b9b3cd43b6d67fb1604dcf1d82b801a35a0bcf27e085ebdb236888", func := "almucantar/almucantarlaw41.RhumbAxes", spec := "rhumbAxes", inPlace := ["math/bits.Add64", "math/bits.Sub64"], unfollowed := true, recurses := true, named := ["math/bits.divideError", "math/bits.overflowError"], apart := false, narrowed := true }
def RhumbAxesUptoSaid : Prop := rhumbAxesUptoRow.holds Try.pinned (OpenSpec.upto rhumbAxesSpec)

/-- 'almucantarlaw41.RhumbBack', WHERE WHAT IT READS IS OF BULK AT MOST 1048576: true; the input reads as it did. -/
def rhumbBackUptoRow : OpenClaim := { program := "ytmldbeipmappnaa", sum := "4efc960010b9b3cd43b6d67fb1604dcf1d82b801a35a0bcf27e085ebdb236888", func := "almucantar/almucantarlaw41.RhumbBack", spec := "rhumbBack", inPlace := ["math/bits.Add64", "math/bits.Sub64"], recurses := true, named := ["math/bits.divideError", "math/bits.overflowError"], apart := false, narrowed := true }
def RhumbBackUptoSaid : Prop := rhumbBackUptoRow.holds Try.pinned (OpenSpec.upto rhumbBackSpec)

end Rows
end Go.Proofs.Ytmldbeipmappnaa
