/- A part of a triangle has its altitude and its directions within those of the triangle. -/
import Derived.Test.YtbdlccacamalpaaZCosM
import Derived.Test.YtbdlccacamalpaaZIsoA
import Derived.Test.YtbdlccacamalpaaZTrn
set_option linter.unusedVariables false
set_option linter.unusedSimpArgs false
namespace Go.Proofs.Ytbdlccacamalpaa
open Alm Sx
