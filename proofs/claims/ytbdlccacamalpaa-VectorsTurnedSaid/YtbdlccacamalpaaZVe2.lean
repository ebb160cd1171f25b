/- The contracts of vectors.Local and Place, and of Of where an arc is not valid. -/
import Derived.Test.YtbdlccacamalpaaZVrP
set_option linter.unusedVariables false
set_option linter.unusedSimpArgs false
namespace Go.Proofs.Ytbdlccacamalpaa
open Go.RowKit Alm Sx
