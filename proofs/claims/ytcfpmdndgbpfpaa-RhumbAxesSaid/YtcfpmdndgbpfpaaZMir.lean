/- Plain integers: the directions of a box that is mirrored. -/
import Derived.Test.YtcfpmdndgbpfpaaZDirs
set_option linter.unusedVariables false
set_option linter.unusedSimpArgs false
namespace Alm
open Go.Proofs.Ytcfpmdndgbpfpaa
