/- Plain numbers: no point of small coordinates lies near the ray of an angle. -/
import Derived.Test.YtcfpmdndgbpfpaaZCfB1
import Derived.Test.YtcfpmdndgbpfpaaZTrigs
import Derived.Test.YtcfpmdndgbpfpaaZArcHi
set_option linter.unusedVariables false
set_option linter.unusedSimpArgs false
namespace Alm
def T1:Nat:=2668606815930616794422295251795238276401961381301642649179619132477219630421654918950972168987929389
end Alm
namespace Go.Proofs.Ytcfpmdndgbpfpaa
open Alm
end Go.Proofs.Ytcfpmdndgbpfpaa
namespace Alm
end Alm
namespace Alm
end Alm
namespace Alm
end Alm
namespace Alm
