/- Plain numbers: Euclid's check at many angles (part 2). -/
import Derived.Test.YtknhbpnclokciaaZCfA
set_option linter.unusedVariables false
set_option linter.unusedSimpArgs false
namespace Alm
