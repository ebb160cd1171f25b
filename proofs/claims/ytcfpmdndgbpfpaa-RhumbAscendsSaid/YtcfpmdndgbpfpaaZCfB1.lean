/- Plain numbers: Euclid's check at many angles (part 1). -/
import Derived.Test.YtcfpmdndgbpfpaaZCfA
set_option linter.unusedVariables false
set_option linter.unusedSimpArgs false
namespace Alm
end Alm
namespace Alm
end Alm
namespace Alm
end Alm
namespace Alm
