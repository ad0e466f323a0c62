import Derived.Test.YtpbgncmffgnohaaGkS
import Derived.Test.YtpbgncmffgnohaaGkFnat
set_option linter.unusedVariables false
set_option linter.unusedSimpArgs false
set_option linter.unusedVariables false
namespace Go.Gk
end Go.Gk
