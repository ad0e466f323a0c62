import Derived.Test.YtpbgncmffgnohaaGreatGkS
set_option linter.unusedVariables false
set_option linter.unusedSimpArgs false
set_option linter.unusedVariables false
namespace Go.Gk
end Go.Gk
