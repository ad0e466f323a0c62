import Derived.Test.YtpbgncmffgnohaaGreatGkS
import Derived.Test.YtpbgncmffgnohaaGreatGkFman3
import Derived.Test.YtpbgncmffgnohaaGreatGkFlib
set_option linter.unusedVariables false
set_option linter.unusedSimpArgs false
set_option linter.unusedVariables false
namespace Go.Gk
end Go.Gk
