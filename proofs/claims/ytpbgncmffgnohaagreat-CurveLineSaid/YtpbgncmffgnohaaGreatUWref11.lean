import Derived.Test.YtpbgncmffgnohaaGreatUW0
import Derived.Test.YtpbgncmffgnohaaGreatGkFref11
import Derived.Test.YtpbgncmffgnohaaGreatUWref6
import Derived.Test.YtpbgncmffgnohaaGreatUWref7
set_option linter.unusedVariables false
set_option linter.unusedSimpArgs false
set_option linter.unusedVariables false
set_option maxRecDepth 4000
namespace Go.Proofs
open Go Go.RowKit Go.Gk
end Go.Proofs
