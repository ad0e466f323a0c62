import Derived.Test.YtpbgncmffgnohaaGreatUW0
import Derived.Test.YtpbgncmffgnohaaGreatGkFlaw11
import Derived.Test.YtpbgncmffgnohaaGreatUWcurved
import Derived.Test.YtpbgncmffgnohaaGreatUWlaw11b
import Derived.Test.YtpbgncmffgnohaaGreatUWref11
set_option linter.unusedVariables false
set_option linter.unusedSimpArgs false
set_option linter.unusedVariables false
set_option maxRecDepth 4000
namespace Go.Proofs
open Go Go.RowKit Go.Gk
end Go.Proofs
