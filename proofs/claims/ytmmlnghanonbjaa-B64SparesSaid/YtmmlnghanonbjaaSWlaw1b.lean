import Derived.Test.YtmmlnghanonbjaaSW0
import Derived.Test.YtmmlnghanonbjaaGkFlaw1
import Derived.Test.YtmmlnghanonbjaaSWb64
import Derived.Test.YtmmlnghanonbjaaSWlaw1a
set_option linter.unusedVariables false
set_option linter.unusedSimpArgs false
set_option linter.unusedVariables false
set_option maxRecDepth 4000
namespace Go.Proofs
open Go Go.RowKit Go.Gk
end Go.Proofs
