import Derived.Test.YtgjpaedgcpjigaaDoorZW0
import Derived.Test.YtgjpaedgcpjigaaDoorGkFcose
import Derived.Test.YtgjpaedgcpjigaaDoorZWcborc
import Derived.Test.YtgjpaedgcpjigaaDoorZWcosea
set_option linter.unusedVariables false
set_option linter.unusedSimpArgs false
set_option linter.unusedVariables false
set_option maxRecDepth 4000
namespace Go.Proofs
open Go Go.RowKit Go.Gk
end Go.Proofs
