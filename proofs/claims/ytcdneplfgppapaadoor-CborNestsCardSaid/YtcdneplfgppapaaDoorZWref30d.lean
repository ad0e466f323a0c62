/- Walks: each Go function of package ref30 computes its plain function. Written by a program of ours. -/
import Derived.Test.YtcdneplfgppapaaDoorZW0
import Derived.Test.YtcdneplfgppapaaDoorGkFref30
import Derived.Test.YtcdneplfgppapaaDoorZWref30c
set_option linter.unusedVariables false
set_option linter.unusedSimpArgs false
set_option linter.unusedVariables false
set_option maxRecDepth 4000
namespace Go.Proofs
open Go Go.RowKit Go.Gk


end Go.Proofs
