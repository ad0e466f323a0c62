import Derived.Test.YtgjpaedgcpjigaaDoorGkS
set_option linter.unusedVariables false
set_option linter.unusedSimpArgs false
namespace Go.Gk
def F.cose_algorithm (a0 : UInt64) : Option Int :=
  some (if a0 = 6 then 10 else if a0 = 34 then 11 else if a0 = 7 then 12 else if a0 = 36 then 7 else if a0 = 37 then 8 else if a0 = 38 then 9 else if a0 = 256 then 4 else if a0 = 257 then 5 else if a0 = 258 then 6 else 0)
end Go.Gk
