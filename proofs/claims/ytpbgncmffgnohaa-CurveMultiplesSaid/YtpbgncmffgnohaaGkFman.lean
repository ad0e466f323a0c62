import Derived.Lib.ValidU
set_option linter.unusedVariables false
set_option linter.unusedSimpArgs false
namespace Go.Gk
def F.unicode_utf8_ValidString (a0 : List UInt8) : Option Bool := if a0.length ≤ 9223372036854775807 then some (Lib.validD a0) else none
end Go.Gk
