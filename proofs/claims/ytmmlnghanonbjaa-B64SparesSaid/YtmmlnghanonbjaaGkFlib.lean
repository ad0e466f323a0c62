import Derived.Test.YtmmlnghanonbjaaGkS
import Derived.Test.YtmmlnghanonbjaaGkFman
set_option linter.unusedVariables false
set_option linter.unusedSimpArgs false
set_option linter.unusedVariables false
namespace Go.Gk
noncomputable def F.internal_stringslite_IndexByte (a0 : List UInt8) (a1 : UInt8) : Option (Int) :=
 some (ixByte a0 a1)
noncomputable def F.strings_IndexByte (a0 : List UInt8) (a1 : UInt8) : Option (Int) :=
 obind (F.internal_stringslite_IndexByte a0 a1) fun x_1 =>
 some x_1
end Go.Gk
