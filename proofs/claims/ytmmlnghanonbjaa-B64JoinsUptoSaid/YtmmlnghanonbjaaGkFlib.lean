/- Plain functions of package lib, written by a program of ours from what the seat holds of it. -/
import Derived.Test.YtmmlnghanonbjaaGkB
import Derived.Test.YtmmlnghanonbjaaGkS
set_option linter.unusedVariables false
namespace Go.Gk
-- Go: internal/stringslite.IndexByte
noncomputable def F.internal_stringslite_IndexByte (a0 : List UInt8) (a1 : UInt8) : Option (Int) :=
  some (ixByte a0 a1)

-- Go: strings.IndexByte
noncomputable def F.strings_IndexByte (a0 : List UInt8) (a1 : UInt8) : Option (Int) :=
  obind (F.internal_stringslite_IndexByte a0 a1) fun x_1 =>
  some x_1

end Go.Gk
