/- Facts on the program's tables. Written by a program of ours. -/
import Derived.Test.YtcdneplfgppapaaProg
import Derived.Test.YtcdneplfgppapaaGkH
namespace Go.Proofs
open Go Go.RowKit Go.Gk
theorem hmix : Try.prog.follows .mixedOrders = true := by kernel_rfl
theorem ti3 : TI Try.prog 3 (.int .i64 0) 1 8 := by unfold TI; kernel_rfl
end Go.Proofs
