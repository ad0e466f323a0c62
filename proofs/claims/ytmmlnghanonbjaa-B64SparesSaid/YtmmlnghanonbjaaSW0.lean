import Derived.Test.YtmmlnghanonbjaaProg
import Derived.Test.YtmmlnghanonbjaaGkI
set_option linter.unusedVariables false
set_option linter.unusedSimpArgs false
namespace Go.Proofs
open Go Go.RowKit Go.Gk
theorem hmix : Try.prog.follows .mixedOrders = true := by kernel_rfl
theorem x33 : ExtF Try.prog 33 Extern.BytealgIndexByte.indexByte := ⟨Try.f33, by kernel_rfl, by kernel_rfl, by kernel_rfl, by kernel_rfl, by kernel_rfl⟩
theorem ti5 : TI Try.prog 5 (.int .u8 0) 1 1 := by unfold TI; kernel_rfl
theorem ti22 : TI Try.prog 22 (.slice none 0 0) 1 24 := by unfold TI; kernel_rfl
end Go.Proofs
