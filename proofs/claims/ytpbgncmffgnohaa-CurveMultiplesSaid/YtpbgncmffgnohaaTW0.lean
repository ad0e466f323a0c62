import Derived.Test.YtpbgncmffgnohaaProg
import Derived.Test.YtpbgncmffgnohaaGkV
set_option linter.unusedVariables false
set_option linter.unusedSimpArgs false
namespace Go.Proofs
open Go Go.RowKit Go.Gk
theorem hmix : Try.prog.follows .mixedOrders = true := by kernel_rfl
theorem ti5 : TI Try.prog 5 (.int .u8 0) 1 1 := by unfold TI; kernel_rfl
theorem ti52 : TI Try.prog 52 (.int .u32 0) 1 4 := by unfold TI; kernel_rfl
theorem lay26 : layOf Try.prog 26 = some ([(0, 1), (1, 1), (2, 1)], [.slice none 0 0, .slice none 0 0, vB false]) := by kernel_rfl
theorem lay61 : layOf Try.prog 61 = some ([(0, 1), (1, 1), (2, 1), (3, 1), (4, 1), (5, 1), (6, 1)], [.pointer none, .pointer none, .pointer none, .pointer none, .pointer none, vI 0, .nilFunc]) := by kernel_rfl
theorem lay64 : layOf Try.prog 64 = some ([(0, 1), (1, 1), (2, 1)], [.pointer none, .pointer none, .pointer none]) := by kernel_rfl
theorem nz23 : (Try.prog.info? 23).map (·.size == 0) = some false := by kernel_rfl
theorem nz24 : (Try.prog.info? 24).map (·.size == 0) = some false := by kernel_rfl
theorem nz4 : (Try.prog.info? 4).map (·.size == 0) = some false := by kernel_rfl
theorem nz58 : (Try.prog.info? 58).map (·.size == 0) = some false := by kernel_rfl
theorem nz59 : (Try.prog.info? 59).map (·.size == 0) = some false := by kernel_rfl
theorem sz23 : (Try.prog.info? 23).map (·.size) = some 1 := by kernel_rfl
theorem sz26 : (Try.prog.info? 26).map (·.size) = some 3 := by kernel_rfl
theorem sz4 : (Try.prog.info? 4).map (·.size) = some 1 := by kernel_rfl
theorem sz64 : (Try.prog.info? 64).map (·.size) = some 3 := by kernel_rfl
theorem tz26 : (Try.prog.info? 26).map (·.zero) = some (some (.agg #[.slice none 0 0, .slice none 0 0, .bool false])) := by kernel_rfl
theorem tz64 : (Try.prog.info? 64).map (·.zero) = some (some (.agg #[.pointer none, .pointer none, .pointer none])) := by kernel_rfl
theorem tz72 : (Try.prog.info? 72).map (·.zero) = some (some (.agg #[.bool false, .slice none 0 0])) := by kernel_rfl
end Go.Proofs
