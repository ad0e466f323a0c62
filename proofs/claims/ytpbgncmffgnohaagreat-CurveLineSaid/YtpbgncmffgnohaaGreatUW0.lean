import Derived.Test.YtpbgncmffgnohaaGreatProg
import Derived.Test.YtpbgncmffgnohaaGreatGkV
set_option linter.unusedVariables false
set_option linter.unusedSimpArgs false
namespace Go.Proofs
open Go Go.RowKit Go.Gk
theorem hmix : Tryz.prog.follows .mixedOrders = true := by kernel_rfl
theorem ti5 : TI Tryz.prog 5 (.int .u8 0) 1 1 := by unfold TI; kernel_rfl
theorem ti25 : TI Tryz.prog 25 (.slice none 0 0) 1 24 := by unfold TI; kernel_rfl
theorem ti52 : TI Tryz.prog 52 (.int .u32 0) 1 4 := by unfold TI; kernel_rfl
theorem lay27 : layOf Tryz.prog 27 = some ([(0, 1), (1, 1), (2, 1)], [.slice none 0 0, .slice none 0 0, vB false]) := by kernel_rfl
theorem lay49 : layOf Tryz.prog 49 = some ([(0, 1)], [.slice none 0 0]) := by kernel_rfl
theorem lay59 : layOf Tryz.prog 59 = some ([(0, 1), (1, 1), (2, 1), (3, 1), (4, 1), (5, 1), (6, 1)], [.pointer none, .pointer none, .pointer none, .pointer none, .pointer none, vI 0, .nilFunc]) := by kernel_rfl
theorem lay66 : layOf Tryz.prog 66 = some ([(0, 1), (1, 1), (2, 1)], [.pointer none, .pointer none, .pointer none]) := by kernel_rfl
theorem nz24 : (Tryz.prog.info? 24).map (·.size == 0) = some false := by kernel_rfl
theorem nz25 : (Tryz.prog.info? 25).map (·.size == 0) = some false := by kernel_rfl
theorem nz4 : (Tryz.prog.info? 4).map (·.size == 0) = some false := by kernel_rfl
theorem nz56 : (Tryz.prog.info? 56).map (·.size == 0) = some false := by kernel_rfl
theorem nz57 : (Tryz.prog.info? 57).map (·.size == 0) = some false := by kernel_rfl
theorem sz24 : (Tryz.prog.info? 24).map (·.size) = some 1 := by kernel_rfl
theorem sz27 : (Tryz.prog.info? 27).map (·.size) = some 3 := by kernel_rfl
theorem sz4 : (Tryz.prog.info? 4).map (·.size) = some 1 := by kernel_rfl
theorem sz49 : (Tryz.prog.info? 49).map (·.size) = some 1 := by kernel_rfl
theorem sz66 : (Tryz.prog.info? 66).map (·.size) = some 3 := by kernel_rfl
theorem tz27 : (Tryz.prog.info? 27).map (·.zero) = some (some (.agg #[.slice none 0 0, .slice none 0 0, .bool false])) := by kernel_rfl
theorem tz49 : (Tryz.prog.info? 49).map (·.zero) = some (some (.agg #[.slice none 0 0])) := by kernel_rfl
theorem tz62 : (Tryz.prog.info? 62).map (·.zero) = some (some (.agg #[.bool false, .slice none 0 0])) := by kernel_rfl
theorem tz66 : (Tryz.prog.info? 66).map (·.zero) = some (some (.agg #[.pointer none, .pointer none, .pointer none])) := by kernel_rfl
end Go.Proofs
