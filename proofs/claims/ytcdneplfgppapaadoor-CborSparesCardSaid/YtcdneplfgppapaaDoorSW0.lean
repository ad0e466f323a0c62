import Derived.Test.YtcdneplfgppapaaDoorProg
import Derived.Test.YtcdneplfgppapaaDoorGkI
import Derived.Test.YtcdneplfgppapaaDoorSWman
set_option linter.unusedVariables false
set_option linter.unusedSimpArgs false
namespace Go.Proofs
open Go Go.RowKit Go.Gk
theorem hmix : Tryd.prog.follows .mixedOrders = true := by kernel_rfl
theorem ti5 : TI Tryd.prog 5 (.int .u8 0) 1 1 := by unfold TI; kernel_rfl
theorem ti22 : TI Tryd.prog 22 (.slice none 0 0) 1 24 := by unfold TI; kernel_rfl
theorem ti25 : TI Tryd.prog 25 (.slice none 0 0) 1 24 := by unfold TI; kernel_rfl
theorem ti33 : TI Tryd.prog 33 (.agg #[.int .i64 0, .int .u64 0, .string ⟨#[]⟩, .int .i64 0]) 4 40 := by unfold TI; kernel_rfl
theorem ti69 : TI Tryd.prog 69 (.agg #[.int .i64 0, .int .i64 0, .int .u64 0, .bool false, .int .i64 0, .slice none 0 0]) 6 64 := by unfold TI; kernel_rfl
theorem eg33 : Tryd.prog.eqGuardType Tryd.prog.depth 33 = false := by kernel_rfl
theorem lay33 : layOf Tryd.prog 33 = some ([(0, 1), (1, 1), (2, 1), (3, 1)], [vI 0, v64 0, vS [], vI 0]) := by kernel_rfl
theorem lay63 : layOf Tryd.prog 63 = some ([(0, 1), (1, 1), (2, 1), (3, 1)], [.slice none 0 0, vI 0, .slice none 0 0, .slice none 0 0]) := by kernel_rfl
theorem lay67 : layOf Tryd.prog 67 = some ([(0, 1), (1, 1)], [vI 0, vI 0]) := by kernel_rfl
theorem lay69 : layOf Tryd.prog 69 = some ([(0, 1), (1, 1), (2, 1), (3, 1), (4, 1), (5, 1)], [vI 0, vI 0, v64 0, vB false, vI 0, .slice none 0 0]) := by kernel_rfl
theorem nz22 : (Tryd.prog.info? 22).map (·.size == 0) = some false := by kernel_rfl
theorem nz25 : (Tryd.prog.info? 25).map (·.size == 0) = some false := by kernel_rfl
theorem nz26 : (Tryd.prog.info? 26).map (·.size == 0) = some false := by kernel_rfl
theorem nz3 : (Tryd.prog.info? 3).map (·.size == 0) = some false := by kernel_rfl
theorem nz31 : (Tryd.prog.info? 31).map (·.size == 0) = some false := by kernel_rfl
theorem nz4 : (Tryd.prog.info? 4).map (·.size == 0) = some false := by kernel_rfl
theorem nz61 : (Tryd.prog.info? 61).map (·.size == 0) = some false := by kernel_rfl
theorem nz9 : (Tryd.prog.info? 9).map (·.size == 0) = some false := by kernel_rfl
theorem sh33 : Tryd.prog.stoodInHeld 33 = false := by kernel_rfl
theorem sz22 : (Tryd.prog.info? 22).map (·.size) = some 1 := by kernel_rfl
theorem sz25 : (Tryd.prog.info? 25).map (·.size) = some 1 := by kernel_rfl
theorem sz3 : (Tryd.prog.info? 3).map (·.size) = some 1 := by kernel_rfl
theorem sz31 : (Tryd.prog.info? 31).map (·.size) = some 1 := by kernel_rfl
theorem sz33 : (Tryd.prog.info? 33).map (·.size) = some 4 := by kernel_rfl
theorem sz4 : (Tryd.prog.info? 4).map (·.size) = some 1 := by kernel_rfl
theorem sz5 : (Tryd.prog.info? 5).map (·.size) = some 1 := by kernel_rfl
theorem sz61 : (Tryd.prog.info? 61).map (·.size) = some 1 := by kernel_rfl
theorem sz69 : (Tryd.prog.info? 69).map (·.size) = some 6 := by kernel_rfl
theorem sz9 : (Tryd.prog.info? 9).map (·.size) = some 1 := by kernel_rfl
theorem tz33 : (Tryd.prog.info? 33).map (·.zero) = some (some (.agg #[.int .i64 0, .int .u64 0, .string ⟨#[]⟩, .int .i64 0])) := by kernel_rfl
theorem tz69 : (Tryd.prog.info? 69).map (·.zero) = some (some (.agg #[.int .i64 0, .int .i64 0, .int .u64 0, .bool false, .int .i64 0, .slice none 0 0])) := by kernel_rfl
theorem tz93 : (Tryd.prog.info? 93).map (·.zero) = some (some (.agg #[.int .u8 0, .int .u8 0, .int .u8 0, .int .u8 0, .int .u8 0, .int .u8 0, .int .u8 0, .int .u8 0])) := by kernel_rfl
end Go.Proofs
