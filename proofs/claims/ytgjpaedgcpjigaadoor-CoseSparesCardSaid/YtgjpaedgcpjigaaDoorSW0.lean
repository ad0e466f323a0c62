import Derived.Test.YtgjpaedgcpjigaaDoorProg
import Derived.Test.YtgjpaedgcpjigaaDoorGkI
import Derived.Test.YtgjpaedgcpjigaaDoorSWman
set_option linter.unusedVariables false
set_option linter.unusedSimpArgs false
namespace Go.Proofs
open Go Go.RowKit Go.Gk
theorem hmix : Tryd.prog.follows .mixedOrders = true := by kernel_rfl
theorem ti3 : TI Tryd.prog 3 (.int .i64 0) 1 8 := by unfold TI; kernel_rfl
theorem ti5 : TI Tryd.prog 5 (.int .u8 0) 1 1 := by unfold TI; kernel_rfl
theorem ti9 : TI Tryd.prog 9 (.string ⟨#[]⟩) 1 16 := by unfold TI; kernel_rfl
theorem ti22 : TI Tryd.prog 22 (.slice none 0 0) 1 24 := by unfold TI; kernel_rfl
theorem ti42 : TI Tryd.prog 42 (.agg #[.int .i64 0, .int .u64 0, .string ⟨#[]⟩, .int .i64 0]) 4 40 := by unfold TI; kernel_rfl
theorem ti78 : TI Tryd.prog 78 (.agg #[.int .i64 0, .int .i64 0, .int .u64 0, .bool false, .int .i64 0, .slice none 0 0]) 6 64 := by unfold TI; kernel_rfl
theorem eg27 : Tryd.prog.eqGuardType Tryd.prog.depth 27 = false := by kernel_rfl
theorem eg42 : Tryd.prog.eqGuardType Tryd.prog.depth 42 = false := by kernel_rfl
theorem lay27 : layOf Tryd.prog 27 = some ([(0, 1), (1, 1)], [vB false, vI 0]) := by kernel_rfl
theorem lay29 : layOf Tryd.prog 29 = some ([(0, 1), (1, 1), (2, 1), (3, 1), (4, 1), (5, 1), (6, 1), (7, 1), (8, 1), (9, 2), (11, 2), (13, 2)], [.slice none 0 0, vS [], vB false, vS [], vB false, .slice none 0 0, vB false, vS [], vB false, vB false, vI 0, vB false, vI 0, vB false, vI 0]) := by kernel_rfl
theorem lay42 : layOf Tryd.prog 42 = some ([(0, 1), (1, 1), (2, 1), (3, 1)], [vI 0, v64 0, vS [], vI 0]) := by kernel_rfl
theorem lay72 : layOf Tryd.prog 72 = some ([(0, 1), (1, 1), (2, 1), (3, 1)], [.slice none 0 0, vI 0, .slice none 0 0, .slice none 0 0]) := by kernel_rfl
theorem lay76 : layOf Tryd.prog 76 = some ([(0, 1), (1, 1)], [vI 0, vI 0]) := by kernel_rfl
theorem lay78 : layOf Tryd.prog 78 = some ([(0, 1), (1, 1), (2, 1), (3, 1), (4, 1), (5, 1)], [vI 0, vI 0, v64 0, vB false, vI 0, .slice none 0 0]) := by kernel_rfl
theorem lay83 : layOf Tryd.prog 83 = some ([(0, 1), (1, 1), (2, 1), (3, 1), (4, 1)], [vI 0, vS [], vS [], vS [], vS []]) := by kernel_rfl
theorem nz2 : (Tryd.prog.info? 2).map (·.size == 0) = some false := by kernel_rfl
theorem nz22 : (Tryd.prog.info? 22).map (·.size == 0) = some false := by kernel_rfl
theorem nz24 : (Tryd.prog.info? 24).map (·.size == 0) = some false := by kernel_rfl
theorem nz25 : (Tryd.prog.info? 25).map (·.size == 0) = some false := by kernel_rfl
theorem nz27 : (Tryd.prog.info? 27).map (·.size == 0) = some false := by kernel_rfl
theorem nz3 : (Tryd.prog.info? 3).map (·.size == 0) = some false := by kernel_rfl
theorem nz30 : (Tryd.prog.info? 30).map (·.size == 0) = some false := by kernel_rfl
theorem nz37 : (Tryd.prog.info? 37).map (·.size == 0) = some false := by kernel_rfl
theorem nz4 : (Tryd.prog.info? 4).map (·.size == 0) = some false := by kernel_rfl
theorem nz40 : (Tryd.prog.info? 40).map (·.size == 0) = some false := by kernel_rfl
theorem nz50 : (Tryd.prog.info? 50).map (·.size == 0) = some false := by kernel_rfl
theorem nz70 : (Tryd.prog.info? 70).map (·.size == 0) = some false := by kernel_rfl
theorem nz9 : (Tryd.prog.info? 9).map (·.size == 0) = some false := by kernel_rfl
theorem sh27 : Tryd.prog.stoodInHeld 27 = false := by kernel_rfl
theorem sh42 : Tryd.prog.stoodInHeld 42 = false := by kernel_rfl
theorem sz22 : (Tryd.prog.info? 22).map (·.size) = some 1 := by kernel_rfl
theorem sz25 : (Tryd.prog.info? 25).map (·.size) = some 1 := by kernel_rfl
theorem sz27 : (Tryd.prog.info? 27).map (·.size) = some 2 := by kernel_rfl
theorem sz29 : (Tryd.prog.info? 29).map (·.size) = some 15 := by kernel_rfl
theorem sz3 : (Tryd.prog.info? 3).map (·.size) = some 1 := by kernel_rfl
theorem sz37 : (Tryd.prog.info? 37).map (·.size) = some 1 := by kernel_rfl
theorem sz4 : (Tryd.prog.info? 4).map (·.size) = some 1 := by kernel_rfl
theorem sz40 : (Tryd.prog.info? 40).map (·.size) = some 1 := by kernel_rfl
theorem sz42 : (Tryd.prog.info? 42).map (·.size) = some 4 := by kernel_rfl
theorem sz5 : (Tryd.prog.info? 5).map (·.size) = some 1 := by kernel_rfl
theorem sz50 : (Tryd.prog.info? 50).map (·.size) = some 1 := by kernel_rfl
theorem sz63 : (Tryd.prog.info? 63).map (·.size) = some 1 := by kernel_rfl
theorem sz70 : (Tryd.prog.info? 70).map (·.size) = some 1 := by kernel_rfl
theorem sz78 : (Tryd.prog.info? 78).map (·.size) = some 6 := by kernel_rfl
theorem sz83 : (Tryd.prog.info? 83).map (·.size) = some 5 := by kernel_rfl
theorem sz9 : (Tryd.prog.info? 9).map (·.size) = some 1 := by kernel_rfl
theorem tz126 : (Tryd.prog.info? 126).map (·.zero) = some (some (.agg #[.int .u8 0, .int .u8 0, .int .u8 0, .int .u8 0, .int .u8 0, .int .u8 0, .int .u8 0, .int .u8 0])) := by kernel_rfl
theorem tz27 : (Tryd.prog.info? 27).map (·.zero) = some (some (.agg #[.bool false, .int .i64 0])) := by kernel_rfl
theorem tz29 : (Tryd.prog.info? 29).map (·.zero) = some (some (.agg #[.slice none 0 0, .string ⟨#[]⟩, .bool false, .string ⟨#[]⟩, .bool false, .slice none 0 0, .bool false, .string ⟨#[]⟩, .bool false, .bool false, .int .i64 0, .bool false, .int .i64 0, .bool false, .int .i64 0])) := by kernel_rfl
theorem tz3 : (Tryd.prog.info? 3).map (·.zero) = some (some (.int .i64 0)) := by kernel_rfl
theorem tz37 : (Tryd.prog.info? 37).map (·.zero) = some (some (.slice none 0 0)) := by kernel_rfl
theorem tz4 : (Tryd.prog.info? 4).map (·.zero) = some (some (.bool false)) := by kernel_rfl
theorem tz42 : (Tryd.prog.info? 42).map (·.zero) = some (some (.agg #[.int .i64 0, .int .u64 0, .string ⟨#[]⟩, .int .i64 0])) := by kernel_rfl
theorem tz63 : (Tryd.prog.info? 63).map (·.zero) = some (some (.nilFunc)) := by kernel_rfl
theorem tz78 : (Tryd.prog.info? 78).map (·.zero) = some (some (.agg #[.int .i64 0, .int .i64 0, .int .u64 0, .bool false, .int .i64 0, .slice none 0 0])) := by kernel_rfl
theorem tz83 : (Tryd.prog.info? 83).map (·.zero) = some (some (.agg #[.int .i64 0, .string ⟨#[]⟩, .string ⟨#[]⟩, .string ⟨#[]⟩, .string ⟨#[]⟩])) := by kernel_rfl
end Go.Proofs
