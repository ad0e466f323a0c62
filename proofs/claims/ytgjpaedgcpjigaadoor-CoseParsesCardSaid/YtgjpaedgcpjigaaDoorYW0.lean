import Derived.Test.YtgjpaedgcpjigaaDoorProg
import Derived.Test.YtgjpaedgcpjigaaDoorGkI
import Derived.Test.YtgjpaedgcpjigaaDoorYWman
set_option linter.unusedVariables false
set_option linter.unusedSimpArgs false
namespace Go.Proofs
open Go Go.RowKit Go.Gk
theorem hmix : Tryd.prog.follows .mixedOrders = true := by kernel_rfl
theorem ti3 : TI Tryd.prog 3 (.int .i64 0) 1 8 := by unfold TI; kernel_rfl
theorem ti5 : TI Tryd.prog 5 (.int .u8 0) 1 1 := by unfold TI; kernel_rfl
theorem ti9 : TI Tryd.prog 9 (.string ⟨#[]⟩) 1 16 := by unfold TI; kernel_rfl
theorem ti42 : TI Tryd.prog 42 (.agg #[.int .i64 0, .int .u64 0, .string ⟨#[]⟩, .int .i64 0]) 4 40 := by unfold TI; kernel_rfl
theorem ti78 : TI Tryd.prog 78 (.agg #[.int .i64 0, .int .i64 0, .int .u64 0, .bool false, .int .i64 0, .slice none 0 0]) 6 64 := by unfold TI; kernel_rfl
theorem ti130 : TI Tryd.prog 130 (.agg #[.int .i64 0, .string ⟨#[]⟩, .string ⟨#[]⟩, .bool false, .int .i64 0, .int .i64 0]) 6 64 := by unfold TI; kernel_rfl
theorem eg42 : Tryd.prog.eqGuardType Tryd.prog.depth 42 = false := by kernel_rfl
theorem lay130 : layOf Tryd.prog 130 = some ([(0, 1), (1, 1), (2, 1), (3, 1), (4, 1), (5, 1)], [vI 0, vS [], vS [], vB false, vI 0, vI 0]) := by kernel_rfl
theorem lay135 : layOf Tryd.prog 135 = some ([(0, 1), (1, 1)], [vS [], vI 0]) := by kernel_rfl
theorem lay143 : layOf Tryd.prog 143 = some ([(0, 1), (1, 1), (2, 1), (3, 1), (4, 1)], [vI 0, .slice none 0 0, vS [], vI 0, vI 0]) := by kernel_rfl
theorem lay146 : layOf Tryd.prog 146 = some ([(0, 1), (1, 1), (2, 1), (3, 1), (4, 1), (5, 1), (6, 1)], [vB false, .slice none 0 0, vI 0, vB false, .slice none 0 0, vB false, vS []]) := by kernel_rfl
theorem lay42 : layOf Tryd.prog 42 = some ([(0, 1), (1, 1), (2, 1), (3, 1)], [vI 0, v64 0, vS [], vI 0]) := by kernel_rfl
theorem lay72 : layOf Tryd.prog 72 = some ([(0, 1), (1, 1), (2, 1), (3, 1)], [.slice none 0 0, vI 0, .slice none 0 0, .slice none 0 0]) := by kernel_rfl
theorem lay76 : layOf Tryd.prog 76 = some ([(0, 1), (1, 1)], [vI 0, vI 0]) := by kernel_rfl
theorem lay78 : layOf Tryd.prog 78 = some ([(0, 1), (1, 1), (2, 1), (3, 1), (4, 1), (5, 1)], [vI 0, vI 0, v64 0, vB false, vI 0, .slice none 0 0]) := by kernel_rfl
theorem lay83 : layOf Tryd.prog 83 = some ([(0, 1), (1, 1), (2, 1), (3, 1), (4, 1)], [vI 0, vS [], vS [], vS [], vS []]) := by kernel_rfl
theorem lay93 : layOf Tryd.prog 93 = some ([(0, 1), (1, 1), (2, 1), (3, 1), (4, 1)], [vS [], vI 0, .slice none 0 0, vI 0, vI 0]) := by kernel_rfl
theorem lay98 : layOf Tryd.prog 98 = some ([(0, 1), (1, 1), (2, 1), (3, 1), (4, 1)], [vS [], vS [], vS [], vS [], vI 0]) := by kernel_rfl
theorem nz128 : (Tryd.prog.info? 128).map (·.size == 0) = some false := by kernel_rfl
theorem nz2 : (Tryd.prog.info? 2).map (·.size == 0) = some false := by kernel_rfl
theorem nz22 : (Tryd.prog.info? 22).map (·.size == 0) = some false := by kernel_rfl
theorem nz3 : (Tryd.prog.info? 3).map (·.size == 0) = some false := by kernel_rfl
theorem nz30 : (Tryd.prog.info? 30).map (·.size == 0) = some false := by kernel_rfl
theorem nz37 : (Tryd.prog.info? 37).map (·.size == 0) = some false := by kernel_rfl
theorem nz4 : (Tryd.prog.info? 4).map (·.size == 0) = some false := by kernel_rfl
theorem nz40 : (Tryd.prog.info? 40).map (·.size == 0) = some false := by kernel_rfl
theorem nz50 : (Tryd.prog.info? 50).map (·.size == 0) = some false := by kernel_rfl
theorem nz60 : (Tryd.prog.info? 60).map (·.size == 0) = some false := by kernel_rfl
theorem nz70 : (Tryd.prog.info? 70).map (·.size == 0) = some false := by kernel_rfl
theorem nz9 : (Tryd.prog.info? 9).map (·.size == 0) = some false := by kernel_rfl
theorem sh42 : Tryd.prog.stoodInHeld 42 = false := by kernel_rfl
theorem sz130 : (Tryd.prog.info? 130).map (·.size) = some 6 := by kernel_rfl
theorem sz135 : (Tryd.prog.info? 135).map (·.size) = some 2 := by kernel_rfl
theorem sz143 : (Tryd.prog.info? 143).map (·.size) = some 5 := by kernel_rfl
theorem sz146 : (Tryd.prog.info? 146).map (·.size) = some 7 := by kernel_rfl
theorem sz22 : (Tryd.prog.info? 22).map (·.size) = some 1 := by kernel_rfl
theorem sz3 : (Tryd.prog.info? 3).map (·.size) = some 1 := by kernel_rfl
theorem sz30 : (Tryd.prog.info? 30).map (·.size) = some 1 := by kernel_rfl
theorem sz37 : (Tryd.prog.info? 37).map (·.size) = some 1 := by kernel_rfl
theorem sz4 : (Tryd.prog.info? 4).map (·.size) = some 1 := by kernel_rfl
theorem sz40 : (Tryd.prog.info? 40).map (·.size) = some 1 := by kernel_rfl
theorem sz42 : (Tryd.prog.info? 42).map (·.size) = some 4 := by kernel_rfl
theorem sz5 : (Tryd.prog.info? 5).map (·.size) = some 1 := by kernel_rfl
theorem sz50 : (Tryd.prog.info? 50).map (·.size) = some 1 := by kernel_rfl
theorem sz60 : (Tryd.prog.info? 60).map (·.size) = some 1 := by kernel_rfl
theorem sz70 : (Tryd.prog.info? 70).map (·.size) = some 1 := by kernel_rfl
theorem sz78 : (Tryd.prog.info? 78).map (·.size) = some 6 := by kernel_rfl
theorem sz83 : (Tryd.prog.info? 83).map (·.size) = some 5 := by kernel_rfl
theorem sz9 : (Tryd.prog.info? 9).map (·.size) = some 1 := by kernel_rfl
theorem sz98 : (Tryd.prog.info? 98).map (·.size) = some 5 := by kernel_rfl
theorem tz126 : (Tryd.prog.info? 126).map (·.zero) = some (some (.agg #[.int .u8 0, .int .u8 0, .int .u8 0, .int .u8 0, .int .u8 0, .int .u8 0, .int .u8 0, .int .u8 0])) := by kernel_rfl
theorem tz130 : (Tryd.prog.info? 130).map (·.zero) = some (some (.agg #[.int .i64 0, .string ⟨#[]⟩, .string ⟨#[]⟩, .bool false, .int .i64 0, .int .i64 0])) := by kernel_rfl
theorem tz135 : (Tryd.prog.info? 135).map (·.zero) = some (some (.agg #[.string ⟨#[]⟩, .int .i64 0])) := by kernel_rfl
theorem tz143 : (Tryd.prog.info? 143).map (·.zero) = some (some (.agg #[.int .i64 0, .slice none 0 0, .string ⟨#[]⟩, .int .i64 0, .int .i64 0])) := by kernel_rfl
theorem tz146 : (Tryd.prog.info? 146).map (·.zero) = some (some (.agg #[.bool false, .slice none 0 0, .int .i64 0, .bool false, .slice none 0 0, .bool false, .string ⟨#[]⟩])) := by kernel_rfl
theorem tz3 : (Tryd.prog.info? 3).map (·.zero) = some (some (.int .i64 0)) := by kernel_rfl
theorem tz42 : (Tryd.prog.info? 42).map (·.zero) = some (some (.agg #[.int .i64 0, .int .u64 0, .string ⟨#[]⟩, .int .i64 0])) := by kernel_rfl
theorem tz78 : (Tryd.prog.info? 78).map (·.zero) = some (some (.agg #[.int .i64 0, .int .i64 0, .int .u64 0, .bool false, .int .i64 0, .slice none 0 0])) := by kernel_rfl
theorem tz83 : (Tryd.prog.info? 83).map (·.zero) = some (some (.agg #[.int .i64 0, .string ⟨#[]⟩, .string ⟨#[]⟩, .string ⟨#[]⟩, .string ⟨#[]⟩])) := by kernel_rfl
theorem tz98 : (Tryd.prog.info? 98).map (·.zero) = some (some (.agg #[.string ⟨#[]⟩, .string ⟨#[]⟩, .string ⟨#[]⟩, .string ⟨#[]⟩, .int .i64 0])) := by kernel_rfl
end Go.Proofs
