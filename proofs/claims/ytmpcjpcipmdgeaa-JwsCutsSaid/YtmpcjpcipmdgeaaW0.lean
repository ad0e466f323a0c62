/- Facts on the program's tables. Written by a program of ours. -/
import Derived.Test.YtmpcjpcipmdgeaaProg
import Derived.Test.YtmpcjpcipmdgeaaGkI
namespace Go.Proofs
open Go Go.RowKit Go.Gk
theorem hmix : Try.prog.follows .mixedOrders = true := by kernel_rfl
theorem x20 : ExtF Try.prog 20 Extern.BytealgCount.count := ⟨Try.f20, by kernel_rfl, by kernel_rfl, by kernel_rfl, by kernel_rfl, by kernel_rfl⟩
theorem x37 : ExtF Try.prog 37 Extern.BytealgIndexByte.indexByte := ⟨Try.f37, by kernel_rfl, by kernel_rfl, by kernel_rfl, by kernel_rfl, by kernel_rfl⟩
theorem ti3 : TI Try.prog 3 (.int .i64 0) 1 8 := by unfold TI; kernel_rfl
theorem ti5 : TI Try.prog 5 (.int .u8 0) 1 1 := by unfold TI; kernel_rfl
theorem lay37 : layOf Try.prog 37 = some ([(0, 1), (1, 1), (2, 1)], [.slice none 0 0, .slice none 0 0, .slice none 0 0]) := by kernel_rfl
theorem lay38 : layOf Try.prog 38 = some ([(0, 1), (1, 1), (2, 1)], [vS [], vS [], vS []]) := by kernel_rfl
theorem sz22 : (Try.prog.info? 22).map (·.size) = some 1 := by kernel_rfl
theorem sz9 : (Try.prog.info? 9).map (·.size) = some 1 := by kernel_rfl
theorem tz37 : (Try.prog.info? 37).map (·.zero) = some (some (.agg #[.slice none 0 0, .slice none 0 0, .slice none 0 0])) := by kernel_rfl
end Go.Proofs
