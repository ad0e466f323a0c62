import Derived.Test.YtldhmmipbogabaaGreatDoorTWman
import Derived.Test.YtldhmmipbogabaaGreatDoorCards
import Derived.Test.YtldhmmipbogabaaGreatDoorTie
import Derived.Test.YtldhmmipbogabaaGreatDoorGkZ
import Derived.Lib.LaidIn
import Derived.Lib.LaidU8T
import Derived.Deep.DeepHandedRow
import Derived.Deep.DeepWitnessRowRef
import Derived.PinnedBridge
import Derived.MakeChecks
import Derived.Lay
import Derived.SevenTiedAt
import Derived.ProofKit
import Derived.SizedLaws
set_option linter.unusedVariables false
set_option linter.unusedSimpArgs false
namespace Go.Proofs.YtldhmmipbogabaaGreatDoor
open Go Go.Proofs Go.RowKit Go.Gk Go.Shelf Go.Lib
theorem d_sha_k256 : (Rows.laid_signet_sha_k256 : DataW Unit) = tabData .u32 (F.tab_sha_k256.map fun x => (x.toNat : Int)) := by kernel_rfl
theorem d_sha_k512 : (Rows.laid_signet_sha_k512 : DataW Unit) = tabData .u64 (F.tab_sha_k512.map fun x => (x.toNat : Int)) := by kernel_rfl
theorem d_sha_start256 : (Rows.laid_signet_sha_start256 : DataW Unit) = tabData .u32 (F.tab_sha_start256.map fun x => (x.toNat : Int)) := by kernel_rfl
theorem d_sha_start384 : (Rows.laid_signet_sha_start384 : DataW Unit) = tabData .u64 (F.tab_sha_start384.map fun x => (x.toNat : Int)) := by kernel_rfl
theorem d_sha_start512 : (Rows.laid_signet_sha_start512 : DataW Unit) = tabData .u64 (F.tab_sha_start512.map fun x => (x.toNat : Int)) := by kernel_rfl
theorem laid_eq : Rows.jwsSplitsRow.laid = [("signet/sha.k256", tabData .u32 (F.tab_sha_k256.map fun x => (x.toNat : Int))), ("signet/sha.k512", tabData .u64 (F.tab_sha_k512.map fun x => (x.toNat : Int))), ("signet/sha.start256", tabData .u32 (F.tab_sha_start256.map fun x => (x.toNat : Int))), ("signet/sha.start384", tabData .u64 (F.tab_sha_start384.map fun x => (x.toNat : Int))), ("signet/sha.start512", tabData .u64 (F.tab_sha_start512.map fun x => (x.toNat : Int))), ("signet/ed.primeLimbs", Rows.laid_signet_ed_primeLimbs), ("signet/ed.orderLimbs", Rows.laid_signet_ed_orderLimbs), ("signet/ed.curveLimbs", Rows.laid_signet_ed_curveLimbs), ("signet/ed.rootLimbs", Rows.laid_signet_ed_rootLimbs), ("signet/ed.baseLimbs", Rows.laid_signet_ed_baseLimbs), ("signet/rsa1.infos", Rows.laid_signet_rsa1_infos)] := by
  rw [← d_sha_k256, ← d_sha_k512, ← d_sha_start256, ← d_sha_start384, ← d_sha_start512]; rfl
theorem tabs {W : World} (hL : laidMetH Tryz.prog Rows.jwsSplitsRow.laid W) : TB [] W := by
  rw [laid_eq, MakeChecks.laidMetH_plain _ _ _ (by kernel_rfl)] at hL
  exact ⟨ga32 (by kernel_rfl) (Lib.laidMet.reads hL (.tail _ (.tail _ (.head _)))),
    ga64 (by kernel_rfl) (Lib.laidMet.reads hL (.tail _ (.tail _ (.tail _ (.head _))))),
    ga64 (by kernel_rfl) (Lib.laidMet.reads hL (.tail _ (.tail _ (.tail _ (.tail _ (.head _)))))),
    ga32 (by kernel_rfl) (Lib.laidMet.reads hL (.head _)),
    ga64 (by kernel_rfl) (Lib.laidMet.reads hL (.tail _ (.head _)))⟩
noncomputable def laidWorld (os : Os) : World :=
  let w0 := World.holding Tryz.prog os ⟨#[], #[], []⟩
  let h1 := putG w0.heap 16 (F.tab_sha_k256.map fun x => Value.int .u32 (x.toNat : Int)).toArray
  let h2 := putG h1 17 (F.tab_sha_k512.map fun x => Value.int .u64 (x.toNat : Int)).toArray
  let h3 := putG h2 6 (F.tab_sha_start256.map fun x => Value.int .u32 (x.toNat : Int)).toArray
  let h4 := putG h3 7 (F.tab_sha_start384.map fun x => Value.int .u64 (x.toNat : Int)).toArray
  let h5 := putG h4 8 (F.tab_sha_start512.map fun x => Value.int .u64 (x.toNat : Int)).toArray
  let h6 := putG h5 9 #[Value.int .u32 4294967277, Value.int .u32 4294967295, Value.int .u32 4294967295, Value.int .u32 4294967295, Value.int .u32 4294967295, Value.int .u32 4294967295, Value.int .u32 4294967295, Value.int .u32 2147483647]
  let h7 := putG h6 1 #[Value.int .u32 1559614445, Value.int .u32 1477600026, Value.int .u32 2734136534, Value.int .u32 350157278, Value.int .u32 0, Value.int .u32 0, Value.int .u32 0, Value.int .u32 268435456]
  let h8 := putG h7 10 #[Value.int .u32 324630691, Value.int .u32 1978355146, Value.int .u32 1094834347, Value.int .u32 7342669, Value.int .u32 2004478104, Value.int .u32 2361868409, Value.int .u32 728759923, Value.int .u32 1375956206]
  let h9 := putG h8 14 #[Value.int .u32 3052494653, Value.int .u32 991028440, Value.int .u32 1389370247, Value.int .u32 3502041081, Value.int .u32 3255052376, Value.int .u32 3568500582, Value.int .u32 2956861684, Value.int .u32 1417468799]
  let h10 := putG h9 2 #[Value.int .u32 2401621274, Value.int .u32 3377868128, Value.int .u32 2502272946, Value.int .u32 1764542304, Value.int .u32 4258716764, Value.int .u32 3232031281, Value.int .u32 3446559742, Value.int .u32 560543443, Value.int .u32 1717986904, Value.int .u32 1717986918, Value.int .u32 1717986918, Value.int .u32 1717986918, Value.int .u32 1717986918, Value.int .u32 1717986918, Value.int .u32 1717986918, Value.int .u32 1717986918]
  let h11 := putG h10 0 #[Value.string ⟨⟨[]⟩⟩, Value.string ⟨⟨[48, 49, 48, 13, 6, 9, 96, 134, 72, 1, 101, 3, 4, 2, 1, 5, 0, 4, 32]⟩⟩, Value.string ⟨⟨[48, 65, 48, 13, 6, 9, 96, 134, 72, 1, 101, 3, 4, 2, 2, 5, 0, 4, 48]⟩⟩, Value.string ⟨⟨[48, 81, 48, 13, 6, 9, 96, 134, 72, 1, 101, 3, 4, 2, 3, 5, 0, 4, 64]⟩⟩]
  { w0 with heap := h11 }
theorem laidWorld_os (os : Os) : (laidWorld os).os = os := rfl
theorem laid_met (os : Os) (args : Array Value) : laidMetH Tryz.prog Rows.jwsSplitsRow.laid ((laidWorld os).forCall (fun _ _ => 0) ⟨#[], args, []⟩).memory := by
  rw [laid_eq, MakeChecks.laidMetH_plain _ _ _ (by kernel_rfl)]
  exact (LaidIn.of_run (l := [("signet/sha.k256", tabData .u32 (F.tab_sha_k256.map fun x => (x.toNat : Int))), ("signet/sha.k512", tabData .u64 (F.tab_sha_k512.map fun x => (x.toNat : Int))), ("signet/sha.start256", tabData .u32 (F.tab_sha_start256.map fun x => (x.toNat : Int))), ("signet/sha.start384", tabData .u64 (F.tab_sha_start384.map fun x => (x.toNat : Int))), ("signet/sha.start512", tabData .u64 (F.tab_sha_start512.map fun x => (x.toNat : Int))), ("signet/ed.primeLimbs", Rows.laid_signet_ed_primeLimbs), ("signet/ed.orderLimbs", Rows.laid_signet_ed_orderLimbs), ("signet/ed.curveLimbs", Rows.laid_signet_ed_curveLimbs), ("signet/ed.rootLimbs", Rows.laid_signet_ed_rootLimbs), ("signet/ed.baseLimbs", Rows.laid_signet_ed_baseLimbs), ("signet/rsa1.infos", Rows.laid_signet_rsa1_infos)]) [16, 17, 6, 7, 8, 9, 1, 10, 14, 2, 0] 8 (by kernel_rfl) (by kernel_rfl) (by kernel_rfl) (by kernel_rfl)).met
#print axioms tabs
end Go.Proofs.YtldhmmipbogabaaGreatDoor
