import Derived.Test.YtmpcjpcipmdgeaaDoorTWman
import Derived.Test.YtmpcjpcipmdgeaaDoorCards
import Derived.Test.YtmpcjpcipmdgeaaDoorTie
import Derived.Test.YtmpcjpcipmdgeaaDoorGkZ
import Derived.Lib.LaidIn
import Derived.Lib.LaidU8T
import Derived.Deep.DeepHandedRow
import Derived.Deep.DeepWitnessRowRef
import Derived.PinnedBridge
import Derived.MakeChecks
import Derived.Lay
import Derived.SevenTiedAt
import Derived.ProofKit
import Derived.SizedLaws
set_option linter.unusedVariables false
set_option linter.unusedSimpArgs false
namespace Go.Proofs.YtmpcjpcipmdgeaaDoor
open Go Go.Proofs Go.RowKit Go.Gk Go.Shelf Go.Lib
theorem d_sha_k256 : (Rows.laid_signet_sha_k256 : DataW Unit) = tabData .u32 (F.tab_sha_k256.map fun x => (x.toNat : Int)) := by kernel_rfl
theorem d_sha_k512 : (Rows.laid_signet_sha_k512 : DataW Unit) = tabData .u64 (F.tab_sha_k512.map fun x => (x.toNat : Int)) := by kernel_rfl
theorem d_sha_start256 : (Rows.laid_signet_sha_start256 : DataW Unit) = tabData .u32 (F.tab_sha_start256.map fun x => (x.toNat : Int)) := by kernel_rfl
theorem d_sha_start384 : (Rows.laid_signet_sha_start384 : DataW Unit) = tabData .u64 (F.tab_sha_start384.map fun x => (x.toNat : Int)) := by kernel_rfl
theorem d_sha_start512 : (Rows.laid_signet_sha_start512 : DataW Unit) = tabData .u64 (F.tab_sha_start512.map fun x => (x.toNat : Int)) := by kernel_rfl
theorem d_ref4_k256 : (Rows.laid_signet_signetref4_k256 : DataW Unit) = tabData .u32 (F.tab_ref4_k256.map fun x => (x.toNat : Int)) := by kernel_rfl
theorem d_ref4_k512 : (Rows.laid_signet_signetref4_k512 : DataW Unit) = tabData .u64 (F.tab_ref4_k512.map fun x => (x.toNat : Int)) := by kernel_rfl
theorem d_ref4_start256 : (Rows.laid_signet_signetref4_start256 : DataW Unit) = tabData .u32 (F.tab_ref4_start256.map fun x => (x.toNat : Int)) := by kernel_rfl
theorem d_ref4_start384 : (Rows.laid_signet_signetref4_start384 : DataW Unit) = tabData .u64 (F.tab_ref4_start384.map fun x => (x.toNat : Int)) := by kernel_rfl
theorem d_ref4_start512 : (Rows.laid_signet_signetref4_start512 : DataW Unit) = tabData .u64 (F.tab_ref4_start512.map fun x => (x.toNat : Int)) := by kernel_rfl
theorem laid_eq : Rows.jwsTagsRow.laid = [("signet/sha.k256", tabData .u32 (F.tab_sha_k256.map fun x => (x.toNat : Int))), ("signet/sha.k512", tabData .u64 (F.tab_sha_k512.map fun x => (x.toNat : Int))), ("signet/sha.start256", tabData .u32 (F.tab_sha_start256.map fun x => (x.toNat : Int))), ("signet/sha.start384", tabData .u64 (F.tab_sha_start384.map fun x => (x.toNat : Int))), ("signet/sha.start512", tabData .u64 (F.tab_sha_start512.map fun x => (x.toNat : Int))), ("signet/signetref4.k256", tabData .u32 (F.tab_ref4_k256.map fun x => (x.toNat : Int))), ("signet/signetref4.k512", tabData .u64 (F.tab_ref4_k512.map fun x => (x.toNat : Int))), ("signet/signetref4.start256", tabData .u32 (F.tab_ref4_start256.map fun x => (x.toNat : Int))), ("signet/signetref4.start384", tabData .u64 (F.tab_ref4_start384.map fun x => (x.toNat : Int))), ("signet/signetref4.start512", tabData .u64 (F.tab_ref4_start512.map fun x => (x.toNat : Int)))] := by
  rw [← d_sha_k256, ← d_sha_k512, ← d_sha_start256, ← d_sha_start384, ← d_sha_start512, ← d_ref4_k256, ← d_ref4_k512, ← d_ref4_start256, ← d_ref4_start384, ← d_ref4_start512]; rfl
theorem tabs {W : World} (hL : laidMetH Tryd.prog Rows.jwsTagsRow.laid W) : TB [] W := by
  rw [laid_eq, MakeChecks.laidMetH_plain _ _ _ (by kernel_rfl)] at hL
  exact ⟨ga64 (by kernel_rfl) (Lib.laidMet.reads hL (.tail _ (.tail _ (.tail _ (.tail _ (.tail _ (.tail _ (.tail _ (.tail _ (.head _)))))))))),
    ga64 (by kernel_rfl) (Lib.laidMet.reads hL (.tail _ (.tail _ (.tail _ (.tail _ (.tail _ (.tail _ (.tail _ (.tail _ (.tail _ (.head _))))))))))),
    ga32 (by kernel_rfl) (Lib.laidMet.reads hL (.tail _ (.tail _ (.head _)))),
    ga64 (by kernel_rfl) (Lib.laidMet.reads hL (.tail _ (.tail _ (.tail _ (.head _))))),
    ga64 (by kernel_rfl) (Lib.laidMet.reads hL (.tail _ (.tail _ (.tail _ (.tail _ (.head _)))))),
    ga32 (by kernel_rfl) (Lib.laidMet.reads hL (.tail _ (.tail _ (.tail _ (.tail _ (.tail _ (.tail _ (.tail _ (.head _))))))))),
    ga32 (by kernel_rfl) (Lib.laidMet.reads hL (.tail _ (.tail _ (.tail _ (.tail _ (.tail _ (.head _))))))),
    ga64 (by kernel_rfl) (Lib.laidMet.reads hL (.tail _ (.tail _ (.tail _ (.tail _ (.tail _ (.tail _ (.head _)))))))),
    ga32 (by kernel_rfl) (Lib.laidMet.reads hL (.head _)),
    ga64 (by kernel_rfl) (Lib.laidMet.reads hL (.tail _ (.head _)))⟩
noncomputable def laidWorld (os : Os) : World :=
  let w0 := World.holding Tryd.prog os ⟨#[], #[], []⟩
  let h1 := putG w0.heap 0 (F.tab_ref4_start384.map fun x => Value.int .u64 (x.toNat : Int)).toArray
  let h2 := putG h1 1 (F.tab_ref4_start512.map fun x => Value.int .u64 (x.toNat : Int)).toArray
  let h3 := putG h2 2 (F.tab_sha_start256.map fun x => Value.int .u32 (x.toNat : Int)).toArray
  let h4 := putG h3 3 (F.tab_sha_start384.map fun x => Value.int .u64 (x.toNat : Int)).toArray
  let h5 := putG h4 4 (F.tab_sha_start512.map fun x => Value.int .u64 (x.toNat : Int)).toArray
  let h6 := putG h5 5 (F.tab_ref4_start256.map fun x => Value.int .u32 (x.toNat : Int)).toArray
  let h7 := putG h6 6 (F.tab_ref4_k256.map fun x => Value.int .u32 (x.toNat : Int)).toArray
  let h8 := putG h7 7 (F.tab_ref4_k512.map fun x => Value.int .u64 (x.toNat : Int)).toArray
  let h9 := putG h8 8 (F.tab_sha_k256.map fun x => Value.int .u32 (x.toNat : Int)).toArray
  let h10 := putG h9 9 (F.tab_sha_k512.map fun x => Value.int .u64 (x.toNat : Int)).toArray
  { w0 with heap := h10 }
theorem laidWorld_os (os : Os) : (laidWorld os).os = os := rfl
theorem laid_met (os : Os) (args : Array Value) : laidMetH Tryd.prog Rows.jwsTagsRow.laid ((laidWorld os).forCall (fun _ _ => 0) ⟨#[], args, []⟩).memory := by
  rw [laid_eq, MakeChecks.laidMetH_plain _ _ _ (by kernel_rfl)]
  exact (LaidIn.of_run (l := [("signet/sha.k256", tabData .u32 (F.tab_sha_k256.map fun x => (x.toNat : Int))), ("signet/sha.k512", tabData .u64 (F.tab_sha_k512.map fun x => (x.toNat : Int))), ("signet/sha.start256", tabData .u32 (F.tab_sha_start256.map fun x => (x.toNat : Int))), ("signet/sha.start384", tabData .u64 (F.tab_sha_start384.map fun x => (x.toNat : Int))), ("signet/sha.start512", tabData .u64 (F.tab_sha_start512.map fun x => (x.toNat : Int))), ("signet/signetref4.k256", tabData .u32 (F.tab_ref4_k256.map fun x => (x.toNat : Int))), ("signet/signetref4.k512", tabData .u64 (F.tab_ref4_k512.map fun x => (x.toNat : Int))), ("signet/signetref4.start256", tabData .u32 (F.tab_ref4_start256.map fun x => (x.toNat : Int))), ("signet/signetref4.start384", tabData .u64 (F.tab_ref4_start384.map fun x => (x.toNat : Int))), ("signet/signetref4.start512", tabData .u64 (F.tab_ref4_start512.map fun x => (x.toNat : Int)))]) [8, 9, 2, 3, 4, 6, 7, 5, 0, 1] 8 (by kernel_rfl) (by kernel_rfl) (by kernel_rfl) (by kernel_rfl)).met
#print axioms tabs
end Go.Proofs.YtmpcjpcipmdgeaaDoor
