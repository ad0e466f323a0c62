/-
  DERIVED. GIVEN WITH THE SEED: THE PROGRAM's TIES (one call each: nine closed facts by the kernel) AND EACH ROW's TIE, after the 31st guide's Derived/Test/Toyas{Tie, Card}.lean. No idea stands in it: it is a product of the set-up. Laid BY PROGRAM, IN A SANDBOX (cutbox-door.mjs). By AI agents, Wed Nov 11 2026. No macro, syntax, notation, axiom, sorry.
-/
import Derived.Test.YthnmbmmifamifaaGreatDoorRows
import Derived.LaidByTextLater
import Derived.SevenTiedAt
import Derived.LaidSub
import Derived.LaidOnce
namespace Go.Proofs.YthnmbmmifamifaaGreatDoor
open Go
set_option maxRecDepth 100000
theorem seatTie1 : Tryz.prog.laidByTextLater [("signet/sha.k256", Rows.laid_signet_sha_k256), ("signet/sha.k512", Rows.laid_signet_sha_k512), ("signet/sha.start256", Rows.laid_signet_sha_start256), ("signet/sha.start384", Rows.laid_signet_sha_start384), ("signet/sha.start512", Rows.laid_signet_sha_start512), ("signet/signetref4.k256", Rows.laid_signet_signetref4_k256), ("signet/signetref4.k512", Rows.laid_signet_signetref4_k512), ("signet/signetref4.start256", Rows.laid_signet_signetref4_start256), ("signet/signetref4.start384", Rows.laid_signet_signetref4_start384), ("signet/signetref4.start512", Rows.laid_signet_signetref4_start512), ("signet/ed.primeLimbs", Rows.laid_signet_ed_primeLimbs), ("signet/ed.orderLimbs", Rows.laid_signet_ed_orderLimbs), ("signet/ed.curveLimbs", Rows.laid_signet_ed_curveLimbs), ("signet/ed.rootLimbs", Rows.laid_signet_ed_rootLimbs), ("signet/ed.baseLimbs", Rows.laid_signet_ed_baseLimbs), ("signet/rsa1.infos", Rows.laid_signet_rsa1_infos)] [.data, .data, .data, .data, .data, .data, .data, .data, .data, .data, .data, .data, .data, .data, .data, .data] true :=
  Program.laidByTextLater_by_one 91 8 81 (by kernel_rfl) (by kernel_rfl) (by kernel_rfl) (by kernel_rfl) (by kernel_rfl) (by kernel_rfl) (fun _ _ => by kernel_rfl)
theorem noOwnUnsafe : Tryz.pinned.checked.prog.headLifts.contains "ownunsafe" = false := by kernel_rfl
theorem tie : Tryz.prog.laidByTextLater [("signet/sha.k256", Rows.laid_signet_sha_k256), ("signet/sha.k512", Rows.laid_signet_sha_k512), ("signet/sha.start256", Rows.laid_signet_sha_start256), ("signet/sha.start384", Rows.laid_signet_sha_start384), ("signet/sha.start512", Rows.laid_signet_sha_start512), ("signet/signetref4.k256", Rows.laid_signet_signetref4_k256), ("signet/signetref4.k512", Rows.laid_signet_signetref4_k512), ("signet/signetref4.start256", Rows.laid_signet_signetref4_start256), ("signet/signetref4.start384", Rows.laid_signet_signetref4_start384), ("signet/signetref4.start512", Rows.laid_signet_signetref4_start512), ("signet/ed.primeLimbs", Rows.laid_signet_ed_primeLimbs), ("signet/ed.orderLimbs", Rows.laid_signet_ed_orderLimbs), ("signet/ed.curveLimbs", Rows.laid_signet_ed_curveLimbs), ("signet/ed.rootLimbs", Rows.laid_signet_ed_rootLimbs), ("signet/ed.baseLimbs", Rows.laid_signet_ed_baseLimbs), ("signet/rsa1.infos", Rows.laid_signet_rsa1_infos)] [.data, .data, .data, .data, .data, .data, .data, .data, .data, .data, .data, .data, .data, .data, .data, .data] true :=
  Program.laidByTextLater.sub seatTie1 ["signet/sha.k256", "signet/sha.k512", "signet/sha.start256", "signet/sha.start384", "signet/sha.start512", "signet/signetref4.k256", "signet/signetref4.k512", "signet/signetref4.start256", "signet/signetref4.start384", "signet/signetref4.start512", "signet/ed.primeLimbs", "signet/ed.orderLimbs", "signet/ed.curveLimbs", "signet/ed.rootLimbs", "signet/ed.baseLimbs", "signet/rsa1.infos"] (by kernel_rfl) (by kernel_rfl)
theorem jwsChecks_row_tie : Rows.jwsChecksRow.laidByTextAt .later Tryz.pinned [.data, .data, .data, .data, .data, .data, .data, .data, .data, .data, .data, .data, .data, .data, .data, .data] true :=
  OpenClaim.laidByTextAt_later rfl rfl tie noOwnUnsafe
theorem jwsChecksUpto_row_tie : Rows.jwsChecksUptoRow.laidByTextAt .later Tryz.pinned [.data, .data, .data, .data, .data, .data, .data, .data, .data, .data, .data, .data, .data, .data, .data, .data] true :=
  OpenClaim.laidByTextAt_later rfl rfl tie noOwnUnsafe
end Go.Proofs.YthnmbmmifamifaaGreatDoor
