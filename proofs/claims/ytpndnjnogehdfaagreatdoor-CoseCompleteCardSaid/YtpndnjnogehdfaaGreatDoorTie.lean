/-
  DERIVED. GIVEN WITH THE SEED: THE PROGRAM's TIES (one call each: nine closed facts by the kernel) AND EACH ROW's TIE, after the 31st guide's Derived/Test/Toyas{Tie, Card}.lean. No idea stands in it: it is a product of the set-up. Laid BY PROGRAM, IN A SANDBOX (cutbox-door.mjs). By AI agents, Wed Nov 11 2026. No macro, syntax, notation, axiom, sorry.
-/
import Derived.Test.YtpndnjnogehdfaaGreatDoorRows
import Derived.LaidByTextLater
import Derived.SevenTiedAt
import Derived.LaidSub
import Derived.LaidOnce
namespace Go.Proofs.YtpndnjnogehdfaaGreatDoor
open Go
set_option maxRecDepth 100000
theorem seatTie1 : Tryz.prog.laidByTextLater [("unicode/utf8.acceptRanges", Rows.laid_unicode_utf8_acceptRanges), ("signet/sha.k256", Rows.laid_signet_sha_k256), ("signet/sha.k512", Rows.laid_signet_sha_k512), ("signet/sha.start256", Rows.laid_signet_sha_start256), ("signet/sha.start384", Rows.laid_signet_sha_start384), ("signet/sha.start512", Rows.laid_signet_sha_start512), ("signet/ed.primeLimbs", Rows.laid_signet_ed_primeLimbs), ("signet/ed.orderLimbs", Rows.laid_signet_ed_orderLimbs), ("signet/ed.curveLimbs", Rows.laid_signet_ed_curveLimbs), ("signet/ed.rootLimbs", Rows.laid_signet_ed_rootLimbs), ("signet/ed.baseLimbs", Rows.laid_signet_ed_baseLimbs), ("signet/rsa1.infos", Rows.laid_signet_rsa1_infos), ("signet/keyset.names", Rows.laid_signet_keyset_names)] [.data, .data, .data, .data, .data, .data, .data, .data, .data, .data, .data, .data, .data] true :=
  Program.laidByTextLater_by_one 81 8 81 (by kernel_rfl) (by kernel_rfl) (by kernel_rfl) (by kernel_rfl) (by kernel_rfl) (by kernel_rfl) (fun _ _ => by kernel_rfl)
theorem pin_laid_unicode_utf8_first : Tryz.pinned.checked.prog.pinnedFits "unicode/utf8.first" = true := by kernel_rfl
theorem noOwnUnsafe : Tryz.pinned.checked.prog.headLifts.contains "ownunsafe" = false := by kernel_rfl
theorem fits1 : Tryz.pinned.checked.prog.listedFits [("unicode/utf8.acceptRanges", Rows.laid_unicode_utf8_acceptRanges), ("signet/sha.k256", Rows.laid_signet_sha_k256), ("signet/sha.k512", Rows.laid_signet_sha_k512), ("signet/sha.start256", Rows.laid_signet_sha_start256), ("signet/sha.start384", Rows.laid_signet_sha_start384), ("signet/sha.start512", Rows.laid_signet_sha_start512), ("signet/ed.primeLimbs", Rows.laid_signet_ed_primeLimbs), ("signet/ed.orderLimbs", Rows.laid_signet_ed_orderLimbs), ("signet/ed.curveLimbs", Rows.laid_signet_ed_curveLimbs), ("signet/ed.rootLimbs", Rows.laid_signet_ed_rootLimbs), ("signet/ed.baseLimbs", Rows.laid_signet_ed_baseLimbs), ("signet/rsa1.infos", Rows.laid_signet_rsa1_infos), ("signet/keyset.names", Rows.laid_signet_keyset_names), ("unicode/utf8.first", Rows.laid_unicode_utf8_first)] = true := by
  unfold Program.listedFits
  rw [noOwnUnsafe]
  kernel_rfl
theorem tie : Tryz.prog.laidByTextLater [("unicode/utf8.acceptRanges", Rows.laid_unicode_utf8_acceptRanges), ("signet/sha.k256", Rows.laid_signet_sha_k256), ("signet/sha.k512", Rows.laid_signet_sha_k512), ("signet/sha.start256", Rows.laid_signet_sha_start256), ("signet/sha.start384", Rows.laid_signet_sha_start384), ("signet/sha.start512", Rows.laid_signet_sha_start512), ("signet/ed.primeLimbs", Rows.laid_signet_ed_primeLimbs), ("signet/ed.orderLimbs", Rows.laid_signet_ed_orderLimbs), ("signet/ed.curveLimbs", Rows.laid_signet_ed_curveLimbs), ("signet/ed.rootLimbs", Rows.laid_signet_ed_rootLimbs), ("signet/ed.baseLimbs", Rows.laid_signet_ed_baseLimbs), ("signet/rsa1.infos", Rows.laid_signet_rsa1_infos), ("signet/keyset.names", Rows.laid_signet_keyset_names)] [.data, .data, .data, .data, .data, .data, .data, .data, .data, .data, .data, .data, .data] true :=
  Program.laidByTextLater.sub seatTie1 ["unicode/utf8.acceptRanges", "signet/sha.k256", "signet/sha.k512", "signet/sha.start256", "signet/sha.start384", "signet/sha.start512", "signet/ed.primeLimbs", "signet/ed.orderLimbs", "signet/ed.curveLimbs", "signet/ed.rootLimbs", "signet/ed.baseLimbs", "signet/rsa1.infos", "signet/keyset.names"] (by kernel_rfl) (by kernel_rfl)
theorem coseComplete_row_tie : Rows.coseCompleteRow.laidByTextAt .later Tryz.pinned [.data, .data, .data, .data, .data, .data, .data, .data, .data, .data, .data, .data, .data, .pinned] true :=
  OpenClaim.laidByTextAt_pinned rfl rfl tie rfl rfl rfl rfl (fun y hy _e => by
    simp only [Rows.coseCompleteRow, List.zip_cons_cons, List.zip_nil_right, List.mem_cons, List.mem_nil_iff, or_false] at hy
    rcases hy with rfl | rfl | rfl | rfl | rfl | rfl | rfl | rfl | rfl | rfl | rfl | rfl | rfl | rfl
    · cases _e
    · cases _e
    · cases _e
    · cases _e
    · cases _e
    · cases _e
    · cases _e
    · cases _e
    · cases _e
    · cases _e
    · cases _e
    · cases _e
    · cases _e
    · exact ⟨pin_laid_unicode_utf8_first, by kernel_rfl⟩) fits1
theorem coseCompleteUpto_row_tie : Rows.coseCompleteUptoRow.laidByTextAt .later Tryz.pinned [.data, .data, .data, .data, .data, .data, .data, .data, .data, .data, .data, .data, .data, .pinned] true :=
  OpenClaim.laidByTextAt_pinned rfl rfl tie rfl rfl rfl rfl (fun y hy _e => by
    simp only [Rows.coseCompleteUptoRow, List.zip_cons_cons, List.zip_nil_right, List.mem_cons, List.mem_nil_iff, or_false] at hy
    rcases hy with rfl | rfl | rfl | rfl | rfl | rfl | rfl | rfl | rfl | rfl | rfl | rfl | rfl | rfl
    · cases _e
    · cases _e
    · cases _e
    · cases _e
    · cases _e
    · cases _e
    · cases _e
    · cases _e
    · cases _e
    · cases _e
    · cases _e
    · cases _e
    · cases _e
    · exact ⟨pin_laid_unicode_utf8_first, by kernel_rfl⟩) fits1
end Go.Proofs.YtpndnjnogehdfaaGreatDoor
