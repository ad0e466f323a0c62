import Derived.Test.YtahgjafdhjbkeaaGreatDoorGkV
import Derived.Test.YtahgjafdhjbkeaaGreatDoorGkFman
set_option linter.unusedVariables false
set_option linter.unusedSimpArgs false
set_option linter.unusedSectionVars false
namespace Go.Proofs
open Go Go.RowKit Go.Gk
structure TB (S:L2) (w:World):Prop where
 ref4_start384:GA S w 0 e64 F.DX
 ref4_start512:GA S w 1 e64 F.DO
 sha_start256:GA S w 2 e32 F.DT
 sha_start384:GA S w 3 e64 F.DS
 sha_start512:GA S w 4 e64 F.DW
 ref4_start256:GA S w 5 e32 F.DF
 ref4_k256:GA S w 6 e32 F.DV
 ref4_k512:GA S w 7 e64 F.DU
 sha_k256:GA S w 9 e32 F.EQ
 sha_k512:GA S w 10 e64 F.Ex
theorem TB.now {S:L2} {w w':World} (h:TB S w) (hf:Fr S w w'):TB [] w':=⟨h.ref4_start384.now hf,h.ref4_start512.now hf,h.sha_start256.now hf,h.sha_start384.now hf,h.sha_start512.now hf,h.ref4_start256.now hf,h.ref4_k256.now hf,h.ref4_k512.now hf,h.sha_k256.now hf,h.sha_k512.now hf⟩
theorem TB.give {S:L2} {w0 w:World} {os0 os:List OE} (h:TB S w0) (hG:St S w0 w (os0++os)):TB (dO os0) w:=⟨h.ref4_start384.give (by decide) hG,h.ref4_start512.give (by decide) hG,h.sha_start256.give (by decide) hG,h.sha_start384.give (by decide) hG,h.sha_start512.give (by decide) hG,h.ref4_start256.give (by decide) hG,h.ref4_k256.give (by decide) hG,h.ref4_k512.give (by decide) hG,h.sha_k256.give (by decide) hG,h.sha_k512.give (by decide) hG⟩
end Go.Proofs
