import Derived.Test.YtahgjafdhjbkeaaGreatDoorGkV
import Derived.Test.YtahgjafdhjbkeaaGreatDoorGkFman
set_option linter.unusedVariables false
set_option linter.unusedSimpArgs false
set_option linter.unusedSectionVars false
namespace Go.Proofs
open Go Go.RowKit Go.Gk
structure TB (S:List Nat) (w:World):Prop where
 ref4_start384:GA S w 0 e64 F.Du
 ref4_start512:GA S w 1 e64 F.Dl
 sha_start256:GA S w 2 e32 F.Dq
 sha_start384:GA S w 3 e64 F.Dp
 sha_start512:GA S w 4 e64 F.Dt
 ref4_start256:GA S w 5 e32 F.Db
 ref4_k256:GA S w 6 e32 F.Ds
 ref4_k512:GA S w 7 e64 F.Dr
 sha_k256:GA S w 9 e32 F.Ej
 sha_k512:GA S w 10 e64 F.D0
theorem TB.now {S:List Nat} {w w':World} (h:TB S w) (hf:Fr S w w'):TB [] w':=⟨h.ref4_start384.now hf,h.ref4_start512.now hf,h.sha_start256.now hf,h.sha_start384.now hf,h.sha_start512.now hf,h.ref4_start256.now hf,h.ref4_k256.now hf,h.ref4_k512.now hf,h.sha_k256.now hf,h.sha_k512.now hf⟩
theorem TB.give {S:List Nat} {w0 w:World} {os0 os:List OE} (h:TB S w0) (hG:St S w0 w (os0++os)):TB (dO os0) w:=⟨h.ref4_start384.give (by decide) hG,h.ref4_start512.give (by decide) hG,h.sha_start256.give (by decide) hG,h.sha_start384.give (by decide) hG,h.sha_start512.give (by decide) hG,h.ref4_start256.give (by decide) hG,h.ref4_k256.give (by decide) hG,h.ref4_k512.give (by decide) hG,h.sha_k256.give (by decide) hG,h.sha_k512.give (by decide) hG⟩
end Go.Proofs
