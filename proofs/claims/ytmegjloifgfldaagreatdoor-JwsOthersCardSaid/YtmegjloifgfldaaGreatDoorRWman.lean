import Derived.Test.YtmegjloifgfldaaGreatDoorGkV
import Derived.Test.YtmegjloifgfldaaGreatDoorGkFman
set_option linter.unusedVariables false
set_option linter.unusedSimpArgs false
set_option linter.unusedSectionVars false
namespace Go.Proofs
open Go Go.RowKit Go.Gk
structure TB (S:Q2) (w:World):Prop where
 rsa1_infos:GA S w 0 eS F.Hr
 ed_orderLimbs:GA S w 1 e32 F.G9
 ed_baseLimbs:GA S w 2 e32 F.Mm
 sha_start256:GA S w 3 e32 F.GZ
 sha_start384:GA S w 4 e64 F.GY
 sha_start512:GA S w 5 e64 F.G0
 ed_primeLimbs:GA S w 6 e32 F.G8
 ed_curveLimbs:GA S w 7 e32 F.G3
 ed_rootLimbs:GA S w 9 e32 F.G6
 sha_k256:GA S w 11 e32 F.HX
 sha_k512:GA S w 12 e64 F.HG
theorem TB.now {S:Q2} {w w':World} (h:TB S w) (hf:Fr S w w'):TB [] w':=⟨h.rsa1_infos.now hf,h.ed_orderLimbs.now hf,h.ed_baseLimbs.now hf,h.sha_start256.now hf,h.sha_start384.now hf,h.sha_start512.now hf,h.ed_primeLimbs.now hf,h.ed_curveLimbs.now hf,h.ed_rootLimbs.now hf,h.sha_k256.now hf,h.sha_k512.now hf⟩
theorem TB.give {S:Q2} {w0 w:World} {os0 os:List OE} (h:TB S w0) (hG:St S w0 w (os0++os)):TB (dw os0) w:=⟨h.rsa1_infos.give (by decide) hG,h.ed_orderLimbs.give (by decide) hG,h.ed_baseLimbs.give (by decide) hG,h.sha_start256.give (by decide) hG,h.sha_start384.give (by decide) hG,h.sha_start512.give (by decide) hG,h.ed_primeLimbs.give (by decide) hG,h.ed_curveLimbs.give (by decide) hG,h.ed_rootLimbs.give (by decide) hG,h.sha_k256.give (by decide) hG,h.sha_k512.give (by decide) hG⟩
end Go.Proofs
