import Derived.Test.YthnmbmmifamifaaGreatDoorGkI
import Derived.Test.YthnmbmmifamifaaGreatDoorGkFman
set_option linter.unusedVariables false
set_option linter.unusedSimpArgs false
set_option linter.unusedSectionVars false
namespace Go.Proofs
open Go Go.RowKit Go.Gk
structure TB (S:L01) (w:World):Prop where
 rsa1_infos:GA S w 0 eS F.VK
 ed_orderLimbs:GA S w 1 e32 F.WN
 ed_baseLimbs:GA S w 2 e32 F.adq
 ref4_start384:GA S w 3 e64 F.VX
 ref4_start512:GA S w 4 e64 F.VM
 sha_start256:GA S w 5 e32 F.UR
 sha_start384:GA S w 6 e64 F.UQ
 sha_start512:GA S w 7 e64 F.UU
 ed_primeLimbs:GA S w 8 e32 F.WL
 ed_curveLimbs:GA S w 9 e32 F.Wq
 ref4_start256:GA S w 10 e32 F.Ut
 ref4_k256:GA S w 11 e32 F.UT
 ref4_k512:GA S w 12 e64 F.US
 ed_rootLimbs:GA S w 13 e32 F.Wz
 sha_k256:GA S w 15 e32 F.WC
 sha_k512:GA S w 16 e64 F.V9
theorem TB.now {S:L01} {w w':World} (h:TB S w) (hf:Fr S w w'):TB [] w':=⟨h.rsa1_infos.now hf,h.ed_orderLimbs.now hf,h.ed_baseLimbs.now hf,h.ref4_start384.now hf,h.ref4_start512.now hf,h.sha_start256.now hf,h.sha_start384.now hf,h.sha_start512.now hf,h.ed_primeLimbs.now hf,h.ed_curveLimbs.now hf,h.ref4_start256.now hf,h.ref4_k256.now hf,h.ref4_k512.now hf,h.ed_rootLimbs.now hf,h.sha_k256.now hf,h.sha_k512.now hf⟩
theorem TB.give {S:L01} {w0 w:World} {os0 os:List OE} (h:TB S w0) (hG:St S w0 w (os0++os)):TB (fg os0) w:=⟨h.rsa1_infos.give q11 hG,h.ed_orderLimbs.give q11 hG,h.ed_baseLimbs.give q11 hG,h.ref4_start384.give q11 hG,h.ref4_start512.give q11 hG,h.sha_start256.give q11 hG,h.sha_start384.give q11 hG,h.sha_start512.give q11 hG,h.ed_primeLimbs.give q11 hG,h.ed_curveLimbs.give q11 hG,h.ref4_start256.give q11 hG,h.ref4_k256.give q11 hG,h.ref4_k512.give q11 hG,h.ed_rootLimbs.give q11 hG,h.sha_k256.give q11 hG,h.sha_k512.give q11 hG⟩
end Go.Proofs
