import Derived.Test.YtgjpaedgcpjigaaDoorXW0
import Derived.Test.YtgjpaedgcpjigaaDoorGkFlaw31
import Derived.Test.YtgjpaedgcpjigaaDoorXWcoseb
import Derived.Test.YtgjpaedgcpjigaaDoorXWref31b
set_option linter.unusedVariables false
set_option linter.unusedSimpArgs false
set_option linter.unusedVariables false
set_option maxRecDepth 4000
namespace Go.Proofs
open Go Go.RowKit Go.Gk
theorem c_law31_same (w0 : World) (a0 : List UInt8) (a1 : List UInt8) (va0 : Value) (va1 : Value) (ha0 : RP [] w0 e8 va0 a0) (ha1 : RP [] w0 e8 va1 a1) (r : Bool)
  (h : F.law31_same a0 a1 = some r) : Calls Tryd.prog 22 #[va0, va1] w0 (Ret fun v w => v = vB r ∧ St [] w0 w []) := by
 refine calls_at 26 Tryd.func22 rfl rfl rfl ?_
 have hS := St.start w0
 refine wpC_le [(0, va0), (1, va1)] ⟨rfl, rfl, trivial⟩ ?_
 unfold F.law31_same at h
 refine wpC_seq (wpC_region (wpR_v (OpV_assign rfl) rfl (wpR_nil (QE_then_n (wpC_seq (wpC_seq ?_))))))
 refine wpC_region (wpR_v (OpV_move rfl) rfl (wpR_v (OpV_len Tryd.underlying22 rfl (ha0.now hS.fr)) rfl ?_))
 refine wpR_v (OpV_move rfl) rfl (wpR_v (OpV_len Tryd.underlying22 rfl (ha1.now hS.fr)) rfl ?_)
 refine wpR_v (OpV_bin rfl rfl (b_ineq _ (a0.length : Int) (a1.length : Int))) rfl ?_
 refine wpR_nil (QE_then_n ?_)
 refine wpC_cond rfl (fun hb_10 => ?_) (fun hb_10 => ?_)
 ·have h := if_t h hb_10
  refine wpC_seq (wpC_region (wpR_v (OpV_assign rfl) rfl (wpR_nil (QE_then_n (wpC_ret (QE_then_r ?_))))))
  cases h
  exact QE_ret1 rfl rfl ⟨rfl, hS⟩
 ·have h := if_f h hb_10
  refine wpC_skip (QE_then_n (wpC_seq (wpC_seq (wpC_region (wpR_v (OpV_assign rfl) rfl (wpR_nil ?_))))))
  refine QE_then_n (wpC_block ?_)
  refine wpC_le [(0, va0), (1, va1), (5, vI 0)] ⟨rfl, rfl, rfl, trivial⟩ ?_
  refine loop_ind (F.law31_same_L1 a0 a1) (fun (s : Int) L w => L = [(0, va0), (1, va1), (5, vI s)] ∧ St [] w0 w []) ?_ 0 ⟨rfl, hS⟩ h
  rintro k_9 x_1 L w q_4 hI ih_3 h hk_2
  try dsimp only at hI
  obtain ⟨rfl, hS⟩ := hI
  unfold F.law31_same_L1 at h
  refine wpC_seq (wpC_seq (wpC_region (wpR_v (OpV_move rfl) rfl (wpR_v (OpV_move rfl) rfl (wpR_v (OpV_len Tryd.underlying22 rfl (ha0.now hS.fr)) rfl ?_)))))
  refine wpR_v (OpV_bin rfl rfl (b_ilss _ x_1 (a0.length : Int))) rfl ?_
  refine wpR_nil (QE_then_n ?_)
  refine wpC_cond rfl (fun hb_8 => ?_) (fun hb_8 => ?_)
  ·have h := if_t h hb_8
   refine wpC_skip (QE_then_n (wpC_seq (wpC_block ?_)))
   refine wpC_seq ?_
   refine wpC_regionT (fun w' => St [] w0 w' []) (fun _ => true) hmix (fun _ _ _ hf => hf.2) (fun _ _ hf => hf) (by kernel_rfl) ?_
   have hS := hS.drew
   show lxE _ _ _ _ _ _ _ [0, 1, 2, 3, 4, 5, 6, 7, 8] _ _
   refine lxE_v hS rfl rfl (fun w hF => OpV_move rfl) rfl ?_
   refine lxE_v hS rfl rfl (fun w hF => OpV_move rfl) rfl ?_
   obtain ⟨x_5, hx_5, h⟩ := obind_some h
   refine lxE_v hS rfl rfl (fun w hF => G_ix Tryd.underlying22 ti5 rfl rfl (ha0.now hF.fr) hx_5) rfl ?_
   refine lxE_v hS rfl rfl (fun w hF => G_load Tryd.underlying5 rfl rfl (ha0.now hF.fr) hx_5 rfl) rfl ?_
   refine lxE_v hS rfl rfl (fun w hF => OpV_move rfl) rfl ?_
   refine lxE_v hS rfl rfl (fun w hF => OpV_move rfl) rfl ?_
   obtain ⟨x_6, hx_6, h⟩ := obind_some h
   refine lxE_v hS rfl rfl (fun w hF => G_ix Tryd.underlying22 ti5 rfl rfl (ha1.now hF.fr) hx_6) rfl ?_
   refine lxE_v hS rfl rfl (fun w hF => G_load Tryd.underlying5 rfl rfl (ha1.now hF.fr) hx_6 rfl) rfl ?_
   refine lxE_v hS rfl rfl (fun w hF => OpV_bin rfl rfl (b_neq8 _ x_5 x_6)) rfl ?_
   refine lxE_nil hS ?_
   refine QE_then_n ?_
   refine wpC_cond rfl (fun hb_7 => ?_) (fun hb_7 => ?_)
   ·have h := if_t h hb_7
    refine wpC_seq (wpC_region (wpR_v (OpV_assign rfl) rfl (wpR_nil (QE_then_n (wpC_ret (QE_blk_r ?_))))))
    refine QE_then_r (QE_then_r ?_)
    have h := oinr_some h hk_2
    refine QE_blk_r ?_
    refine QE_then_r ?_
    cases h
    exact QE_ret1 rfl rfl ⟨rfl, hS⟩
   ·have h := if_f h hb_7
    refine wpC_skip (QE_blk_n ?_)
    refine QE_then_n (wpC_region (wpR_v (OpV_move rfl) rfl (wpR_v (OpV_bin rfl rfl (b_iadd _ x_1 1)) rfl ?_)))
    refine wpR_v (OpV_assign rfl) rfl (wpR_nil ?_)
    exact QE_rnd (wpN_le _ (by exact ⟨rfl, rfl, rfl, trivial⟩) (ih_3 (wI (x_1 + 1)) _ _ ⟨rfl, hS⟩ (oinl_some h hk_2)))
  ·have h := if_f h hb_8
   refine wpC_exit ?_
   refine QE_then_x (QE_then_x ?_)
   have h := oinr_some h hk_2
   refine QE_blk_x ?_
   refine QE_then_n (wpC_seq (wpC_region (wpR_v (OpV_assign rfl) rfl (wpR_nil (QE_then_n (wpC_ret ?_))))))
   cases h
   exact QE_ret1 rfl rfl ⟨rfl, hS⟩
end Go.Proofs
