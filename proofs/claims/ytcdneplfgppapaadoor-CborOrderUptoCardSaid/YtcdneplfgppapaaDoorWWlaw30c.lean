import Derived.Test.YtcdneplfgppapaaDoorWW0
import Derived.Test.YtcdneplfgppapaaDoorGkFlaw30
import Derived.Test.YtcdneplfgppapaaDoorWWcborc
import Derived.Test.YtcdneplfgppapaaDoorWWlaw30b
import Derived.Test.YtcdneplfgppapaaDoorWWref30d
set_option linter.unusedVariables false
set_option linter.unusedSimpArgs false
set_option linter.unusedVariables false
set_option maxRecDepth 4000
namespace Go.Proofs
open Go Go.RowKit Go.Gk
theorem c_law30_less (w0 : World) (a0 : List UInt8) (a1 : List UInt8) (va0 : Value) (va1 : Value) (ha0 : RP [] w0 e8 va0 a0) (ha1 : RP [] w0 e8 va1 a1) (r : Bool)
  (h : F.law30_less a0 a1 = some r) : Calls Tryd.prog 35 #[va0, va1] w0 (Ret fun v w => v = vB r ∧ St [] w0 w []) := by
 refine calls_at 41 Tryd.func35 rfl rfl rfl ?_
 have hS := St.start w0
 refine wpC_le [(0, va0), (1, va1)] ⟨rfl, rfl, trivial⟩ ?_
 unfold F.law30_less at h
 refine wpC_seq ?_
 refine wpC_region ?_
 refine wpR_v (OpV_assign rfl) rfl ?_
 refine wpR_nil ?_
 refine QE_then_n ?_
 refine wpC_seq ?_
 refine wpC_seq ?_
 refine wpC_region ?_
 refine wpR_v (OpV_assign rfl) rfl ?_
 refine wpR_nil ?_
 refine QE_then_n ?_
 refine wpC_block ?_
 refine wpC_le [(0, va0), (1, va1), (5, vI 0)] ⟨rfl, rfl, rfl, trivial⟩ ?_
 refine loop_ind (F.law30_less_L1 a0 a1) (fun (s : Int) L w => L = [(0, va0), (1, va1), (5, vI s)] ∧ St [] w0 w []) ?_ 0 ⟨rfl, hS⟩ h
 rintro k_14 x_1 L w q_4 hI ih_3 h hk_2
 try dsimp only at hI
 obtain ⟨rfl, hS⟩ := hI
 unfold F.law30_less_L1 at h
 refine wpC_seq ?_
 refine seq_join (r := q_4) (fun (g : Bool) L w => L = [(0, va0), (1, va1), (5, vI x_1), (15, vB g)] ∧ St [] w0 w []) (F.law30_less_K1 a0 a1 x_1) ?_ ?_
 ·rintro x_6 L w hJ h
  try dsimp only at hJ
  obtain ⟨rfl, hS⟩ := hJ
  unfold F.law30_less_K1 at h
  refine wpC_cond rfl (fun hb_13 => ?_) (fun hb_13 => ?_)
  ·have h := if_t h hb_13
   refine wpC_skip ?_
   refine QE_then_n ?_
   refine wpC_seq ?_
   refine wpC_block ?_
   refine wpC_seq ?_
   refine wpC_regionT (fun w' => St [] w0 w' []) (fun _ => true) hmix (fun _ _ _ hf => hf.2) (fun _ _ hf => hf) (by kernel_rfl) ?_
   have hS := hS.drew
   show lxE _ _ _ _ _ _ _ [0, 1, 2, 3, 4, 5, 6, 7, 8] _ _
   refine lxE_v hS rfl rfl (fun w hF => OpV_move rfl) rfl ?_
   refine lxE_v hS rfl rfl (fun w hF => OpV_move rfl) rfl ?_
   obtain ⟨x_8, hx_8, h⟩ := obind_some h
   refine lxE_v hS rfl rfl (fun w hF => G_ix Tryd.underlying25 ti5 rfl rfl (ha0.now hF.fr) hx_8) rfl ?_
   refine lxE_v hS rfl rfl (fun w hF => G_load Tryd.underlying5 rfl rfl (ha0.now hF.fr) hx_8 rfl) rfl ?_
   refine lxE_v hS rfl rfl (fun w hF => OpV_move rfl) rfl ?_
   refine lxE_v hS rfl rfl (fun w hF => OpV_move rfl) rfl ?_
   obtain ⟨x_9, hx_9, h⟩ := obind_some h
   refine lxE_v hS rfl rfl (fun w hF => G_ix Tryd.underlying25 ti5 rfl rfl (ha1.now hF.fr) hx_9) rfl ?_
   refine lxE_v hS rfl rfl (fun w hF => G_load Tryd.underlying5 rfl rfl (ha1.now hF.fr) hx_9 rfl) rfl ?_
   refine lxE_v hS rfl rfl (fun w hF => OpV_bin rfl rfl (b_neq8 _ x_8 x_9)) rfl ?_
   refine lxE_nil hS ?_
   refine QE_then_n ?_
   refine wpC_cond rfl (fun hb_12 => ?_) (fun hb_12 => ?_)
   ·have h := if_t h hb_12
    refine wpC_seq ?_
    refine wpC_regionT (fun w' => St [] w0 w' []) (fun _ => true) hmix (fun _ _ _ hf => hf.2) (fun _ _ hf => hf) (by kernel_rfl) ?_
    have hS := hS.drew
    show lxE _ _ _ _ _ _ _ [0, 1, 2, 3, 4, 5, 6, 7, 8, 9] _ _
    refine lxE_v hS rfl rfl (fun w hF => OpV_move rfl) rfl ?_
    refine lxE_v hS rfl rfl (fun w hF => OpV_move rfl) rfl ?_
    obtain ⟨x_10, hx_10, h⟩ := obind_some h
    refine lxE_v hS rfl rfl (fun w hF => G_ix Tryd.underlying25 ti5 rfl rfl (ha0.now hF.fr) hx_10) rfl ?_
    refine lxE_v hS rfl rfl (fun w hF => G_load Tryd.underlying5 rfl rfl (ha0.now hF.fr) hx_10 rfl) rfl ?_
    refine lxE_v hS rfl rfl (fun w hF => OpV_move rfl) rfl ?_
    refine lxE_v hS rfl rfl (fun w hF => OpV_move rfl) rfl ?_
    obtain ⟨x_11, hx_11, h⟩ := obind_some h
    refine lxE_v hS rfl rfl (fun w hF => G_ix Tryd.underlying25 ti5 rfl rfl (ha1.now hF.fr) hx_11) rfl ?_
    refine lxE_v hS rfl rfl (fun w hF => G_load Tryd.underlying5 rfl rfl (ha1.now hF.fr) hx_11 rfl) rfl ?_
    refine lxE_v hS rfl rfl (fun w hF => OpV_bin rfl rfl (b_lss8 _ x_10 x_11)) rfl ?_
    refine lxE_v hS rfl rfl (fun w hF => OpV_assign rfl) rfl ?_
    refine lxE_nil hS ?_
    refine QE_then_n ?_
    refine wpC_ret ?_
    refine QE_blk_r ?_
    refine QE_then_r ?_
    refine QE_then_r ?_
    have h := oinr_some h hk_2
    refine QE_blk_r ?_
    refine QE_then_r ?_
    cases h
    exact QE_ret1 rfl rfl ⟨rfl, hS⟩
   ·have h := if_f h hb_12
    refine wpC_skip ?_
    refine QE_blk_n ?_
    refine QE_then_n ?_
    refine wpC_region ?_
    refine wpR_v (OpV_move rfl) rfl ?_
    refine wpR_v (OpV_bin rfl rfl (b_iadd _ x_1 1)) rfl ?_
    refine wpR_v (OpV_assign rfl) rfl ?_
    refine wpR_nil ?_
    exact QE_rnd (wpN_le _ (by exact ⟨rfl, rfl, rfl, trivial⟩) (ih_3 (wI (x_1 + 1)) _ _ ⟨rfl, hS⟩ (oinl_some h hk_2)))
  ·have h := if_f h hb_13
   refine wpC_exit ?_
   refine QE_then_x ?_
   refine QE_then_x ?_
   have h := oinr_some h hk_2
   refine QE_blk_x ?_
   refine QE_then_n ?_
   refine wpC_seq ?_
   refine wpC_region ?_
   refine wpR_v (OpV_move rfl) rfl ?_
   refine wpR_v (OpV_len Tryd.underlying25 rfl (ha0.now hS.fr)) rfl ?_
   refine wpR_v (OpV_move rfl) rfl ?_
   refine wpR_v (OpV_len Tryd.underlying25 rfl (ha1.now hS.fr)) rfl ?_
   refine wpR_v (OpV_bin rfl rfl (b_ilss _ (a0.length : Int) (a1.length : Int))) rfl ?_
   refine wpR_v (OpV_assign rfl) rfl ?_
   refine wpR_nil ?_
   refine QE_then_n ?_
   refine wpC_ret ?_
   cases h
   exact QE_ret1 rfl rfl ⟨rfl, hS⟩
 ·intro hK_7
  refine wpC_region ?_
  refine wpR_v (OpV_move rfl) rfl ?_
  refine wpR_v (OpV_move rfl) rfl ?_
  refine wpR_v (OpV_len Tryd.underlying25 rfl (ha0.now hS.fr)) rfl ?_
  refine wpR_v (OpV_bin rfl rfl (b_ilss _ x_1 (a0.length : Int))) rfl ?_
  refine wpR_v (OpV_move rfl) rfl ?_
  cases hb_5 : (decide (x_1 < (a0.length : Int)))
  case true =>
   have h := if_t h hb_5
   try simp only [hb_5]
   refine wpR_gv (t := 10) rfl rfl (OpV_move rfl) rfl ?_
   refine wpR_gv (t := 10) rfl rfl (OpV_move rfl) rfl ?_
   refine wpR_gv (t := 10) rfl rfl (OpV_len Tryd.underlying25 rfl (ha1.now hS.fr)) rfl ?_
   refine wpR_gv (t := 10) rfl rfl (OpV_bin rfl rfl (b_ilss _ x_1 (a1.length : Int))) rfl ?_
   refine wpR_v (OpV_pickT rfl rfl) rfl ?_
   refine wpR_nil ?_
   refine QE_then_n ?_
   exact wpC_le _ (by exact ⟨rfl, rfl, rfl, rfl, trivial⟩) (hK_7 (decide (x_1 < (a1.length : Int))) _ _ ⟨rfl, hS⟩ h)
  case false =>
   have h := if_f h hb_5
   try simp only [hb_5]
   refine wpR_gskip (b := false) (t := 10) rfl rfl rfl rfl ?_
   refine wpR_gskip (b := false) (t := 10) rfl rfl rfl rfl ?_
   refine wpR_gskip (b := false) (t := 10) rfl rfl rfl rfl ?_
   refine wpR_gskip (b := false) (t := 10) rfl rfl rfl rfl ?_
   refine wpR_v (OpV_pickF rfl rfl) rfl ?_
   refine wpR_nil ?_
   refine QE_then_n ?_
   exact wpC_le _ (by exact ⟨rfl, rfl, rfl, rfl, trivial⟩) (hK_7 false _ _ ⟨rfl, hS⟩ h)
end Go.Proofs
