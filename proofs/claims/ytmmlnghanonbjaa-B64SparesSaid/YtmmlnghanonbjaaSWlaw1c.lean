import Derived.Test.YtmmlnghanonbjaaSW0
import Derived.Test.YtmmlnghanonbjaaGkFlaw1
import Derived.Test.YtmmlnghanonbjaaSWb64
import Derived.Test.YtmmlnghanonbjaaSWlaw1b
set_option linter.unusedVariables false
set_option linter.unusedSimpArgs false
set_option linter.unusedVariables false
set_option maxRecDepth 4000
namespace Go.Proofs
open Go Go.RowKit Go.Gk
set_option maxHeartbeats 8000000 in
theorem c_law1_B64Spares (w0 : World) (a0 : List UInt8)   (r : Bool)
  (h : F.law1_B64Spares a0 = some r) : Calls Try.prog 8 #[vS a0] w0 (Ret fun v w => v = vB r ∧ St [] w0 w []) := by
 refine calls_at 265 Try.func8 rfl rfl rfl ?_
 have hS := St.start w0
 refine wpC_le [(0, vS a0)] ⟨rfl, trivial⟩ ?_
 unfold F.law1_B64Spares at h
 refine wpC_seq (wpC_region (wpR_v (OpV_assign rfl) rfl (wpR_nil (QE_then_n (wpC_seq (wpC_seq ?_))))))
 refine wpC_region ?_
 obtain ⟨x_1, hx_1, h⟩ := obind_some h
 refine wpR_call (by kernel_rfl) rfl (c_law1_awake _     _ hx_1) rfl ?_
 rintro _ w ⟨rfl, hS1⟩
 have hS := hS.call hS1
 simp only [List.cons_append, List.nil_append] at hS
 refine wpR_v (OpV_un rfl (u_not x_1)) rfl ?_
 refine wpR_nil (QE_then_n ?_)
 refine wpC_cond rfl (fun hb_271 => ?_) (fun hb_271 => ?_)
 ·have h := if_t h hb_271
  refine wpC_seq (wpC_region (wpR_v (OpV_assign rfl) rfl (wpR_nil (QE_then_n (wpC_ret (QE_then_r ?_))))))
  cases h
  exact QE_ret1 rfl rfl ⟨rfl, hS⟩
 ·have h := if_f h hb_271
  refine wpC_skip (QE_then_n (wpC_seq (wpC_region (wpR_v (OpV_move rfl) rfl ?_))))
  obtain ⟨x_2, hx_2, h⟩ := obind_some h
  refine wpR_call (by kernel_rfl) rfl (c_b64_Decode _ a0    _ hx_2) rfl ?_
  rintro _ w ⟨v_3, rfl, hS1⟩
  have hS := hS.call hS1
  simp only [List.cons_append, List.nil_append] at hS
  refine wpR_v (OpV_move rfl) rfl (wpR_v (OpV_extract rfl rfl) rfl ?_)
  refine wpR_v (OpV_extract rfl rfl) rfl ?_
  refine wpR_v (OpV_extract rfl rfl) rfl ?_
  refine wpR_v (OpV_assign rfl) rfl (wpR_v (OpV_assign rfl) rfl (wpR_v (OpV_assign rfl) rfl (wpR_nil (QE_then_n (wpC_seq (wpC_region ?_))))))
  refine wpR_v (OpV_move rfl) rfl ?_
  obtain ⟨x_5, hx_5, h⟩ := obind_some h
  refine wpR_call (by kernel_rfl) rfl (c_b64_Decode _ a0    _ hx_5) rfl ?_
  rintro _ w ⟨v_6, rfl, hS1⟩
  have hS := hS.call hS1
  simp only [List.cons_append, List.nil_append] at hS
  refine wpR_v (OpV_move rfl) rfl (wpR_v (OpV_extract rfl rfl) rfl ?_)
  refine wpR_v (OpV_extract rfl rfl) rfl ?_
  refine wpR_v (OpV_extract rfl rfl) rfl ?_
  refine wpR_v (OpV_assign rfl) rfl (wpR_v (OpV_assign rfl) rfl (wpR_v (OpV_assign rfl) rfl (wpR_nil (QE_then_n (wpC_seq (wpC_region ?_))))))
  refine wpR_v (OpV_move rfl) rfl ?_
  obtain ⟨x_8, hx_8, h⟩ := obind_some h
  refine wpR_call (by kernel_rfl) rfl (c_b64_DecodeStd _ a0    _ hx_8) rfl ?_
  rintro _ w ⟨v_9, rfl, hS1⟩
  have hS := hS.call hS1
  simp only [List.cons_append, List.nil_append] at hS
  refine wpR_v (OpV_move rfl) rfl (wpR_v (OpV_extract rfl rfl) rfl ?_)
  refine wpR_v (OpV_extract rfl rfl) rfl ?_
  refine wpR_v (OpV_extract rfl rfl) rfl ?_
  refine wpR_v (OpV_assign rfl) rfl (wpR_v (OpV_assign rfl) rfl (wpR_v (OpV_assign rfl) rfl (wpR_nil (QE_then_n (wpC_seq (wpC_region ?_))))))
  refine wpR_v (OpV_move rfl) rfl ?_
  obtain ⟨x_11, hx_11, h⟩ := obind_some h
  refine wpR_call (by kernel_rfl) rfl (c_b64_DecodeStd _ a0    _ hx_11) rfl ?_
  rintro _ w ⟨v_12, rfl, hS1⟩
  have hS := hS.call hS1
  simp only [List.cons_append, List.nil_append] at hS
  refine wpR_v (OpV_move rfl) rfl (wpR_v (OpV_extract rfl rfl) rfl ?_)
  refine wpR_v (OpV_extract rfl rfl) rfl ?_
  refine wpR_v (OpV_extract rfl rfl) rfl ?_
  refine wpR_v (OpV_assign rfl) rfl (wpR_v (OpV_assign rfl) rfl (wpR_v (OpV_assign rfl) rfl (wpR_nil (QE_then_n (wpC_seq ?_)))))
  refine seq_join (r := r) (fun (g : Bool) L w => L = [(0, vS a0), (3, v_3), (4, vI x_2.2.1), (6, v_6), (9, v_9), (10, vI x_8.2.1), (12, v_12), (79, vB g)] ∧ St [] w0 w [own e8 v_3 x_2.1, own e8 v_6 x_5.1, own e8 v_9 x_8.1, own e8 v_12 x_11.1]) (F.law1_B64Spares_K1 x_2 x_5 x_8 x_11 a0) ?_ ?_
  ·rintro x_19 L w hJ h
   try dsimp only at hJ
   obtain ⟨rfl, hS⟩ := hJ
   unfold F.law1_B64Spares_K1 at h
   refine wpC_cond rfl (fun hb_270 => ?_) (fun hb_270 => ?_)
   ·have h := if_t h hb_270
    refine wpC_seq (wpC_region (wpR_v (OpV_assign rfl) rfl (wpR_nil (QE_then_n (wpC_ret (QE_then_r ?_))))))
    cases h
    exact QE_ret1 rfl rfl ⟨rfl, hS.pick [] (by decide) rfl⟩
   ·have h := if_f h hb_270
    refine wpC_skip (QE_then_n (wpC_seq (wpC_region (wpR_v (OpV_move rfl) rfl ?_))))
    obtain ⟨x_21, hx_21, h⟩ := obind_some h
    refine wpR_call (by kernel_rfl) rfl (c_law1_roomy _ x_5.1 v_6  (hS.ro 1 rfl).rp _ hx_21) rfl ?_
    rintro _ w ⟨v_22, rfl, hk_24, hS1⟩
    have hS := hS.call hS1
    simp only [List.cons_append, List.nil_append] at hS
    refine wpR_v (OpV_assign rfl) rfl (wpR_nil (QE_then_n (wpC_seq (wpC_region (wpR_v (OpV_move rfl) rfl ?_)))))
    obtain ⟨x_25, hx_25, h⟩ := obind_some h
    refine wpR_call (by kernel_rfl) rfl (c_law1_roomy _ x_8.1 v_9  (hS.ro 3 rfl).rp _ hx_25) rfl ?_
    rintro _ w ⟨v_26, rfl, hk_28, hS1⟩
    have hS := hS.call hS1
    simp only [List.cons_append, List.nil_append] at hS
    refine wpR_v (OpV_assign rfl) rfl (wpR_nil (QE_then_n (wpC_seq (wpC_seq (wpC_region (wpR_v (OpV_assign rfl) rfl ?_))))))
    refine wpR_nil (QE_then_n (wpC_block ?_))
    refine wpC_le [(0, vS a0), (3, v_3), (4, vI x_2.2.1), (6, v_6), (9, v_9), (10, vI x_8.2.1), (12, v_12), (15, slV v_22 e8.sz 0 x_21.2), (16, slV v_26 e8.sz 0 x_25.2), (17, vI 0)] ⟨rfl, rfl, rfl, rfl, rfl, rfl, rfl, rfl, rfl, rfl, trivial⟩ ?_
    refine loop_ind (F.law1_B64Spares_L1 x_8 x_5 x_11 x_21 x_25 a0 x_2) (fun (s : Int × List UInt8) L w => L = [(0, vS a0), (3, v_3), (4, vI x_2.2.1), (6, v_6), (9, v_9), (10, vI x_8.2.1), (12, v_12), (15, slV v_22 e8.sz 0 x_21.2), (16, slV v_26 e8.sz 0 x_25.2), (17, vI s.1)] ∧ St [] w0 w [own e8 v_3 s.2, own e8 v_6 x_5.1, own e8 v_9 x_8.1, own e8 v_12 x_11.1, own e8 v_22 x_21.1, own e8 v_26 x_25.1]) ?_ (0, x_2.1) ⟨rfl, (hS.pick [2, 3, 4, 5, 1, 0] (by decide) rfl)⟩ h
    rintro k_269 ⟨x_29, x_30⟩ L w q_33 hI ih_32 h hk_31
    try dsimp only at hI
    obtain ⟨rfl, hS⟩ := hI
    unfold F.law1_B64Spares_L1 at h
    refine wpC_seq (wpC_seq (wpC_region (wpR_v (OpV_move rfl) rfl (wpR_v (OpV_move rfl) rfl (wpR_v (OpV_len Try.underlying22 rfl (hS.ro 0 rfl)) rfl ?_)))))
    refine wpR_v (OpV_bin rfl rfl (b_ilss _ x_29 (x_30.length : Int))) rfl ?_
    refine wpR_nil (QE_then_n ?_)
    refine wpC_cond rfl (fun hb_268 => ?_) (fun hb_268 => ?_)
    ·have h := if_t h hb_268
     refine wpC_skip (QE_then_n (wpC_seq (wpC_block ?_)))
     refine wpC_region (wpR_v (OpV_move rfl) rfl (wpR_v (OpV_move rfl) rfl ?_))
     obtain ⟨x_34, hx_34, h⟩ := obind_some h
     refine wpR_v (G_ix Try.underlying22 ti5 rfl rfl (hS.ro 0 rfl) hx_34) rfl ?_
     refine wpR_y (G_storeE (t := 69) ti5 rfl rfl hS (i := 0) rfl hx_34 rfl) ?_
     intro w hS
     obtain ⟨x_35, hx_35, h⟩ := olet_some h
     rw [hx_35] at hS
     refine wpR_nil (QE_blk_n ?_)
     refine QE_then_n (wpC_region (wpR_v (OpV_move rfl) rfl (wpR_v (OpV_bin rfl rfl (b_iadd _ x_29 1)) rfl ?_)))
     refine wpR_v (OpV_assign rfl) rfl (wpR_nil ?_)
     exact QE_rnd (wpN_le _ (by exact ⟨rfl, rfl, rfl, rfl, rfl, rfl, rfl, rfl, rfl, rfl, trivial⟩) (ih_32 (wI (x_29 + 1), x_35) _ _ ⟨rfl, hS⟩ (oinl_some h hk_31)))
    ·have h := if_f h hb_268
     refine wpC_exit ?_
     refine QE_then_x (QE_then_x ?_)
     have h := oinr_some h hk_31
     refine QE_blk_x ?_
     refine QE_then_n (wpC_seq (wpC_seq (wpC_region (wpR_v (OpV_assign rfl) rfl (wpR_nil (QE_then_n ?_))))))
     refine wpC_block ?_
     refine wpC_le [(0, vS a0), (3, v_3), (4, vI x_2.2.1), (6, v_6), (9, v_9), (10, vI x_8.2.1), (12, v_12), (15, slV v_22 e8.sz 0 x_21.2), (16, slV v_26 e8.sz 0 x_25.2), (18, vI 0)] ⟨rfl, rfl, rfl, rfl, rfl, rfl, rfl, rfl, rfl, rfl, trivial⟩ ?_
     refine loop_ind (F.law1_B64Spares_L2 x_5 x_11 x_21 x_25 x_30 a0 x_2 x_8) (fun (s : Int × List UInt8) L w => L = [(0, vS a0), (3, v_3), (4, vI x_2.2.1), (6, v_6), (9, v_9), (10, vI x_8.2.1), (12, v_12), (15, slV v_22 e8.sz 0 x_21.2), (16, slV v_26 e8.sz 0 x_25.2), (18, vI s.1)] ∧ St [] w0 w [own e8 v_3 x_30, own e8 v_6 x_5.1, own e8 v_9 s.2, own e8 v_12 x_11.1, own e8 v_22 x_21.1, own e8 v_26 x_25.1]) ?_ (0, x_8.1) ⟨rfl, hS⟩ h
     rintro k_267 ⟨x_36, x_37⟩ L w q_40 hI ih_39 h hk_38
     try dsimp only at hI
     obtain ⟨rfl, hS⟩ := hI
     unfold F.law1_B64Spares_L2 at h
     refine wpC_seq (wpC_seq (wpC_region (wpR_v (OpV_move rfl) rfl (wpR_v (OpV_move rfl) rfl (wpR_v (OpV_len Try.underlying22 rfl (hS.ro 2 rfl)) rfl ?_)))))
     refine wpR_v (OpV_bin rfl rfl (b_ilss _ x_36 (x_37.length : Int))) rfl ?_
     refine wpR_nil (QE_then_n ?_)
     refine wpC_cond rfl (fun hb_266 => ?_) (fun hb_266 => ?_)
     ·have h := if_t h hb_266
      refine wpC_skip (QE_then_n (wpC_seq (wpC_block ?_)))
      refine wpC_region (wpR_v (OpV_move rfl) rfl (wpR_v (OpV_move rfl) rfl ?_))
      obtain ⟨x_41, hx_41, h⟩ := obind_some h
      refine wpR_v (G_ix Try.underlying22 ti5 rfl rfl (hS.ro 2 rfl) hx_41) rfl ?_
      refine wpR_y (G_storeE (t := 68) ti5 rfl rfl hS (i := 2) rfl hx_41 rfl) ?_
      intro w hS
      obtain ⟨x_42, hx_42, h⟩ := olet_some h
      rw [hx_42] at hS
      refine wpR_nil (QE_blk_n ?_)
      refine QE_then_n (wpC_region (wpR_v (OpV_move rfl) rfl (wpR_v (OpV_bin rfl rfl (b_iadd _ x_36 1)) rfl ?_)))
      refine wpR_v (OpV_assign rfl) rfl (wpR_nil ?_)
      exact QE_rnd (wpN_le _ (by exact ⟨rfl, rfl, rfl, rfl, rfl, rfl, rfl, rfl, rfl, rfl, trivial⟩) (ih_39 (wI (x_36 + 1), x_42) _ _ ⟨rfl, hS⟩ (oinl_some h hk_38)))
     ·have h := if_f h hb_266
      refine wpC_exit ?_
      refine QE_then_x (QE_then_x ?_)
      have h := oinr_some h hk_38
      refine QE_blk_x ?_
      refine QE_then_n (wpC_seq ?_)
      refine seq_join (r := r) (fun (g : Bool) L w => L = [(0, vS a0), (3, v_3), (4, vI x_2.2.1), (6, v_6), (9, v_9), (10, vI x_8.2.1), (12, v_12), (15, slV v_22 e8.sz 0 x_21.2), (16, slV v_26 e8.sz 0 x_25.2), (111, vB g)] ∧ St [] w0 w [own e8 v_3 x_30, own e8 v_6 x_5.1, own e8 v_9 x_37, own e8 v_12 x_11.1, own e8 v_22 x_21.1, own e8 v_26 x_25.1]) (F.law1_B64Spares_K2 x_30 x_5 x_37 x_11 a0 x_2 x_8 x_21 x_25) ?_ ?_
      ·rintro x_46 L w hJ h
       try dsimp only at hJ
       obtain ⟨rfl, hS⟩ := hJ
       unfold F.law1_B64Spares_K2 at h
       refine wpC_cond rfl (fun hb_265 => ?_) (fun hb_265 => ?_)
       ·have h := if_t h hb_265
        refine wpC_seq (wpC_region (wpR_v (OpV_assign rfl) rfl (wpR_nil (QE_then_n (wpC_ret (QE_then_r ?_))))))
        cases h
        exact QE_ret1 rfl rfl ⟨rfl, hS.pick [] (by decide) rfl⟩
       ·have h := if_f h hb_265
        refine wpC_skip (QE_then_n (wpC_seq (wpC_region (wpR_v (OpV_move rfl) rfl (wpR_v (OpV_move rfl) rfl (wpR_v (OpV_move rfl) rfl ?_))))))
        refine wpR_v (OpV_move rfl) rfl ?_
        refine wpR_x (OpX_lit (e := eV) (l := ([SV.of v_3, SV.of v_6, SV.of v_9, SV.of v_12] : List SV)) (vs := [v_3, v_6, v_9, v_12]) Try.underlying34 ti22 rfl rfl rfl (fl_eVc (hS.ro 0 rfl).sv (fl_eVc (hS.ro 1 rfl).sv (fl_eVc (hS.ro 2 rfl).sv (fl_eVc (hS.ro 3 rfl).sv rfl)))) (by decide) (by decide) hS) rfl ?_
        rintro v_48 w hS
        refine wpR_v (OpV_assign rfl) rfl (wpR_nil (QE_then_n (wpC_seq (wpC_seq (wpC_region (wpR_v (OpV_assign rfl) rfl ?_))))))
        refine wpR_nil (QE_then_n (wpC_block ?_))
        refine wpC_loop 100 ?_
        refine wpN_succ ?_
        refine wpC_seq (wpC_seq (wpC_region (wpR_v (OpV_move rfl) rfl (wpR_v (OpV_move rfl) rfl (wpR_v (show OpV _ _ _ _ _ (vI 4) _ from OpV_len Try.underlying34 rfl (hS.ro 0 rfl)) rfl ?_)))))
        refine wpR_v (OpV_bin rfl rfl (b_ilss _ 0 4)) rfl ?_
        refine wpR_nil (QE_then_n (wpC_condT rfl ?_))
        refine wpC_skip (QE_then_n (wpC_seq (wpC_block ?_)))
        refine wpC_seq (wpC_region (wpR_v (OpV_assign rfl) rfl (wpR_nil (QE_then_n (wpC_block ?_)))))
        refine wpC_le [(0, vS a0), (4, vI x_2.2.1), (10, vI x_8.2.1), (15, slV v_22 e8.sz 0 x_21.2), (16, slV v_26 e8.sz 0 x_25.2), (19, v_48), (20, vI 0), (21, vI 0)] ⟨rfl, rfl, rfl, rfl, rfl, rfl, rfl, rfl, trivial⟩ ?_
        refine loop_ind (F.law1_B64Spares_L3 x_5 x_37 x_11 a0 x_2 x_8 x_21 x_25) (fun (s : Int × List UInt8) L w => L = [(0, vS a0), (4, vI x_2.2.1), (10, vI x_8.2.1), (15, slV v_22 e8.sz 0 x_21.2), (16, slV v_26 e8.sz 0 x_25.2), (19, v_48), (20, vI 0), (21, vI s.1)] ∧ St [] w0 w [own e8 v_22 x_21.1, own e8 v_26 x_25.1, own eV v_48 ([SV.of v_3, SV.of v_6, SV.of v_9, SV.of v_12] : List SV), own e8 v_3 s.2, own e8 v_6 x_5.1, own e8 v_9 x_37, own e8 v_12 x_11.1]) ?_ (0, x_30) ⟨rfl, (hS.pick [5, 6, 0, 1, 2, 3, 4] (by decide) rfl)⟩ h
        rintro k_264 ⟨x_50, x_51⟩ L w q_54 hI ih_53 h hk_52
        try dsimp only at hI
        obtain ⟨rfl, hS⟩ := hI
        unfold F.law1_B64Spares_L3 at h
        refine wpC_seq (wpC_seq (wpC_region (wpR_v (OpV_move rfl) rfl (wpR_v (OpV_move rfl) rfl (wpR_v (OpV_move rfl) rfl (wpR_v (G_ix Try.underlying34 ti22 rfl rfl (hS.ro 2 rfl) (show getO ([SV.of v_3, SV.of v_6, SV.of v_9, SV.of v_12] : List SV) (0 : Int) = some (SV.of v_3) from rfl)) rfl ?_))))))
        refine wpR_v (G_load Try.underlying22 rfl rfl (hS.ro 2 rfl) (show getO ([SV.of v_3, SV.of v_6, SV.of v_9, SV.of v_12] : List SV) (0 : Int) = some (SV.of v_3) from rfl) (eVc (hS.ro 3 rfl).sv)) rfl ?_
        refine wpR_v (OpV_len Try.underlying22 rfl (hS.ro 3 rfl)) rfl ?_
        refine wpR_v (OpV_bin rfl rfl (b_ilss _ x_50 (x_51.length : Int))) rfl ?_
        refine wpR_nil (QE_then_n ?_)
        refine wpC_cond rfl (fun hb_263 => ?_) (fun hb_263 => ?_)
        ·have h := if_t h hb_263
         refine wpC_skip (QE_then_n (wpC_seq (wpC_block ?_)))
         refine wpC_region (wpR_v (OpV_move rfl) rfl (wpR_v (OpV_move rfl) rfl (wpR_v (G_ix Try.underlying34 ti22 rfl rfl (hS.ro 2 rfl) (show getO ([SV.of v_3, SV.of v_6, SV.of v_9, SV.of v_12] : List SV) (0 : Int) = some (SV.of v_3) from rfl)) rfl ?_)))
         refine wpR_v (G_load Try.underlying22 rfl rfl (hS.ro 2 rfl) (show getO ([SV.of v_3, SV.of v_6, SV.of v_9, SV.of v_12] : List SV) (0 : Int) = some (SV.of v_3) from rfl) (eVc (hS.ro 3 rfl).sv)) rfl ?_
         refine wpR_v (OpV_move rfl) rfl (wpR_v (OpV_move rfl) rfl (wpR_v (OpV_bin rfl rfl (b_iadd _ 70 0)) rfl ?_))
         refine wpR_v (OpV_conv rfl (cv_i_8 Try.underlying3 Try.underlying5 70)) rfl ?_
         obtain ⟨x_55, hx_55, h⟩ := obind_some h
         refine wpR_v (G_ix Try.underlying22 ti5 rfl rfl (hS.ro 3 rfl) hx_55) rfl ?_
         refine wpR_y (G_storeE (t := (UInt8.ofInt 70)) ti5 rfl rfl hS (i := 3) rfl hx_55 rfl) ?_
         intro w hS
         obtain ⟨x_56, hx_56, h⟩ := olet_some h
         rw [hx_56] at hS
         refine wpR_nil (QE_blk_n ?_)
         refine QE_then_n (wpC_region (wpR_v (OpV_move rfl) rfl (wpR_v (OpV_bin rfl rfl (b_iadd _ x_50 1)) rfl ?_)))
         refine wpR_v (OpV_assign rfl) rfl (wpR_nil ?_)
         exact QE_rnd (wpN_le _ (by exact ⟨rfl, rfl, rfl, rfl, rfl, rfl, rfl, rfl, trivial⟩) (ih_53 (wI (x_50 + 1), x_56) _ _ ⟨rfl, hS⟩ (oinl_some h hk_52)))
        ·have h := if_f h hb_263
         refine wpC_exit ?_
         refine QE_then_x (QE_then_x ?_)
         have h := oinr_some h hk_52
         refine QE_blk_x ?_
         refine QE_blk_n ?_
         refine QE_then_n (wpC_region (wpR_v (OpV_move rfl) rfl (wpR_v (OpV_bin rfl rfl (b_iadd _ 0 1)) rfl ?_)))
         refine wpR_v (OpV_assign rfl) rfl (wpR_nil (QE_rnd ?_))
         refine wpN_succ ?_
         refine wpC_seq (wpC_seq (wpC_region (wpR_v (OpV_move rfl) rfl (wpR_v (OpV_move rfl) rfl (wpR_v (show OpV _ _ _ _ _ (vI 4) _ from OpV_len Try.underlying34 rfl (hS.ro 2 rfl)) rfl ?_)))))
         refine wpR_v (OpV_bin rfl rfl (b_ilss _ 1 4)) rfl ?_
         refine wpR_nil (QE_then_n (wpC_condT rfl ?_))
         refine wpC_skip (QE_then_n (wpC_seq (wpC_block ?_)))
         refine wpC_seq (wpC_region (wpR_v (OpV_assign rfl) rfl (wpR_nil (QE_then_n (wpC_block ?_)))))
         refine wpC_le [(0, vS a0), (4, vI x_2.2.1), (10, vI x_8.2.1), (15, slV v_22 e8.sz 0 x_21.2), (16, slV v_26 e8.sz 0 x_25.2), (19, v_48), (20, vI 1), (21, vI 0)] ⟨rfl, rfl, rfl, rfl, rfl, rfl, rfl, rfl, trivial⟩ ?_
         refine loop_ind (F.law1_B64Spares_L4 x_37 x_11 x_51 a0 x_2 x_8 x_21 x_25) (fun (s : Int × List UInt8) L w => L = [(0, vS a0), (4, vI x_2.2.1), (10, vI x_8.2.1), (15, slV v_22 e8.sz 0 x_21.2), (16, slV v_26 e8.sz 0 x_25.2), (19, v_48), (20, vI 1), (21, vI s.1)] ∧ St [] w0 w [own e8 v_22 x_21.1, own e8 v_26 x_25.1, own eV v_48 ([SV.of v_3, SV.of v_6, SV.of v_9, SV.of v_12] : List SV), own e8 v_3 x_51, own e8 v_6 s.2, own e8 v_9 x_37, own e8 v_12 x_11.1]) ?_ (0, x_5.1) ⟨rfl, hS⟩ h
         rintro k_262 ⟨x_57, x_58⟩ L w q_61 hI ih_60 h hk_59
         try dsimp only at hI
         obtain ⟨rfl, hS⟩ := hI
         unfold F.law1_B64Spares_L4 at h
         refine wpC_seq (wpC_seq (wpC_region (wpR_v (OpV_move rfl) rfl (wpR_v (OpV_move rfl) rfl (wpR_v (OpV_move rfl) rfl (wpR_v (G_ix Try.underlying34 ti22 rfl rfl (hS.ro 2 rfl) (show getO ([SV.of v_3, SV.of v_6, SV.of v_9, SV.of v_12] : List SV) (1 : Int) = some (SV.of v_6) from rfl)) rfl ?_))))))
         refine wpR_v (G_load Try.underlying22 rfl rfl (hS.ro 2 rfl) (show getO ([SV.of v_3, SV.of v_6, SV.of v_9, SV.of v_12] : List SV) (1 : Int) = some (SV.of v_6) from rfl) (eVc (hS.ro 4 rfl).sv)) rfl ?_
         refine wpR_v (OpV_len Try.underlying22 rfl (hS.ro 4 rfl)) rfl ?_
         refine wpR_v (OpV_bin rfl rfl (b_ilss _ x_57 (x_58.length : Int))) rfl ?_
         refine wpR_nil (QE_then_n ?_)
         refine wpC_cond rfl (fun hb_261 => ?_) (fun hb_261 => ?_)
         ·have h := if_t h hb_261
          refine wpC_skip (QE_then_n (wpC_seq (wpC_block ?_)))
          refine wpC_region (wpR_v (OpV_move rfl) rfl (wpR_v (OpV_move rfl) rfl (wpR_v (G_ix Try.underlying34 ti22 rfl rfl (hS.ro 2 rfl) (show getO ([SV.of v_3, SV.of v_6, SV.of v_9, SV.of v_12] : List SV) (1 : Int) = some (SV.of v_6) from rfl)) rfl ?_)))
          refine wpR_v (G_load Try.underlying22 rfl rfl (hS.ro 2 rfl) (show getO ([SV.of v_3, SV.of v_6, SV.of v_9, SV.of v_12] : List SV) (1 : Int) = some (SV.of v_6) from rfl) (eVc (hS.ro 4 rfl).sv)) rfl ?_
          refine wpR_v (OpV_move rfl) rfl (wpR_v (OpV_move rfl) rfl (wpR_v (OpV_bin rfl rfl (b_iadd _ 70 1)) rfl ?_))
          refine wpR_v (OpV_conv rfl (cv_i_8 Try.underlying3 Try.underlying5 71)) rfl ?_
          obtain ⟨x_62, hx_62, h⟩ := obind_some h
          refine wpR_v (G_ix Try.underlying22 ti5 rfl rfl (hS.ro 4 rfl) hx_62) rfl ?_
          refine wpR_y (G_storeE (t := (UInt8.ofInt 71)) ti5 rfl rfl hS (i := 4) rfl hx_62 rfl) ?_
          intro w hS
          obtain ⟨x_63, hx_63, h⟩ := olet_some h
          rw [hx_63] at hS
          refine wpR_nil (QE_blk_n ?_)
          refine QE_then_n (wpC_region (wpR_v (OpV_move rfl) rfl (wpR_v (OpV_bin rfl rfl (b_iadd _ x_57 1)) rfl ?_)))
          refine wpR_v (OpV_assign rfl) rfl (wpR_nil ?_)
          exact QE_rnd (wpN_le _ (by exact ⟨rfl, rfl, rfl, rfl, rfl, rfl, rfl, rfl, trivial⟩) (ih_60 (wI (x_57 + 1), x_63) _ _ ⟨rfl, hS⟩ (oinl_some h hk_59)))
         ·have h := if_f h hb_261
          refine wpC_exit ?_
          refine QE_then_x (QE_then_x ?_)
          have h := oinr_some h hk_59
          refine QE_blk_x ?_
          refine QE_blk_n ?_
          refine QE_then_n (wpC_region (wpR_v (OpV_move rfl) rfl (wpR_v (OpV_bin rfl rfl (b_iadd _ 1 1)) rfl ?_)))
          refine wpR_v (OpV_assign rfl) rfl (wpR_nil (QE_rnd ?_))
          refine wpN_succ ?_
          refine wpC_seq (wpC_seq (wpC_region (wpR_v (OpV_move rfl) rfl (wpR_v (OpV_move rfl) rfl (wpR_v (show OpV _ _ _ _ _ (vI 4) _ from OpV_len Try.underlying34 rfl (hS.ro 2 rfl)) rfl ?_)))))
          refine wpR_v (OpV_bin rfl rfl (b_ilss _ 2 4)) rfl ?_
          refine wpR_nil (QE_then_n (wpC_condT rfl ?_))
          refine wpC_skip (QE_then_n (wpC_seq (wpC_block ?_)))
          refine wpC_seq (wpC_region (wpR_v (OpV_assign rfl) rfl (wpR_nil (QE_then_n (wpC_block ?_)))))
          refine wpC_le [(0, vS a0), (4, vI x_2.2.1), (10, vI x_8.2.1), (15, slV v_22 e8.sz 0 x_21.2), (16, slV v_26 e8.sz 0 x_25.2), (19, v_48), (20, vI 2), (21, vI 0)] ⟨rfl, rfl, rfl, rfl, rfl, rfl, rfl, rfl, trivial⟩ ?_
          refine loop_ind (F.law1_B64Spares_L5 x_11 x_51 x_58 a0 x_2 x_8 x_21 x_25) (fun (s : Int × List UInt8) L w => L = [(0, vS a0), (4, vI x_2.2.1), (10, vI x_8.2.1), (15, slV v_22 e8.sz 0 x_21.2), (16, slV v_26 e8.sz 0 x_25.2), (19, v_48), (20, vI 2), (21, vI s.1)] ∧ St [] w0 w [own e8 v_22 x_21.1, own e8 v_26 x_25.1, own eV v_48 ([SV.of v_3, SV.of v_6, SV.of v_9, SV.of v_12] : List SV), own e8 v_3 x_51, own e8 v_6 x_58, own e8 v_9 s.2, own e8 v_12 x_11.1]) ?_ (0, x_37) ⟨rfl, hS⟩ h
          rintro k_260 ⟨x_64, x_65⟩ L w q_68 hI ih_67 h hk_66
          try dsimp only at hI
          obtain ⟨rfl, hS⟩ := hI
          unfold F.law1_B64Spares_L5 at h
          refine wpC_seq (wpC_seq (wpC_region (wpR_v (OpV_move rfl) rfl (wpR_v (OpV_move rfl) rfl (wpR_v (OpV_move rfl) rfl (wpR_v (G_ix Try.underlying34 ti22 rfl rfl (hS.ro 2 rfl) (show getO ([SV.of v_3, SV.of v_6, SV.of v_9, SV.of v_12] : List SV) (2 : Int) = some (SV.of v_9) from rfl)) rfl ?_))))))
          refine wpR_v (G_load Try.underlying22 rfl rfl (hS.ro 2 rfl) (show getO ([SV.of v_3, SV.of v_6, SV.of v_9, SV.of v_12] : List SV) (2 : Int) = some (SV.of v_9) from rfl) (eVc (hS.ro 5 rfl).sv)) rfl ?_
          refine wpR_v (OpV_len Try.underlying22 rfl (hS.ro 5 rfl)) rfl ?_
          refine wpR_v (OpV_bin rfl rfl (b_ilss _ x_64 (x_65.length : Int))) rfl ?_
          refine wpR_nil (QE_then_n ?_)
          refine wpC_cond rfl (fun hb_259 => ?_) (fun hb_259 => ?_)
          ·have h := if_t h hb_259
           refine wpC_skip (QE_then_n (wpC_seq (wpC_block ?_)))
           refine wpC_region (wpR_v (OpV_move rfl) rfl (wpR_v (OpV_move rfl) rfl (wpR_v (G_ix Try.underlying34 ti22 rfl rfl (hS.ro 2 rfl) (show getO ([SV.of v_3, SV.of v_6, SV.of v_9, SV.of v_12] : List SV) (2 : Int) = some (SV.of v_9) from rfl)) rfl ?_)))
           refine wpR_v (G_load Try.underlying22 rfl rfl (hS.ro 2 rfl) (show getO ([SV.of v_3, SV.of v_6, SV.of v_9, SV.of v_12] : List SV) (2 : Int) = some (SV.of v_9) from rfl) (eVc (hS.ro 5 rfl).sv)) rfl ?_
           refine wpR_v (OpV_move rfl) rfl (wpR_v (OpV_move rfl) rfl (wpR_v (OpV_bin rfl rfl (b_iadd _ 70 2)) rfl ?_))
           refine wpR_v (OpV_conv rfl (cv_i_8 Try.underlying3 Try.underlying5 72)) rfl ?_
           obtain ⟨x_69, hx_69, h⟩ := obind_some h
           refine wpR_v (G_ix Try.underlying22 ti5 rfl rfl (hS.ro 5 rfl) hx_69) rfl ?_
           refine wpR_y (G_storeE (t := (UInt8.ofInt 72)) ti5 rfl rfl hS (i := 5) rfl hx_69 rfl) ?_
           intro w hS
           obtain ⟨x_70, hx_70, h⟩ := olet_some h
           rw [hx_70] at hS
           refine wpR_nil (QE_blk_n ?_)
           refine QE_then_n (wpC_region (wpR_v (OpV_move rfl) rfl (wpR_v (OpV_bin rfl rfl (b_iadd _ x_64 1)) rfl ?_)))
           refine wpR_v (OpV_assign rfl) rfl (wpR_nil ?_)
           exact QE_rnd (wpN_le _ (by exact ⟨rfl, rfl, rfl, rfl, rfl, rfl, rfl, rfl, trivial⟩) (ih_67 (wI (x_64 + 1), x_70) _ _ ⟨rfl, hS⟩ (oinl_some h hk_66)))
          ·have h := if_f h hb_259
           refine wpC_exit ?_
           refine QE_then_x (QE_then_x ?_)
           have h := oinr_some h hk_66
           refine QE_blk_x ?_
           refine QE_blk_n ?_
           refine QE_then_n (wpC_region (wpR_v (OpV_move rfl) rfl (wpR_v (OpV_bin rfl rfl (b_iadd _ 2 1)) rfl ?_)))
           refine wpR_v (OpV_assign rfl) rfl (wpR_nil (QE_rnd ?_))
           refine wpN_succ ?_
           refine wpC_seq (wpC_seq (wpC_region (wpR_v (OpV_move rfl) rfl (wpR_v (OpV_move rfl) rfl (wpR_v (show OpV _ _ _ _ _ (vI 4) _ from OpV_len Try.underlying34 rfl (hS.ro 2 rfl)) rfl ?_)))))
           refine wpR_v (OpV_bin rfl rfl (b_ilss _ 3 4)) rfl ?_
           refine wpR_nil (QE_then_n (wpC_condT rfl ?_))
           refine wpC_skip (QE_then_n (wpC_seq (wpC_block ?_)))
           refine wpC_seq (wpC_region (wpR_v (OpV_assign rfl) rfl (wpR_nil (QE_then_n (wpC_block ?_)))))
           refine wpC_le [(0, vS a0), (4, vI x_2.2.1), (10, vI x_8.2.1), (15, slV v_22 e8.sz 0 x_21.2), (16, slV v_26 e8.sz 0 x_25.2), (19, v_48), (20, vI 3), (21, vI 0)] ⟨rfl, rfl, rfl, rfl, rfl, rfl, rfl, rfl, trivial⟩ ?_
           refine loop_ind (F.law1_B64Spares_L6 x_51 x_58 x_65 a0 x_2 x_8 x_21 x_25) (fun (s : Int × List UInt8) L w => L = [(0, vS a0), (4, vI x_2.2.1), (10, vI x_8.2.1), (15, slV v_22 e8.sz 0 x_21.2), (16, slV v_26 e8.sz 0 x_25.2), (19, v_48), (20, vI 3), (21, vI s.1)] ∧ St [] w0 w [own e8 v_22 x_21.1, own e8 v_26 x_25.1, own eV v_48 ([SV.of v_3, SV.of v_6, SV.of v_9, SV.of v_12] : List SV), own e8 v_3 x_51, own e8 v_6 x_58, own e8 v_9 x_65, own e8 v_12 s.2]) ?_ (0, x_11.1) ⟨rfl, hS⟩ h
           rintro k_258 ⟨x_71, x_72⟩ L w q_75 hI ih_74 h hk_73
           try dsimp only at hI
           obtain ⟨rfl, hS⟩ := hI
           unfold F.law1_B64Spares_L6 at h
           refine wpC_seq (wpC_seq (wpC_region (wpR_v (OpV_move rfl) rfl (wpR_v (OpV_move rfl) rfl (wpR_v (OpV_move rfl) rfl (wpR_v (G_ix Try.underlying34 ti22 rfl rfl (hS.ro 2 rfl) (show getO ([SV.of v_3, SV.of v_6, SV.of v_9, SV.of v_12] : List SV) (3 : Int) = some (SV.of v_12) from rfl)) rfl ?_))))))
           refine wpR_v (G_load Try.underlying22 rfl rfl (hS.ro 2 rfl) (show getO ([SV.of v_3, SV.of v_6, SV.of v_9, SV.of v_12] : List SV) (3 : Int) = some (SV.of v_12) from rfl) (eVc (hS.ro 6 rfl).sv)) rfl ?_
           refine wpR_v (OpV_len Try.underlying22 rfl (hS.ro 6 rfl)) rfl ?_
           refine wpR_v (OpV_bin rfl rfl (b_ilss _ x_71 (x_72.length : Int))) rfl ?_
           refine wpR_nil (QE_then_n ?_)
           refine wpC_cond rfl (fun hb_257 => ?_) (fun hb_257 => ?_)
           ·have h := if_t h hb_257
            refine wpC_skip (QE_then_n (wpC_seq (wpC_block ?_)))
            refine wpC_region (wpR_v (OpV_move rfl) rfl (wpR_v (OpV_move rfl) rfl (wpR_v (G_ix Try.underlying34 ti22 rfl rfl (hS.ro 2 rfl) (show getO ([SV.of v_3, SV.of v_6, SV.of v_9, SV.of v_12] : List SV) (3 : Int) = some (SV.of v_12) from rfl)) rfl ?_)))
            refine wpR_v (G_load Try.underlying22 rfl rfl (hS.ro 2 rfl) (show getO ([SV.of v_3, SV.of v_6, SV.of v_9, SV.of v_12] : List SV) (3 : Int) = some (SV.of v_12) from rfl) (eVc (hS.ro 6 rfl).sv)) rfl ?_
            refine wpR_v (OpV_move rfl) rfl (wpR_v (OpV_move rfl) rfl (wpR_v (OpV_bin rfl rfl (b_iadd _ 70 3)) rfl ?_))
            refine wpR_v (OpV_conv rfl (cv_i_8 Try.underlying3 Try.underlying5 73)) rfl ?_
            obtain ⟨x_76, hx_76, h⟩ := obind_some h
            refine wpR_v (G_ix Try.underlying22 ti5 rfl rfl (hS.ro 6 rfl) hx_76) rfl ?_
            refine wpR_y (G_storeE (t := (UInt8.ofInt 73)) ti5 rfl rfl hS (i := 6) rfl hx_76 rfl) ?_
            intro w hS
            obtain ⟨x_77, hx_77, h⟩ := olet_some h
            rw [hx_77] at hS
            refine wpR_nil (QE_blk_n ?_)
            refine QE_then_n (wpC_region (wpR_v (OpV_move rfl) rfl (wpR_v (OpV_bin rfl rfl (b_iadd _ x_71 1)) rfl ?_)))
            refine wpR_v (OpV_assign rfl) rfl (wpR_nil ?_)
            exact QE_rnd (wpN_le _ (by exact ⟨rfl, rfl, rfl, rfl, rfl, rfl, rfl, rfl, trivial⟩) (ih_74 (wI (x_71 + 1), x_77) _ _ ⟨rfl, hS⟩ (oinl_some h hk_73)))
           ·have h := if_f h hb_257
            refine wpC_exit ?_
            refine QE_then_x (QE_then_x ?_)
            have h := oinr_some h hk_73
            refine QE_blk_x ?_
            refine QE_blk_n ?_
            refine QE_then_n (wpC_region (wpR_v (OpV_move rfl) rfl (wpR_v (OpV_bin rfl rfl (b_iadd _ 3 1)) rfl ?_)))
            refine wpR_v (OpV_assign rfl) rfl (wpR_nil (QE_rnd ?_))
            refine wpN_succ ?_
            refine wpC_seq (wpC_seq (wpC_region (wpR_v (OpV_move rfl) rfl (wpR_v (OpV_move rfl) rfl (wpR_v (show OpV _ _ _ _ _ (vI 4) _ from OpV_len Try.underlying34 rfl (hS.ro 2 rfl)) rfl ?_)))))
            refine wpR_v (OpV_bin rfl rfl (b_ilss _ 4 4)) rfl ?_
            refine wpR_nil (QE_then_n (wpC_condF rfl ?_))
            refine wpC_exit ?_
            refine QE_then_x (QE_then_x (QE_blk_x ?_))
            refine QE_then_n (wpC_seq (wpC_region (wpR_v (OpV_assign rfl) rfl (wpR_nil (QE_then_n (wpC_seq ?_))))))
            refine wpC_seq (wpC_region (wpR_v (OpV_assign rfl) rfl (wpR_nil (QE_then_n (wpC_block ?_)))))
            refine wpC_loop 100 ?_
            refine wpN_succ ?_
            refine wpC_seq (wpC_seq (wpC_region (wpR_v (OpV_move rfl) rfl (wpR_v (OpV_move rfl) rfl (wpR_v (show OpV _ _ _ _ _ (vI 4) _ from OpV_len Try.underlying34 rfl (hS.ro 2 rfl)) rfl ?_)))))
            refine wpR_v (OpV_bin rfl rfl (b_ilss _ 0 4)) rfl ?_
            refine wpR_nil (QE_then_n (wpC_condT rfl ?_))
            refine wpC_skip (QE_then_n (wpC_seq (wpC_block ?_)))
            refine wpC_seq (wpC_region (wpR_v (OpV_move rfl) rfl (wpR_v (OpV_move rfl) rfl (wpR_v (G_ix Try.underlying34 ti22 rfl rfl (hS.ro 2 rfl) (show getO ([SV.of v_3, SV.of v_6, SV.of v_9, SV.of v_12] : List SV) (0 : Int) = some (SV.of v_3) from rfl)) rfl ?_))))
            refine wpR_v (G_load Try.underlying22 rfl rfl (hS.ro 2 rfl) (show getO ([SV.of v_3, SV.of v_6, SV.of v_9, SV.of v_12] : List SV) (0 : Int) = some (SV.of v_3) from rfl) (eVc (hS.ro 3 rfl).sv)) rfl ?_
            refine wpR_v (OpV_assign rfl) rfl ?_
            have hA_79 := (hS.ro 3 rfl).tw
            replace hS := hS.twin 3 rfl
            refine wpR_nil (QE_then_n (wpC_seq (wpC_seq (wpC_region (wpR_v (OpV_assign rfl) rfl (wpR_nil ?_))))))
            refine QE_then_n (wpC_block ?_)
            refine wpC_le [(0, vS a0), (4, vI x_2.2.1), (10, vI x_8.2.1), (15, slV v_22 e8.sz 0 x_21.2), (16, slV v_26 e8.sz 0 x_25.2), (19, v_48), (22, .slice none 0 0), (23, vI 0), (24, v_3), (25, vI 0)] ⟨rfl, rfl, rfl, rfl, rfl, rfl, rfl, rfl, rfl, rfl, trivial⟩ ?_
            refine loop_ind (F.law1_B64Spares_L7 x_58 x_65 x_72 x_51 a0 x_2 x_8 x_21 x_25) (fun (s : List UInt8 × Int) L w => ∃ (v_81 : Value) (b_84 : Nat), L = [(0, vS a0), (4, vI x_2.2.1), (10, vI x_8.2.1), (15, slV v_22 e8.sz 0 x_21.2), (16, slV v_26 e8.sz 0 x_25.2), (19, v_48), (22, .slice none 0 0), (23, vI 0), (24, v_81), (25, vI s.2)] ∧ Tw v_3 x_51 v_81 s.1 b_84 ∧ St [] w0 w [own e8 v_81 s.1, own e8 v_22 x_21.1, own e8 v_26 x_25.1, own eV v_48 ([SV.of v_3, SV.of v_6, SV.of v_9, SV.of v_12] : List SV), twE e8 v_3 x_51 b_84, own e8 v_6 x_58, own e8 v_9 x_65, own e8 v_12 x_72]) ?_ (x_51, 0) ⟨v_3, 0, rfl, hA_79, (hS.pick [4, 1, 2, 3, 0, 5, 6, 7] (by decide) rfl)⟩ h
            rintro k_256 ⟨x_80, x_83⟩ L w q_88 hI ih_87 h hk_86
            try dsimp only at hI
            obtain ⟨v_81, b_84, rfl, hA_85, hS⟩ := hI
            unfold F.law1_B64Spares_L7 at h
            refine wpC_seq (wpC_seq (wpC_region (wpR_v (OpV_move rfl) rfl (wpR_v (OpV_bin rfl rfl (b_ilss _ x_83 70)) rfl ?_))))
            refine wpR_nil (QE_then_n ?_)
            refine wpC_cond rfl (fun hb_255 => ?_) (fun hb_255 => ?_)
            ·have h := if_t h hb_255
             refine wpC_skip (QE_then_n (wpC_seq (wpC_block ?_)))
             refine wpC_region (wpR_v (OpV_move rfl) rfl (wpR_v (OpV_move rfl) rfl (wpR_v (OpV_bin rfl rfl (b_iadd _ 80 0)) rfl ?_)))
             refine wpR_v (OpV_conv rfl (cv_i_8 Try.underlying3 Try.underlying5 80)) rfl ?_
             refine wpR_x (OpX_lit (e := e8) (l := [UInt8.ofInt 80]) (vs := [v8 (UInt8.ofInt 80)]) Try.underlying22 ti5 rfl rfl rfl rfl (by decide) (by decide) hS) rfl ?_
             rintro v_89 w hS
             obtain ⟨x_91, hx_91, h⟩ := obind_some h
             refine wpR_x (G_append_tw Try.underlying22 ti5 rfl rfl rfl hS (i := 1) (j := 5) rfl rfl hA_85 (hS.ro 0 rfl) hx_91) rfl ?_
             rintro v_92 w ⟨b_93, hA_94, hS⟩
             refine wpR_v (OpV_assign rfl) rfl (wpR_nil (QE_blk_n ?_))
             refine QE_then_n (wpC_region (wpR_v (OpV_move rfl) rfl (wpR_v (OpV_bin rfl rfl (b_iadd _ x_83 1)) rfl ?_)))
             refine wpR_v (OpV_assign rfl) rfl (wpR_nil ?_)
             exact QE_rnd (wpN_le _ (by exact ⟨rfl, rfl, rfl, rfl, rfl, rfl, rfl, rfl, rfl, rfl, trivial⟩) (ih_87 (x_91, wI (x_83 + 1)) _ _ ⟨v_92, b_93, rfl, hA_94, (hS.pick [1, 2, 3, 4, 5, 6, 7, 8] (by decide) rfl)⟩ (oinl_some h hk_86)))
            ·have h := if_f h hb_255
             refine wpC_exit ?_
             refine QE_then_x (QE_then_x ?_)
             have h := oinr_some h hk_86
             refine QE_blk_x ?_
             refine QE_then_n (wpC_region (wpR_v (OpV_move rfl) rfl (wpR_v (OpV_move rfl) rfl ?_)))
             refine wpR_x (OpX_lit (e := eV) (l := ([SV.of v_81] : List SV)) (vs := [v_81]) Try.underlying34 ti22 rfl rfl rfl (fl_eVc (hS.ro 0 rfl).sv rfl) (by decide) (by decide) hS) rfl ?_
             rintro v_96 w hS
             refine wpR_x (G_append0 Try.underlying34 ti22 rfl rfl rfl hS (hS.ro 0 rfl) (apO_v rfl)) rfl ?_
             rintro v_98 w hS
             replace hS : St _ w0 w [own eV v_98 ([SV.of v_81] : List SV), own eV v_96 ([SV.of v_81] : List SV), own e8 v_81 x_80, own e8 v_22 x_21.1, own e8 v_26 x_25.1, own eV v_48 ([SV.of v_3, SV.of v_6, SV.of v_9, SV.of v_12] : List SV), twE e8 v_3 x_51 b_84, own e8 v_6 x_58, own e8 v_9 x_65, own e8 v_12 x_72] := hS
             refine wpR_v (OpV_assign rfl) rfl (wpR_nil (QE_blk_n ?_))
             refine QE_then_n (wpC_region (wpR_v (OpV_move rfl) rfl (wpR_v (OpV_bin rfl rfl (b_iadd _ 0 1)) rfl ?_)))
             refine wpR_v (OpV_assign rfl) rfl (wpR_nil (QE_rnd ?_))
             refine wpN_succ ?_
             refine wpC_seq (wpC_seq (wpC_region (wpR_v (OpV_move rfl) rfl (wpR_v (OpV_move rfl) rfl (wpR_v (show OpV _ _ _ _ _ (vI 4) _ from OpV_len Try.underlying34 rfl (hS.ro 5 rfl)) rfl ?_)))))
             refine wpR_v (OpV_bin rfl rfl (b_ilss _ 1 4)) rfl ?_
             refine wpR_nil (QE_then_n (wpC_condT rfl ?_))
             refine wpC_skip (QE_then_n (wpC_seq (wpC_block ?_)))
             refine wpC_seq (wpC_region (wpR_v (OpV_move rfl) rfl (wpR_v (OpV_move rfl) rfl (wpR_v (G_ix Try.underlying34 ti22 rfl rfl (hS.ro 5 rfl) (show getO ([SV.of v_3, SV.of v_6, SV.of v_9, SV.of v_12] : List SV) (1 : Int) = some (SV.of v_6) from rfl)) rfl ?_))))
             refine wpR_v (G_load Try.underlying22 rfl rfl (hS.ro 5 rfl) (show getO ([SV.of v_3, SV.of v_6, SV.of v_9, SV.of v_12] : List SV) (1 : Int) = some (SV.of v_6) from rfl) (eVc (hS.ro 7 rfl).sv)) rfl ?_
             refine wpR_v (OpV_assign rfl) rfl ?_
             have hA_101 := (hS.ro 7 rfl).tw
             replace hS := hS.twin 7 rfl
             refine wpR_nil (QE_then_n (wpC_seq (wpC_seq (wpC_region (wpR_v (OpV_assign rfl) rfl (wpR_nil ?_))))))
             refine QE_then_n (wpC_block ?_)
             refine wpC_le [(0, vS a0), (4, vI x_2.2.1), (10, vI x_8.2.1), (15, slV v_22 e8.sz 0 x_21.2), (16, slV v_26 e8.sz 0 x_25.2), (19, v_48), (22, v_98), (23, vI 1), (24, v_6), (25, vI 0)] ⟨rfl, rfl, rfl, rfl, rfl, rfl, rfl, rfl, rfl, rfl, trivial⟩ ?_
             refine loop_ind (F.law1_B64Spares_L8 x_65 x_72 x_51 x_80 x_58 a0 x_2 x_8 x_21 x_25) (fun (s : List UInt8 × Int) L w => ∃ (v_103 : Value) (b_106 : Nat), L = [(0, vS a0), (4, vI x_2.2.1), (10, vI x_8.2.1), (15, slV v_22 e8.sz 0 x_21.2), (16, slV v_26 e8.sz 0 x_25.2), (19, v_48), (22, v_98), (23, vI 1), (24, v_103), (25, vI s.2)] ∧ Tw v_6 x_58 v_103 s.1 b_106 ∧ St [] w0 w [own e8 v_103 s.1, own e8 v_22 x_21.1, own e8 v_26 x_25.1, own eV v_48 ([SV.of v_3, SV.of v_6, SV.of v_9, SV.of v_12] : List SV), twE e8 v_3 x_51 b_84, own e8 v_81 x_80, twE e8 v_6 x_58 b_106, own e8 v_9 x_65, own e8 v_12 x_72, own eV v_98 ([SV.of v_81] : List SV)]) ?_ (x_58, 0) ⟨v_6, 0, rfl, hA_101, (hS.pick [8, 4, 5, 6, 7, 3, 0, 9, 10, 1] (by decide) rfl)⟩ h
             rintro k_254 ⟨x_102, x_105⟩ L w q_110 hI ih_109 h hk_108
             try dsimp only at hI
             obtain ⟨v_103, b_106, rfl, hA_107, hS⟩ := hI
             unfold F.law1_B64Spares_L8 at h
             refine wpC_seq (wpC_seq (wpC_region (wpR_v (OpV_move rfl) rfl (wpR_v (OpV_bin rfl rfl (b_ilss _ x_105 70)) rfl ?_))))
             refine wpR_nil (QE_then_n ?_)
             refine wpC_cond rfl (fun hb_253 => ?_) (fun hb_253 => ?_)
             ·have h := if_t h hb_253
              refine wpC_skip (QE_then_n (wpC_seq (wpC_block ?_)))
              refine wpC_region (wpR_v (OpV_move rfl) rfl (wpR_v (OpV_move rfl) rfl (wpR_v (OpV_bin rfl rfl (b_iadd _ 80 1)) rfl ?_)))
              refine wpR_v (OpV_conv rfl (cv_i_8 Try.underlying3 Try.underlying5 81)) rfl ?_
              refine wpR_x (OpX_lit (e := e8) (l := [UInt8.ofInt 81]) (vs := [v8 (UInt8.ofInt 81)]) Try.underlying22 ti5 rfl rfl rfl rfl (by decide) (by decide) hS) rfl ?_
              rintro v_111 w hS
              obtain ⟨x_113, hx_113, h⟩ := obind_some h
              refine wpR_x (G_append_tw Try.underlying22 ti5 rfl rfl rfl hS (i := 1) (j := 7) rfl rfl hA_107 (hS.ro 0 rfl) hx_113) rfl ?_
              rintro v_114 w ⟨b_115, hA_116, hS⟩
              refine wpR_v (OpV_assign rfl) rfl (wpR_nil (QE_blk_n ?_))
              refine QE_then_n (wpC_region (wpR_v (OpV_move rfl) rfl (wpR_v (OpV_bin rfl rfl (b_iadd _ x_105 1)) rfl ?_)))
              refine wpR_v (OpV_assign rfl) rfl (wpR_nil ?_)
              exact QE_rnd (wpN_le _ (by exact ⟨rfl, rfl, rfl, rfl, rfl, rfl, rfl, rfl, rfl, rfl, trivial⟩) (ih_109 (x_113, wI (x_105 + 1)) _ _ ⟨v_114, b_115, rfl, hA_116, (hS.pick [1, 2, 3, 4, 5, 6, 7, 8, 9, 10] (by decide) rfl)⟩ (oinl_some h hk_108)))
             ·have h := if_f h hb_253
              refine wpC_exit ?_
              refine QE_then_x (QE_then_x ?_)
              have h := oinr_some h hk_108
              refine QE_blk_x ?_
              refine QE_then_n (wpC_region (wpR_v (OpV_move rfl) rfl (wpR_v (OpV_move rfl) rfl ?_)))
              refine wpR_x (OpX_lit (e := eV) (l := ([SV.of v_103] : List SV)) (vs := [v_103]) Try.underlying34 ti22 rfl rfl rfl (fl_eVc (hS.ro 0 rfl).sv rfl) (by decide) (by decide) hS) rfl ?_
              rintro v_118 w hS
              refine wpR_x (G_append Try.underlying34 ti22 rfl rfl rfl hS (i := 10) rfl (hS.ro 0 rfl) (apO_v rfl)) rfl ?_
              rintro v_120 w hS
              replace hS : St _ w0 w [own eV v_118 ([SV.of v_103] : List SV), own e8 v_103 x_102, own e8 v_22 x_21.1, own e8 v_26 x_25.1, own eV v_48 ([SV.of v_3, SV.of v_6, SV.of v_9, SV.of v_12] : List SV), twE e8 v_3 x_51 b_84, own e8 v_81 x_80, twE e8 v_6 x_58 b_106, own e8 v_9 x_65, own e8 v_12 x_72, own eV v_120 ([SV.of v_81, SV.of v_103] : List SV)] := hS
              refine wpR_v (OpV_assign rfl) rfl (wpR_nil (QE_blk_n ?_))
              refine QE_then_n (wpC_region (wpR_v (OpV_move rfl) rfl (wpR_v (OpV_bin rfl rfl (b_iadd _ 1 1)) rfl ?_)))
              refine wpR_v (OpV_assign rfl) rfl (wpR_nil (QE_rnd ?_))
              refine wpN_succ ?_
              refine wpC_seq (wpC_seq (wpC_region (wpR_v (OpV_move rfl) rfl (wpR_v (OpV_move rfl) rfl (wpR_v (show OpV _ _ _ _ _ (vI 4) _ from OpV_len Try.underlying34 rfl (hS.ro 4 rfl)) rfl ?_)))))
              refine wpR_v (OpV_bin rfl rfl (b_ilss _ 2 4)) rfl ?_
              refine wpR_nil (QE_then_n (wpC_condT rfl ?_))
              refine wpC_skip (QE_then_n (wpC_seq (wpC_block ?_)))
              refine wpC_seq (wpC_region (wpR_v (OpV_move rfl) rfl (wpR_v (OpV_move rfl) rfl (wpR_v (G_ix Try.underlying34 ti22 rfl rfl (hS.ro 4 rfl) (show getO ([SV.of v_3, SV.of v_6, SV.of v_9, SV.of v_12] : List SV) (2 : Int) = some (SV.of v_9) from rfl)) rfl ?_))))
              refine wpR_v (G_load Try.underlying22 rfl rfl (hS.ro 4 rfl) (show getO ([SV.of v_3, SV.of v_6, SV.of v_9, SV.of v_12] : List SV) (2 : Int) = some (SV.of v_9) from rfl) (eVc (hS.ro 8 rfl).sv)) rfl ?_
              refine wpR_v (OpV_assign rfl) rfl ?_
              have hA_123 := (hS.ro 8 rfl).tw
              replace hS := hS.twin 8 rfl
              refine wpR_nil (QE_then_n (wpC_seq (wpC_seq (wpC_region (wpR_v (OpV_assign rfl) rfl (wpR_nil ?_))))))
              refine QE_then_n (wpC_block ?_)
              refine wpC_le [(0, vS a0), (4, vI x_2.2.1), (10, vI x_8.2.1), (15, slV v_22 e8.sz 0 x_21.2), (16, slV v_26 e8.sz 0 x_25.2), (19, v_48), (22, v_120), (23, vI 2), (24, v_9), (25, vI 0)] ⟨rfl, rfl, rfl, rfl, rfl, rfl, rfl, rfl, rfl, rfl, trivial⟩ ?_
              refine loop_ind (F.law1_B64Spares_L9 x_72 x_51 x_80 x_58 x_102 x_65 a0 x_2 x_8 x_21 x_25) (fun (s : List UInt8 × Int) L w => ∃ (v_125 : Value) (b_128 : Nat), L = [(0, vS a0), (4, vI x_2.2.1), (10, vI x_8.2.1), (15, slV v_22 e8.sz 0 x_21.2), (16, slV v_26 e8.sz 0 x_25.2), (19, v_48), (22, v_120), (23, vI 2), (24, v_125), (25, vI s.2)] ∧ Tw v_9 x_65 v_125 s.1 b_128 ∧ St [] w0 w [own e8 v_125 s.1, own e8 v_22 x_21.1, own e8 v_26 x_25.1, own eV v_48 ([SV.of v_3, SV.of v_6, SV.of v_9, SV.of v_12] : List SV), twE e8 v_3 x_51 b_84, own e8 v_81 x_80, twE e8 v_6 x_58 b_106, own e8 v_103 x_102, twE e8 v_9 x_65 b_128, own e8 v_12 x_72, own eV v_120 ([SV.of v_81, SV.of v_103] : List SV)]) ?_ (x_65, 0) ⟨v_9, 0, rfl, hA_123, (hS.pick [9, 3, 4, 5, 6, 7, 8, 2, 0, 10, 11] (by decide) rfl)⟩ h
              rintro k_252 ⟨x_124, x_127⟩ L w q_132 hI ih_131 h hk_130
              try dsimp only at hI
              obtain ⟨v_125, b_128, rfl, hA_129, hS⟩ := hI
              unfold F.law1_B64Spares_L9 at h
              refine wpC_seq (wpC_seq (wpC_region (wpR_v (OpV_move rfl) rfl (wpR_v (OpV_bin rfl rfl (b_ilss _ x_127 70)) rfl ?_))))
              refine wpR_nil (QE_then_n ?_)
              refine wpC_cond rfl (fun hb_251 => ?_) (fun hb_251 => ?_)
              ·have h := if_t h hb_251
               refine wpC_skip (QE_then_n (wpC_seq (wpC_block ?_)))
               refine wpC_region (wpR_v (OpV_move rfl) rfl (wpR_v (OpV_move rfl) rfl (wpR_v (OpV_bin rfl rfl (b_iadd _ 80 2)) rfl ?_)))
               refine wpR_v (OpV_conv rfl (cv_i_8 Try.underlying3 Try.underlying5 82)) rfl ?_
               refine wpR_x (OpX_lit (e := e8) (l := [UInt8.ofInt 82]) (vs := [v8 (UInt8.ofInt 82)]) Try.underlying22 ti5 rfl rfl rfl rfl (by decide) (by decide) hS) rfl ?_
               rintro v_133 w hS
               obtain ⟨x_135, hx_135, h⟩ := obind_some h
               refine wpR_x (G_append_tw Try.underlying22 ti5 rfl rfl rfl hS (i := 1) (j := 9) rfl rfl hA_129 (hS.ro 0 rfl) hx_135) rfl ?_
               rintro v_136 w ⟨b_137, hA_138, hS⟩
               refine wpR_v (OpV_assign rfl) rfl (wpR_nil (QE_blk_n ?_))
               refine QE_then_n (wpC_region (wpR_v (OpV_move rfl) rfl (wpR_v (OpV_bin rfl rfl (b_iadd _ x_127 1)) rfl ?_)))
               refine wpR_v (OpV_assign rfl) rfl (wpR_nil ?_)
               exact QE_rnd (wpN_le _ (by exact ⟨rfl, rfl, rfl, rfl, rfl, rfl, rfl, rfl, rfl, rfl, trivial⟩) (ih_131 (x_135, wI (x_127 + 1)) _ _ ⟨v_136, b_137, rfl, hA_138, (hS.pick [1, 2, 3, 4, 5, 6, 7, 8, 9, 10, 11] (by decide) rfl)⟩ (oinl_some h hk_130)))
              ·have h := if_f h hb_251
               refine wpC_exit ?_
               refine QE_then_x (QE_then_x ?_)
               have h := oinr_some h hk_130
               refine QE_blk_x ?_
               refine QE_then_n (wpC_region (wpR_v (OpV_move rfl) rfl (wpR_v (OpV_move rfl) rfl ?_)))
               refine wpR_x (OpX_lit (e := eV) (l := ([SV.of v_125] : List SV)) (vs := [v_125]) Try.underlying34 ti22 rfl rfl rfl (fl_eVc (hS.ro 0 rfl).sv rfl) (by decide) (by decide) hS) rfl ?_
               rintro v_140 w hS
               refine wpR_x (G_append Try.underlying34 ti22 rfl rfl rfl hS (i := 11) rfl (hS.ro 0 rfl) (apO_v rfl)) rfl ?_
               rintro v_142 w hS
               replace hS : St _ w0 w [own eV v_140 ([SV.of v_125] : List SV), own e8 v_125 x_124, own e8 v_22 x_21.1, own e8 v_26 x_25.1, own eV v_48 ([SV.of v_3, SV.of v_6, SV.of v_9, SV.of v_12] : List SV), twE e8 v_3 x_51 b_84, own e8 v_81 x_80, twE e8 v_6 x_58 b_106, own e8 v_103 x_102, twE e8 v_9 x_65 b_128, own e8 v_12 x_72, own eV v_142 ([SV.of v_81, SV.of v_103, SV.of v_125] : List SV)] := hS
               refine wpR_v (OpV_assign rfl) rfl (wpR_nil (QE_blk_n ?_))
               refine QE_then_n (wpC_region (wpR_v (OpV_move rfl) rfl (wpR_v (OpV_bin rfl rfl (b_iadd _ 2 1)) rfl ?_)))
               refine wpR_v (OpV_assign rfl) rfl (wpR_nil (QE_rnd ?_))
               refine wpN_succ ?_
               refine wpC_seq (wpC_seq (wpC_region (wpR_v (OpV_move rfl) rfl (wpR_v (OpV_move rfl) rfl (wpR_v (show OpV _ _ _ _ _ (vI 4) _ from OpV_len Try.underlying34 rfl (hS.ro 4 rfl)) rfl ?_)))))
               refine wpR_v (OpV_bin rfl rfl (b_ilss _ 3 4)) rfl ?_
               refine wpR_nil (QE_then_n (wpC_condT rfl ?_))
               refine wpC_skip (QE_then_n (wpC_seq (wpC_block ?_)))
               refine wpC_seq (wpC_region (wpR_v (OpV_move rfl) rfl (wpR_v (OpV_move rfl) rfl (wpR_v (G_ix Try.underlying34 ti22 rfl rfl (hS.ro 4 rfl) (show getO ([SV.of v_3, SV.of v_6, SV.of v_9, SV.of v_12] : List SV) (3 : Int) = some (SV.of v_12) from rfl)) rfl ?_))))
               refine wpR_v (G_load Try.underlying22 rfl rfl (hS.ro 4 rfl) (show getO ([SV.of v_3, SV.of v_6, SV.of v_9, SV.of v_12] : List SV) (3 : Int) = some (SV.of v_12) from rfl) (eVc (hS.ro 10 rfl).sv)) rfl ?_
               refine wpR_v (OpV_assign rfl) rfl ?_
               have hA_145 := (hS.ro 10 rfl).tw
               replace hS := hS.twin 10 rfl
               refine wpR_nil (QE_then_n (wpC_seq (wpC_seq (wpC_region (wpR_v (OpV_assign rfl) rfl (wpR_nil ?_))))))
               refine QE_then_n (wpC_block ?_)
               refine wpC_le [(0, vS a0), (4, vI x_2.2.1), (10, vI x_8.2.1), (15, slV v_22 e8.sz 0 x_21.2), (16, slV v_26 e8.sz 0 x_25.2), (19, v_48), (22, v_142), (23, vI 3), (24, v_12), (25, vI 0)] ⟨rfl, rfl, rfl, rfl, rfl, rfl, rfl, rfl, rfl, rfl, trivial⟩ ?_
               refine loop_ind (F.law1_B64Spares_L10 x_51 x_80 x_58 x_102 x_65 x_124 a0 x_2 x_8 x_21 x_25 x_72) (fun (s : List UInt8 × Int) L w => ∃ (v_147 : Value) (b_150 : Nat), L = [(0, vS a0), (4, vI x_2.2.1), (10, vI x_8.2.1), (15, slV v_22 e8.sz 0 x_21.2), (16, slV v_26 e8.sz 0 x_25.2), (19, v_48), (22, v_142), (23, vI 3), (24, v_147), (25, vI s.2)] ∧ Tw v_12 x_72 v_147 s.1 b_150 ∧ St [] w0 w [own e8 v_147 s.1, own e8 v_22 x_21.1, own e8 v_26 x_25.1, own eV v_48 ([SV.of v_3, SV.of v_6, SV.of v_9, SV.of v_12] : List SV), twE e8 v_3 x_51 b_84, own e8 v_81 x_80, twE e8 v_6 x_58 b_106, own e8 v_103 x_102, twE e8 v_9 x_65 b_128, own e8 v_125 x_124, twE e8 v_12 x_72 b_150, own eV v_142 ([SV.of v_81, SV.of v_103, SV.of v_125] : List SV)]) ?_ (x_72, 0) ⟨v_12, 0, rfl, hA_145, (hS.pick [11, 3, 4, 5, 6, 7, 8, 9, 10, 2, 0, 12] (by decide) rfl)⟩ h
               rintro k_250 ⟨x_146, x_149⟩ L w q_154 hI ih_153 h hk_152
               try dsimp only at hI
               obtain ⟨v_147, b_150, rfl, hA_151, hS⟩ := hI
               unfold F.law1_B64Spares_L10 at h
               refine wpC_seq (wpC_seq (wpC_region (wpR_v (OpV_move rfl) rfl (wpR_v (OpV_bin rfl rfl (b_ilss _ x_149 70)) rfl ?_))))
               refine wpR_nil (QE_then_n ?_)
               refine wpC_cond rfl (fun hb_249 => ?_) (fun hb_249 => ?_)
               ·have h := if_t h hb_249
                refine wpC_skip (QE_then_n (wpC_seq (wpC_block ?_)))
                refine wpC_region (wpR_v (OpV_move rfl) rfl (wpR_v (OpV_move rfl) rfl (wpR_v (OpV_bin rfl rfl (b_iadd _ 80 3)) rfl ?_)))
                refine wpR_v (OpV_conv rfl (cv_i_8 Try.underlying3 Try.underlying5 83)) rfl ?_
                refine wpR_x (OpX_lit (e := e8) (l := [UInt8.ofInt 83]) (vs := [v8 (UInt8.ofInt 83)]) Try.underlying22 ti5 rfl rfl rfl rfl (by decide) (by decide) hS) rfl ?_
                rintro v_155 w hS
                obtain ⟨x_157, hx_157, h⟩ := obind_some h
                refine wpR_x (G_append_tw Try.underlying22 ti5 rfl rfl rfl hS (i := 1) (j := 11) rfl rfl hA_151 (hS.ro 0 rfl) hx_157) rfl ?_
                rintro v_158 w ⟨b_159, hA_160, hS⟩
                refine wpR_v (OpV_assign rfl) rfl (wpR_nil (QE_blk_n ?_))
                refine QE_then_n (wpC_region (wpR_v (OpV_move rfl) rfl (wpR_v (OpV_bin rfl rfl (b_iadd _ x_149 1)) rfl ?_)))
                refine wpR_v (OpV_assign rfl) rfl (wpR_nil ?_)
                exact QE_rnd (wpN_le _ (by exact ⟨rfl, rfl, rfl, rfl, rfl, rfl, rfl, rfl, rfl, rfl, trivial⟩) (ih_153 (x_157, wI (x_149 + 1)) _ _ ⟨v_158, b_159, rfl, hA_160, (hS.pick [1, 2, 3, 4, 5, 6, 7, 8, 9, 10, 11, 12] (by decide) rfl)⟩ (oinl_some h hk_152)))
               ·have h := if_f h hb_249
                refine wpC_exit ?_
                refine QE_then_x (QE_then_x ?_)
                have h := oinr_some h hk_152
                refine QE_blk_x ?_
                refine QE_then_n (wpC_region (wpR_v (OpV_move rfl) rfl (wpR_v (OpV_move rfl) rfl ?_)))
                refine wpR_x (OpX_lit (e := eV) (l := ([SV.of v_147] : List SV)) (vs := [v_147]) Try.underlying34 ti22 rfl rfl rfl (fl_eVc (hS.ro 0 rfl).sv rfl) (by decide) (by decide) hS) rfl ?_
                rintro v_162 w hS
                refine wpR_x (G_append Try.underlying34 ti22 rfl rfl rfl hS (i := 12) rfl (hS.ro 0 rfl) (apO_v rfl)) rfl ?_
                rintro v_164 w hS
                replace hS : St _ w0 w [own eV v_162 ([SV.of v_147] : List SV), own e8 v_147 x_146, own e8 v_22 x_21.1, own e8 v_26 x_25.1, own eV v_48 ([SV.of v_3, SV.of v_6, SV.of v_9, SV.of v_12] : List SV), twE e8 v_3 x_51 b_84, own e8 v_81 x_80, twE e8 v_6 x_58 b_106, own e8 v_103 x_102, twE e8 v_9 x_65 b_128, own e8 v_125 x_124, twE e8 v_12 x_72 b_150, own eV v_164 ([SV.of v_81, SV.of v_103, SV.of v_125, SV.of v_147] : List SV)] := hS
                refine wpR_v (OpV_assign rfl) rfl (wpR_nil (QE_blk_n ?_))
                refine QE_then_n (wpC_region (wpR_v (OpV_move rfl) rfl (wpR_v (OpV_bin rfl rfl (b_iadd _ 3 1)) rfl ?_)))
                refine wpR_v (OpV_assign rfl) rfl (wpR_nil (QE_rnd ?_))
                refine wpN_succ ?_
                refine wpC_seq (wpC_seq (wpC_region (wpR_v (OpV_move rfl) rfl (wpR_v (OpV_move rfl) rfl (wpR_v (show OpV _ _ _ _ _ (vI 4) _ from OpV_len Try.underlying34 rfl (hS.ro 4 rfl)) rfl ?_)))))
                refine wpR_v (OpV_bin rfl rfl (b_ilss _ 4 4)) rfl ?_
                refine wpR_nil (QE_then_n (wpC_condF rfl ?_))
                refine wpC_exit ?_
                refine QE_then_x (QE_then_x (QE_blk_x ?_))
                refine QE_then_n (wpC_seq (wpC_seq (wpC_region (wpR_v (OpV_assign rfl) rfl (wpR_nil (QE_then_n ?_))))))
                refine wpC_block ?_
                refine wpC_loop 100 ?_
                refine wpN_succ ?_
                refine wpC_seq (wpC_seq (wpC_region (wpR_v (OpV_move rfl) rfl (wpR_v (OpV_move rfl) rfl (wpR_v (show OpV _ _ _ _ _ (vI 4) _ from OpV_len Try.underlying34 rfl (hS.ro 4 rfl)) rfl ?_)))))
                refine wpR_v (OpV_bin rfl rfl (b_ilss _ 0 4)) rfl ?_
                refine wpR_nil (QE_then_n (wpC_condT rfl ?_))
                refine wpC_skip (QE_then_n (wpC_seq (wpC_block ?_)))
                refine wpC_seq (wpC_region (wpR_v (OpV_assign rfl) rfl (wpR_nil (QE_then_n (wpC_block ?_)))))
                refine wpC_le [(0, vS a0), (4, vI x_2.2.1), (10, vI x_8.2.1), (15, slV v_22 e8.sz 0 x_21.2), (16, slV v_26 e8.sz 0 x_25.2), (19, v_48), (22, v_164), (26, vI 0), (27, vI 0)] ⟨rfl, rfl, rfl, rfl, rfl, rfl, rfl, rfl, rfl, trivial⟩ ?_
                refine loop_ind (F.law1_B64Spares_L11 x_51 x_80 x_58 x_102 x_65 x_124 a0 x_2 x_8 x_21 x_25 x_72 x_146) (fun (s : Int) L w => L = [(0, vS a0), (4, vI x_2.2.1), (10, vI x_8.2.1), (15, slV v_22 e8.sz 0 x_21.2), (16, slV v_26 e8.sz 0 x_25.2), (19, v_48), (22, v_164), (26, vI 0), (27, vI s)] ∧ St [] w0 w [own e8 v_22 x_21.1, own e8 v_26 x_25.1, own eV v_48 ([SV.of v_3, SV.of v_6, SV.of v_9, SV.of v_12] : List SV), twE e8 v_3 x_51 b_84, own e8 v_81 x_80, twE e8 v_6 x_58 b_106, own e8 v_103 x_102, twE e8 v_9 x_65 b_128, own e8 v_125 x_124, twE e8 v_12 x_72 b_150, own e8 v_147 x_146, own eV v_164 ([SV.of v_81, SV.of v_103, SV.of v_125, SV.of v_147] : List SV)]) ?_ 0 ⟨rfl, (hS.pick [2, 3, 4, 5, 6, 7, 8, 9, 10, 11, 1, 12] (by decide) rfl)⟩ h
                rintro k_248 x_166 L w q_169 hI ih_168 h hk_167
                try dsimp only at hI
                obtain ⟨rfl, hS⟩ := hI
                unfold F.law1_B64Spares_L11 at h
                refine wpC_seq (wpC_seq (wpC_region (wpR_v (OpV_move rfl) rfl (wpR_v (OpV_move rfl) rfl (wpR_v (OpV_move rfl) rfl (wpR_v (G_ix Try.underlying34 ti22 rfl rfl (hS.ro 11 rfl) (show getO ([SV.of v_81, SV.of v_103, SV.of v_125, SV.of v_147] : List SV) (0 : Int) = some (SV.of v_81) from rfl)) rfl ?_))))))
                refine wpR_v (G_load Try.underlying22 rfl rfl (hS.ro 11 rfl) (show getO ([SV.of v_81, SV.of v_103, SV.of v_125, SV.of v_147] : List SV) (0 : Int) = some (SV.of v_81) from rfl) (eVc (hS.ro 4 rfl).sv)) rfl ?_
                refine wpR_v (OpV_len Try.underlying22 rfl (hS.ro 4 rfl)) rfl ?_
                refine wpR_v (OpV_bin rfl rfl (b_ilss _ x_166 (x_80.length : Int))) rfl ?_
                refine wpR_nil (QE_then_n ?_)
                refine wpC_cond rfl (fun hb_247 => ?_) (fun hb_247 => ?_)
                ·have h := if_t h hb_247
                 refine wpC_skip (QE_then_n (wpC_seq (wpC_block ?_)))
                 refine seq_join (r := q_169) (fun (g : Bool) L w => L = [(0, vS a0), (4, vI x_2.2.1), (10, vI x_8.2.1), (15, slV v_22 e8.sz 0 x_21.2), (16, slV v_26 e8.sz 0 x_25.2), (19, v_48), (22, v_164), (26, vI 0), (27, vI x_166), (234, vB g)] ∧ St [] w0 w [own e8 v_22 x_21.1, own e8 v_26 x_25.1, own eV v_48 ([SV.of v_3, SV.of v_6, SV.of v_9, SV.of v_12] : List SV), twE e8 v_3 x_51 b_84, own e8 v_81 x_80, twE e8 v_6 x_58 b_106, own e8 v_103 x_102, twE e8 v_9 x_65 b_128, own e8 v_125 x_124, twE e8 v_12 x_72 b_150, own e8 v_147 x_146, own eV v_164 ([SV.of v_81, SV.of v_103, SV.of v_125, SV.of v_147] : List SV)]) (F.law1_B64Spares_K3 x_166) ?_ ?_
                 ·rintro x_179 L w hJ h
                  try dsimp only at hJ
                  obtain ⟨rfl, hS⟩ := hJ
                  unfold F.law1_B64Spares_K3 at h
                  refine wpC_cond rfl (fun hb_181 => ?_) (fun hb_181 => ?_)
                  ·have h := if_t h hb_181
                   refine wpC_seq (wpC_region (wpR_v (OpV_assign rfl) rfl (wpR_nil (QE_then_n (wpC_ret (QE_blk_r ?_))))))
                   refine QE_then_r (QE_then_r ?_)
                   have h := oinr_some h hk_167
                   refine QE_blk_r ?_
                   refine QE_blk_r ?_
                   refine QE_then_r (QE_then_r (QE_blk_r ?_))
                   refine QE_then_r ?_
                   cases h
                   exact QE_ret1 rfl rfl ⟨rfl, hS.pick [] (by decide) rfl⟩
                  ·have h := if_f h hb_181
                   refine wpC_skip (QE_blk_n ?_)
                   refine QE_then_n (wpC_region (wpR_v (OpV_move rfl) rfl (wpR_v (OpV_bin rfl rfl (b_iadd _ x_166 1)) rfl ?_)))
                   refine wpR_v (OpV_assign rfl) rfl (wpR_nil ?_)
                   exact QE_rnd (wpN_le _ (by exact ⟨rfl, rfl, rfl, rfl, rfl, rfl, rfl, rfl, rfl, trivial⟩) (ih_168 (wI (x_166 + 1)) _ _ ⟨rfl, hS⟩ (oinl_some h hk_167)))
                 ·intro hK_180
                  refine wpC_region (wpR_v (OpV_move rfl) rfl (wpR_v (OpV_move rfl) rfl (wpR_v (OpV_move rfl) rfl (wpR_v (G_ix Try.underlying34 ti22 rfl rfl (hS.ro 2 rfl) (show getO ([SV.of v_3, SV.of v_6, SV.of v_9, SV.of v_12] : List SV) (0 : Int) = some (SV.of v_3) from rfl)) rfl ?_))))
                  refine wpR_v (G_load Try.underlying22 rfl rfl (hS.ro 2 rfl) (show getO ([SV.of v_3, SV.of v_6, SV.of v_9, SV.of v_12] : List SV) (0 : Int) = some (SV.of v_3) from rfl) (eVc (hS.twro hA_85 4 3 rfl rfl).sv)) rfl ?_
                  refine wpR_v (OpV_len Try.underlying22 rfl (hS.twro hA_85 4 3 rfl rfl)) rfl ?_
                  refine wpR_v (OpV_bin rfl rfl (b_ilss _ x_166 (x_51.length : Int))) rfl ?_
                  refine wpR_v (OpV_move rfl) rfl ?_
                  cases hb_170 : (decide (x_166 < (x_51.length : Int)))
                  case true =>
                   have h := if_t h hb_170
                   try simp only [hb_170]
                   refine wpR_gv (t := 187) rfl rfl (OpV_move rfl) rfl ?_
                   refine wpR_gv (t := 187) rfl rfl (OpV_move rfl) rfl ?_
                   refine wpR_gv (t := 187) rfl rfl (G_ix Try.underlying34 ti22 rfl rfl (hS.ro 2 rfl) (show getO ([SV.of v_3, SV.of v_6, SV.of v_9, SV.of v_12] : List SV) (0 : Int) = some (SV.of v_3) from rfl)) rfl ?_
                   refine wpR_gv (t := 187) rfl rfl (G_load Try.underlying22 rfl rfl (hS.ro 2 rfl) (show getO ([SV.of v_3, SV.of v_6, SV.of v_9, SV.of v_12] : List SV) (0 : Int) = some (SV.of v_3) from rfl) (eVc (hS.twro hA_85 4 3 rfl rfl).sv)) rfl ?_
                   refine wpR_gv (t := 187) rfl rfl (OpV_move rfl) rfl ?_
                   obtain ⟨x_171, hx_171, h⟩ := obind_some h
                   refine wpR_gv (t := 187) rfl rfl (G_ix Try.underlying22 ti5 rfl rfl (hS.twro hA_85 4 3 rfl rfl) hx_171) rfl ?_
                   refine wpR_gv (t := 187) rfl rfl (G_load Try.underlying5 rfl rfl (hS.twro hA_85 4 3 rfl rfl) hx_171 rfl) rfl ?_
                   refine wpR_gv (t := 187) rfl rfl (OpV_move rfl) rfl ?_
                   refine wpR_gv (t := 187) rfl rfl (OpV_bin rfl rfl (b_iadd _ 70 0)) rfl ?_
                   refine wpR_gv (t := 187) rfl rfl (OpV_conv rfl (cv_i_8 Try.underlying3 Try.underlying5 70)) rfl ?_
                   refine wpR_gv (t := 187) rfl rfl (OpV_bin rfl rfl (b_neq8 _ x_171 (UInt8.ofInt 70))) rfl ?_
                   refine wpR_gv (t := 187) rfl rfl (OpV_move rfl) rfl ?_
                   cases hb_172 : (x_171 != (UInt8.ofInt 70))
                   case true =>
                    have h := if_t h hb_172
                    try simp only [hb_172]
                    refine wpR_gskip (b := true) (t := 199) rfl rfl rfl rfl ?_
                    refine wpR_gskip (b := true) (t := 199) rfl rfl rfl rfl ?_
                    refine wpR_gskip (b := true) (t := 199) rfl rfl rfl rfl ?_
                    refine wpR_gskip (b := true) (t := 199) rfl rfl rfl rfl ?_
                    refine wpR_gskip (b := true) (t := 199) rfl rfl rfl rfl ?_
                    refine wpR_gskip (b := true) (t := 199) rfl rfl rfl rfl ?_
                    refine wpR_gskip (b := true) (t := 199) rfl rfl rfl rfl ?_
                    refine wpR_gskip (b := true) (t := 199) rfl rfl rfl rfl ?_
                    refine wpR_gskip (b := true) (t := 199) rfl rfl rfl rfl ?_
                    refine wpR_gskip (b := true) (t := 199) rfl rfl rfl rfl ?_
                    refine wpR_gskip (b := true) (t := 199) rfl rfl rfl rfl ?_
                    refine wpR_gv (t := 187) rfl rfl (OpV_pickT rfl rfl) rfl ?_
                    refine wpR_v (OpV_pickT rfl rfl) rfl (wpR_v (OpV_move rfl) rfl (wpR_gskip (b := true) (t := 213) rfl rfl rfl rfl ?_))
                    refine wpR_gskip (b := true) (t := 213) rfl rfl rfl rfl ?_
                    refine wpR_gskip (b := true) (t := 213) rfl rfl rfl rfl ?_
                    refine wpR_gskip (b := true) (t := 213) rfl rfl rfl rfl ?_
                    refine wpR_gskip (b := true) (t := 213) rfl rfl rfl rfl ?_
                    refine wpR_gskip (b := true) (t := 213) rfl rfl rfl rfl ?_
                    refine wpR_gskip (b := true) (t := 213) rfl rfl rfl rfl ?_
                    refine wpR_gskip (b := true) (t := 213) rfl rfl rfl rfl ?_
                    refine wpR_gskipU (t := 221) rfl rfl rfl ?_
                    refine wpR_gskipU (t := 221) rfl rfl rfl ?_
                    refine wpR_gskipU (t := 221) rfl rfl rfl ?_
                    refine wpR_gskipU (t := 221) rfl rfl rfl ?_
                    refine wpR_gskipU (t := 221) rfl rfl rfl ?_
                    refine wpR_gskipU (t := 221) rfl rfl rfl ?_
                    refine wpR_gskipU (t := 221) rfl rfl rfl ?_
                    refine wpR_gskipU (t := 221) rfl rfl rfl ?_
                    refine wpR_gskipU (t := 221) rfl rfl rfl ?_
                    refine wpR_gskipU (t := 221) rfl rfl rfl ?_
                    refine wpR_gskipU (t := 221) rfl rfl rfl ?_
                    refine wpR_gskip (b := true) (t := 213) rfl rfl rfl rfl ?_
                    refine wpR_v (OpV_pickT rfl rfl) rfl (wpR_nil (QE_then_n ?_))
                    exact wpC_le _ (by exact ⟨rfl, rfl, rfl, rfl, rfl, rfl, rfl, rfl, rfl, rfl, trivial⟩) (hK_180 true _ _ ⟨rfl, hS⟩ h)
                   case false =>
                    have h := if_f h hb_172
                    try simp only [hb_172]
                    refine wpR_gv (t := 199) rfl rfl (OpV_move rfl) rfl ?_
                    refine wpR_gv (t := 199) rfl rfl (OpV_move rfl) rfl ?_
                    refine wpR_gv (t := 199) rfl rfl (G_ix Try.underlying34 ti22 rfl rfl (hS.ro 11 rfl) (show getO ([SV.of v_81, SV.of v_103, SV.of v_125, SV.of v_147] : List SV) (0 : Int) = some (SV.of v_81) from rfl)) rfl ?_
                    refine wpR_gv (t := 199) rfl rfl (G_load Try.underlying22 rfl rfl (hS.ro 11 rfl) (show getO ([SV.of v_81, SV.of v_103, SV.of v_125, SV.of v_147] : List SV) (0 : Int) = some (SV.of v_81) from rfl) (eVc (hS.ro 4 rfl).sv)) rfl ?_
                    refine wpR_gv (t := 199) rfl rfl (OpV_move rfl) rfl ?_
                    obtain ⟨x_173, hx_173, h⟩ := obind_some h
                    refine wpR_gv (t := 199) rfl rfl (G_ix Try.underlying22 ti5 rfl rfl (hS.ro 4 rfl) hx_173) rfl ?_
                    refine wpR_gv (t := 199) rfl rfl (G_load Try.underlying5 rfl rfl (hS.ro 4 rfl) hx_173 rfl) rfl ?_
                    refine wpR_gv (t := 199) rfl rfl (OpV_move rfl) rfl ?_
                    refine wpR_gv (t := 199) rfl rfl (OpV_bin rfl rfl (b_iadd _ 70 0)) rfl ?_
                    refine wpR_gv (t := 199) rfl rfl (OpV_conv rfl (cv_i_8 Try.underlying3 Try.underlying5 70)) rfl ?_
                    refine wpR_gv (t := 199) rfl rfl (OpV_bin rfl rfl (b_neq8 _ x_173 (UInt8.ofInt 70))) rfl ?_
                    refine wpR_gv (t := 187) rfl rfl (OpV_pickF rfl rfl) rfl ?_
                    refine wpR_v (OpV_pickT rfl rfl) rfl (wpR_v (OpV_move rfl) rfl ?_)
                    cases hb_174 : (x_173 != (UInt8.ofInt 70))
                    case true =>
                     have h := if_t h hb_174
                     try simp only [hb_174]
                     refine wpR_gskip (b := true) (t := 213) rfl rfl rfl rfl ?_
                     refine wpR_gskip (b := true) (t := 213) rfl rfl rfl rfl ?_
                     refine wpR_gskip (b := true) (t := 213) rfl rfl rfl rfl ?_
                     refine wpR_gskip (b := true) (t := 213) rfl rfl rfl rfl ?_
                     refine wpR_gskip (b := true) (t := 213) rfl rfl rfl rfl ?_
                     refine wpR_gskip (b := true) (t := 213) rfl rfl rfl rfl ?_
                     refine wpR_gskip (b := true) (t := 213) rfl rfl rfl rfl ?_
                     refine wpR_gskip (b := true) (t := 213) rfl rfl rfl rfl ?_
                     refine wpR_gskipU (t := 221) rfl rfl rfl ?_
                     refine wpR_gskipU (t := 221) rfl rfl rfl ?_
                     refine wpR_gskipU (t := 221) rfl rfl rfl ?_
                     refine wpR_gskipU (t := 221) rfl rfl rfl ?_
                     refine wpR_gskipU (t := 221) rfl rfl rfl ?_
                     refine wpR_gskipU (t := 221) rfl rfl rfl ?_
                     refine wpR_gskipU (t := 221) rfl rfl rfl ?_
                     refine wpR_gskipU (t := 221) rfl rfl rfl ?_
                     refine wpR_gskipU (t := 221) rfl rfl rfl ?_
                     refine wpR_gskipU (t := 221) rfl rfl rfl ?_
                     refine wpR_gskipU (t := 221) rfl rfl rfl ?_
                     refine wpR_gskip (b := true) (t := 213) rfl rfl rfl rfl ?_
                     refine wpR_v (OpV_pickT rfl rfl) rfl (wpR_nil (QE_then_n ?_))
                     exact wpC_le _ (by exact ⟨rfl, rfl, rfl, rfl, rfl, rfl, rfl, rfl, rfl, rfl, trivial⟩) (hK_180 true _ _ ⟨rfl, hS⟩ h)
                    case false =>
                     have h := if_f h hb_174
                     try simp only [hb_174]
                     refine wpR_gv (t := 213) rfl rfl (OpV_move rfl) rfl ?_
                     refine wpR_gv (t := 213) rfl rfl (OpV_move rfl) rfl ?_
                     refine wpR_gv (t := 213) rfl rfl (OpV_move rfl) rfl ?_
                     refine wpR_gv (t := 213) rfl rfl (G_ix Try.underlying34 ti22 rfl rfl (hS.ro 2 rfl) (show getO ([SV.of v_3, SV.of v_6, SV.of v_9, SV.of v_12] : List SV) (0 : Int) = some (SV.of v_3) from rfl)) rfl ?_
                     refine wpR_gv (t := 213) rfl rfl (G_load Try.underlying22 rfl rfl (hS.ro 2 rfl) (show getO ([SV.of v_3, SV.of v_6, SV.of v_9, SV.of v_12] : List SV) (0 : Int) = some (SV.of v_3) from rfl) (eVc (hS.twro hA_85 4 3 rfl rfl).sv)) rfl ?_
                     refine wpR_gv (t := 213) rfl rfl (OpV_len Try.underlying22 rfl (hS.twro hA_85 4 3 rfl rfl)) rfl ?_
                     refine wpR_gv (t := 213) rfl rfl (OpV_bin rfl rfl (b_igeq _ x_166 (x_51.length : Int))) rfl ?_
                     refine wpR_gv (t := 213) rfl rfl (OpV_move rfl) rfl ?_
                     cases hb_175 : (decide ((x_51.length : Int) ≤ x_166))
                     case true =>
                      have h := if_t h hb_175
                      try simp only [hb_175]
                      refine wpR_gv (t := 221) rfl rfl (OpV_move rfl) rfl ?_
                      refine wpR_gv (t := 221) rfl rfl (OpV_move rfl) rfl ?_
                      refine wpR_gv (t := 221) rfl rfl (G_ix Try.underlying34 ti22 rfl rfl (hS.ro 11 rfl) (show getO ([SV.of v_81, SV.of v_103, SV.of v_125, SV.of v_147] : List SV) (0 : Int) = some (SV.of v_81) from rfl)) rfl ?_
                      refine wpR_gv (t := 221) rfl rfl (G_load Try.underlying22 rfl rfl (hS.ro 11 rfl) (show getO ([SV.of v_81, SV.of v_103, SV.of v_125, SV.of v_147] : List SV) (0 : Int) = some (SV.of v_81) from rfl) (eVc (hS.ro 4 rfl).sv)) rfl ?_
                      refine wpR_gv (t := 221) rfl rfl (OpV_move rfl) rfl ?_
                      obtain ⟨x_176, hx_176, h⟩ := obind_some h
                      refine wpR_gv (t := 221) rfl rfl (G_ix Try.underlying22 ti5 rfl rfl (hS.ro 4 rfl) hx_176) rfl ?_
                      refine wpR_gv (t := 221) rfl rfl (G_load Try.underlying5 rfl rfl (hS.ro 4 rfl) hx_176 rfl) rfl ?_
                      refine wpR_gv (t := 221) rfl rfl (OpV_move rfl) rfl ?_
                      refine wpR_gv (t := 221) rfl rfl (OpV_bin rfl rfl (b_iadd _ 80 0)) rfl ?_
                      refine wpR_gv (t := 221) rfl rfl (OpV_conv rfl (cv_i_8 Try.underlying3 Try.underlying5 80)) rfl ?_
                      refine wpR_gv (t := 221) rfl rfl (OpV_bin rfl rfl (b_neq8 _ x_176 (UInt8.ofInt 80))) rfl ?_
                      refine wpR_gv (t := 213) rfl rfl (OpV_pickT rfl rfl) rfl ?_
                      refine wpR_v (OpV_pickF rfl rfl) rfl (wpR_nil (QE_then_n ?_))
                      exact wpC_le _ (by exact ⟨rfl, rfl, rfl, rfl, rfl, rfl, rfl, rfl, rfl, rfl, trivial⟩) (hK_180 (x_176 != (UInt8.ofInt 80)) _ _ ⟨rfl, hS⟩ h)
                     case false =>
                      have h := if_f h hb_175
                      try simp only [hb_175]
                      refine wpR_gskip (b := false) (t := 221) rfl rfl rfl rfl ?_
                      refine wpR_gskip (b := false) (t := 221) rfl rfl rfl rfl ?_
                      refine wpR_gskip (b := false) (t := 221) rfl rfl rfl rfl ?_
                      refine wpR_gskip (b := false) (t := 221) rfl rfl rfl rfl ?_
                      refine wpR_gskip (b := false) (t := 221) rfl rfl rfl rfl ?_
                      refine wpR_gskip (b := false) (t := 221) rfl rfl rfl rfl ?_
                      refine wpR_gskip (b := false) (t := 221) rfl rfl rfl rfl ?_
                      refine wpR_gskip (b := false) (t := 221) rfl rfl rfl rfl ?_
                      refine wpR_gskip (b := false) (t := 221) rfl rfl rfl rfl ?_
                      refine wpR_gskip (b := false) (t := 221) rfl rfl rfl rfl ?_
                      refine wpR_gskip (b := false) (t := 221) rfl rfl rfl rfl ?_
                      refine wpR_gv (t := 213) rfl rfl (OpV_pickF rfl rfl) rfl ?_
                      refine wpR_v (OpV_pickF rfl rfl) rfl (wpR_nil (QE_then_n ?_))
                      exact wpC_le _ (by exact ⟨rfl, rfl, rfl, rfl, rfl, rfl, rfl, rfl, rfl, rfl, trivial⟩) (hK_180 false _ _ ⟨rfl, hS⟩ h)
                  case false =>
                   have h := if_f h hb_170
                   try simp only [hb_170]
                   refine wpR_gskip (b := false) (t := 187) rfl rfl rfl rfl ?_
                   refine wpR_gskip (b := false) (t := 187) rfl rfl rfl rfl ?_
                   refine wpR_gskip (b := false) (t := 187) rfl rfl rfl rfl ?_
                   refine wpR_gskip (b := false) (t := 187) rfl rfl rfl rfl ?_
                   refine wpR_gskip (b := false) (t := 187) rfl rfl rfl rfl ?_
                   refine wpR_gskip (b := false) (t := 187) rfl rfl rfl rfl ?_
                   refine wpR_gskip (b := false) (t := 187) rfl rfl rfl rfl ?_
                   refine wpR_gskip (b := false) (t := 187) rfl rfl rfl rfl ?_
                   refine wpR_gskip (b := false) (t := 187) rfl rfl rfl rfl ?_
                   refine wpR_gskip (b := false) (t := 187) rfl rfl rfl rfl ?_
                   refine wpR_gskip (b := false) (t := 187) rfl rfl rfl rfl ?_
                   refine wpR_gskip (b := false) (t := 187) rfl rfl rfl rfl ?_
                   refine wpR_gskipU (t := 199) rfl rfl rfl ?_
                   refine wpR_gskipU (t := 199) rfl rfl rfl ?_
                   refine wpR_gskipU (t := 199) rfl rfl rfl ?_
                   refine wpR_gskipU (t := 199) rfl rfl rfl ?_
                   refine wpR_gskipU (t := 199) rfl rfl rfl ?_
                   refine wpR_gskipU (t := 199) rfl rfl rfl ?_
                   refine wpR_gskipU (t := 199) rfl rfl rfl ?_
                   refine wpR_gskipU (t := 199) rfl rfl rfl ?_
                   refine wpR_gskipU (t := 199) rfl rfl rfl ?_
                   refine wpR_gskipU (t := 199) rfl rfl rfl ?_
                   refine wpR_gskipU (t := 199) rfl rfl rfl ?_
                   refine wpR_gskip (b := false) (t := 187) rfl rfl rfl rfl ?_
                   refine wpR_v (OpV_pickF rfl rfl) rfl (wpR_v (OpV_move rfl) rfl (wpR_gv (t := 213) rfl rfl (OpV_move rfl) rfl ?_))
                   refine wpR_gv (t := 213) rfl rfl (OpV_move rfl) rfl ?_
                   refine wpR_gv (t := 213) rfl rfl (OpV_move rfl) rfl ?_
                   refine wpR_gv (t := 213) rfl rfl (G_ix Try.underlying34 ti22 rfl rfl (hS.ro 2 rfl) (show getO ([SV.of v_3, SV.of v_6, SV.of v_9, SV.of v_12] : List SV) (0 : Int) = some (SV.of v_3) from rfl)) rfl ?_
                   refine wpR_gv (t := 213) rfl rfl (G_load Try.underlying22 rfl rfl (hS.ro 2 rfl) (show getO ([SV.of v_3, SV.of v_6, SV.of v_9, SV.of v_12] : List SV) (0 : Int) = some (SV.of v_3) from rfl) (eVc (hS.twro hA_85 4 3 rfl rfl).sv)) rfl ?_
                   refine wpR_gv (t := 213) rfl rfl (OpV_len Try.underlying22 rfl (hS.twro hA_85 4 3 rfl rfl)) rfl ?_
                   refine wpR_gv (t := 213) rfl rfl (OpV_bin rfl rfl (b_igeq _ x_166 (x_51.length : Int))) rfl ?_
                   refine wpR_gv (t := 213) rfl rfl (OpV_move rfl) rfl ?_
                   cases hb_177 : (decide ((x_51.length : Int) ≤ x_166))
                   case true =>
                    have h := if_t h hb_177
                    try simp only [hb_177]
                    refine wpR_gv (t := 221) rfl rfl (OpV_move rfl) rfl ?_
                    refine wpR_gv (t := 221) rfl rfl (OpV_move rfl) rfl ?_
                    refine wpR_gv (t := 221) rfl rfl (G_ix Try.underlying34 ti22 rfl rfl (hS.ro 11 rfl) (show getO ([SV.of v_81, SV.of v_103, SV.of v_125, SV.of v_147] : List SV) (0 : Int) = some (SV.of v_81) from rfl)) rfl ?_
                    refine wpR_gv (t := 221) rfl rfl (G_load Try.underlying22 rfl rfl (hS.ro 11 rfl) (show getO ([SV.of v_81, SV.of v_103, SV.of v_125, SV.of v_147] : List SV) (0 : Int) = some (SV.of v_81) from rfl) (eVc (hS.ro 4 rfl).sv)) rfl ?_
                    refine wpR_gv (t := 221) rfl rfl (OpV_move rfl) rfl ?_
                    obtain ⟨x_178, hx_178, h⟩ := obind_some h
                    refine wpR_gv (t := 221) rfl rfl (G_ix Try.underlying22 ti5 rfl rfl (hS.ro 4 rfl) hx_178) rfl ?_
                    refine wpR_gv (t := 221) rfl rfl (G_load Try.underlying5 rfl rfl (hS.ro 4 rfl) hx_178 rfl) rfl ?_
                    refine wpR_gv (t := 221) rfl rfl (OpV_move rfl) rfl ?_
                    refine wpR_gv (t := 221) rfl rfl (OpV_bin rfl rfl (b_iadd _ 80 0)) rfl ?_
                    refine wpR_gv (t := 221) rfl rfl (OpV_conv rfl (cv_i_8 Try.underlying3 Try.underlying5 80)) rfl ?_
                    refine wpR_gv (t := 221) rfl rfl (OpV_bin rfl rfl (b_neq8 _ x_178 (UInt8.ofInt 80))) rfl ?_
                    refine wpR_gv (t := 213) rfl rfl (OpV_pickT rfl rfl) rfl ?_
                    refine wpR_v (OpV_pickF rfl rfl) rfl (wpR_nil (QE_then_n ?_))
                    exact wpC_le _ (by exact ⟨rfl, rfl, rfl, rfl, rfl, rfl, rfl, rfl, rfl, rfl, trivial⟩) (hK_180 (x_178 != (UInt8.ofInt 80)) _ _ ⟨rfl, hS⟩ h)
                   case false =>
                    have h := if_f h hb_177
                    try simp only [hb_177]
                    refine wpR_gskip (b := false) (t := 221) rfl rfl rfl rfl ?_
                    refine wpR_gskip (b := false) (t := 221) rfl rfl rfl rfl ?_
                    refine wpR_gskip (b := false) (t := 221) rfl rfl rfl rfl ?_
                    refine wpR_gskip (b := false) (t := 221) rfl rfl rfl rfl ?_
                    refine wpR_gskip (b := false) (t := 221) rfl rfl rfl rfl ?_
                    refine wpR_gskip (b := false) (t := 221) rfl rfl rfl rfl ?_
                    refine wpR_gskip (b := false) (t := 221) rfl rfl rfl rfl ?_
                    refine wpR_gskip (b := false) (t := 221) rfl rfl rfl rfl ?_
                    refine wpR_gskip (b := false) (t := 221) rfl rfl rfl rfl ?_
                    refine wpR_gskip (b := false) (t := 221) rfl rfl rfl rfl ?_
                    refine wpR_gskip (b := false) (t := 221) rfl rfl rfl rfl ?_
                    refine wpR_gv (t := 213) rfl rfl (OpV_pickF rfl rfl) rfl ?_
                    refine wpR_v (OpV_pickF rfl rfl) rfl (wpR_nil (QE_then_n ?_))
                    exact wpC_le _ (by exact ⟨rfl, rfl, rfl, rfl, rfl, rfl, rfl, rfl, rfl, rfl, trivial⟩) (hK_180 false _ _ ⟨rfl, hS⟩ h)
                ·have h := if_f h hb_247
                 refine wpC_exit ?_
                 refine QE_then_x (QE_then_x ?_)
                 have h := oinr_some h hk_167
                 refine QE_blk_x ?_
                 refine QE_blk_n ?_
                 refine QE_then_n (wpC_region (wpR_v (OpV_move rfl) rfl (wpR_v (OpV_bin rfl rfl (b_iadd _ 0 1)) rfl ?_)))
                 refine wpR_v (OpV_assign rfl) rfl (wpR_nil (QE_rnd ?_))
                 refine wpN_succ ?_
                 refine wpC_seq (wpC_seq (wpC_region (wpR_v (OpV_move rfl) rfl (wpR_v (OpV_move rfl) rfl (wpR_v (show OpV _ _ _ _ _ (vI 4) _ from OpV_len Try.underlying34 rfl (hS.ro 2 rfl)) rfl ?_)))))
                 refine wpR_v (OpV_bin rfl rfl (b_ilss _ 1 4)) rfl ?_
                 refine wpR_nil (QE_then_n (wpC_condT rfl ?_))
                 refine wpC_skip (QE_then_n (wpC_seq (wpC_block ?_)))
                 refine wpC_seq (wpC_region (wpR_v (OpV_assign rfl) rfl (wpR_nil (QE_then_n (wpC_block ?_)))))
                 refine wpC_le [(0, vS a0), (4, vI x_2.2.1), (10, vI x_8.2.1), (15, slV v_22 e8.sz 0 x_21.2), (16, slV v_26 e8.sz 0 x_25.2), (19, v_48), (22, v_164), (26, vI 1), (27, vI 0)] ⟨rfl, rfl, rfl, rfl, rfl, rfl, rfl, rfl, rfl, trivial⟩ ?_
                 refine loop_ind (F.law1_B64Spares_L12 x_58 x_102 x_65 x_124 a0 x_2 x_8 x_21 x_25 x_72 x_146) (fun (s : Int) L w => L = [(0, vS a0), (4, vI x_2.2.1), (10, vI x_8.2.1), (15, slV v_22 e8.sz 0 x_21.2), (16, slV v_26 e8.sz 0 x_25.2), (19, v_48), (22, v_164), (26, vI 1), (27, vI s)] ∧ St [] w0 w [own e8 v_22 x_21.1, own e8 v_26 x_25.1, own eV v_48 ([SV.of v_3, SV.of v_6, SV.of v_9, SV.of v_12] : List SV), twE e8 v_3 x_51 b_84, own e8 v_81 x_80, twE e8 v_6 x_58 b_106, own e8 v_103 x_102, twE e8 v_9 x_65 b_128, own e8 v_125 x_124, twE e8 v_12 x_72 b_150, own e8 v_147 x_146, own eV v_164 ([SV.of v_81, SV.of v_103, SV.of v_125, SV.of v_147] : List SV)]) ?_ 0 ⟨rfl, hS⟩ h
                 rintro k_246 x_182 L w q_185 hI ih_184 h hk_183
                 try dsimp only at hI
                 obtain ⟨rfl, hS⟩ := hI
                 unfold F.law1_B64Spares_L12 at h
                 refine wpC_seq (wpC_seq (wpC_region (wpR_v (OpV_move rfl) rfl (wpR_v (OpV_move rfl) rfl (wpR_v (OpV_move rfl) rfl (wpR_v (G_ix Try.underlying34 ti22 rfl rfl (hS.ro 11 rfl) (show getO ([SV.of v_81, SV.of v_103, SV.of v_125, SV.of v_147] : List SV) (1 : Int) = some (SV.of v_103) from rfl)) rfl ?_))))))
                 refine wpR_v (G_load Try.underlying22 rfl rfl (hS.ro 11 rfl) (show getO ([SV.of v_81, SV.of v_103, SV.of v_125, SV.of v_147] : List SV) (1 : Int) = some (SV.of v_103) from rfl) (eVc (hS.ro 6 rfl).sv)) rfl ?_
                 refine wpR_v (OpV_len Try.underlying22 rfl (hS.ro 6 rfl)) rfl ?_
                 refine wpR_v (OpV_bin rfl rfl (b_ilss _ x_182 (x_102.length : Int))) rfl ?_
                 refine wpR_nil (QE_then_n ?_)
                 refine wpC_cond rfl (fun hb_245 => ?_) (fun hb_245 => ?_)
                 ·have h := if_t h hb_245
                  refine wpC_skip (QE_then_n (wpC_seq (wpC_block ?_)))
                  refine seq_join (r := q_185) (fun (g : Bool) L w => L = [(0, vS a0), (4, vI x_2.2.1), (10, vI x_8.2.1), (15, slV v_22 e8.sz 0 x_21.2), (16, slV v_26 e8.sz 0 x_25.2), (19, v_48), (22, v_164), (26, vI 1), (27, vI x_182), (234, vB g)] ∧ St [] w0 w [own e8 v_22 x_21.1, own e8 v_26 x_25.1, own eV v_48 ([SV.of v_3, SV.of v_6, SV.of v_9, SV.of v_12] : List SV), twE e8 v_3 x_51 b_84, own e8 v_81 x_80, twE e8 v_6 x_58 b_106, own e8 v_103 x_102, twE e8 v_9 x_65 b_128, own e8 v_125 x_124, twE e8 v_12 x_72 b_150, own e8 v_147 x_146, own eV v_164 ([SV.of v_81, SV.of v_103, SV.of v_125, SV.of v_147] : List SV)]) (F.law1_B64Spares_K4 x_182) ?_ ?_
                  ·rintro x_195 L w hJ h
                   try dsimp only at hJ
                   obtain ⟨rfl, hS⟩ := hJ
                   unfold F.law1_B64Spares_K4 at h
                   refine wpC_cond rfl (fun hb_197 => ?_) (fun hb_197 => ?_)
                   ·have h := if_t h hb_197
                    refine wpC_seq (wpC_region (wpR_v (OpV_assign rfl) rfl (wpR_nil (QE_then_n (wpC_ret (QE_blk_r ?_))))))
                    refine QE_then_r (QE_then_r ?_)
                    have h := oinr_some h hk_183
                    refine QE_blk_r ?_
                    refine QE_blk_r ?_
                    refine QE_then_r (QE_then_r (QE_blk_r ?_))
                    refine QE_then_r ?_
                    cases h
                    exact QE_ret1 rfl rfl ⟨rfl, hS.pick [] (by decide) rfl⟩
                   ·have h := if_f h hb_197
                    refine wpC_skip (QE_blk_n ?_)
                    refine QE_then_n (wpC_region (wpR_v (OpV_move rfl) rfl (wpR_v (OpV_bin rfl rfl (b_iadd _ x_182 1)) rfl ?_)))
                    refine wpR_v (OpV_assign rfl) rfl (wpR_nil ?_)
                    exact QE_rnd (wpN_le _ (by exact ⟨rfl, rfl, rfl, rfl, rfl, rfl, rfl, rfl, rfl, trivial⟩) (ih_184 (wI (x_182 + 1)) _ _ ⟨rfl, hS⟩ (oinl_some h hk_183)))
                  ·intro hK_196
                   refine wpC_region (wpR_v (OpV_move rfl) rfl (wpR_v (OpV_move rfl) rfl (wpR_v (OpV_move rfl) rfl (wpR_v (G_ix Try.underlying34 ti22 rfl rfl (hS.ro 2 rfl) (show getO ([SV.of v_3, SV.of v_6, SV.of v_9, SV.of v_12] : List SV) (1 : Int) = some (SV.of v_6) from rfl)) rfl ?_))))
                   refine wpR_v (G_load Try.underlying22 rfl rfl (hS.ro 2 rfl) (show getO ([SV.of v_3, SV.of v_6, SV.of v_9, SV.of v_12] : List SV) (1 : Int) = some (SV.of v_6) from rfl) (eVc (hS.twro hA_107 6 5 rfl rfl).sv)) rfl ?_
                   refine wpR_v (OpV_len Try.underlying22 rfl (hS.twro hA_107 6 5 rfl rfl)) rfl ?_
                   refine wpR_v (OpV_bin rfl rfl (b_ilss _ x_182 (x_58.length : Int))) rfl ?_
                   refine wpR_v (OpV_move rfl) rfl ?_
                   cases hb_186 : (decide (x_182 < (x_58.length : Int)))
                   case true =>
                    have h := if_t h hb_186
                    try simp only [hb_186]
                    refine wpR_gv (t := 187) rfl rfl (OpV_move rfl) rfl ?_
                    refine wpR_gv (t := 187) rfl rfl (OpV_move rfl) rfl ?_
                    refine wpR_gv (t := 187) rfl rfl (G_ix Try.underlying34 ti22 rfl rfl (hS.ro 2 rfl) (show getO ([SV.of v_3, SV.of v_6, SV.of v_9, SV.of v_12] : List SV) (1 : Int) = some (SV.of v_6) from rfl)) rfl ?_
                    refine wpR_gv (t := 187) rfl rfl (G_load Try.underlying22 rfl rfl (hS.ro 2 rfl) (show getO ([SV.of v_3, SV.of v_6, SV.of v_9, SV.of v_12] : List SV) (1 : Int) = some (SV.of v_6) from rfl) (eVc (hS.twro hA_107 6 5 rfl rfl).sv)) rfl ?_
                    refine wpR_gv (t := 187) rfl rfl (OpV_move rfl) rfl ?_
                    obtain ⟨x_187, hx_187, h⟩ := obind_some h
                    refine wpR_gv (t := 187) rfl rfl (G_ix Try.underlying22 ti5 rfl rfl (hS.twro hA_107 6 5 rfl rfl) hx_187) rfl ?_
                    refine wpR_gv (t := 187) rfl rfl (G_load Try.underlying5 rfl rfl (hS.twro hA_107 6 5 rfl rfl) hx_187 rfl) rfl ?_
                    refine wpR_gv (t := 187) rfl rfl (OpV_move rfl) rfl ?_
                    refine wpR_gv (t := 187) rfl rfl (OpV_bin rfl rfl (b_iadd _ 70 1)) rfl ?_
                    refine wpR_gv (t := 187) rfl rfl (OpV_conv rfl (cv_i_8 Try.underlying3 Try.underlying5 71)) rfl ?_
                    refine wpR_gv (t := 187) rfl rfl (OpV_bin rfl rfl (b_neq8 _ x_187 (UInt8.ofInt 71))) rfl ?_
                    refine wpR_gv (t := 187) rfl rfl (OpV_move rfl) rfl ?_
                    cases hb_188 : (x_187 != (UInt8.ofInt 71))
                    case true =>
                     have h := if_t h hb_188
                     try simp only [hb_188]
                     refine wpR_gskip (b := true) (t := 199) rfl rfl rfl rfl ?_
                     refine wpR_gskip (b := true) (t := 199) rfl rfl rfl rfl ?_
                     refine wpR_gskip (b := true) (t := 199) rfl rfl rfl rfl ?_
                     refine wpR_gskip (b := true) (t := 199) rfl rfl rfl rfl ?_
                     refine wpR_gskip (b := true) (t := 199) rfl rfl rfl rfl ?_
                     refine wpR_gskip (b := true) (t := 199) rfl rfl rfl rfl ?_
                     refine wpR_gskip (b := true) (t := 199) rfl rfl rfl rfl ?_
                     refine wpR_gskip (b := true) (t := 199) rfl rfl rfl rfl ?_
                     refine wpR_gskip (b := true) (t := 199) rfl rfl rfl rfl ?_
                     refine wpR_gskip (b := true) (t := 199) rfl rfl rfl rfl ?_
                     refine wpR_gskip (b := true) (t := 199) rfl rfl rfl rfl ?_
                     refine wpR_gv (t := 187) rfl rfl (OpV_pickT rfl rfl) rfl ?_
                     refine wpR_v (OpV_pickT rfl rfl) rfl (wpR_v (OpV_move rfl) rfl (wpR_gskip (b := true) (t := 213) rfl rfl rfl rfl ?_))
                     refine wpR_gskip (b := true) (t := 213) rfl rfl rfl rfl ?_
                     refine wpR_gskip (b := true) (t := 213) rfl rfl rfl rfl ?_
                     refine wpR_gskip (b := true) (t := 213) rfl rfl rfl rfl ?_
                     refine wpR_gskip (b := true) (t := 213) rfl rfl rfl rfl ?_
                     refine wpR_gskip (b := true) (t := 213) rfl rfl rfl rfl ?_
                     refine wpR_gskip (b := true) (t := 213) rfl rfl rfl rfl ?_
                     refine wpR_gskip (b := true) (t := 213) rfl rfl rfl rfl ?_
                     refine wpR_gskipU (t := 221) rfl rfl rfl ?_
                     refine wpR_gskipU (t := 221) rfl rfl rfl ?_
                     refine wpR_gskipU (t := 221) rfl rfl rfl ?_
                     refine wpR_gskipU (t := 221) rfl rfl rfl ?_
                     refine wpR_gskipU (t := 221) rfl rfl rfl ?_
                     refine wpR_gskipU (t := 221) rfl rfl rfl ?_
                     refine wpR_gskipU (t := 221) rfl rfl rfl ?_
                     refine wpR_gskipU (t := 221) rfl rfl rfl ?_
                     refine wpR_gskipU (t := 221) rfl rfl rfl ?_
                     refine wpR_gskipU (t := 221) rfl rfl rfl ?_
                     refine wpR_gskipU (t := 221) rfl rfl rfl ?_
                     refine wpR_gskip (b := true) (t := 213) rfl rfl rfl rfl ?_
                     refine wpR_v (OpV_pickT rfl rfl) rfl (wpR_nil (QE_then_n ?_))
                     exact wpC_le _ (by exact ⟨rfl, rfl, rfl, rfl, rfl, rfl, rfl, rfl, rfl, rfl, trivial⟩) (hK_196 true _ _ ⟨rfl, hS⟩ h)
                    case false =>
                     have h := if_f h hb_188
                     try simp only [hb_188]
                     refine wpR_gv (t := 199) rfl rfl (OpV_move rfl) rfl ?_
                     refine wpR_gv (t := 199) rfl rfl (OpV_move rfl) rfl ?_
                     refine wpR_gv (t := 199) rfl rfl (G_ix Try.underlying34 ti22 rfl rfl (hS.ro 11 rfl) (show getO ([SV.of v_81, SV.of v_103, SV.of v_125, SV.of v_147] : List SV) (1 : Int) = some (SV.of v_103) from rfl)) rfl ?_
                     refine wpR_gv (t := 199) rfl rfl (G_load Try.underlying22 rfl rfl (hS.ro 11 rfl) (show getO ([SV.of v_81, SV.of v_103, SV.of v_125, SV.of v_147] : List SV) (1 : Int) = some (SV.of v_103) from rfl) (eVc (hS.ro 6 rfl).sv)) rfl ?_
                     refine wpR_gv (t := 199) rfl rfl (OpV_move rfl) rfl ?_
                     obtain ⟨x_189, hx_189, h⟩ := obind_some h
                     refine wpR_gv (t := 199) rfl rfl (G_ix Try.underlying22 ti5 rfl rfl (hS.ro 6 rfl) hx_189) rfl ?_
                     refine wpR_gv (t := 199) rfl rfl (G_load Try.underlying5 rfl rfl (hS.ro 6 rfl) hx_189 rfl) rfl ?_
                     refine wpR_gv (t := 199) rfl rfl (OpV_move rfl) rfl ?_
                     refine wpR_gv (t := 199) rfl rfl (OpV_bin rfl rfl (b_iadd _ 70 1)) rfl ?_
                     refine wpR_gv (t := 199) rfl rfl (OpV_conv rfl (cv_i_8 Try.underlying3 Try.underlying5 71)) rfl ?_
                     refine wpR_gv (t := 199) rfl rfl (OpV_bin rfl rfl (b_neq8 _ x_189 (UInt8.ofInt 71))) rfl ?_
                     refine wpR_gv (t := 187) rfl rfl (OpV_pickF rfl rfl) rfl ?_
                     refine wpR_v (OpV_pickT rfl rfl) rfl (wpR_v (OpV_move rfl) rfl ?_)
                     cases hb_190 : (x_189 != (UInt8.ofInt 71))
                     case true =>
                      have h := if_t h hb_190
                      try simp only [hb_190]
                      refine wpR_gskip (b := true) (t := 213) rfl rfl rfl rfl ?_
                      refine wpR_gskip (b := true) (t := 213) rfl rfl rfl rfl ?_
                      refine wpR_gskip (b := true) (t := 213) rfl rfl rfl rfl ?_
                      refine wpR_gskip (b := true) (t := 213) rfl rfl rfl rfl ?_
                      refine wpR_gskip (b := true) (t := 213) rfl rfl rfl rfl ?_
                      refine wpR_gskip (b := true) (t := 213) rfl rfl rfl rfl ?_
                      refine wpR_gskip (b := true) (t := 213) rfl rfl rfl rfl ?_
                      refine wpR_gskip (b := true) (t := 213) rfl rfl rfl rfl ?_
                      refine wpR_gskipU (t := 221) rfl rfl rfl ?_
                      refine wpR_gskipU (t := 221) rfl rfl rfl ?_
                      refine wpR_gskipU (t := 221) rfl rfl rfl ?_
                      refine wpR_gskipU (t := 221) rfl rfl rfl ?_
                      refine wpR_gskipU (t := 221) rfl rfl rfl ?_
                      refine wpR_gskipU (t := 221) rfl rfl rfl ?_
                      refine wpR_gskipU (t := 221) rfl rfl rfl ?_
                      refine wpR_gskipU (t := 221) rfl rfl rfl ?_
                      refine wpR_gskipU (t := 221) rfl rfl rfl ?_
                      refine wpR_gskipU (t := 221) rfl rfl rfl ?_
                      refine wpR_gskipU (t := 221) rfl rfl rfl ?_
                      refine wpR_gskip (b := true) (t := 213) rfl rfl rfl rfl ?_
                      refine wpR_v (OpV_pickT rfl rfl) rfl (wpR_nil (QE_then_n ?_))
                      exact wpC_le _ (by exact ⟨rfl, rfl, rfl, rfl, rfl, rfl, rfl, rfl, rfl, rfl, trivial⟩) (hK_196 true _ _ ⟨rfl, hS⟩ h)
                     case false =>
                      have h := if_f h hb_190
                      try simp only [hb_190]
                      refine wpR_gv (t := 213) rfl rfl (OpV_move rfl) rfl ?_
                      refine wpR_gv (t := 213) rfl rfl (OpV_move rfl) rfl ?_
                      refine wpR_gv (t := 213) rfl rfl (OpV_move rfl) rfl ?_
                      refine wpR_gv (t := 213) rfl rfl (G_ix Try.underlying34 ti22 rfl rfl (hS.ro 2 rfl) (show getO ([SV.of v_3, SV.of v_6, SV.of v_9, SV.of v_12] : List SV) (1 : Int) = some (SV.of v_6) from rfl)) rfl ?_
                      refine wpR_gv (t := 213) rfl rfl (G_load Try.underlying22 rfl rfl (hS.ro 2 rfl) (show getO ([SV.of v_3, SV.of v_6, SV.of v_9, SV.of v_12] : List SV) (1 : Int) = some (SV.of v_6) from rfl) (eVc (hS.twro hA_107 6 5 rfl rfl).sv)) rfl ?_
                      refine wpR_gv (t := 213) rfl rfl (OpV_len Try.underlying22 rfl (hS.twro hA_107 6 5 rfl rfl)) rfl ?_
                      refine wpR_gv (t := 213) rfl rfl (OpV_bin rfl rfl (b_igeq _ x_182 (x_58.length : Int))) rfl ?_
                      refine wpR_gv (t := 213) rfl rfl (OpV_move rfl) rfl ?_
                      cases hb_191 : (decide ((x_58.length : Int) ≤ x_182))
                      case true =>
                       have h := if_t h hb_191
                       try simp only [hb_191]
                       refine wpR_gv (t := 221) rfl rfl (OpV_move rfl) rfl ?_
                       refine wpR_gv (t := 221) rfl rfl (OpV_move rfl) rfl ?_
                       refine wpR_gv (t := 221) rfl rfl (G_ix Try.underlying34 ti22 rfl rfl (hS.ro 11 rfl) (show getO ([SV.of v_81, SV.of v_103, SV.of v_125, SV.of v_147] : List SV) (1 : Int) = some (SV.of v_103) from rfl)) rfl ?_
                       refine wpR_gv (t := 221) rfl rfl (G_load Try.underlying22 rfl rfl (hS.ro 11 rfl) (show getO ([SV.of v_81, SV.of v_103, SV.of v_125, SV.of v_147] : List SV) (1 : Int) = some (SV.of v_103) from rfl) (eVc (hS.ro 6 rfl).sv)) rfl ?_
                       refine wpR_gv (t := 221) rfl rfl (OpV_move rfl) rfl ?_
                       obtain ⟨x_192, hx_192, h⟩ := obind_some h
                       refine wpR_gv (t := 221) rfl rfl (G_ix Try.underlying22 ti5 rfl rfl (hS.ro 6 rfl) hx_192) rfl ?_
                       refine wpR_gv (t := 221) rfl rfl (G_load Try.underlying5 rfl rfl (hS.ro 6 rfl) hx_192 rfl) rfl ?_
                       refine wpR_gv (t := 221) rfl rfl (OpV_move rfl) rfl ?_
                       refine wpR_gv (t := 221) rfl rfl (OpV_bin rfl rfl (b_iadd _ 80 1)) rfl ?_
                       refine wpR_gv (t := 221) rfl rfl (OpV_conv rfl (cv_i_8 Try.underlying3 Try.underlying5 81)) rfl ?_
                       refine wpR_gv (t := 221) rfl rfl (OpV_bin rfl rfl (b_neq8 _ x_192 (UInt8.ofInt 81))) rfl ?_
                       refine wpR_gv (t := 213) rfl rfl (OpV_pickT rfl rfl) rfl ?_
                       refine wpR_v (OpV_pickF rfl rfl) rfl (wpR_nil (QE_then_n ?_))
                       exact wpC_le _ (by exact ⟨rfl, rfl, rfl, rfl, rfl, rfl, rfl, rfl, rfl, rfl, trivial⟩) (hK_196 (x_192 != (UInt8.ofInt 81)) _ _ ⟨rfl, hS⟩ h)
                      case false =>
                       have h := if_f h hb_191
                       try simp only [hb_191]
                       refine wpR_gskip (b := false) (t := 221) rfl rfl rfl rfl ?_
                       refine wpR_gskip (b := false) (t := 221) rfl rfl rfl rfl ?_
                       refine wpR_gskip (b := false) (t := 221) rfl rfl rfl rfl ?_
                       refine wpR_gskip (b := false) (t := 221) rfl rfl rfl rfl ?_
                       refine wpR_gskip (b := false) (t := 221) rfl rfl rfl rfl ?_
                       refine wpR_gskip (b := false) (t := 221) rfl rfl rfl rfl ?_
                       refine wpR_gskip (b := false) (t := 221) rfl rfl rfl rfl ?_
                       refine wpR_gskip (b := false) (t := 221) rfl rfl rfl rfl ?_
                       refine wpR_gskip (b := false) (t := 221) rfl rfl rfl rfl ?_
                       refine wpR_gskip (b := false) (t := 221) rfl rfl rfl rfl ?_
                       refine wpR_gskip (b := false) (t := 221) rfl rfl rfl rfl ?_
                       refine wpR_gv (t := 213) rfl rfl (OpV_pickF rfl rfl) rfl ?_
                       refine wpR_v (OpV_pickF rfl rfl) rfl (wpR_nil (QE_then_n ?_))
                       exact wpC_le _ (by exact ⟨rfl, rfl, rfl, rfl, rfl, rfl, rfl, rfl, rfl, rfl, trivial⟩) (hK_196 false _ _ ⟨rfl, hS⟩ h)
                   case false =>
                    have h := if_f h hb_186
                    try simp only [hb_186]
                    refine wpR_gskip (b := false) (t := 187) rfl rfl rfl rfl ?_
                    refine wpR_gskip (b := false) (t := 187) rfl rfl rfl rfl ?_
                    refine wpR_gskip (b := false) (t := 187) rfl rfl rfl rfl ?_
                    refine wpR_gskip (b := false) (t := 187) rfl rfl rfl rfl ?_
                    refine wpR_gskip (b := false) (t := 187) rfl rfl rfl rfl ?_
                    refine wpR_gskip (b := false) (t := 187) rfl rfl rfl rfl ?_
                    refine wpR_gskip (b := false) (t := 187) rfl rfl rfl rfl ?_
                    refine wpR_gskip (b := false) (t := 187) rfl rfl rfl rfl ?_
                    refine wpR_gskip (b := false) (t := 187) rfl rfl rfl rfl ?_
                    refine wpR_gskip (b := false) (t := 187) rfl rfl rfl rfl ?_
                    refine wpR_gskip (b := false) (t := 187) rfl rfl rfl rfl ?_
                    refine wpR_gskip (b := false) (t := 187) rfl rfl rfl rfl ?_
                    refine wpR_gskipU (t := 199) rfl rfl rfl ?_
                    refine wpR_gskipU (t := 199) rfl rfl rfl ?_
                    refine wpR_gskipU (t := 199) rfl rfl rfl ?_
                    refine wpR_gskipU (t := 199) rfl rfl rfl ?_
                    refine wpR_gskipU (t := 199) rfl rfl rfl ?_
                    refine wpR_gskipU (t := 199) rfl rfl rfl ?_
                    refine wpR_gskipU (t := 199) rfl rfl rfl ?_
                    refine wpR_gskipU (t := 199) rfl rfl rfl ?_
                    refine wpR_gskipU (t := 199) rfl rfl rfl ?_
                    refine wpR_gskipU (t := 199) rfl rfl rfl ?_
                    refine wpR_gskipU (t := 199) rfl rfl rfl ?_
                    refine wpR_gskip (b := false) (t := 187) rfl rfl rfl rfl ?_
                    refine wpR_v (OpV_pickF rfl rfl) rfl (wpR_v (OpV_move rfl) rfl (wpR_gv (t := 213) rfl rfl (OpV_move rfl) rfl ?_))
                    refine wpR_gv (t := 213) rfl rfl (OpV_move rfl) rfl ?_
                    refine wpR_gv (t := 213) rfl rfl (OpV_move rfl) rfl ?_
                    refine wpR_gv (t := 213) rfl rfl (G_ix Try.underlying34 ti22 rfl rfl (hS.ro 2 rfl) (show getO ([SV.of v_3, SV.of v_6, SV.of v_9, SV.of v_12] : List SV) (1 : Int) = some (SV.of v_6) from rfl)) rfl ?_
                    refine wpR_gv (t := 213) rfl rfl (G_load Try.underlying22 rfl rfl (hS.ro 2 rfl) (show getO ([SV.of v_3, SV.of v_6, SV.of v_9, SV.of v_12] : List SV) (1 : Int) = some (SV.of v_6) from rfl) (eVc (hS.twro hA_107 6 5 rfl rfl).sv)) rfl ?_
                    refine wpR_gv (t := 213) rfl rfl (OpV_len Try.underlying22 rfl (hS.twro hA_107 6 5 rfl rfl)) rfl ?_
                    refine wpR_gv (t := 213) rfl rfl (OpV_bin rfl rfl (b_igeq _ x_182 (x_58.length : Int))) rfl ?_
                    refine wpR_gv (t := 213) rfl rfl (OpV_move rfl) rfl ?_
                    cases hb_193 : (decide ((x_58.length : Int) ≤ x_182))
                    case true =>
                     have h := if_t h hb_193
                     try simp only [hb_193]
                     refine wpR_gv (t := 221) rfl rfl (OpV_move rfl) rfl ?_
                     refine wpR_gv (t := 221) rfl rfl (OpV_move rfl) rfl ?_
                     refine wpR_gv (t := 221) rfl rfl (G_ix Try.underlying34 ti22 rfl rfl (hS.ro 11 rfl) (show getO ([SV.of v_81, SV.of v_103, SV.of v_125, SV.of v_147] : List SV) (1 : Int) = some (SV.of v_103) from rfl)) rfl ?_
                     refine wpR_gv (t := 221) rfl rfl (G_load Try.underlying22 rfl rfl (hS.ro 11 rfl) (show getO ([SV.of v_81, SV.of v_103, SV.of v_125, SV.of v_147] : List SV) (1 : Int) = some (SV.of v_103) from rfl) (eVc (hS.ro 6 rfl).sv)) rfl ?_
                     refine wpR_gv (t := 221) rfl rfl (OpV_move rfl) rfl ?_
                     obtain ⟨x_194, hx_194, h⟩ := obind_some h
                     refine wpR_gv (t := 221) rfl rfl (G_ix Try.underlying22 ti5 rfl rfl (hS.ro 6 rfl) hx_194) rfl ?_
                     refine wpR_gv (t := 221) rfl rfl (G_load Try.underlying5 rfl rfl (hS.ro 6 rfl) hx_194 rfl) rfl ?_
                     refine wpR_gv (t := 221) rfl rfl (OpV_move rfl) rfl ?_
                     refine wpR_gv (t := 221) rfl rfl (OpV_bin rfl rfl (b_iadd _ 80 1)) rfl ?_
                     refine wpR_gv (t := 221) rfl rfl (OpV_conv rfl (cv_i_8 Try.underlying3 Try.underlying5 81)) rfl ?_
                     refine wpR_gv (t := 221) rfl rfl (OpV_bin rfl rfl (b_neq8 _ x_194 (UInt8.ofInt 81))) rfl ?_
                     refine wpR_gv (t := 213) rfl rfl (OpV_pickT rfl rfl) rfl ?_
                     refine wpR_v (OpV_pickF rfl rfl) rfl (wpR_nil (QE_then_n ?_))
                     exact wpC_le _ (by exact ⟨rfl, rfl, rfl, rfl, rfl, rfl, rfl, rfl, rfl, rfl, trivial⟩) (hK_196 (x_194 != (UInt8.ofInt 81)) _ _ ⟨rfl, hS⟩ h)
                    case false =>
                     have h := if_f h hb_193
                     try simp only [hb_193]
                     refine wpR_gskip (b := false) (t := 221) rfl rfl rfl rfl ?_
                     refine wpR_gskip (b := false) (t := 221) rfl rfl rfl rfl ?_
                     refine wpR_gskip (b := false) (t := 221) rfl rfl rfl rfl ?_
                     refine wpR_gskip (b := false) (t := 221) rfl rfl rfl rfl ?_
                     refine wpR_gskip (b := false) (t := 221) rfl rfl rfl rfl ?_
                     refine wpR_gskip (b := false) (t := 221) rfl rfl rfl rfl ?_
                     refine wpR_gskip (b := false) (t := 221) rfl rfl rfl rfl ?_
                     refine wpR_gskip (b := false) (t := 221) rfl rfl rfl rfl ?_
                     refine wpR_gskip (b := false) (t := 221) rfl rfl rfl rfl ?_
                     refine wpR_gskip (b := false) (t := 221) rfl rfl rfl rfl ?_
                     refine wpR_gskip (b := false) (t := 221) rfl rfl rfl rfl ?_
                     refine wpR_gv (t := 213) rfl rfl (OpV_pickF rfl rfl) rfl ?_
                     refine wpR_v (OpV_pickF rfl rfl) rfl (wpR_nil (QE_then_n ?_))
                     exact wpC_le _ (by exact ⟨rfl, rfl, rfl, rfl, rfl, rfl, rfl, rfl, rfl, rfl, trivial⟩) (hK_196 false _ _ ⟨rfl, hS⟩ h)
                 ·have h := if_f h hb_245
                  refine wpC_exit ?_
                  refine QE_then_x (QE_then_x ?_)
                  have h := oinr_some h hk_183
                  refine QE_blk_x ?_
                  refine QE_blk_n ?_
                  refine QE_then_n (wpC_region (wpR_v (OpV_move rfl) rfl (wpR_v (OpV_bin rfl rfl (b_iadd _ 1 1)) rfl ?_)))
                  refine wpR_v (OpV_assign rfl) rfl (wpR_nil (QE_rnd ?_))
                  refine wpN_succ ?_
                  refine wpC_seq (wpC_seq (wpC_region (wpR_v (OpV_move rfl) rfl (wpR_v (OpV_move rfl) rfl (wpR_v (show OpV _ _ _ _ _ (vI 4) _ from OpV_len Try.underlying34 rfl (hS.ro 2 rfl)) rfl ?_)))))
                  refine wpR_v (OpV_bin rfl rfl (b_ilss _ 2 4)) rfl ?_
                  refine wpR_nil (QE_then_n (wpC_condT rfl ?_))
                  refine wpC_skip (QE_then_n (wpC_seq (wpC_block ?_)))
                  refine wpC_seq (wpC_region (wpR_v (OpV_assign rfl) rfl (wpR_nil (QE_then_n (wpC_block ?_)))))
                  refine wpC_le [(0, vS a0), (4, vI x_2.2.1), (10, vI x_8.2.1), (15, slV v_22 e8.sz 0 x_21.2), (16, slV v_26 e8.sz 0 x_25.2), (19, v_48), (22, v_164), (26, vI 2), (27, vI 0)] ⟨rfl, rfl, rfl, rfl, rfl, rfl, rfl, rfl, rfl, trivial⟩ ?_
                  refine loop_ind (F.law1_B64Spares_L13 x_65 x_124 a0 x_2 x_8 x_21 x_25 x_72 x_146) (fun (s : Int) L w => L = [(0, vS a0), (4, vI x_2.2.1), (10, vI x_8.2.1), (15, slV v_22 e8.sz 0 x_21.2), (16, slV v_26 e8.sz 0 x_25.2), (19, v_48), (22, v_164), (26, vI 2), (27, vI s)] ∧ St [] w0 w [own e8 v_22 x_21.1, own e8 v_26 x_25.1, own eV v_48 ([SV.of v_3, SV.of v_6, SV.of v_9, SV.of v_12] : List SV), twE e8 v_3 x_51 b_84, own e8 v_81 x_80, twE e8 v_6 x_58 b_106, own e8 v_103 x_102, twE e8 v_9 x_65 b_128, own e8 v_125 x_124, twE e8 v_12 x_72 b_150, own e8 v_147 x_146, own eV v_164 ([SV.of v_81, SV.of v_103, SV.of v_125, SV.of v_147] : List SV)]) ?_ 0 ⟨rfl, hS⟩ h
                  rintro k_244 x_198 L w q_201 hI ih_200 h hk_199
                  try dsimp only at hI
                  obtain ⟨rfl, hS⟩ := hI
                  unfold F.law1_B64Spares_L13 at h
                  refine wpC_seq (wpC_seq (wpC_region (wpR_v (OpV_move rfl) rfl (wpR_v (OpV_move rfl) rfl (wpR_v (OpV_move rfl) rfl (wpR_v (G_ix Try.underlying34 ti22 rfl rfl (hS.ro 11 rfl) (show getO ([SV.of v_81, SV.of v_103, SV.of v_125, SV.of v_147] : List SV) (2 : Int) = some (SV.of v_125) from rfl)) rfl ?_))))))
                  refine wpR_v (G_load Try.underlying22 rfl rfl (hS.ro 11 rfl) (show getO ([SV.of v_81, SV.of v_103, SV.of v_125, SV.of v_147] : List SV) (2 : Int) = some (SV.of v_125) from rfl) (eVc (hS.ro 8 rfl).sv)) rfl ?_
                  refine wpR_v (OpV_len Try.underlying22 rfl (hS.ro 8 rfl)) rfl ?_
                  refine wpR_v (OpV_bin rfl rfl (b_ilss _ x_198 (x_124.length : Int))) rfl ?_
                  refine wpR_nil (QE_then_n ?_)
                  refine wpC_cond rfl (fun hb_243 => ?_) (fun hb_243 => ?_)
                  ·have h := if_t h hb_243
                   refine wpC_skip (QE_then_n (wpC_seq (wpC_block ?_)))
                   refine seq_join (r := q_201) (fun (g : Bool) L w => L = [(0, vS a0), (4, vI x_2.2.1), (10, vI x_8.2.1), (15, slV v_22 e8.sz 0 x_21.2), (16, slV v_26 e8.sz 0 x_25.2), (19, v_48), (22, v_164), (26, vI 2), (27, vI x_198), (234, vB g)] ∧ St [] w0 w [own e8 v_22 x_21.1, own e8 v_26 x_25.1, own eV v_48 ([SV.of v_3, SV.of v_6, SV.of v_9, SV.of v_12] : List SV), twE e8 v_3 x_51 b_84, own e8 v_81 x_80, twE e8 v_6 x_58 b_106, own e8 v_103 x_102, twE e8 v_9 x_65 b_128, own e8 v_125 x_124, twE e8 v_12 x_72 b_150, own e8 v_147 x_146, own eV v_164 ([SV.of v_81, SV.of v_103, SV.of v_125, SV.of v_147] : List SV)]) (F.law1_B64Spares_K5 x_198) ?_ ?_
                   ·rintro x_211 L w hJ h
                    try dsimp only at hJ
                    obtain ⟨rfl, hS⟩ := hJ
                    unfold F.law1_B64Spares_K5 at h
                    refine wpC_cond rfl (fun hb_213 => ?_) (fun hb_213 => ?_)
                    ·have h := if_t h hb_213
                     refine wpC_seq (wpC_region (wpR_v (OpV_assign rfl) rfl (wpR_nil (QE_then_n (wpC_ret (QE_blk_r ?_))))))
                     refine QE_then_r (QE_then_r ?_)
                     have h := oinr_some h hk_199
                     refine QE_blk_r ?_
                     refine QE_blk_r ?_
                     refine QE_then_r (QE_then_r (QE_blk_r ?_))
                     refine QE_then_r ?_
                     cases h
                     exact QE_ret1 rfl rfl ⟨rfl, hS.pick [] (by decide) rfl⟩
                    ·have h := if_f h hb_213
                     refine wpC_skip (QE_blk_n ?_)
                     refine QE_then_n (wpC_region (wpR_v (OpV_move rfl) rfl (wpR_v (OpV_bin rfl rfl (b_iadd _ x_198 1)) rfl ?_)))
                     refine wpR_v (OpV_assign rfl) rfl (wpR_nil ?_)
                     exact QE_rnd (wpN_le _ (by exact ⟨rfl, rfl, rfl, rfl, rfl, rfl, rfl, rfl, rfl, trivial⟩) (ih_200 (wI (x_198 + 1)) _ _ ⟨rfl, hS⟩ (oinl_some h hk_199)))
                   ·intro hK_212
                    refine wpC_region (wpR_v (OpV_move rfl) rfl (wpR_v (OpV_move rfl) rfl (wpR_v (OpV_move rfl) rfl (wpR_v (G_ix Try.underlying34 ti22 rfl rfl (hS.ro 2 rfl) (show getO ([SV.of v_3, SV.of v_6, SV.of v_9, SV.of v_12] : List SV) (2 : Int) = some (SV.of v_9) from rfl)) rfl ?_))))
                    refine wpR_v (G_load Try.underlying22 rfl rfl (hS.ro 2 rfl) (show getO ([SV.of v_3, SV.of v_6, SV.of v_9, SV.of v_12] : List SV) (2 : Int) = some (SV.of v_9) from rfl) (eVc (hS.twro hA_129 8 7 rfl rfl).sv)) rfl ?_
                    refine wpR_v (OpV_len Try.underlying22 rfl (hS.twro hA_129 8 7 rfl rfl)) rfl ?_
                    refine wpR_v (OpV_bin rfl rfl (b_ilss _ x_198 (x_65.length : Int))) rfl ?_
                    refine wpR_v (OpV_move rfl) rfl ?_
                    cases hb_202 : (decide (x_198 < (x_65.length : Int)))
                    case true =>
                     have h := if_t h hb_202
                     try simp only [hb_202]
                     refine wpR_gv (t := 187) rfl rfl (OpV_move rfl) rfl ?_
                     refine wpR_gv (t := 187) rfl rfl (OpV_move rfl) rfl ?_
                     refine wpR_gv (t := 187) rfl rfl (G_ix Try.underlying34 ti22 rfl rfl (hS.ro 2 rfl) (show getO ([SV.of v_3, SV.of v_6, SV.of v_9, SV.of v_12] : List SV) (2 : Int) = some (SV.of v_9) from rfl)) rfl ?_
                     refine wpR_gv (t := 187) rfl rfl (G_load Try.underlying22 rfl rfl (hS.ro 2 rfl) (show getO ([SV.of v_3, SV.of v_6, SV.of v_9, SV.of v_12] : List SV) (2 : Int) = some (SV.of v_9) from rfl) (eVc (hS.twro hA_129 8 7 rfl rfl).sv)) rfl ?_
                     refine wpR_gv (t := 187) rfl rfl (OpV_move rfl) rfl ?_
                     obtain ⟨x_203, hx_203, h⟩ := obind_some h
                     refine wpR_gv (t := 187) rfl rfl (G_ix Try.underlying22 ti5 rfl rfl (hS.twro hA_129 8 7 rfl rfl) hx_203) rfl ?_
                     refine wpR_gv (t := 187) rfl rfl (G_load Try.underlying5 rfl rfl (hS.twro hA_129 8 7 rfl rfl) hx_203 rfl) rfl ?_
                     refine wpR_gv (t := 187) rfl rfl (OpV_move rfl) rfl ?_
                     refine wpR_gv (t := 187) rfl rfl (OpV_bin rfl rfl (b_iadd _ 70 2)) rfl ?_
                     refine wpR_gv (t := 187) rfl rfl (OpV_conv rfl (cv_i_8 Try.underlying3 Try.underlying5 72)) rfl ?_
                     refine wpR_gv (t := 187) rfl rfl (OpV_bin rfl rfl (b_neq8 _ x_203 (UInt8.ofInt 72))) rfl ?_
                     refine wpR_gv (t := 187) rfl rfl (OpV_move rfl) rfl ?_
                     cases hb_204 : (x_203 != (UInt8.ofInt 72))
                     case true =>
                      have h := if_t h hb_204
                      try simp only [hb_204]
                      refine wpR_gskip (b := true) (t := 199) rfl rfl rfl rfl ?_
                      refine wpR_gskip (b := true) (t := 199) rfl rfl rfl rfl ?_
                      refine wpR_gskip (b := true) (t := 199) rfl rfl rfl rfl ?_
                      refine wpR_gskip (b := true) (t := 199) rfl rfl rfl rfl ?_
                      refine wpR_gskip (b := true) (t := 199) rfl rfl rfl rfl ?_
                      refine wpR_gskip (b := true) (t := 199) rfl rfl rfl rfl ?_
                      refine wpR_gskip (b := true) (t := 199) rfl rfl rfl rfl ?_
                      refine wpR_gskip (b := true) (t := 199) rfl rfl rfl rfl ?_
                      refine wpR_gskip (b := true) (t := 199) rfl rfl rfl rfl ?_
                      refine wpR_gskip (b := true) (t := 199) rfl rfl rfl rfl ?_
                      refine wpR_gskip (b := true) (t := 199) rfl rfl rfl rfl ?_
                      refine wpR_gv (t := 187) rfl rfl (OpV_pickT rfl rfl) rfl ?_
                      refine wpR_v (OpV_pickT rfl rfl) rfl (wpR_v (OpV_move rfl) rfl (wpR_gskip (b := true) (t := 213) rfl rfl rfl rfl ?_))
                      refine wpR_gskip (b := true) (t := 213) rfl rfl rfl rfl ?_
                      refine wpR_gskip (b := true) (t := 213) rfl rfl rfl rfl ?_
                      refine wpR_gskip (b := true) (t := 213) rfl rfl rfl rfl ?_
                      refine wpR_gskip (b := true) (t := 213) rfl rfl rfl rfl ?_
                      refine wpR_gskip (b := true) (t := 213) rfl rfl rfl rfl ?_
                      refine wpR_gskip (b := true) (t := 213) rfl rfl rfl rfl ?_
                      refine wpR_gskip (b := true) (t := 213) rfl rfl rfl rfl ?_
                      refine wpR_gskipU (t := 221) rfl rfl rfl ?_
                      refine wpR_gskipU (t := 221) rfl rfl rfl ?_
                      refine wpR_gskipU (t := 221) rfl rfl rfl ?_
                      refine wpR_gskipU (t := 221) rfl rfl rfl ?_
                      refine wpR_gskipU (t := 221) rfl rfl rfl ?_
                      refine wpR_gskipU (t := 221) rfl rfl rfl ?_
                      refine wpR_gskipU (t := 221) rfl rfl rfl ?_
                      refine wpR_gskipU (t := 221) rfl rfl rfl ?_
                      refine wpR_gskipU (t := 221) rfl rfl rfl ?_
                      refine wpR_gskipU (t := 221) rfl rfl rfl ?_
                      refine wpR_gskipU (t := 221) rfl rfl rfl ?_
                      refine wpR_gskip (b := true) (t := 213) rfl rfl rfl rfl ?_
                      refine wpR_v (OpV_pickT rfl rfl) rfl (wpR_nil (QE_then_n ?_))
                      exact wpC_le _ (by exact ⟨rfl, rfl, rfl, rfl, rfl, rfl, rfl, rfl, rfl, rfl, trivial⟩) (hK_212 true _ _ ⟨rfl, hS⟩ h)
                     case false =>
                      have h := if_f h hb_204
                      try simp only [hb_204]
                      refine wpR_gv (t := 199) rfl rfl (OpV_move rfl) rfl ?_
                      refine wpR_gv (t := 199) rfl rfl (OpV_move rfl) rfl ?_
                      refine wpR_gv (t := 199) rfl rfl (G_ix Try.underlying34 ti22 rfl rfl (hS.ro 11 rfl) (show getO ([SV.of v_81, SV.of v_103, SV.of v_125, SV.of v_147] : List SV) (2 : Int) = some (SV.of v_125) from rfl)) rfl ?_
                      refine wpR_gv (t := 199) rfl rfl (G_load Try.underlying22 rfl rfl (hS.ro 11 rfl) (show getO ([SV.of v_81, SV.of v_103, SV.of v_125, SV.of v_147] : List SV) (2 : Int) = some (SV.of v_125) from rfl) (eVc (hS.ro 8 rfl).sv)) rfl ?_
                      refine wpR_gv (t := 199) rfl rfl (OpV_move rfl) rfl ?_
                      obtain ⟨x_205, hx_205, h⟩ := obind_some h
                      refine wpR_gv (t := 199) rfl rfl (G_ix Try.underlying22 ti5 rfl rfl (hS.ro 8 rfl) hx_205) rfl ?_
                      refine wpR_gv (t := 199) rfl rfl (G_load Try.underlying5 rfl rfl (hS.ro 8 rfl) hx_205 rfl) rfl ?_
                      refine wpR_gv (t := 199) rfl rfl (OpV_move rfl) rfl ?_
                      refine wpR_gv (t := 199) rfl rfl (OpV_bin rfl rfl (b_iadd _ 70 2)) rfl ?_
                      refine wpR_gv (t := 199) rfl rfl (OpV_conv rfl (cv_i_8 Try.underlying3 Try.underlying5 72)) rfl ?_
                      refine wpR_gv (t := 199) rfl rfl (OpV_bin rfl rfl (b_neq8 _ x_205 (UInt8.ofInt 72))) rfl ?_
                      refine wpR_gv (t := 187) rfl rfl (OpV_pickF rfl rfl) rfl ?_
                      refine wpR_v (OpV_pickT rfl rfl) rfl (wpR_v (OpV_move rfl) rfl ?_)
                      cases hb_206 : (x_205 != (UInt8.ofInt 72))
                      case true =>
                       have h := if_t h hb_206
                       try simp only [hb_206]
                       refine wpR_gskip (b := true) (t := 213) rfl rfl rfl rfl ?_
                       refine wpR_gskip (b := true) (t := 213) rfl rfl rfl rfl ?_
                       refine wpR_gskip (b := true) (t := 213) rfl rfl rfl rfl ?_
                       refine wpR_gskip (b := true) (t := 213) rfl rfl rfl rfl ?_
                       refine wpR_gskip (b := true) (t := 213) rfl rfl rfl rfl ?_
                       refine wpR_gskip (b := true) (t := 213) rfl rfl rfl rfl ?_
                       refine wpR_gskip (b := true) (t := 213) rfl rfl rfl rfl ?_
                       refine wpR_gskip (b := true) (t := 213) rfl rfl rfl rfl ?_
                       refine wpR_gskipU (t := 221) rfl rfl rfl ?_
                       refine wpR_gskipU (t := 221) rfl rfl rfl ?_
                       refine wpR_gskipU (t := 221) rfl rfl rfl ?_
                       refine wpR_gskipU (t := 221) rfl rfl rfl ?_
                       refine wpR_gskipU (t := 221) rfl rfl rfl ?_
                       refine wpR_gskipU (t := 221) rfl rfl rfl ?_
                       refine wpR_gskipU (t := 221) rfl rfl rfl ?_
                       refine wpR_gskipU (t := 221) rfl rfl rfl ?_
                       refine wpR_gskipU (t := 221) rfl rfl rfl ?_
                       refine wpR_gskipU (t := 221) rfl rfl rfl ?_
                       refine wpR_gskipU (t := 221) rfl rfl rfl ?_
                       refine wpR_gskip (b := true) (t := 213) rfl rfl rfl rfl ?_
                       refine wpR_v (OpV_pickT rfl rfl) rfl (wpR_nil (QE_then_n ?_))
                       exact wpC_le _ (by exact ⟨rfl, rfl, rfl, rfl, rfl, rfl, rfl, rfl, rfl, rfl, trivial⟩) (hK_212 true _ _ ⟨rfl, hS⟩ h)
                      case false =>
                       have h := if_f h hb_206
                       try simp only [hb_206]
                       refine wpR_gv (t := 213) rfl rfl (OpV_move rfl) rfl ?_
                       refine wpR_gv (t := 213) rfl rfl (OpV_move rfl) rfl ?_
                       refine wpR_gv (t := 213) rfl rfl (OpV_move rfl) rfl ?_
                       refine wpR_gv (t := 213) rfl rfl (G_ix Try.underlying34 ti22 rfl rfl (hS.ro 2 rfl) (show getO ([SV.of v_3, SV.of v_6, SV.of v_9, SV.of v_12] : List SV) (2 : Int) = some (SV.of v_9) from rfl)) rfl ?_
                       refine wpR_gv (t := 213) rfl rfl (G_load Try.underlying22 rfl rfl (hS.ro 2 rfl) (show getO ([SV.of v_3, SV.of v_6, SV.of v_9, SV.of v_12] : List SV) (2 : Int) = some (SV.of v_9) from rfl) (eVc (hS.twro hA_129 8 7 rfl rfl).sv)) rfl ?_
                       refine wpR_gv (t := 213) rfl rfl (OpV_len Try.underlying22 rfl (hS.twro hA_129 8 7 rfl rfl)) rfl ?_
                       refine wpR_gv (t := 213) rfl rfl (OpV_bin rfl rfl (b_igeq _ x_198 (x_65.length : Int))) rfl ?_
                       refine wpR_gv (t := 213) rfl rfl (OpV_move rfl) rfl ?_
                       cases hb_207 : (decide ((x_65.length : Int) ≤ x_198))
                       case true =>
                        have h := if_t h hb_207
                        try simp only [hb_207]
                        refine wpR_gv (t := 221) rfl rfl (OpV_move rfl) rfl ?_
                        refine wpR_gv (t := 221) rfl rfl (OpV_move rfl) rfl ?_
                        refine wpR_gv (t := 221) rfl rfl (G_ix Try.underlying34 ti22 rfl rfl (hS.ro 11 rfl) (show getO ([SV.of v_81, SV.of v_103, SV.of v_125, SV.of v_147] : List SV) (2 : Int) = some (SV.of v_125) from rfl)) rfl ?_
                        refine wpR_gv (t := 221) rfl rfl (G_load Try.underlying22 rfl rfl (hS.ro 11 rfl) (show getO ([SV.of v_81, SV.of v_103, SV.of v_125, SV.of v_147] : List SV) (2 : Int) = some (SV.of v_125) from rfl) (eVc (hS.ro 8 rfl).sv)) rfl ?_
                        refine wpR_gv (t := 221) rfl rfl (OpV_move rfl) rfl ?_
                        obtain ⟨x_208, hx_208, h⟩ := obind_some h
                        refine wpR_gv (t := 221) rfl rfl (G_ix Try.underlying22 ti5 rfl rfl (hS.ro 8 rfl) hx_208) rfl ?_
                        refine wpR_gv (t := 221) rfl rfl (G_load Try.underlying5 rfl rfl (hS.ro 8 rfl) hx_208 rfl) rfl ?_
                        refine wpR_gv (t := 221) rfl rfl (OpV_move rfl) rfl ?_
                        refine wpR_gv (t := 221) rfl rfl (OpV_bin rfl rfl (b_iadd _ 80 2)) rfl ?_
                        refine wpR_gv (t := 221) rfl rfl (OpV_conv rfl (cv_i_8 Try.underlying3 Try.underlying5 82)) rfl ?_
                        refine wpR_gv (t := 221) rfl rfl (OpV_bin rfl rfl (b_neq8 _ x_208 (UInt8.ofInt 82))) rfl ?_
                        refine wpR_gv (t := 213) rfl rfl (OpV_pickT rfl rfl) rfl ?_
                        refine wpR_v (OpV_pickF rfl rfl) rfl (wpR_nil (QE_then_n ?_))
                        exact wpC_le _ (by exact ⟨rfl, rfl, rfl, rfl, rfl, rfl, rfl, rfl, rfl, rfl, trivial⟩) (hK_212 (x_208 != (UInt8.ofInt 82)) _ _ ⟨rfl, hS⟩ h)
                       case false =>
                        have h := if_f h hb_207
                        try simp only [hb_207]
                        refine wpR_gskip (b := false) (t := 221) rfl rfl rfl rfl ?_
                        refine wpR_gskip (b := false) (t := 221) rfl rfl rfl rfl ?_
                        refine wpR_gskip (b := false) (t := 221) rfl rfl rfl rfl ?_
                        refine wpR_gskip (b := false) (t := 221) rfl rfl rfl rfl ?_
                        refine wpR_gskip (b := false) (t := 221) rfl rfl rfl rfl ?_
                        refine wpR_gskip (b := false) (t := 221) rfl rfl rfl rfl ?_
                        refine wpR_gskip (b := false) (t := 221) rfl rfl rfl rfl ?_
                        refine wpR_gskip (b := false) (t := 221) rfl rfl rfl rfl ?_
                        refine wpR_gskip (b := false) (t := 221) rfl rfl rfl rfl ?_
                        refine wpR_gskip (b := false) (t := 221) rfl rfl rfl rfl ?_
                        refine wpR_gskip (b := false) (t := 221) rfl rfl rfl rfl ?_
                        refine wpR_gv (t := 213) rfl rfl (OpV_pickF rfl rfl) rfl ?_
                        refine wpR_v (OpV_pickF rfl rfl) rfl (wpR_nil (QE_then_n ?_))
                        exact wpC_le _ (by exact ⟨rfl, rfl, rfl, rfl, rfl, rfl, rfl, rfl, rfl, rfl, trivial⟩) (hK_212 false _ _ ⟨rfl, hS⟩ h)
                    case false =>
                     have h := if_f h hb_202
                     try simp only [hb_202]
                     refine wpR_gskip (b := false) (t := 187) rfl rfl rfl rfl ?_
                     refine wpR_gskip (b := false) (t := 187) rfl rfl rfl rfl ?_
                     refine wpR_gskip (b := false) (t := 187) rfl rfl rfl rfl ?_
                     refine wpR_gskip (b := false) (t := 187) rfl rfl rfl rfl ?_
                     refine wpR_gskip (b := false) (t := 187) rfl rfl rfl rfl ?_
                     refine wpR_gskip (b := false) (t := 187) rfl rfl rfl rfl ?_
                     refine wpR_gskip (b := false) (t := 187) rfl rfl rfl rfl ?_
                     refine wpR_gskip (b := false) (t := 187) rfl rfl rfl rfl ?_
                     refine wpR_gskip (b := false) (t := 187) rfl rfl rfl rfl ?_
                     refine wpR_gskip (b := false) (t := 187) rfl rfl rfl rfl ?_
                     refine wpR_gskip (b := false) (t := 187) rfl rfl rfl rfl ?_
                     refine wpR_gskip (b := false) (t := 187) rfl rfl rfl rfl ?_
                     refine wpR_gskipU (t := 199) rfl rfl rfl ?_
                     refine wpR_gskipU (t := 199) rfl rfl rfl ?_
                     refine wpR_gskipU (t := 199) rfl rfl rfl ?_
                     refine wpR_gskipU (t := 199) rfl rfl rfl ?_
                     refine wpR_gskipU (t := 199) rfl rfl rfl ?_
                     refine wpR_gskipU (t := 199) rfl rfl rfl ?_
                     refine wpR_gskipU (t := 199) rfl rfl rfl ?_
                     refine wpR_gskipU (t := 199) rfl rfl rfl ?_
                     refine wpR_gskipU (t := 199) rfl rfl rfl ?_
                     refine wpR_gskipU (t := 199) rfl rfl rfl ?_
                     refine wpR_gskipU (t := 199) rfl rfl rfl ?_
                     refine wpR_gskip (b := false) (t := 187) rfl rfl rfl rfl ?_
                     refine wpR_v (OpV_pickF rfl rfl) rfl (wpR_v (OpV_move rfl) rfl (wpR_gv (t := 213) rfl rfl (OpV_move rfl) rfl ?_))
                     refine wpR_gv (t := 213) rfl rfl (OpV_move rfl) rfl ?_
                     refine wpR_gv (t := 213) rfl rfl (OpV_move rfl) rfl ?_
                     refine wpR_gv (t := 213) rfl rfl (G_ix Try.underlying34 ti22 rfl rfl (hS.ro 2 rfl) (show getO ([SV.of v_3, SV.of v_6, SV.of v_9, SV.of v_12] : List SV) (2 : Int) = some (SV.of v_9) from rfl)) rfl ?_
                     refine wpR_gv (t := 213) rfl rfl (G_load Try.underlying22 rfl rfl (hS.ro 2 rfl) (show getO ([SV.of v_3, SV.of v_6, SV.of v_9, SV.of v_12] : List SV) (2 : Int) = some (SV.of v_9) from rfl) (eVc (hS.twro hA_129 8 7 rfl rfl).sv)) rfl ?_
                     refine wpR_gv (t := 213) rfl rfl (OpV_len Try.underlying22 rfl (hS.twro hA_129 8 7 rfl rfl)) rfl ?_
                     refine wpR_gv (t := 213) rfl rfl (OpV_bin rfl rfl (b_igeq _ x_198 (x_65.length : Int))) rfl ?_
                     refine wpR_gv (t := 213) rfl rfl (OpV_move rfl) rfl ?_
                     cases hb_209 : (decide ((x_65.length : Int) ≤ x_198))
                     case true =>
                      have h := if_t h hb_209
                      try simp only [hb_209]
                      refine wpR_gv (t := 221) rfl rfl (OpV_move rfl) rfl ?_
                      refine wpR_gv (t := 221) rfl rfl (OpV_move rfl) rfl ?_
                      refine wpR_gv (t := 221) rfl rfl (G_ix Try.underlying34 ti22 rfl rfl (hS.ro 11 rfl) (show getO ([SV.of v_81, SV.of v_103, SV.of v_125, SV.of v_147] : List SV) (2 : Int) = some (SV.of v_125) from rfl)) rfl ?_
                      refine wpR_gv (t := 221) rfl rfl (G_load Try.underlying22 rfl rfl (hS.ro 11 rfl) (show getO ([SV.of v_81, SV.of v_103, SV.of v_125, SV.of v_147] : List SV) (2 : Int) = some (SV.of v_125) from rfl) (eVc (hS.ro 8 rfl).sv)) rfl ?_
                      refine wpR_gv (t := 221) rfl rfl (OpV_move rfl) rfl ?_
                      obtain ⟨x_210, hx_210, h⟩ := obind_some h
                      refine wpR_gv (t := 221) rfl rfl (G_ix Try.underlying22 ti5 rfl rfl (hS.ro 8 rfl) hx_210) rfl ?_
                      refine wpR_gv (t := 221) rfl rfl (G_load Try.underlying5 rfl rfl (hS.ro 8 rfl) hx_210 rfl) rfl ?_
                      refine wpR_gv (t := 221) rfl rfl (OpV_move rfl) rfl ?_
                      refine wpR_gv (t := 221) rfl rfl (OpV_bin rfl rfl (b_iadd _ 80 2)) rfl ?_
                      refine wpR_gv (t := 221) rfl rfl (OpV_conv rfl (cv_i_8 Try.underlying3 Try.underlying5 82)) rfl ?_
                      refine wpR_gv (t := 221) rfl rfl (OpV_bin rfl rfl (b_neq8 _ x_210 (UInt8.ofInt 82))) rfl ?_
                      refine wpR_gv (t := 213) rfl rfl (OpV_pickT rfl rfl) rfl ?_
                      refine wpR_v (OpV_pickF rfl rfl) rfl (wpR_nil (QE_then_n ?_))
                      exact wpC_le _ (by exact ⟨rfl, rfl, rfl, rfl, rfl, rfl, rfl, rfl, rfl, rfl, trivial⟩) (hK_212 (x_210 != (UInt8.ofInt 82)) _ _ ⟨rfl, hS⟩ h)
                     case false =>
                      have h := if_f h hb_209
                      try simp only [hb_209]
                      refine wpR_gskip (b := false) (t := 221) rfl rfl rfl rfl ?_
                      refine wpR_gskip (b := false) (t := 221) rfl rfl rfl rfl ?_
                      refine wpR_gskip (b := false) (t := 221) rfl rfl rfl rfl ?_
                      refine wpR_gskip (b := false) (t := 221) rfl rfl rfl rfl ?_
                      refine wpR_gskip (b := false) (t := 221) rfl rfl rfl rfl ?_
                      refine wpR_gskip (b := false) (t := 221) rfl rfl rfl rfl ?_
                      refine wpR_gskip (b := false) (t := 221) rfl rfl rfl rfl ?_
                      refine wpR_gskip (b := false) (t := 221) rfl rfl rfl rfl ?_
                      refine wpR_gskip (b := false) (t := 221) rfl rfl rfl rfl ?_
                      refine wpR_gskip (b := false) (t := 221) rfl rfl rfl rfl ?_
                      refine wpR_gskip (b := false) (t := 221) rfl rfl rfl rfl ?_
                      refine wpR_gv (t := 213) rfl rfl (OpV_pickF rfl rfl) rfl ?_
                      refine wpR_v (OpV_pickF rfl rfl) rfl (wpR_nil (QE_then_n ?_))
                      exact wpC_le _ (by exact ⟨rfl, rfl, rfl, rfl, rfl, rfl, rfl, rfl, rfl, rfl, trivial⟩) (hK_212 false _ _ ⟨rfl, hS⟩ h)
                  ·have h := if_f h hb_243
                   refine wpC_exit ?_
                   refine QE_then_x (QE_then_x ?_)
                   have h := oinr_some h hk_199
                   refine QE_blk_x ?_
                   refine QE_blk_n ?_
                   refine QE_then_n (wpC_region (wpR_v (OpV_move rfl) rfl (wpR_v (OpV_bin rfl rfl (b_iadd _ 2 1)) rfl ?_)))
                   refine wpR_v (OpV_assign rfl) rfl (wpR_nil (QE_rnd ?_))
                   refine wpN_succ ?_
                   refine wpC_seq (wpC_seq (wpC_region (wpR_v (OpV_move rfl) rfl (wpR_v (OpV_move rfl) rfl (wpR_v (show OpV _ _ _ _ _ (vI 4) _ from OpV_len Try.underlying34 rfl (hS.ro 2 rfl)) rfl ?_)))))
                   refine wpR_v (OpV_bin rfl rfl (b_ilss _ 3 4)) rfl ?_
                   refine wpR_nil (QE_then_n (wpC_condT rfl ?_))
                   refine wpC_skip (QE_then_n (wpC_seq (wpC_block ?_)))
                   refine wpC_seq (wpC_region (wpR_v (OpV_assign rfl) rfl (wpR_nil (QE_then_n (wpC_block ?_)))))
                   refine wpC_le [(0, vS a0), (4, vI x_2.2.1), (10, vI x_8.2.1), (15, slV v_22 e8.sz 0 x_21.2), (16, slV v_26 e8.sz 0 x_25.2), (19, v_48), (22, v_164), (26, vI 3), (27, vI 0)] ⟨rfl, rfl, rfl, rfl, rfl, rfl, rfl, rfl, rfl, trivial⟩ ?_
                   refine loop_ind (F.law1_B64Spares_L14 a0 x_2 x_8 x_21 x_25 x_72 x_146) (fun (s : Int) L w => L = [(0, vS a0), (4, vI x_2.2.1), (10, vI x_8.2.1), (15, slV v_22 e8.sz 0 x_21.2), (16, slV v_26 e8.sz 0 x_25.2), (19, v_48), (22, v_164), (26, vI 3), (27, vI s)] ∧ St [] w0 w [own e8 v_22 x_21.1, own e8 v_26 x_25.1, own eV v_48 ([SV.of v_3, SV.of v_6, SV.of v_9, SV.of v_12] : List SV), twE e8 v_3 x_51 b_84, own e8 v_81 x_80, twE e8 v_6 x_58 b_106, own e8 v_103 x_102, twE e8 v_9 x_65 b_128, own e8 v_125 x_124, twE e8 v_12 x_72 b_150, own e8 v_147 x_146, own eV v_164 ([SV.of v_81, SV.of v_103, SV.of v_125, SV.of v_147] : List SV)]) ?_ 0 ⟨rfl, hS⟩ h
                   rintro k_242 x_214 L w q_217 hI ih_216 h hk_215
                   try dsimp only at hI
                   obtain ⟨rfl, hS⟩ := hI
                   unfold F.law1_B64Spares_L14 at h
                   refine wpC_seq (wpC_seq (wpC_region (wpR_v (OpV_move rfl) rfl (wpR_v (OpV_move rfl) rfl (wpR_v (OpV_move rfl) rfl (wpR_v (G_ix Try.underlying34 ti22 rfl rfl (hS.ro 11 rfl) (show getO ([SV.of v_81, SV.of v_103, SV.of v_125, SV.of v_147] : List SV) (3 : Int) = some (SV.of v_147) from rfl)) rfl ?_))))))
                   refine wpR_v (G_load Try.underlying22 rfl rfl (hS.ro 11 rfl) (show getO ([SV.of v_81, SV.of v_103, SV.of v_125, SV.of v_147] : List SV) (3 : Int) = some (SV.of v_147) from rfl) (eVc (hS.ro 10 rfl).sv)) rfl ?_
                   refine wpR_v (OpV_len Try.underlying22 rfl (hS.ro 10 rfl)) rfl ?_
                   refine wpR_v (OpV_bin rfl rfl (b_ilss _ x_214 (x_146.length : Int))) rfl ?_
                   refine wpR_nil (QE_then_n ?_)
                   refine wpC_cond rfl (fun hb_241 => ?_) (fun hb_241 => ?_)
                   ·have h := if_t h hb_241
                    refine wpC_skip (QE_then_n (wpC_seq (wpC_block ?_)))
                    refine seq_join (r := q_217) (fun (g : Bool) L w => L = [(0, vS a0), (4, vI x_2.2.1), (10, vI x_8.2.1), (15, slV v_22 e8.sz 0 x_21.2), (16, slV v_26 e8.sz 0 x_25.2), (19, v_48), (22, v_164), (26, vI 3), (27, vI x_214), (234, vB g)] ∧ St [] w0 w [own e8 v_22 x_21.1, own e8 v_26 x_25.1, own eV v_48 ([SV.of v_3, SV.of v_6, SV.of v_9, SV.of v_12] : List SV), twE e8 v_3 x_51 b_84, own e8 v_81 x_80, twE e8 v_6 x_58 b_106, own e8 v_103 x_102, twE e8 v_9 x_65 b_128, own e8 v_125 x_124, twE e8 v_12 x_72 b_150, own e8 v_147 x_146, own eV v_164 ([SV.of v_81, SV.of v_103, SV.of v_125, SV.of v_147] : List SV)]) (F.law1_B64Spares_K6 x_214) ?_ ?_
                    ·rintro x_227 L w hJ h
                     try dsimp only at hJ
                     obtain ⟨rfl, hS⟩ := hJ
                     unfold F.law1_B64Spares_K6 at h
                     refine wpC_cond rfl (fun hb_229 => ?_) (fun hb_229 => ?_)
                     ·have h := if_t h hb_229
                      refine wpC_seq (wpC_region (wpR_v (OpV_assign rfl) rfl (wpR_nil (QE_then_n (wpC_ret (QE_blk_r ?_))))))
                      refine QE_then_r (QE_then_r ?_)
                      have h := oinr_some h hk_215
                      refine QE_blk_r ?_
                      refine QE_blk_r ?_
                      refine QE_then_r (QE_then_r (QE_blk_r ?_))
                      refine QE_then_r ?_
                      cases h
                      exact QE_ret1 rfl rfl ⟨rfl, hS.pick [] (by decide) rfl⟩
                     ·have h := if_f h hb_229
                      refine wpC_skip (QE_blk_n ?_)
                      refine QE_then_n (wpC_region (wpR_v (OpV_move rfl) rfl (wpR_v (OpV_bin rfl rfl (b_iadd _ x_214 1)) rfl ?_)))
                      refine wpR_v (OpV_assign rfl) rfl (wpR_nil ?_)
                      exact QE_rnd (wpN_le _ (by exact ⟨rfl, rfl, rfl, rfl, rfl, rfl, rfl, rfl, rfl, trivial⟩) (ih_216 (wI (x_214 + 1)) _ _ ⟨rfl, hS⟩ (oinl_some h hk_215)))
                    ·intro hK_228
                     refine wpC_region (wpR_v (OpV_move rfl) rfl (wpR_v (OpV_move rfl) rfl (wpR_v (OpV_move rfl) rfl (wpR_v (G_ix Try.underlying34 ti22 rfl rfl (hS.ro 2 rfl) (show getO ([SV.of v_3, SV.of v_6, SV.of v_9, SV.of v_12] : List SV) (3 : Int) = some (SV.of v_12) from rfl)) rfl ?_))))
                     refine wpR_v (G_load Try.underlying22 rfl rfl (hS.ro 2 rfl) (show getO ([SV.of v_3, SV.of v_6, SV.of v_9, SV.of v_12] : List SV) (3 : Int) = some (SV.of v_12) from rfl) (eVc (hS.twro hA_151 10 9 rfl rfl).sv)) rfl ?_
                     refine wpR_v (OpV_len Try.underlying22 rfl (hS.twro hA_151 10 9 rfl rfl)) rfl ?_
                     refine wpR_v (OpV_bin rfl rfl (b_ilss _ x_214 (x_72.length : Int))) rfl ?_
                     refine wpR_v (OpV_move rfl) rfl ?_
                     cases hb_218 : (decide (x_214 < (x_72.length : Int)))
                     case true =>
                      have h := if_t h hb_218
                      try simp only [hb_218]
                      refine wpR_gv (t := 187) rfl rfl (OpV_move rfl) rfl ?_
                      refine wpR_gv (t := 187) rfl rfl (OpV_move rfl) rfl ?_
                      refine wpR_gv (t := 187) rfl rfl (G_ix Try.underlying34 ti22 rfl rfl (hS.ro 2 rfl) (show getO ([SV.of v_3, SV.of v_6, SV.of v_9, SV.of v_12] : List SV) (3 : Int) = some (SV.of v_12) from rfl)) rfl ?_
                      refine wpR_gv (t := 187) rfl rfl (G_load Try.underlying22 rfl rfl (hS.ro 2 rfl) (show getO ([SV.of v_3, SV.of v_6, SV.of v_9, SV.of v_12] : List SV) (3 : Int) = some (SV.of v_12) from rfl) (eVc (hS.twro hA_151 10 9 rfl rfl).sv)) rfl ?_
                      refine wpR_gv (t := 187) rfl rfl (OpV_move rfl) rfl ?_
                      obtain ⟨x_219, hx_219, h⟩ := obind_some h
                      refine wpR_gv (t := 187) rfl rfl (G_ix Try.underlying22 ti5 rfl rfl (hS.twro hA_151 10 9 rfl rfl) hx_219) rfl ?_
                      refine wpR_gv (t := 187) rfl rfl (G_load Try.underlying5 rfl rfl (hS.twro hA_151 10 9 rfl rfl) hx_219 rfl) rfl ?_
                      refine wpR_gv (t := 187) rfl rfl (OpV_move rfl) rfl ?_
                      refine wpR_gv (t := 187) rfl rfl (OpV_bin rfl rfl (b_iadd _ 70 3)) rfl ?_
                      refine wpR_gv (t := 187) rfl rfl (OpV_conv rfl (cv_i_8 Try.underlying3 Try.underlying5 73)) rfl ?_
                      refine wpR_gv (t := 187) rfl rfl (OpV_bin rfl rfl (b_neq8 _ x_219 (UInt8.ofInt 73))) rfl ?_
                      refine wpR_gv (t := 187) rfl rfl (OpV_move rfl) rfl ?_
                      cases hb_220 : (x_219 != (UInt8.ofInt 73))
                      case true =>
                       have h := if_t h hb_220
                       try simp only [hb_220]
                       refine wpR_gskip (b := true) (t := 199) rfl rfl rfl rfl ?_
                       refine wpR_gskip (b := true) (t := 199) rfl rfl rfl rfl ?_
                       refine wpR_gskip (b := true) (t := 199) rfl rfl rfl rfl ?_
                       refine wpR_gskip (b := true) (t := 199) rfl rfl rfl rfl ?_
                       refine wpR_gskip (b := true) (t := 199) rfl rfl rfl rfl ?_
                       refine wpR_gskip (b := true) (t := 199) rfl rfl rfl rfl ?_
                       refine wpR_gskip (b := true) (t := 199) rfl rfl rfl rfl ?_
                       refine wpR_gskip (b := true) (t := 199) rfl rfl rfl rfl ?_
                       refine wpR_gskip (b := true) (t := 199) rfl rfl rfl rfl ?_
                       refine wpR_gskip (b := true) (t := 199) rfl rfl rfl rfl ?_
                       refine wpR_gskip (b := true) (t := 199) rfl rfl rfl rfl ?_
                       refine wpR_gv (t := 187) rfl rfl (OpV_pickT rfl rfl) rfl ?_
                       refine wpR_v (OpV_pickT rfl rfl) rfl (wpR_v (OpV_move rfl) rfl (wpR_gskip (b := true) (t := 213) rfl rfl rfl rfl ?_))
                       refine wpR_gskip (b := true) (t := 213) rfl rfl rfl rfl ?_
                       refine wpR_gskip (b := true) (t := 213) rfl rfl rfl rfl ?_
                       refine wpR_gskip (b := true) (t := 213) rfl rfl rfl rfl ?_
                       refine wpR_gskip (b := true) (t := 213) rfl rfl rfl rfl ?_
                       refine wpR_gskip (b := true) (t := 213) rfl rfl rfl rfl ?_
                       refine wpR_gskip (b := true) (t := 213) rfl rfl rfl rfl ?_
                       refine wpR_gskip (b := true) (t := 213) rfl rfl rfl rfl ?_
                       refine wpR_gskipU (t := 221) rfl rfl rfl ?_
                       refine wpR_gskipU (t := 221) rfl rfl rfl ?_
                       refine wpR_gskipU (t := 221) rfl rfl rfl ?_
                       refine wpR_gskipU (t := 221) rfl rfl rfl ?_
                       refine wpR_gskipU (t := 221) rfl rfl rfl ?_
                       refine wpR_gskipU (t := 221) rfl rfl rfl ?_
                       refine wpR_gskipU (t := 221) rfl rfl rfl ?_
                       refine wpR_gskipU (t := 221) rfl rfl rfl ?_
                       refine wpR_gskipU (t := 221) rfl rfl rfl ?_
                       refine wpR_gskipU (t := 221) rfl rfl rfl ?_
                       refine wpR_gskipU (t := 221) rfl rfl rfl ?_
                       refine wpR_gskip (b := true) (t := 213) rfl rfl rfl rfl ?_
                       refine wpR_v (OpV_pickT rfl rfl) rfl (wpR_nil (QE_then_n ?_))
                       exact wpC_le _ (by exact ⟨rfl, rfl, rfl, rfl, rfl, rfl, rfl, rfl, rfl, rfl, trivial⟩) (hK_228 true _ _ ⟨rfl, hS⟩ h)
                      case false =>
                       have h := if_f h hb_220
                       try simp only [hb_220]
                       refine wpR_gv (t := 199) rfl rfl (OpV_move rfl) rfl ?_
                       refine wpR_gv (t := 199) rfl rfl (OpV_move rfl) rfl ?_
                       refine wpR_gv (t := 199) rfl rfl (G_ix Try.underlying34 ti22 rfl rfl (hS.ro 11 rfl) (show getO ([SV.of v_81, SV.of v_103, SV.of v_125, SV.of v_147] : List SV) (3 : Int) = some (SV.of v_147) from rfl)) rfl ?_
                       refine wpR_gv (t := 199) rfl rfl (G_load Try.underlying22 rfl rfl (hS.ro 11 rfl) (show getO ([SV.of v_81, SV.of v_103, SV.of v_125, SV.of v_147] : List SV) (3 : Int) = some (SV.of v_147) from rfl) (eVc (hS.ro 10 rfl).sv)) rfl ?_
                       refine wpR_gv (t := 199) rfl rfl (OpV_move rfl) rfl ?_
                       obtain ⟨x_221, hx_221, h⟩ := obind_some h
                       refine wpR_gv (t := 199) rfl rfl (G_ix Try.underlying22 ti5 rfl rfl (hS.ro 10 rfl) hx_221) rfl ?_
                       refine wpR_gv (t := 199) rfl rfl (G_load Try.underlying5 rfl rfl (hS.ro 10 rfl) hx_221 rfl) rfl ?_
                       refine wpR_gv (t := 199) rfl rfl (OpV_move rfl) rfl ?_
                       refine wpR_gv (t := 199) rfl rfl (OpV_bin rfl rfl (b_iadd _ 70 3)) rfl ?_
                       refine wpR_gv (t := 199) rfl rfl (OpV_conv rfl (cv_i_8 Try.underlying3 Try.underlying5 73)) rfl ?_
                       refine wpR_gv (t := 199) rfl rfl (OpV_bin rfl rfl (b_neq8 _ x_221 (UInt8.ofInt 73))) rfl ?_
                       refine wpR_gv (t := 187) rfl rfl (OpV_pickF rfl rfl) rfl ?_
                       refine wpR_v (OpV_pickT rfl rfl) rfl (wpR_v (OpV_move rfl) rfl ?_)
                       cases hb_222 : (x_221 != (UInt8.ofInt 73))
                       case true =>
                        have h := if_t h hb_222
                        try simp only [hb_222]
                        refine wpR_gskip (b := true) (t := 213) rfl rfl rfl rfl ?_
                        refine wpR_gskip (b := true) (t := 213) rfl rfl rfl rfl ?_
                        refine wpR_gskip (b := true) (t := 213) rfl rfl rfl rfl ?_
                        refine wpR_gskip (b := true) (t := 213) rfl rfl rfl rfl ?_
                        refine wpR_gskip (b := true) (t := 213) rfl rfl rfl rfl ?_
                        refine wpR_gskip (b := true) (t := 213) rfl rfl rfl rfl ?_
                        refine wpR_gskip (b := true) (t := 213) rfl rfl rfl rfl ?_
                        refine wpR_gskip (b := true) (t := 213) rfl rfl rfl rfl ?_
                        refine wpR_gskipU (t := 221) rfl rfl rfl ?_
                        refine wpR_gskipU (t := 221) rfl rfl rfl ?_
                        refine wpR_gskipU (t := 221) rfl rfl rfl ?_
                        refine wpR_gskipU (t := 221) rfl rfl rfl ?_
                        refine wpR_gskipU (t := 221) rfl rfl rfl ?_
                        refine wpR_gskipU (t := 221) rfl rfl rfl ?_
                        refine wpR_gskipU (t := 221) rfl rfl rfl ?_
                        refine wpR_gskipU (t := 221) rfl rfl rfl ?_
                        refine wpR_gskipU (t := 221) rfl rfl rfl ?_
                        refine wpR_gskipU (t := 221) rfl rfl rfl ?_
                        refine wpR_gskipU (t := 221) rfl rfl rfl ?_
                        refine wpR_gskip (b := true) (t := 213) rfl rfl rfl rfl ?_
                        refine wpR_v (OpV_pickT rfl rfl) rfl (wpR_nil (QE_then_n ?_))
                        exact wpC_le _ (by exact ⟨rfl, rfl, rfl, rfl, rfl, rfl, rfl, rfl, rfl, rfl, trivial⟩) (hK_228 true _ _ ⟨rfl, hS⟩ h)
                       case false =>
                        have h := if_f h hb_222
                        try simp only [hb_222]
                        refine wpR_gv (t := 213) rfl rfl (OpV_move rfl) rfl ?_
                        refine wpR_gv (t := 213) rfl rfl (OpV_move rfl) rfl ?_
                        refine wpR_gv (t := 213) rfl rfl (OpV_move rfl) rfl ?_
                        refine wpR_gv (t := 213) rfl rfl (G_ix Try.underlying34 ti22 rfl rfl (hS.ro 2 rfl) (show getO ([SV.of v_3, SV.of v_6, SV.of v_9, SV.of v_12] : List SV) (3 : Int) = some (SV.of v_12) from rfl)) rfl ?_
                        refine wpR_gv (t := 213) rfl rfl (G_load Try.underlying22 rfl rfl (hS.ro 2 rfl) (show getO ([SV.of v_3, SV.of v_6, SV.of v_9, SV.of v_12] : List SV) (3 : Int) = some (SV.of v_12) from rfl) (eVc (hS.twro hA_151 10 9 rfl rfl).sv)) rfl ?_
                        refine wpR_gv (t := 213) rfl rfl (OpV_len Try.underlying22 rfl (hS.twro hA_151 10 9 rfl rfl)) rfl ?_
                        refine wpR_gv (t := 213) rfl rfl (OpV_bin rfl rfl (b_igeq _ x_214 (x_72.length : Int))) rfl ?_
                        refine wpR_gv (t := 213) rfl rfl (OpV_move rfl) rfl ?_
                        cases hb_223 : (decide ((x_72.length : Int) ≤ x_214))
                        case true =>
                         have h := if_t h hb_223
                         try simp only [hb_223]
                         refine wpR_gv (t := 221) rfl rfl (OpV_move rfl) rfl ?_
                         refine wpR_gv (t := 221) rfl rfl (OpV_move rfl) rfl ?_
                         refine wpR_gv (t := 221) rfl rfl (G_ix Try.underlying34 ti22 rfl rfl (hS.ro 11 rfl) (show getO ([SV.of v_81, SV.of v_103, SV.of v_125, SV.of v_147] : List SV) (3 : Int) = some (SV.of v_147) from rfl)) rfl ?_
                         refine wpR_gv (t := 221) rfl rfl (G_load Try.underlying22 rfl rfl (hS.ro 11 rfl) (show getO ([SV.of v_81, SV.of v_103, SV.of v_125, SV.of v_147] : List SV) (3 : Int) = some (SV.of v_147) from rfl) (eVc (hS.ro 10 rfl).sv)) rfl ?_
                         refine wpR_gv (t := 221) rfl rfl (OpV_move rfl) rfl ?_
                         obtain ⟨x_224, hx_224, h⟩ := obind_some h
                         refine wpR_gv (t := 221) rfl rfl (G_ix Try.underlying22 ti5 rfl rfl (hS.ro 10 rfl) hx_224) rfl ?_
                         refine wpR_gv (t := 221) rfl rfl (G_load Try.underlying5 rfl rfl (hS.ro 10 rfl) hx_224 rfl) rfl ?_
                         refine wpR_gv (t := 221) rfl rfl (OpV_move rfl) rfl ?_
                         refine wpR_gv (t := 221) rfl rfl (OpV_bin rfl rfl (b_iadd _ 80 3)) rfl ?_
                         refine wpR_gv (t := 221) rfl rfl (OpV_conv rfl (cv_i_8 Try.underlying3 Try.underlying5 83)) rfl ?_
                         refine wpR_gv (t := 221) rfl rfl (OpV_bin rfl rfl (b_neq8 _ x_224 (UInt8.ofInt 83))) rfl ?_
                         refine wpR_gv (t := 213) rfl rfl (OpV_pickT rfl rfl) rfl ?_
                         refine wpR_v (OpV_pickF rfl rfl) rfl (wpR_nil (QE_then_n ?_))
                         exact wpC_le _ (by exact ⟨rfl, rfl, rfl, rfl, rfl, rfl, rfl, rfl, rfl, rfl, trivial⟩) (hK_228 (x_224 != (UInt8.ofInt 83)) _ _ ⟨rfl, hS⟩ h)
                        case false =>
                         have h := if_f h hb_223
                         try simp only [hb_223]
                         refine wpR_gskip (b := false) (t := 221) rfl rfl rfl rfl ?_
                         refine wpR_gskip (b := false) (t := 221) rfl rfl rfl rfl ?_
                         refine wpR_gskip (b := false) (t := 221) rfl rfl rfl rfl ?_
                         refine wpR_gskip (b := false) (t := 221) rfl rfl rfl rfl ?_
                         refine wpR_gskip (b := false) (t := 221) rfl rfl rfl rfl ?_
                         refine wpR_gskip (b := false) (t := 221) rfl rfl rfl rfl ?_
                         refine wpR_gskip (b := false) (t := 221) rfl rfl rfl rfl ?_
                         refine wpR_gskip (b := false) (t := 221) rfl rfl rfl rfl ?_
                         refine wpR_gskip (b := false) (t := 221) rfl rfl rfl rfl ?_
                         refine wpR_gskip (b := false) (t := 221) rfl rfl rfl rfl ?_
                         refine wpR_gskip (b := false) (t := 221) rfl rfl rfl rfl ?_
                         refine wpR_gv (t := 213) rfl rfl (OpV_pickF rfl rfl) rfl ?_
                         refine wpR_v (OpV_pickF rfl rfl) rfl (wpR_nil (QE_then_n ?_))
                         exact wpC_le _ (by exact ⟨rfl, rfl, rfl, rfl, rfl, rfl, rfl, rfl, rfl, rfl, trivial⟩) (hK_228 false _ _ ⟨rfl, hS⟩ h)
                     case false =>
                      have h := if_f h hb_218
                      try simp only [hb_218]
                      refine wpR_gskip (b := false) (t := 187) rfl rfl rfl rfl ?_
                      refine wpR_gskip (b := false) (t := 187) rfl rfl rfl rfl ?_
                      refine wpR_gskip (b := false) (t := 187) rfl rfl rfl rfl ?_
                      refine wpR_gskip (b := false) (t := 187) rfl rfl rfl rfl ?_
                      refine wpR_gskip (b := false) (t := 187) rfl rfl rfl rfl ?_
                      refine wpR_gskip (b := false) (t := 187) rfl rfl rfl rfl ?_
                      refine wpR_gskip (b := false) (t := 187) rfl rfl rfl rfl ?_
                      refine wpR_gskip (b := false) (t := 187) rfl rfl rfl rfl ?_
                      refine wpR_gskip (b := false) (t := 187) rfl rfl rfl rfl ?_
                      refine wpR_gskip (b := false) (t := 187) rfl rfl rfl rfl ?_
                      refine wpR_gskip (b := false) (t := 187) rfl rfl rfl rfl ?_
                      refine wpR_gskip (b := false) (t := 187) rfl rfl rfl rfl ?_
                      refine wpR_gskipU (t := 199) rfl rfl rfl ?_
                      refine wpR_gskipU (t := 199) rfl rfl rfl ?_
                      refine wpR_gskipU (t := 199) rfl rfl rfl ?_
                      refine wpR_gskipU (t := 199) rfl rfl rfl ?_
                      refine wpR_gskipU (t := 199) rfl rfl rfl ?_
                      refine wpR_gskipU (t := 199) rfl rfl rfl ?_
                      refine wpR_gskipU (t := 199) rfl rfl rfl ?_
                      refine wpR_gskipU (t := 199) rfl rfl rfl ?_
                      refine wpR_gskipU (t := 199) rfl rfl rfl ?_
                      refine wpR_gskipU (t := 199) rfl rfl rfl ?_
                      refine wpR_gskipU (t := 199) rfl rfl rfl ?_
                      refine wpR_gskip (b := false) (t := 187) rfl rfl rfl rfl ?_
                      refine wpR_v (OpV_pickF rfl rfl) rfl (wpR_v (OpV_move rfl) rfl (wpR_gv (t := 213) rfl rfl (OpV_move rfl) rfl ?_))
                      refine wpR_gv (t := 213) rfl rfl (OpV_move rfl) rfl ?_
                      refine wpR_gv (t := 213) rfl rfl (OpV_move rfl) rfl ?_
                      refine wpR_gv (t := 213) rfl rfl (G_ix Try.underlying34 ti22 rfl rfl (hS.ro 2 rfl) (show getO ([SV.of v_3, SV.of v_6, SV.of v_9, SV.of v_12] : List SV) (3 : Int) = some (SV.of v_12) from rfl)) rfl ?_
                      refine wpR_gv (t := 213) rfl rfl (G_load Try.underlying22 rfl rfl (hS.ro 2 rfl) (show getO ([SV.of v_3, SV.of v_6, SV.of v_9, SV.of v_12] : List SV) (3 : Int) = some (SV.of v_12) from rfl) (eVc (hS.twro hA_151 10 9 rfl rfl).sv)) rfl ?_
                      refine wpR_gv (t := 213) rfl rfl (OpV_len Try.underlying22 rfl (hS.twro hA_151 10 9 rfl rfl)) rfl ?_
                      refine wpR_gv (t := 213) rfl rfl (OpV_bin rfl rfl (b_igeq _ x_214 (x_72.length : Int))) rfl ?_
                      refine wpR_gv (t := 213) rfl rfl (OpV_move rfl) rfl ?_
                      cases hb_225 : (decide ((x_72.length : Int) ≤ x_214))
                      case true =>
                       have h := if_t h hb_225
                       try simp only [hb_225]
                       refine wpR_gv (t := 221) rfl rfl (OpV_move rfl) rfl ?_
                       refine wpR_gv (t := 221) rfl rfl (OpV_move rfl) rfl ?_
                       refine wpR_gv (t := 221) rfl rfl (G_ix Try.underlying34 ti22 rfl rfl (hS.ro 11 rfl) (show getO ([SV.of v_81, SV.of v_103, SV.of v_125, SV.of v_147] : List SV) (3 : Int) = some (SV.of v_147) from rfl)) rfl ?_
                       refine wpR_gv (t := 221) rfl rfl (G_load Try.underlying22 rfl rfl (hS.ro 11 rfl) (show getO ([SV.of v_81, SV.of v_103, SV.of v_125, SV.of v_147] : List SV) (3 : Int) = some (SV.of v_147) from rfl) (eVc (hS.ro 10 rfl).sv)) rfl ?_
                       refine wpR_gv (t := 221) rfl rfl (OpV_move rfl) rfl ?_
                       obtain ⟨x_226, hx_226, h⟩ := obind_some h
                       refine wpR_gv (t := 221) rfl rfl (G_ix Try.underlying22 ti5 rfl rfl (hS.ro 10 rfl) hx_226) rfl ?_
                       refine wpR_gv (t := 221) rfl rfl (G_load Try.underlying5 rfl rfl (hS.ro 10 rfl) hx_226 rfl) rfl ?_
                       refine wpR_gv (t := 221) rfl rfl (OpV_move rfl) rfl ?_
                       refine wpR_gv (t := 221) rfl rfl (OpV_bin rfl rfl (b_iadd _ 80 3)) rfl ?_
                       refine wpR_gv (t := 221) rfl rfl (OpV_conv rfl (cv_i_8 Try.underlying3 Try.underlying5 83)) rfl ?_
                       refine wpR_gv (t := 221) rfl rfl (OpV_bin rfl rfl (b_neq8 _ x_226 (UInt8.ofInt 83))) rfl ?_
                       refine wpR_gv (t := 213) rfl rfl (OpV_pickT rfl rfl) rfl ?_
                       refine wpR_v (OpV_pickF rfl rfl) rfl (wpR_nil (QE_then_n ?_))
                       exact wpC_le _ (by exact ⟨rfl, rfl, rfl, rfl, rfl, rfl, rfl, rfl, rfl, rfl, trivial⟩) (hK_228 (x_226 != (UInt8.ofInt 83)) _ _ ⟨rfl, hS⟩ h)
                      case false =>
                       have h := if_f h hb_225
                       try simp only [hb_225]
                       refine wpR_gskip (b := false) (t := 221) rfl rfl rfl rfl ?_
                       refine wpR_gskip (b := false) (t := 221) rfl rfl rfl rfl ?_
                       refine wpR_gskip (b := false) (t := 221) rfl rfl rfl rfl ?_
                       refine wpR_gskip (b := false) (t := 221) rfl rfl rfl rfl ?_
                       refine wpR_gskip (b := false) (t := 221) rfl rfl rfl rfl ?_
                       refine wpR_gskip (b := false) (t := 221) rfl rfl rfl rfl ?_
                       refine wpR_gskip (b := false) (t := 221) rfl rfl rfl rfl ?_
                       refine wpR_gskip (b := false) (t := 221) rfl rfl rfl rfl ?_
                       refine wpR_gskip (b := false) (t := 221) rfl rfl rfl rfl ?_
                       refine wpR_gskip (b := false) (t := 221) rfl rfl rfl rfl ?_
                       refine wpR_gskip (b := false) (t := 221) rfl rfl rfl rfl ?_
                       refine wpR_gv (t := 213) rfl rfl (OpV_pickF rfl rfl) rfl ?_
                       refine wpR_v (OpV_pickF rfl rfl) rfl (wpR_nil (QE_then_n ?_))
                       exact wpC_le _ (by exact ⟨rfl, rfl, rfl, rfl, rfl, rfl, rfl, rfl, rfl, rfl, trivial⟩) (hK_228 false _ _ ⟨rfl, hS⟩ h)
                   ·have h := if_f h hb_241
                    refine wpC_exit ?_
                    refine QE_then_x (QE_then_x ?_)
                    have h := oinr_some h hk_215
                    refine QE_blk_x ?_
                    refine QE_blk_n ?_
                    refine QE_then_n (wpC_region (wpR_v (OpV_move rfl) rfl (wpR_v (OpV_bin rfl rfl (b_iadd _ 3 1)) rfl ?_)))
                    refine wpR_v (OpV_assign rfl) rfl (wpR_nil (QE_rnd ?_))
                    refine wpN_succ ?_
                    refine wpC_seq (wpC_seq (wpC_region (wpR_v (OpV_move rfl) rfl (wpR_v (OpV_move rfl) rfl (wpR_v (show OpV _ _ _ _ _ (vI 4) _ from OpV_len Try.underlying34 rfl (hS.ro 2 rfl)) rfl ?_)))))
                    refine wpR_v (OpV_bin rfl rfl (b_ilss _ 4 4)) rfl ?_
                    refine wpR_nil (QE_then_n (wpC_condF rfl ?_))
                    refine wpC_exit ?_
                    refine QE_then_x (QE_then_x (QE_blk_x ?_))
                    refine QE_then_n (wpC_seq (wpC_region (wpR_v (OpV_move rfl) rfl ?_)))
                    obtain ⟨x_230, hx_230, h⟩ := obind_some h
                    refine wpR_call (by kernel_rfl) rfl (c_b64_Decode _ a0    _ hx_230) rfl ?_
                    rintro _ w ⟨v_231, rfl, hS1⟩
                    have hS := hS.call hS1
                    simp only [List.cons_append, List.nil_append] at hS
                    refine wpR_v (OpV_move rfl) rfl (wpR_v (OpV_extract rfl rfl) rfl ?_)
                    refine wpR_v (OpV_extract rfl rfl) rfl ?_
                    refine wpR_v (OpV_extract rfl rfl) rfl ?_
                    refine wpR_v (OpV_assign rfl) rfl (wpR_v (OpV_assign rfl) rfl (wpR_v (OpV_assign rfl) rfl (wpR_nil (QE_then_n (wpC_seq (wpC_region ?_))))))
                    refine wpR_v (OpV_move rfl) rfl ?_
                    obtain ⟨x_233, hx_233, h⟩ := obind_some h
                    refine wpR_call (by kernel_rfl) rfl (c_b64_DecodeStd _ a0    _ hx_233) rfl ?_
                    rintro _ w ⟨v_234, rfl, hS1⟩
                    have hS := hS.call hS1
                    simp only [List.cons_append, List.nil_append] at hS
                    refine wpR_v (OpV_move rfl) rfl (wpR_v (OpV_extract rfl rfl) rfl ?_)
                    refine wpR_v (OpV_extract rfl rfl) rfl ?_
                    refine wpR_v (OpV_extract rfl rfl) rfl ?_
                    refine wpR_v (OpV_assign rfl) rfl (wpR_v (OpV_assign rfl) rfl (wpR_v (OpV_assign rfl) rfl (wpR_nil (QE_then_n (wpC_seq (wpC_region ?_))))))
                    refine wpR_v (OpV_move rfl) rfl (wpR_v (OpV_move rfl) rfl (wpR_v (OpV_bin rfl rfl (b_ieql _ x_230.2.1 x_2.2.1)) rfl ?_))
                    refine wpR_v (OpV_move rfl) rfl ?_
                    cases hb_236 : (x_230.2.1 == x_2.2.1)
                    case true =>
                     have h := if_t h hb_236
                     try simp only [hb_236]
                     refine wpR_gv (t := 250) rfl rfl (OpV_move rfl) rfl ?_
                     refine wpR_gv (t := 250) rfl rfl (OpV_move rfl) rfl ?_
                     obtain ⟨x_237, hx_237, h⟩ := obind_some h
                     refine wpR_gcall (t := 250) rfl rfl (by kernel_rfl) rfl (c_law1_same _ x_230.1 (x_21.1.take x_21.2) v_231 (slV v_22 e8.sz 0 x_21.2)  (hS.ro 1 rfl).rp ((hS.ro 2 rfl).tk hk_24).rp _ hx_237) rfl ?_
                     rintro _ w ⟨rfl, hS1⟩
                     have hS := hS.call hS1
                     simp only [List.cons_append, List.nil_append] at hS
                     refine wpR_v (OpV_pickT rfl rfl) rfl (wpR_v (OpV_move rfl) rfl ?_)
                     cases hb_238 : x_237
                     case true =>
                      have h := if_t h hb_238
                      try simp only [hb_238]
                      refine wpR_gv (t := 255) rfl rfl (OpV_move rfl) rfl ?_
                      refine wpR_gv (t := 255) rfl rfl (OpV_move rfl) rfl ?_
                      refine wpR_gv (t := 255) rfl rfl (OpV_bin rfl rfl (b_ieql _ x_233.2.1 x_8.2.1)) rfl ?_
                      refine wpR_v (OpV_pickT rfl rfl) rfl (wpR_v (OpV_move rfl) rfl ?_)
                      cases hb_239 : (x_233.2.1 == x_8.2.1)
                      case true =>
                       have h := if_t h hb_239
                       try simp only [hb_239]
                       refine wpR_gv (t := 260) rfl rfl (OpV_move rfl) rfl ?_
                       refine wpR_gv (t := 260) rfl rfl (OpV_move rfl) rfl ?_
                       obtain ⟨x_240, hx_240, h⟩ := obind_some h
                       refine wpR_gcall (t := 260) rfl rfl (by kernel_rfl) rfl (c_law1_same _ x_233.1 (x_25.1.take x_25.2) v_234 (slV v_26 e8.sz 0 x_25.2)  (hS.ro 0 rfl).rp ((hS.ro 3 rfl).tk hk_28).rp _ hx_240) rfl ?_
                       rintro _ w ⟨rfl, hS1⟩
                       have hS := hS.call hS1
                       simp only [List.cons_append, List.nil_append] at hS
                       refine wpR_v (OpV_pickT rfl rfl) rfl (wpR_v (OpV_assign rfl) rfl (wpR_nil (QE_then_n (wpC_ret ?_))))
                       cases h
                       exact QE_ret1 rfl rfl ⟨rfl, hS.pick [] (by decide) rfl⟩
                      case false =>
                       have h := if_f h hb_239
                       try simp only [hb_239]
                       refine wpR_gskip (b := false) (t := 260) rfl rfl rfl rfl ?_
                       refine wpR_gskip (b := false) (t := 260) rfl rfl rfl rfl ?_
                       refine wpR_gskip (b := false) (t := 260) rfl rfl rfl rfl ?_
                       refine wpR_v (OpV_pickF rfl rfl) rfl (wpR_v (OpV_assign rfl) rfl (wpR_nil (QE_then_n (wpC_ret ?_))))
                       cases h
                       exact QE_ret1 rfl rfl ⟨rfl, hS.pick [] (by decide) rfl⟩
                     case false =>
                      have h := if_f h hb_238
                      try simp only [hb_238]
                      refine wpR_gskip (b := false) (t := 255) rfl rfl rfl rfl ?_
                      refine wpR_gskip (b := false) (t := 255) rfl rfl rfl rfl ?_
                      refine wpR_gskip (b := false) (t := 255) rfl rfl rfl rfl ?_
                      refine wpR_v (OpV_pickF rfl rfl) rfl (wpR_v (OpV_move rfl) rfl (wpR_gskip (b := false) (t := 260) rfl rfl rfl rfl ?_))
                      refine wpR_gskip (b := false) (t := 260) rfl rfl rfl rfl ?_
                      refine wpR_gskip (b := false) (t := 260) rfl rfl rfl rfl ?_
                      refine wpR_v (OpV_pickF rfl rfl) rfl (wpR_v (OpV_assign rfl) rfl (wpR_nil (QE_then_n (wpC_ret ?_))))
                      cases h
                      exact QE_ret1 rfl rfl ⟨rfl, hS.pick [] (by decide) rfl⟩
                    case false =>
                     have h := if_f h hb_236
                     try simp only [hb_236]
                     refine wpR_gskip (b := false) (t := 250) rfl rfl rfl rfl ?_
                     refine wpR_gskip (b := false) (t := 250) rfl rfl rfl rfl ?_
                     refine wpR_gskip (b := false) (t := 250) rfl rfl rfl rfl ?_
                     refine wpR_v (OpV_pickF rfl rfl) rfl (wpR_v (OpV_move rfl) rfl (wpR_gskip (b := false) (t := 255) rfl rfl rfl rfl ?_))
                     refine wpR_gskip (b := false) (t := 255) rfl rfl rfl rfl ?_
                     refine wpR_gskip (b := false) (t := 255) rfl rfl rfl rfl ?_
                     refine wpR_v (OpV_pickF rfl rfl) rfl (wpR_v (OpV_move rfl) rfl (wpR_gskip (b := false) (t := 260) rfl rfl rfl rfl ?_))
                     refine wpR_gskip (b := false) (t := 260) rfl rfl rfl rfl ?_
                     refine wpR_gskip (b := false) (t := 260) rfl rfl rfl rfl ?_
                     refine wpR_v (OpV_pickF rfl rfl) rfl (wpR_v (OpV_assign rfl) rfl (wpR_nil (QE_then_n (wpC_ret ?_))))
                     cases h
                     exact QE_ret1 rfl rfl ⟨rfl, hS.pick [] (by decide) rfl⟩
      ·intro hK_47
       refine wpC_region (wpR_v (OpV_move rfl) rfl (wpR_v (OpV_move rfl) rfl ?_))
       obtain ⟨x_43, hx_43, h⟩ := obind_some h
       refine wpR_call (by kernel_rfl) rfl (c_law1_same _ x_5.1 (x_21.1.take x_21.2) v_6 (slV v_22 e8.sz 0 x_21.2)  (hS.ro 1 rfl).rp ((hS.ro 4 rfl).tk hk_24).rp _ hx_43) rfl ?_
       rintro _ w ⟨rfl, hS1⟩
       have hS := hS.call hS1
       simp only [List.cons_append, List.nil_append] at hS
       refine wpR_v (OpV_un rfl (u_not x_43)) rfl ?_
       refine wpR_v (OpV_move rfl) rfl ?_
       cases hb_44 : (!x_43)
       case true =>
        have h := if_t h hb_44
        try simp only [hb_44]
        refine wpR_gskip (b := true) (t := 106) rfl rfl rfl rfl ?_
        refine wpR_gskip (b := true) (t := 106) rfl rfl rfl rfl ?_
        refine wpR_gskip (b := true) (t := 106) rfl rfl rfl rfl ?_
        refine wpR_gskip (b := true) (t := 106) rfl rfl rfl rfl ?_
        refine wpR_v (OpV_pickT rfl rfl) rfl (wpR_nil (QE_then_n ?_))
        exact wpC_le _ (by exact ⟨rfl, rfl, rfl, rfl, rfl, rfl, rfl, rfl, rfl, rfl, trivial⟩) (hK_47 true _ _ ⟨rfl, hS⟩ h)
       case false =>
        have h := if_f h hb_44
        try simp only [hb_44]
        refine wpR_gv (t := 106) rfl rfl (OpV_move rfl) rfl ?_
        refine wpR_gv (t := 106) rfl rfl (OpV_move rfl) rfl ?_
        obtain ⟨x_45, hx_45, h⟩ := obind_some h
        refine wpR_gcall (t := 106) rfl rfl (by kernel_rfl) rfl (c_law1_same _ x_11.1 (x_25.1.take x_25.2) v_12 (slV v_26 e8.sz 0 x_25.2)  (hS.ro 3 rfl).rp ((hS.ro 5 rfl).tk hk_28).rp _ hx_45) rfl ?_
        rintro _ w ⟨rfl, hS1⟩
        have hS := hS.call hS1
        simp only [List.cons_append, List.nil_append] at hS
        refine wpR_gv (t := 106) rfl rfl (OpV_un rfl (u_not x_45)) rfl ?_
        refine wpR_v (OpV_pickF rfl rfl) rfl (wpR_nil (QE_then_n ?_))
        exact wpC_le _ (by exact ⟨rfl, rfl, rfl, rfl, rfl, rfl, rfl, rfl, rfl, rfl, trivial⟩) (hK_47 (!x_45) _ _ ⟨rfl, hS⟩ h)
  ·intro hK_20
   refine wpC_region (wpR_v (OpV_move rfl) rfl (wpR_v (OpV_move rfl) rfl (wpR_v (OpV_bin rfl rfl (b_ineq _ x_2.2.1 x_5.2.1)) rfl ?_)))
   refine wpR_v (OpV_move rfl) rfl ?_
   cases hb_14 : (x_2.2.1 != x_5.2.1)
   case true =>
    have h := if_t h hb_14
    try simp only [hb_14]
    refine wpR_gskip (b := true) (t := 63) rfl rfl rfl rfl ?_
    refine wpR_gskip (b := true) (t := 63) rfl rfl rfl rfl ?_
    refine wpR_gskip (b := true) (t := 63) rfl rfl rfl rfl ?_
    refine wpR_v (OpV_pickT rfl rfl) rfl (wpR_v (OpV_move rfl) rfl (wpR_gskip (b := true) (t := 68) rfl rfl rfl rfl ?_))
    refine wpR_gskip (b := true) (t := 68) rfl rfl rfl rfl ?_
    refine wpR_gskip (b := true) (t := 68) rfl rfl rfl rfl ?_
    refine wpR_gskip (b := true) (t := 68) rfl rfl rfl rfl ?_
    refine wpR_v (OpV_pickT rfl rfl) rfl (wpR_v (OpV_move rfl) rfl (wpR_gskip (b := true) (t := 74) rfl rfl rfl rfl ?_))
    refine wpR_gskip (b := true) (t := 74) rfl rfl rfl rfl ?_
    refine wpR_gskip (b := true) (t := 74) rfl rfl rfl rfl ?_
    refine wpR_gskip (b := true) (t := 74) rfl rfl rfl rfl ?_
    refine wpR_v (OpV_pickT rfl rfl) rfl (wpR_nil (QE_then_n ?_))
    exact wpC_le _ (by exact ⟨rfl, rfl, rfl, rfl, rfl, rfl, rfl, rfl, trivial⟩) (hK_20 true _ _ ⟨rfl, (hS.pick [3, 2, 1, 0] (by decide) rfl)⟩ h)
   case false =>
    have h := if_f h hb_14
    try simp only [hb_14]
    refine wpR_gv (t := 63) rfl rfl (OpV_move rfl) rfl ?_
    refine wpR_gv (t := 63) rfl rfl (OpV_move rfl) rfl ?_
    refine wpR_gv (t := 63) rfl rfl (OpV_bin rfl rfl (b_ineq _ x_8.2.1 x_11.2.1)) rfl ?_
    refine wpR_v (OpV_pickF rfl rfl) rfl (wpR_v (OpV_move rfl) rfl ?_)
    cases hb_15 : (x_8.2.1 != x_11.2.1)
    case true =>
     have h := if_t h hb_15
     try simp only [hb_15]
     refine wpR_gskip (b := true) (t := 68) rfl rfl rfl rfl ?_
     refine wpR_gskip (b := true) (t := 68) rfl rfl rfl rfl ?_
     refine wpR_gskip (b := true) (t := 68) rfl rfl rfl rfl ?_
     refine wpR_gskip (b := true) (t := 68) rfl rfl rfl rfl ?_
     refine wpR_v (OpV_pickT rfl rfl) rfl (wpR_v (OpV_move rfl) rfl (wpR_gskip (b := true) (t := 74) rfl rfl rfl rfl ?_))
     refine wpR_gskip (b := true) (t := 74) rfl rfl rfl rfl ?_
     refine wpR_gskip (b := true) (t := 74) rfl rfl rfl rfl ?_
     refine wpR_gskip (b := true) (t := 74) rfl rfl rfl rfl ?_
     refine wpR_v (OpV_pickT rfl rfl) rfl (wpR_nil (QE_then_n ?_))
     exact wpC_le _ (by exact ⟨rfl, rfl, rfl, rfl, rfl, rfl, rfl, rfl, trivial⟩) (hK_20 true _ _ ⟨rfl, (hS.pick [3, 2, 1, 0] (by decide) rfl)⟩ h)
    case false =>
     have h := if_f h hb_15
     try simp only [hb_15]
     refine wpR_gv (t := 68) rfl rfl (OpV_move rfl) rfl ?_
     refine wpR_gv (t := 68) rfl rfl (OpV_move rfl) rfl ?_
     obtain ⟨x_16, hx_16, h⟩ := obind_some h
     refine wpR_gcall (t := 68) rfl rfl (by kernel_rfl) rfl (c_law1_same _ x_2.1 x_5.1 v_3 v_6  (hS.ro 3 rfl).rp (hS.ro 2 rfl).rp _ hx_16) rfl ?_
     rintro _ w ⟨rfl, hS1⟩
     have hS := hS.call hS1
     simp only [List.cons_append, List.nil_append] at hS
     refine wpR_gv (t := 68) rfl rfl (OpV_un rfl (u_not x_16)) rfl ?_
     refine wpR_v (OpV_pickF rfl rfl) rfl (wpR_v (OpV_move rfl) rfl ?_)
     cases hb_17 : (!x_16)
     case true =>
      have h := if_t h hb_17
      try simp only [hb_17]
      refine wpR_gskip (b := true) (t := 74) rfl rfl rfl rfl ?_
      refine wpR_gskip (b := true) (t := 74) rfl rfl rfl rfl ?_
      refine wpR_gskip (b := true) (t := 74) rfl rfl rfl rfl ?_
      refine wpR_gskip (b := true) (t := 74) rfl rfl rfl rfl ?_
      refine wpR_v (OpV_pickT rfl rfl) rfl (wpR_nil (QE_then_n ?_))
      exact wpC_le _ (by exact ⟨rfl, rfl, rfl, rfl, rfl, rfl, rfl, rfl, trivial⟩) (hK_20 true _ _ ⟨rfl, (hS.pick [3, 2, 1, 0] (by decide) rfl)⟩ h)
     case false =>
      have h := if_f h hb_17
      try simp only [hb_17]
      refine wpR_gv (t := 74) rfl rfl (OpV_move rfl) rfl ?_
      refine wpR_gv (t := 74) rfl rfl (OpV_move rfl) rfl ?_
      obtain ⟨x_18, hx_18, h⟩ := obind_some h
      refine wpR_gcall (t := 74) rfl rfl (by kernel_rfl) rfl (c_law1_same _ x_8.1 x_11.1 v_9 v_12  (hS.ro 1 rfl).rp (hS.ro 0 rfl).rp _ hx_18) rfl ?_
      rintro _ w ⟨rfl, hS1⟩
      have hS := hS.call hS1
      simp only [List.cons_append, List.nil_append] at hS
      refine wpR_gv (t := 74) rfl rfl (OpV_un rfl (u_not x_18)) rfl ?_
      refine wpR_v (OpV_pickF rfl rfl) rfl (wpR_nil (QE_then_n ?_))
      exact wpC_le _ (by exact ⟨rfl, rfl, rfl, rfl, rfl, rfl, rfl, rfl, trivial⟩) (hK_20 (!x_18) _ _ ⟨rfl, (hS.pick [3, 2, 1, 0] (by decide) rfl)⟩ h)
end Go.Proofs
