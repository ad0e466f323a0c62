import Derived.Test.YtcdneplfgppapaaDoorSW0
import Derived.Test.YtcdneplfgppapaaDoorGkFlaw30
import Derived.Test.YtcdneplfgppapaaDoorSWcborc
import Derived.Test.YtcdneplfgppapaaDoorSWlaw30c
set_option linter.unusedVariables false
set_option linter.unusedSimpArgs false
set_option linter.unusedVariables false
set_option maxRecDepth 4000
namespace Go.Proofs
open Go Go.RowKit Go.Gk
set_option maxHeartbeats 8000000 in
theorem c_law30_CborSpares (w0 : World) (a0 : List UInt8) (va0 : Value) (hT : TB [] w0) (ha0 : RP [] w0 e8 va0 a0) (r : Bool)
  (h : F.law30_CborSpares a0 = some r) : Calls Tryd.prog 11 #[va0] w0 (Ret fun v w => v = vB r ∧ St [] w0 w []) := by
 refine calls_at 333 Tryd.func11 rfl rfl rfl ?_
 have hS := St.start w0
 refine wpC_le [(0, va0)] ⟨rfl, trivial⟩ ?_
 unfold F.law30_CborSpares at h
 refine wpC_seq (wpC_region (wpR_v (OpV_assign rfl) rfl (wpR_nil (QE_then_n (wpC_seq (wpC_seq ?_))))))
 refine wpC_region ?_
 obtain ⟨x_1, hx_1, h⟩ := obind_some h
 refine wpR_call (by kernel_rfl) rfl (c_law30_awake _    (hT.now hS.fr) _ hx_1) rfl ?_
 rintro _ w ⟨rfl, hS1⟩
 have hS := hS.call hS1
 simp only [List.cons_append, List.nil_append] at hS
 refine wpR_v (OpV_un rfl (u_not x_1)) rfl ?_
 refine wpR_nil (QE_then_n ?_)
 refine wpC_cond rfl (fun hb_245 => ?_) (fun hb_245 => ?_)
 ·have h := if_t h hb_245
  refine wpC_seq (wpC_region (wpR_v (OpV_assign rfl) rfl (wpR_nil (QE_then_n (wpC_ret (QE_then_r ?_))))))
  cases h
  exact QE_ret1 rfl rfl ⟨rfl, hS⟩
 ·have h := if_f h hb_245
  refine wpC_skip (QE_then_n (wpC_seq (wpC_region (wpR_v (OpV_move rfl) rfl ?_))))
  obtain ⟨x_2, hx_2, h⟩ := obind_some h
  refine wpR_call (by kernel_rfl) rfl (c_law30_roomy _ a0 va0  (ha0.now hS.fr).rp _ hx_2) rfl ?_
  rintro _ w ⟨v_3, rfl, hk_5, hS1⟩
  have hS := hS.call hS1
  simp only [List.cons_append, List.nil_append] at hS
  refine wpR_v (OpV_assign rfl) rfl (wpR_nil (QE_then_n (wpC_seq (wpC_region (wpR_v (OpV_move rfl) rfl ?_)))))
  obtain ⟨x_6, hx_6, h⟩ := obind_some h
  refine wpR_call (by kernel_rfl) rfl (c_cbor_Parse _ (x_2.1.take x_2.2) (slV v_3 e8.sz 0 x_2.2)  (hT.now hS.fr) ((hS.ro 0 rfl).tk hk_5).rp _ hx_6) rfl ?_
  rintro _ w ⟨v_7, rfl, hS1⟩
  have hS := hS.call hS1
  simp only [List.cons_append, List.nil_append] at hS
  refine wpR_v (OpV_move rfl) rfl (wpR_v (OpV_extract rfl rfl) rfl ?_)
  refine wpR_v (OpV_extract rfl rfl) rfl ?_
  refine wpR_v (OpV_extract rfl rfl) rfl ?_
  refine wpR_v (OpV_assign rfl) rfl (wpR_v (OpV_assign rfl) rfl (wpR_v (OpV_assign rfl) rfl (wpR_nil (QE_then_n (wpC_seq (wpC_region ?_))))))
  refine wpR_v (OpV_move rfl) rfl ?_
  obtain ⟨x_9, hx_9, h⟩ := obind_some h
  refine wpR_call (by kernel_rfl) rfl (c_cbor_Parse _ (x_2.1.take x_2.2) (slV v_3 e8.sz 0 x_2.2)  (hT.now hS.fr) ((hS.ro 1 rfl).tk hk_5).rp _ hx_9) rfl ?_
  rintro _ w ⟨v_10, rfl, hS1⟩
  have hS := hS.call hS1
  simp only [List.cons_append, List.nil_append] at hS
  refine wpR_v (OpV_move rfl) rfl (wpR_v (OpV_extract rfl rfl) rfl ?_)
  refine wpR_v (OpV_extract rfl rfl) rfl ?_
  refine wpR_v (OpV_extract rfl rfl) rfl ?_
  refine wpR_v (OpV_assign rfl) rfl (wpR_v (OpV_assign rfl) rfl (wpR_v (OpV_assign rfl) rfl (wpR_nil (QE_then_n (wpC_seq (wpC_region ?_))))))
  refine wpR_v (OpV_move rfl) rfl ?_
  obtain ⟨x_12, hx_12, h⟩ := obind_some h
  refine wpR_call (by kernel_rfl) rfl (c_cbor_Print _ x_6.1 v_7  (hT.now hS.fr) (hS.ro 1 rfl).rp _ hx_12) rfl ?_
  rintro _ w ⟨v_13, rfl, hS1⟩
  have hS := hS.call hS1
  simp only [List.cons_append, List.nil_append] at hS
  refine wpR_v (OpV_move rfl) rfl (wpR_v (OpV_extract rfl rfl) rfl ?_)
  refine wpR_v (OpV_extract rfl rfl) rfl ?_
  refine wpR_v (OpV_assign rfl) rfl (wpR_v (OpV_assign rfl) rfl (wpR_nil (QE_then_n (wpC_seq (wpC_region (wpR_v (OpV_move rfl) rfl ?_))))))
  obtain ⟨x_15, hx_15, h⟩ := obind_some h
  refine wpR_call (by kernel_rfl) rfl (c_cbor_Print _ x_6.1 v_7  (hT.now hS.fr) (hS.ro 2 rfl).rp _ hx_15) rfl ?_
  rintro _ w ⟨v_16, rfl, hS1⟩
  have hS := hS.call hS1
  simp only [List.cons_append, List.nil_append] at hS
  refine wpR_v (OpV_move rfl) rfl (wpR_v (OpV_extract rfl rfl) rfl ?_)
  refine wpR_v (OpV_extract rfl rfl) rfl ?_
  refine wpR_v (OpV_assign rfl) rfl (wpR_v (OpV_assign rfl) rfl (wpR_nil (QE_then_n (wpC_seq ?_))))
  refine seq_join (r := r) (fun (g : Bool) L w => L = [(0, va0), (3, slV v_3 e8.sz 0 x_2.2), (4, v_7), (5, vI x_6.2.1), (7, v_10), (10, v_13), (11, vI x_12.2), (12, v_16), (80, vB g)] ∧ St [] w0 w [own e8 v_3 x_2.1, own (eP eI (eP e64 (eP eS eI))) v_7 x_6.1, own (eP eI (eP e64 (eP eS eI))) v_10 x_9.1, own e8 v_13 x_12.1, own e8 v_16 x_15.1]) (F.law30_CborSpares_K1 x_6 x_9 x_15 x_12 a0 x_2) ?_ ?_
  ·rintro x_23 L w hJ h
   try dsimp only at hJ
   obtain ⟨rfl, hS⟩ := hJ
   unfold F.law30_CborSpares_K1 at h
   refine wpC_cond rfl (fun hb_244 => ?_) (fun hb_244 => ?_)
   ·have h := if_t h hb_244
    refine wpC_seq (wpC_region (wpR_v (OpV_assign rfl) rfl (wpR_nil (QE_then_n (wpC_ret (QE_then_r ?_))))))
    cases h
    exact QE_ret1 rfl rfl ⟨rfl, hS.pick [] (by decide) rfl⟩
   ·have h := if_f h hb_244
    refine wpC_skip (QE_then_n (wpC_seq (wpC_region (wpR_v (OpV_move rfl) rfl ?_))))
    obtain ⟨x_25, hx_25, h⟩ := obind_some h
    refine wpR_call (by kernel_rfl) rfl (c_law30_wide _ x_9.1 v_10  (hS.ro 2 rfl).rp _ hx_25) rfl ?_
    rintro _ w ⟨v_26, rfl, hk_28, hS1⟩
    have hS := hS.call hS1
    simp only [List.cons_append, List.nil_append] at hS
    refine wpR_v (OpV_assign rfl) rfl (wpR_nil (QE_then_n (wpC_seq (wpC_region (wpR_v (OpV_move rfl) rfl ?_)))))
    obtain ⟨x_29, hx_29, h⟩ := obind_some h
    refine wpR_call (by kernel_rfl) rfl (c_law30_roomy _ x_15.1 v_16  (hS.ro 5 rfl).rp _ hx_29) rfl ?_
    rintro _ w ⟨v_30, rfl, hk_32, hS1⟩
    have hS := hS.call hS1
    simp only [List.cons_append, List.nil_append] at hS
    refine wpR_v (OpV_assign rfl) rfl (wpR_nil (QE_then_n (wpC_seq (wpC_region (wpR_v (OpV_move rfl) rfl (wpR_v (OpV_move rfl) rfl ?_))))))
    refine wpR_x (OpX_lit (e := eV) (l := ([SV.of v_7, SV.of v_10] : List SV)) (vs := [v_7, v_10]) Tryd.underlying44 ti22 rfl rfl rfl (fl_eVc (hS.ro 3 rfl).sv (fl_eVc (hS.ro 4 rfl).sv rfl)) (by decide) (by decide) hS) rfl ?_
    rintro v_33 w hS
    refine wpR_v (OpV_assign rfl) rfl (wpR_nil (QE_then_n (wpC_seq (wpC_region (wpR_v (OpV_move rfl) rfl (wpR_v (OpV_move rfl) rfl ?_))))))
    refine wpR_x (OpX_lit (e := eV) (l := ([SV.of v_13, SV.of v_16] : List SV)) (vs := [v_13, v_16]) Tryd.underlying51 ti25 rfl rfl rfl (fl_eVc (hS.ro 6 rfl).sv (fl_eVc (hS.ro 7 rfl).sv rfl)) (by decide) (by decide) hS) rfl ?_
    rintro v_35 w hS
    refine wpR_v (OpV_assign rfl) rfl (wpR_nil (QE_then_n (wpC_seq (wpC_seq (wpC_region (wpR_v (OpV_assign rfl) rfl ?_))))))
    refine wpR_nil (QE_then_n (wpC_block ?_))
    refine wpC_loop 100 ?_
    refine wpN_succ ?_
    refine wpC_seq (wpC_seq (wpC_region (wpR_v (OpV_move rfl) rfl (wpR_v (OpV_bin rfl rfl (b_ilss _ 0 2)) rfl ?_))))
    refine wpR_nil (QE_then_n (wpC_condT rfl ?_))
    refine wpC_skip (QE_then_n (wpC_seq (wpC_block ?_)))
    refine wpC_seq (wpC_seq (wpC_region (wpR_v (OpV_assign rfl) rfl (wpR_nil (QE_then_n (wpC_block ?_))))))
    refine wpC_le [(0, va0), (3, slV v_3 e8.sz 0 x_2.2), (5, vI x_6.2.1), (11, vI x_12.2), (14, slV v_26 (eP eI (eP e64 (eP eS eI))).sz 0 x_25.2), (15, slV v_30 e8.sz 0 x_29.2), (16, v_33), (17, v_35), (18, vI 0), (19, vI 0)] ⟨rfl, rfl, rfl, rfl, rfl, rfl, rfl, rfl, rfl, rfl, trivial⟩ ?_
    refine loop_ind (F.law30_CborSpares_L1 x_12 x_9 x_15 a0 x_2 x_6 x_25 x_29) (fun (s : Int × (List (Int × UInt64 × (List UInt8) × Int))) L w => L = [(0, va0), (3, slV v_3 e8.sz 0 x_2.2), (5, vI x_6.2.1), (11, vI x_12.2), (14, slV v_26 (eP eI (eP e64 (eP eS eI))).sz 0 x_25.2), (15, slV v_30 e8.sz 0 x_29.2), (16, v_33), (17, v_35), (18, vI 0), (19, vI s.1)] ∧ St [] w0 w [own e8 v_3 x_2.1, own (eP eI (eP e64 (eP eS eI))) v_26 x_25.1, own e8 v_30 x_29.1, own eV v_33 ([SV.of v_7, SV.of v_10] : List SV), own (eP eI (eP e64 (eP eS eI))) v_7 s.2, own (eP eI (eP e64 (eP eS eI))) v_10 x_9.1, own eV v_35 ([SV.of v_13, SV.of v_16] : List SV), own e8 v_13 x_12.1, own e8 v_16 x_15.1]) ?_ (0, x_6.1) ⟨rfl, (hS.pick [4, 3, 2, 1, 5, 6, 0, 7, 8] (by decide) rfl)⟩ h
    rintro k_243 ⟨x_37, x_38⟩ L w q_41 hI ih_40 h hk_39
    try dsimp only at hI
    obtain ⟨rfl, hS⟩ := hI
    unfold F.law30_CborSpares_L1 at h
    refine wpC_seq (wpC_seq (wpC_region (wpR_v (OpV_move rfl) rfl (wpR_v (OpV_move rfl) rfl (wpR_v (OpV_move rfl) rfl (wpR_v (G_ix Tryd.underlying44 ti22 rfl rfl (hS.ro 3 rfl) (show getO ([SV.of v_7, SV.of v_10] : List SV) (0 : Int) = some (SV.of v_7) from rfl)) rfl ?_))))))
    refine wpR_v (G_load Tryd.underlying22 rfl rfl (hS.ro 3 rfl) (show getO ([SV.of v_7, SV.of v_10] : List SV) (0 : Int) = some (SV.of v_7) from rfl) (eVc (hS.ro 4 rfl).sv)) rfl ?_
    refine wpR_v (OpV_len Tryd.underlying22 rfl (hS.ro 4 rfl)) rfl ?_
    refine wpR_v (OpV_bin rfl rfl (b_ilss _ x_37 (x_38.length : Int))) rfl ?_
    refine wpR_nil (QE_then_n ?_)
    refine wpC_cond rfl (fun hb_242 => ?_) (fun hb_242 => ?_)
    ·have h := if_t h hb_242
     refine wpC_skip (QE_then_n (wpC_seq (wpC_block ?_)))
     refine wpC_region (wpR_v (OpV_move rfl) rfl (wpR_v (OpV_move rfl) rfl (wpR_v (G_ix Tryd.underlying44 ti22 rfl rfl (hS.ro 3 rfl) (show getO ([SV.of v_7, SV.of v_10] : List SV) (0 : Int) = some (SV.of v_7) from rfl)) rfl ?_)))
     refine wpR_v (G_load Tryd.underlying22 rfl rfl (hS.ro 3 rfl) (show getO ([SV.of v_7, SV.of v_10] : List SV) (0 : Int) = some (SV.of v_7) from rfl) (eVc (hS.ro 4 rfl).sv)) rfl ?_
     refine wpR_v (OpV_move rfl) rfl (wpR_v (OpV_move rfl) rfl (wpR_v (OpV_bin rfl rfl (b_iadd _ 1000 0)) rfl ?_))
     refine wpR_v (OpV_build (vs := [(0, vI 1000, [vI 1000])]) (cells := [vI 1000, v64 0, vS [], vI 0]) rfl lay33 ⟨rfl, trivial⟩ rfl) rfl ?_
     obtain ⟨x_42, hx_42, h⟩ := obind_some h
     refine wpR_v (G_ix Tryd.underlying22 ti33 rfl rfl (hS.ro 4 rfl) hx_42) rfl ?_
     refine wpR_y (OpY_storeW (t := (1000, 0, [], 0)) sz33 rfl rfl rfl hS (i := 4) rfl hx_42) ?_
     intro w hS
     obtain ⟨x_43, hx_43, h⟩ := olet_some h
     rw [hx_43] at hS
     refine wpR_nil (QE_blk_n ?_)
     refine QE_then_n (wpC_region (wpR_v (OpV_move rfl) rfl (wpR_v (OpV_bin rfl rfl (b_iadd _ x_37 1)) rfl ?_)))
     refine wpR_v (OpV_assign rfl) rfl (wpR_nil ?_)
     exact QE_rnd (wpN_le _ (by exact ⟨rfl, rfl, rfl, rfl, rfl, rfl, rfl, rfl, rfl, rfl, trivial⟩) (ih_40 (wI (x_37 + 1), x_43) _ _ ⟨rfl, hS⟩ (oinl_some h hk_39)))
    ·have h := if_f h hb_242
     refine wpC_exit ?_
     refine QE_then_x (QE_then_x ?_)
     have h := oinr_some h hk_39
     refine QE_blk_x ?_
     refine QE_then_n (wpC_seq (wpC_region (wpR_v (OpV_assign rfl) rfl (wpR_nil (QE_then_n (wpC_block ?_))))))
     refine wpC_le [(0, va0), (3, slV v_3 e8.sz 0 x_2.2), (5, vI x_6.2.1), (11, vI x_12.2), (14, slV v_26 (eP eI (eP e64 (eP eS eI))).sz 0 x_25.2), (15, slV v_30 e8.sz 0 x_29.2), (16, v_33), (17, v_35), (18, vI 0), (20, vI 0)] ⟨rfl, rfl, rfl, rfl, rfl, rfl, rfl, rfl, rfl, rfl, trivial⟩ ?_
     refine loop_ind (F.law30_CborSpares_L2 x_9 x_15 x_38 a0 x_2 x_6 x_25 x_12 x_29) (fun (s : Int × List UInt8) L w => L = [(0, va0), (3, slV v_3 e8.sz 0 x_2.2), (5, vI x_6.2.1), (11, vI x_12.2), (14, slV v_26 (eP eI (eP e64 (eP eS eI))).sz 0 x_25.2), (15, slV v_30 e8.sz 0 x_29.2), (16, v_33), (17, v_35), (18, vI 0), (20, vI s.1)] ∧ St [] w0 w [own e8 v_3 x_2.1, own (eP eI (eP e64 (eP eS eI))) v_26 x_25.1, own e8 v_30 x_29.1, own eV v_33 ([SV.of v_7, SV.of v_10] : List SV), own (eP eI (eP e64 (eP eS eI))) v_7 x_38, own (eP eI (eP e64 (eP eS eI))) v_10 x_9.1, own eV v_35 ([SV.of v_13, SV.of v_16] : List SV), own e8 v_13 s.2, own e8 v_16 x_15.1]) ?_ (0, x_12.1) ⟨rfl, hS⟩ h
     rintro k_241 ⟨x_44, x_45⟩ L w q_48 hI ih_47 h hk_46
     try dsimp only at hI
     obtain ⟨rfl, hS⟩ := hI
     unfold F.law30_CborSpares_L2 at h
     refine wpC_seq (wpC_seq (wpC_region (wpR_v (OpV_move rfl) rfl (wpR_v (OpV_move rfl) rfl (wpR_v (OpV_move rfl) rfl (wpR_v (G_ix Tryd.underlying51 ti25 rfl rfl (hS.ro 6 rfl) (show getO ([SV.of v_13, SV.of v_16] : List SV) (0 : Int) = some (SV.of v_13) from rfl)) rfl ?_))))))
     refine wpR_v (G_load Tryd.underlying25 rfl rfl (hS.ro 6 rfl) (show getO ([SV.of v_13, SV.of v_16] : List SV) (0 : Int) = some (SV.of v_13) from rfl) (eVc (hS.ro 7 rfl).sv)) rfl ?_
     refine wpR_v (OpV_len Tryd.underlying25 rfl (hS.ro 7 rfl)) rfl ?_
     refine wpR_v (OpV_bin rfl rfl (b_ilss _ x_44 (x_45.length : Int))) rfl ?_
     refine wpR_nil (QE_then_n ?_)
     refine wpC_cond rfl (fun hb_240 => ?_) (fun hb_240 => ?_)
     ·have h := if_t h hb_240
      refine wpC_skip (QE_then_n (wpC_seq (wpC_block ?_)))
      refine wpC_region (wpR_v (OpV_move rfl) rfl (wpR_v (OpV_move rfl) rfl (wpR_v (G_ix Tryd.underlying51 ti25 rfl rfl (hS.ro 6 rfl) (show getO ([SV.of v_13, SV.of v_16] : List SV) (0 : Int) = some (SV.of v_13) from rfl)) rfl ?_)))
      refine wpR_v (G_load Tryd.underlying25 rfl rfl (hS.ro 6 rfl) (show getO ([SV.of v_13, SV.of v_16] : List SV) (0 : Int) = some (SV.of v_13) from rfl) (eVc (hS.ro 7 rfl).sv)) rfl ?_
      refine wpR_v (OpV_move rfl) rfl (wpR_v (OpV_move rfl) rfl (wpR_v (OpV_bin rfl rfl (b_iadd _ 70 0)) rfl ?_))
      refine wpR_v (OpV_conv rfl (cv_i_8 Tryd.underlying3 Tryd.underlying5 70)) rfl ?_
      obtain ⟨x_49, hx_49, h⟩ := obind_some h
      refine wpR_v (G_ix Tryd.underlying25 ti5 rfl rfl (hS.ro 7 rfl) hx_49) rfl ?_
      refine wpR_y (G_storeE (t := (UInt8.ofInt 70)) ti5 rfl rfl hS (i := 7) rfl hx_49 rfl) ?_
      intro w hS
      obtain ⟨x_50, hx_50, h⟩ := olet_some h
      rw [hx_50] at hS
      refine wpR_nil (QE_blk_n ?_)
      refine QE_then_n (wpC_region (wpR_v (OpV_move rfl) rfl (wpR_v (OpV_bin rfl rfl (b_iadd _ x_44 1)) rfl ?_)))
      refine wpR_v (OpV_assign rfl) rfl (wpR_nil ?_)
      exact QE_rnd (wpN_le _ (by exact ⟨rfl, rfl, rfl, rfl, rfl, rfl, rfl, rfl, rfl, rfl, trivial⟩) (ih_47 (wI (x_44 + 1), x_50) _ _ ⟨rfl, hS⟩ (oinl_some h hk_46)))
     ·have h := if_f h hb_240
      refine wpC_exit ?_
      refine QE_then_x (QE_then_x ?_)
      have h := oinr_some h hk_46
      refine QE_blk_x ?_
      refine QE_blk_n ?_
      refine QE_then_n (wpC_region (wpR_v (OpV_move rfl) rfl (wpR_v (OpV_bin rfl rfl (b_iadd _ 0 1)) rfl ?_)))
      refine wpR_v (OpV_assign rfl) rfl (wpR_nil (QE_rnd ?_))
      refine wpN_succ ?_
      refine wpC_seq (wpC_seq (wpC_region (wpR_v (OpV_move rfl) rfl (wpR_v (OpV_bin rfl rfl (b_ilss _ 1 2)) rfl ?_))))
      refine wpR_nil (QE_then_n (wpC_condT rfl ?_))
      refine wpC_skip (QE_then_n (wpC_seq (wpC_block ?_)))
      refine wpC_seq (wpC_seq (wpC_region (wpR_v (OpV_assign rfl) rfl (wpR_nil (QE_then_n (wpC_block ?_))))))
      refine wpC_le [(0, va0), (3, slV v_3 e8.sz 0 x_2.2), (5, vI x_6.2.1), (11, vI x_12.2), (14, slV v_26 (eP eI (eP e64 (eP eS eI))).sz 0 x_25.2), (15, slV v_30 e8.sz 0 x_29.2), (16, v_33), (17, v_35), (18, vI 1), (19, vI 0)] ⟨rfl, rfl, rfl, rfl, rfl, rfl, rfl, rfl, rfl, rfl, trivial⟩ ?_
      refine loop_ind (F.law30_CborSpares_L3 x_15 x_38 x_45 a0 x_2 x_6 x_25 x_12 x_29) (fun (s : Int × (List (Int × UInt64 × (List UInt8) × Int))) L w => L = [(0, va0), (3, slV v_3 e8.sz 0 x_2.2), (5, vI x_6.2.1), (11, vI x_12.2), (14, slV v_26 (eP eI (eP e64 (eP eS eI))).sz 0 x_25.2), (15, slV v_30 e8.sz 0 x_29.2), (16, v_33), (17, v_35), (18, vI 1), (19, vI s.1)] ∧ St [] w0 w [own e8 v_3 x_2.1, own (eP eI (eP e64 (eP eS eI))) v_26 x_25.1, own e8 v_30 x_29.1, own eV v_33 ([SV.of v_7, SV.of v_10] : List SV), own (eP eI (eP e64 (eP eS eI))) v_7 x_38, own (eP eI (eP e64 (eP eS eI))) v_10 s.2, own eV v_35 ([SV.of v_13, SV.of v_16] : List SV), own e8 v_13 x_45, own e8 v_16 x_15.1]) ?_ (0, x_9.1) ⟨rfl, hS⟩ h
      rintro k_239 ⟨x_51, x_52⟩ L w q_55 hI ih_54 h hk_53
      try dsimp only at hI
      obtain ⟨rfl, hS⟩ := hI
      unfold F.law30_CborSpares_L3 at h
      refine wpC_seq (wpC_seq (wpC_region (wpR_v (OpV_move rfl) rfl (wpR_v (OpV_move rfl) rfl (wpR_v (OpV_move rfl) rfl (wpR_v (G_ix Tryd.underlying44 ti22 rfl rfl (hS.ro 3 rfl) (show getO ([SV.of v_7, SV.of v_10] : List SV) (1 : Int) = some (SV.of v_10) from rfl)) rfl ?_))))))
      refine wpR_v (G_load Tryd.underlying22 rfl rfl (hS.ro 3 rfl) (show getO ([SV.of v_7, SV.of v_10] : List SV) (1 : Int) = some (SV.of v_10) from rfl) (eVc (hS.ro 5 rfl).sv)) rfl ?_
      refine wpR_v (OpV_len Tryd.underlying22 rfl (hS.ro 5 rfl)) rfl ?_
      refine wpR_v (OpV_bin rfl rfl (b_ilss _ x_51 (x_52.length : Int))) rfl ?_
      refine wpR_nil (QE_then_n ?_)
      refine wpC_cond rfl (fun hb_238 => ?_) (fun hb_238 => ?_)
      ·have h := if_t h hb_238
       refine wpC_skip (QE_then_n (wpC_seq (wpC_block ?_)))
       refine wpC_region (wpR_v (OpV_move rfl) rfl (wpR_v (OpV_move rfl) rfl (wpR_v (G_ix Tryd.underlying44 ti22 rfl rfl (hS.ro 3 rfl) (show getO ([SV.of v_7, SV.of v_10] : List SV) (1 : Int) = some (SV.of v_10) from rfl)) rfl ?_)))
       refine wpR_v (G_load Tryd.underlying22 rfl rfl (hS.ro 3 rfl) (show getO ([SV.of v_7, SV.of v_10] : List SV) (1 : Int) = some (SV.of v_10) from rfl) (eVc (hS.ro 5 rfl).sv)) rfl ?_
       refine wpR_v (OpV_move rfl) rfl (wpR_v (OpV_move rfl) rfl (wpR_v (OpV_bin rfl rfl (b_iadd _ 1000 1)) rfl ?_))
       refine wpR_v (OpV_build (vs := [(0, vI 1001, [vI 1001])]) (cells := [vI 1001, v64 0, vS [], vI 0]) rfl lay33 ⟨rfl, trivial⟩ rfl) rfl ?_
       obtain ⟨x_56, hx_56, h⟩ := obind_some h
       refine wpR_v (G_ix Tryd.underlying22 ti33 rfl rfl (hS.ro 5 rfl) hx_56) rfl ?_
       refine wpR_y (OpY_storeW (t := (1001, 0, [], 0)) sz33 rfl rfl rfl hS (i := 5) rfl hx_56) ?_
       intro w hS
       obtain ⟨x_57, hx_57, h⟩ := olet_some h
       rw [hx_57] at hS
       refine wpR_nil (QE_blk_n ?_)
       refine QE_then_n (wpC_region (wpR_v (OpV_move rfl) rfl (wpR_v (OpV_bin rfl rfl (b_iadd _ x_51 1)) rfl ?_)))
       refine wpR_v (OpV_assign rfl) rfl (wpR_nil ?_)
       exact QE_rnd (wpN_le _ (by exact ⟨rfl, rfl, rfl, rfl, rfl, rfl, rfl, rfl, rfl, rfl, trivial⟩) (ih_54 (wI (x_51 + 1), x_57) _ _ ⟨rfl, hS⟩ (oinl_some h hk_53)))
      ·have h := if_f h hb_238
       refine wpC_exit ?_
       refine QE_then_x (QE_then_x ?_)
       have h := oinr_some h hk_53
       refine QE_blk_x ?_
       refine QE_then_n (wpC_seq (wpC_region (wpR_v (OpV_assign rfl) rfl (wpR_nil (QE_then_n (wpC_block ?_))))))
       refine wpC_le [(0, va0), (3, slV v_3 e8.sz 0 x_2.2), (5, vI x_6.2.1), (11, vI x_12.2), (14, slV v_26 (eP eI (eP e64 (eP eS eI))).sz 0 x_25.2), (15, slV v_30 e8.sz 0 x_29.2), (16, v_33), (17, v_35), (18, vI 1), (20, vI 0)] ⟨rfl, rfl, rfl, rfl, rfl, rfl, rfl, rfl, rfl, rfl, trivial⟩ ?_
       refine loop_ind (F.law30_CborSpares_L4 x_38 x_45 x_52 a0 x_2 x_6 x_25 x_12 x_29) (fun (s : Int × List UInt8) L w => L = [(0, va0), (3, slV v_3 e8.sz 0 x_2.2), (5, vI x_6.2.1), (11, vI x_12.2), (14, slV v_26 (eP eI (eP e64 (eP eS eI))).sz 0 x_25.2), (15, slV v_30 e8.sz 0 x_29.2), (16, v_33), (17, v_35), (18, vI 1), (20, vI s.1)] ∧ St [] w0 w [own e8 v_3 x_2.1, own (eP eI (eP e64 (eP eS eI))) v_26 x_25.1, own e8 v_30 x_29.1, own eV v_33 ([SV.of v_7, SV.of v_10] : List SV), own (eP eI (eP e64 (eP eS eI))) v_7 x_38, own (eP eI (eP e64 (eP eS eI))) v_10 x_52, own eV v_35 ([SV.of v_13, SV.of v_16] : List SV), own e8 v_13 x_45, own e8 v_16 s.2]) ?_ (0, x_15.1) ⟨rfl, hS⟩ h
       rintro k_237 ⟨x_58, x_59⟩ L w q_62 hI ih_61 h hk_60
       try dsimp only at hI
       obtain ⟨rfl, hS⟩ := hI
       unfold F.law30_CborSpares_L4 at h
       refine wpC_seq (wpC_seq (wpC_region (wpR_v (OpV_move rfl) rfl (wpR_v (OpV_move rfl) rfl (wpR_v (OpV_move rfl) rfl (wpR_v (G_ix Tryd.underlying51 ti25 rfl rfl (hS.ro 6 rfl) (show getO ([SV.of v_13, SV.of v_16] : List SV) (1 : Int) = some (SV.of v_16) from rfl)) rfl ?_))))))
       refine wpR_v (G_load Tryd.underlying25 rfl rfl (hS.ro 6 rfl) (show getO ([SV.of v_13, SV.of v_16] : List SV) (1 : Int) = some (SV.of v_16) from rfl) (eVc (hS.ro 8 rfl).sv)) rfl ?_
       refine wpR_v (OpV_len Tryd.underlying25 rfl (hS.ro 8 rfl)) rfl ?_
       refine wpR_v (OpV_bin rfl rfl (b_ilss _ x_58 (x_59.length : Int))) rfl ?_
       refine wpR_nil (QE_then_n ?_)
       refine wpC_cond rfl (fun hb_236 => ?_) (fun hb_236 => ?_)
       ·have h := if_t h hb_236
        refine wpC_skip (QE_then_n (wpC_seq (wpC_block ?_)))
        refine wpC_region (wpR_v (OpV_move rfl) rfl (wpR_v (OpV_move rfl) rfl (wpR_v (G_ix Tryd.underlying51 ti25 rfl rfl (hS.ro 6 rfl) (show getO ([SV.of v_13, SV.of v_16] : List SV) (1 : Int) = some (SV.of v_16) from rfl)) rfl ?_)))
        refine wpR_v (G_load Tryd.underlying25 rfl rfl (hS.ro 6 rfl) (show getO ([SV.of v_13, SV.of v_16] : List SV) (1 : Int) = some (SV.of v_16) from rfl) (eVc (hS.ro 8 rfl).sv)) rfl ?_
        refine wpR_v (OpV_move rfl) rfl (wpR_v (OpV_move rfl) rfl (wpR_v (OpV_bin rfl rfl (b_iadd _ 70 1)) rfl ?_))
        refine wpR_v (OpV_conv rfl (cv_i_8 Tryd.underlying3 Tryd.underlying5 71)) rfl ?_
        obtain ⟨x_63, hx_63, h⟩ := obind_some h
        refine wpR_v (G_ix Tryd.underlying25 ti5 rfl rfl (hS.ro 8 rfl) hx_63) rfl ?_
        refine wpR_y (G_storeE (t := (UInt8.ofInt 71)) ti5 rfl rfl hS (i := 8) rfl hx_63 rfl) ?_
        intro w hS
        obtain ⟨x_64, hx_64, h⟩ := olet_some h
        rw [hx_64] at hS
        refine wpR_nil (QE_blk_n ?_)
        refine QE_then_n (wpC_region (wpR_v (OpV_move rfl) rfl (wpR_v (OpV_bin rfl rfl (b_iadd _ x_58 1)) rfl ?_)))
        refine wpR_v (OpV_assign rfl) rfl (wpR_nil ?_)
        exact QE_rnd (wpN_le _ (by exact ⟨rfl, rfl, rfl, rfl, rfl, rfl, rfl, rfl, rfl, rfl, trivial⟩) (ih_61 (wI (x_58 + 1), x_64) _ _ ⟨rfl, hS⟩ (oinl_some h hk_60)))
       ·have h := if_f h hb_236
        refine wpC_exit ?_
        refine QE_then_x (QE_then_x ?_)
        have h := oinr_some h hk_60
        refine QE_blk_x ?_
        refine QE_blk_n ?_
        refine QE_then_n (wpC_region (wpR_v (OpV_move rfl) rfl (wpR_v (OpV_bin rfl rfl (b_iadd _ 1 1)) rfl ?_)))
        refine wpR_v (OpV_assign rfl) rfl (wpR_nil (QE_rnd ?_))
        refine wpN_succ ?_
        refine wpC_seq (wpC_seq (wpC_region (wpR_v (OpV_move rfl) rfl (wpR_v (OpV_bin rfl rfl (b_ilss _ 2 2)) rfl ?_))))
        refine wpR_nil (QE_then_n (wpC_condF rfl ?_))
        refine wpC_exit ?_
        refine QE_then_x (QE_then_x (QE_blk_x ?_))
        refine QE_then_n (wpC_seq (wpC_region (wpR_v (OpV_assign rfl) rfl (wpR_nil (QE_then_n (wpC_seq ?_))))))
        refine wpC_region (wpR_v (OpV_assign rfl) rfl (wpR_nil (QE_then_n (wpC_seq (wpC_seq (wpC_region ?_))))))
        refine wpR_v (OpV_assign rfl) rfl (wpR_nil (QE_then_n (wpC_block ?_)))
        refine wpC_loop 100 ?_
        refine wpN_succ ?_
        refine wpC_seq (wpC_seq (wpC_region (wpR_v (OpV_move rfl) rfl (wpR_v (OpV_bin rfl rfl (b_ilss _ 0 2)) rfl ?_))))
        refine wpR_nil (QE_then_n (wpC_condT rfl ?_))
        refine wpC_skip (QE_then_n (wpC_seq (wpC_block ?_)))
        refine wpC_seq (wpC_region (wpR_v (OpV_move rfl) rfl (wpR_v (OpV_move rfl) rfl (wpR_v (G_ix Tryd.underlying44 ti22 rfl rfl (hS.ro 3 rfl) (show getO ([SV.of v_7, SV.of v_10] : List SV) (0 : Int) = some (SV.of v_7) from rfl)) rfl ?_))))
        refine wpR_v (G_load Tryd.underlying22 rfl rfl (hS.ro 3 rfl) (show getO ([SV.of v_7, SV.of v_10] : List SV) (0 : Int) = some (SV.of v_7) from rfl) (eVc (hS.ro 4 rfl).sv)) rfl ?_
        refine wpR_v (OpV_assign rfl) rfl ?_
        have hA_66 := (hS.ro 4 rfl).tw
        replace hS := hS.twin 4 rfl
        refine wpR_nil (QE_then_n (wpC_seq (wpC_region (wpR_v (OpV_move rfl) rfl (wpR_v (OpV_move rfl) rfl (wpR_v (G_ix Tryd.underlying51 ti25 rfl rfl (hS.ro 7 rfl) (show getO ([SV.of v_13, SV.of v_16] : List SV) (0 : Int) = some (SV.of v_13) from rfl)) rfl ?_))))))
        refine wpR_v (G_load Tryd.underlying25 rfl rfl (hS.ro 7 rfl) (show getO ([SV.of v_13, SV.of v_16] : List SV) (0 : Int) = some (SV.of v_13) from rfl) (eVc (hS.ro 8 rfl).sv)) rfl ?_
        refine wpR_v (OpV_assign rfl) rfl ?_
        have hA_68 := (hS.ro 8 rfl).tw
        replace hS := hS.twin 8 rfl
        refine wpR_nil (QE_then_n (wpC_seq (wpC_seq (wpC_region (wpR_v (OpV_assign rfl) rfl (wpR_nil ?_))))))
        refine QE_then_n (wpC_block ?_)
        refine wpC_le [(0, va0), (3, slV v_3 e8.sz 0 x_2.2), (5, vI x_6.2.1), (11, vI x_12.2), (14, slV v_26 (eP eI (eP e64 (eP eS eI))).sz 0 x_25.2), (15, slV v_30 e8.sz 0 x_29.2), (16, v_33), (17, v_35), (21, .slice none 0 0), (22, .slice none 0 0), (23, vI 0), (24, v_7), (25, v_13), (26, vI 0)] ⟨rfl, rfl, rfl, rfl, rfl, rfl, rfl, rfl, rfl, rfl, rfl, rfl, rfl, rfl, trivial⟩ ?_
        refine loop_ind (F.law30_CborSpares_L5 x_52 x_59 x_38 x_45 a0 x_2 x_6 x_25 x_12 x_29) (fun (s : (List (Int × UInt64 × (List UInt8) × Int)) × List UInt8 × Int) L w => ∃ (v_70 : Value) (v_73 : Value) (b_76 : Nat) (b_78 : Nat), L = [(0, va0), (3, slV v_3 e8.sz 0 x_2.2), (5, vI x_6.2.1), (11, vI x_12.2), (14, slV v_26 (eP eI (eP e64 (eP eS eI))).sz 0 x_25.2), (15, slV v_30 e8.sz 0 x_29.2), (16, v_33), (17, v_35), (21, .slice none 0 0), (22, .slice none 0 0), (23, vI 0), (24, v_70), (25, v_73), (26, vI s.2.2)] ∧ Tw v_7 x_38 v_70 s.1 b_76 ∧ Tw v_13 x_45 v_73 s.2.1 b_78 ∧ St [] w0 w [own (eP eI (eP e64 (eP eS eI))) v_70 s.1, own e8 v_73 s.2.1, own e8 v_3 x_2.1, own (eP eI (eP e64 (eP eS eI))) v_26 x_25.1, own e8 v_30 x_29.1, own eV v_33 ([SV.of v_7, SV.of v_10] : List SV), twE (eP eI (eP e64 (eP eS eI))) v_7 x_38 b_76, own (eP eI (eP e64 (eP eS eI))) v_10 x_52, own eV v_35 ([SV.of v_13, SV.of v_16] : List SV), twE e8 v_13 x_45 b_78, own e8 v_16 x_59]) ?_ (x_38, x_45, 0) ⟨v_7, v_13, 0, 0, rfl, hA_66, hA_68, (hS.pick [6, 9, 2, 3, 4, 5, 1, 7, 8, 0, 10] (by decide) rfl)⟩ h
        rintro k_235 ⟨x_69, x_72, x_75⟩ L w q_82 hI ih_81 h hk_80
        try dsimp only at hI
        obtain ⟨v_70, v_73, b_76, b_78, rfl, hA_77, hA_79, hS⟩ := hI
        unfold F.law30_CborSpares_L5 at h
        refine wpC_seq (wpC_seq (wpC_region (wpR_v (OpV_move rfl) rfl (wpR_v (OpV_bin rfl rfl (b_ilss _ x_75 70)) rfl ?_))))
        refine wpR_nil (QE_then_n ?_)
        refine wpC_cond rfl (fun hb_234 => ?_) (fun hb_234 => ?_)
        ·have h := if_t h hb_234
         refine wpC_skip (QE_then_n (wpC_seq (wpC_block ?_)))
         refine wpC_seq (wpC_region (wpR_v (OpV_move rfl) rfl (wpR_v (OpV_move rfl) rfl (wpR_v (OpV_bin rfl rfl (b_iadd _ 5000 0)) rfl ?_))))
         refine wpR_v (OpV_build (vs := [(0, vI 5000, [vI 5000])]) (cells := [vI 5000, v64 0, vS [], vI 0]) rfl lay33 ⟨rfl, trivial⟩ rfl) rfl ?_
         refine wpR_x (OpX_litE (e := (eP eI (eP e64 (eP eS eI)))) (l := ([(5000, 0, [], 0)] : List (Int × UInt64 × (List UInt8) × Int))) (vs := [(0, .agg #[vI 5000, v64 0, vS [], vI 0], [vI 5000, v64 0, vS [], vI 0])]) Tryd.underlying22 ti33 rfl ⟨rfl, trivial⟩ rfl rfl (Nat.le_of_ble_eq_true rfl) (Nat.le_of_ble_eq_true rfl) hS) rfl ?_
         rintro v_83 w hS
         obtain ⟨x_85, hx_85, h⟩ := obind_some h
         refine wpR_x (G_append_tw Tryd.underlying22 ti33 rfl rfl rfl hS (i := 1) (j := 7) rfl rfl hA_77 (hS.ro 0 rfl) hx_85) rfl ?_
         rintro v_86 w ⟨b_87, hA_88, hS⟩
         refine wpR_v (OpV_assign rfl) rfl (wpR_nil (QE_then_n (wpC_region (wpR_v (OpV_move rfl) rfl (wpR_v (OpV_move rfl) rfl (wpR_v (OpV_bin rfl rfl (b_iadd _ 80 0)) rfl ?_))))))
         refine wpR_v (OpV_conv rfl (cv_i_8 Tryd.underlying3 Tryd.underlying5 80)) rfl ?_
         refine wpR_x (OpX_lit (e := e8) (l := [UInt8.ofInt 80]) (vs := [v8 (UInt8.ofInt 80)]) Tryd.underlying25 ti5 rfl rfl rfl rfl (by decide) (by decide) hS) rfl ?_
         rintro v_90 w hS
         obtain ⟨x_92, hx_92, h⟩ := obind_some h
         refine wpR_x (G_append_tw Tryd.underlying25 ti5 rfl rfl rfl hS (i := 3) (j := 11) rfl rfl hA_79 (hS.ro 0 rfl) hx_92) rfl ?_
         rintro v_93 w ⟨b_94, hA_95, hS⟩
         refine wpR_v (OpV_assign rfl) rfl (wpR_nil (QE_blk_n ?_))
         refine QE_then_n (wpC_region (wpR_v (OpV_move rfl) rfl (wpR_v (OpV_bin rfl rfl (b_iadd _ x_75 1)) rfl ?_)))
         refine wpR_v (OpV_assign rfl) rfl (wpR_nil ?_)
         exact QE_rnd (wpN_le _ (by exact ⟨rfl, rfl, rfl, rfl, rfl, rfl, rfl, rfl, rfl, rfl, rfl, rfl, rfl, rfl, trivial⟩) (ih_81 (x_85, x_92, wI (x_75 + 1)) _ _ ⟨v_86, v_93, b_87, b_94, rfl, hA_88, hA_95, (hS.pick [2, 3, 4, 5, 6, 7, 8, 9, 10, 11, 12] (by decide) rfl)⟩ (oinl_some h hk_80)))
        ·have h := if_f h hb_234
         refine wpC_exit ?_
         refine QE_then_x (QE_then_x ?_)
         have h := oinr_some h hk_80
         refine QE_blk_x ?_
         refine QE_then_n (wpC_seq (wpC_region (wpR_v (OpV_move rfl) rfl (wpR_v (OpV_move rfl) rfl ?_))))
         refine wpR_x (OpX_lit (e := eV) (l := ([SV.of v_70] : List SV)) (vs := [v_70]) Tryd.underlying44 ti22 rfl rfl rfl (fl_eVc (hS.ro 0 rfl).sv rfl) (by decide) (by decide) hS) rfl ?_
         rintro v_97 w hS
         refine wpR_x (G_append0 Tryd.underlying44 ti22 rfl rfl rfl hS (hS.ro 0 rfl) (apO_v rfl)) rfl ?_
         rintro v_99 w hS
         replace hS : St _ w0 w [own eV v_99 ([SV.of v_70] : List SV), own eV v_97 ([SV.of v_70] : List SV), own (eP eI (eP e64 (eP eS eI))) v_70 x_69, own e8 v_73 x_72, own e8 v_3 x_2.1, own (eP eI (eP e64 (eP eS eI))) v_26 x_25.1, own e8 v_30 x_29.1, own eV v_33 ([SV.of v_7, SV.of v_10] : List SV), twE (eP eI (eP e64 (eP eS eI))) v_7 x_38 b_76, own (eP eI (eP e64 (eP eS eI))) v_10 x_52, own eV v_35 ([SV.of v_13, SV.of v_16] : List SV), twE e8 v_13 x_45 b_78, own e8 v_16 x_59] := hS
         refine wpR_v (OpV_assign rfl) rfl (wpR_nil (QE_then_n (wpC_region (wpR_v (OpV_move rfl) rfl (wpR_v (OpV_move rfl) rfl ?_)))))
         refine wpR_x (OpX_lit (e := eV) (l := ([SV.of v_73] : List SV)) (vs := [v_73]) Tryd.underlying51 ti25 rfl rfl rfl (fl_eVc (hS.ro 3 rfl).sv rfl) (by decide) (by decide) hS) rfl ?_
         rintro v_101 w hS
         refine wpR_x (G_append0 Tryd.underlying51 ti25 rfl rfl rfl hS (hS.ro 0 rfl) (apO_v rfl)) rfl ?_
         rintro v_103 w hS
         replace hS : St _ w0 w [own eV v_103 ([SV.of v_73] : List SV), own eV v_101 ([SV.of v_73] : List SV), own eV v_99 ([SV.of v_70] : List SV), own eV v_97 ([SV.of v_70] : List SV), own (eP eI (eP e64 (eP eS eI))) v_70 x_69, own e8 v_73 x_72, own e8 v_3 x_2.1, own (eP eI (eP e64 (eP eS eI))) v_26 x_25.1, own e8 v_30 x_29.1, own eV v_33 ([SV.of v_7, SV.of v_10] : List SV), twE (eP eI (eP e64 (eP eS eI))) v_7 x_38 b_76, own (eP eI (eP e64 (eP eS eI))) v_10 x_52, own eV v_35 ([SV.of v_13, SV.of v_16] : List SV), twE e8 v_13 x_45 b_78, own e8 v_16 x_59] := hS
         refine wpR_v (OpV_assign rfl) rfl (wpR_nil (QE_blk_n ?_))
         refine QE_then_n (wpC_region (wpR_v (OpV_move rfl) rfl (wpR_v (OpV_bin rfl rfl (b_iadd _ 0 1)) rfl ?_)))
         refine wpR_v (OpV_assign rfl) rfl (wpR_nil (QE_rnd ?_))
         refine wpN_succ ?_
         refine wpC_seq (wpC_seq (wpC_region (wpR_v (OpV_move rfl) rfl (wpR_v (OpV_bin rfl rfl (b_ilss _ 1 2)) rfl ?_))))
         refine wpR_nil (QE_then_n (wpC_condT rfl ?_))
         refine wpC_skip (QE_then_n (wpC_seq (wpC_block ?_)))
         refine wpC_seq (wpC_region (wpR_v (OpV_move rfl) rfl (wpR_v (OpV_move rfl) rfl (wpR_v (G_ix Tryd.underlying44 ti22 rfl rfl (hS.ro 9 rfl) (show getO ([SV.of v_7, SV.of v_10] : List SV) (1 : Int) = some (SV.of v_10) from rfl)) rfl ?_))))
         refine wpR_v (G_load Tryd.underlying22 rfl rfl (hS.ro 9 rfl) (show getO ([SV.of v_7, SV.of v_10] : List SV) (1 : Int) = some (SV.of v_10) from rfl) (eVc (hS.ro 11 rfl).sv)) rfl ?_
         refine wpR_v (OpV_assign rfl) rfl ?_
         have hA_106 := (hS.ro 11 rfl).tw
         replace hS := hS.twin 11 rfl
         refine wpR_nil (QE_then_n (wpC_seq (wpC_region (wpR_v (OpV_move rfl) rfl (wpR_v (OpV_move rfl) rfl (wpR_v (G_ix Tryd.underlying51 ti25 rfl rfl (hS.ro 13 rfl) (show getO ([SV.of v_13, SV.of v_16] : List SV) (1 : Int) = some (SV.of v_16) from rfl)) rfl ?_))))))
         refine wpR_v (G_load Tryd.underlying25 rfl rfl (hS.ro 13 rfl) (show getO ([SV.of v_13, SV.of v_16] : List SV) (1 : Int) = some (SV.of v_16) from rfl) (eVc (hS.ro 15 rfl).sv)) rfl ?_
         refine wpR_v (OpV_assign rfl) rfl ?_
         have hA_108 := (hS.ro 15 rfl).tw
         replace hS := hS.twin 15 rfl
         refine wpR_nil (QE_then_n (wpC_seq (wpC_seq (wpC_region (wpR_v (OpV_assign rfl) rfl (wpR_nil ?_))))))
         refine QE_then_n (wpC_block ?_)
         refine wpC_le [(0, va0), (3, slV v_3 e8.sz 0 x_2.2), (5, vI x_6.2.1), (11, vI x_12.2), (14, slV v_26 (eP eI (eP e64 (eP eS eI))).sz 0 x_25.2), (15, slV v_30 e8.sz 0 x_29.2), (16, v_33), (17, v_35), (21, v_99), (22, v_103), (23, vI 1), (24, v_10), (25, v_16), (26, vI 0)] ⟨rfl, rfl, rfl, rfl, rfl, rfl, rfl, rfl, rfl, rfl, rfl, rfl, rfl, rfl, trivial⟩ ?_
         refine loop_ind (F.law30_CborSpares_L6 x_38 x_69 x_45 x_72 x_52 a0 x_2 x_6 x_25 x_59 x_12 x_29) (fun (s : (List (Int × UInt64 × (List UInt8) × Int)) × List UInt8 × Int) L w => ∃ (v_110 : Value) (v_113 : Value) (b_116 : Nat) (b_118 : Nat), L = [(0, va0), (3, slV v_3 e8.sz 0 x_2.2), (5, vI x_6.2.1), (11, vI x_12.2), (14, slV v_26 (eP eI (eP e64 (eP eS eI))).sz 0 x_25.2), (15, slV v_30 e8.sz 0 x_29.2), (16, v_33), (17, v_35), (21, v_99), (22, v_103), (23, vI 1), (24, v_110), (25, v_113), (26, vI s.2.2)] ∧ Tw v_10 x_52 v_110 s.1 b_116 ∧ Tw v_16 x_59 v_113 s.2.1 b_118 ∧ St [] w0 w [own (eP eI (eP e64 (eP eS eI))) v_110 s.1, own e8 v_113 s.2.1, own e8 v_3 x_2.1, own (eP eI (eP e64 (eP eS eI))) v_26 x_25.1, own e8 v_30 x_29.1, own eV v_33 ([SV.of v_7, SV.of v_10] : List SV), twE (eP eI (eP e64 (eP eS eI))) v_7 x_38 b_76, own (eP eI (eP e64 (eP eS eI))) v_70 x_69, twE (eP eI (eP e64 (eP eS eI))) v_10 x_52 b_116, own eV v_35 ([SV.of v_13, SV.of v_16] : List SV), twE e8 v_13 x_45 b_78, own e8 v_73 x_72, twE e8 v_16 x_59 b_118, own eV v_99 ([SV.of v_70] : List SV), own eV v_103 ([SV.of v_73] : List SV)]) ?_ (x_52, x_59, 0) ⟨v_10, v_16, 0, 0, rfl, hA_106, hA_108, (hS.pick [13, 16, 8, 9, 10, 11, 12, 6, 1, 14, 15, 7, 0, 4, 2] (by decide) rfl)⟩ h
         rintro k_233 ⟨x_109, x_112, x_115⟩ L w q_122 hI ih_121 h hk_120
         try dsimp only at hI
         obtain ⟨v_110, v_113, b_116, b_118, rfl, hA_117, hA_119, hS⟩ := hI
         unfold F.law30_CborSpares_L6 at h
         refine wpC_seq (wpC_seq (wpC_region (wpR_v (OpV_move rfl) rfl (wpR_v (OpV_bin rfl rfl (b_ilss _ x_115 70)) rfl ?_))))
         refine wpR_nil (QE_then_n ?_)
         refine wpC_cond rfl (fun hb_232 => ?_) (fun hb_232 => ?_)
         ·have h := if_t h hb_232
          refine wpC_skip (QE_then_n (wpC_seq (wpC_block ?_)))
          refine wpC_seq (wpC_region (wpR_v (OpV_move rfl) rfl (wpR_v (OpV_move rfl) rfl (wpR_v (OpV_bin rfl rfl (b_iadd _ 5000 1)) rfl ?_))))
          refine wpR_v (OpV_build (vs := [(0, vI 5001, [vI 5001])]) (cells := [vI 5001, v64 0, vS [], vI 0]) rfl lay33 ⟨rfl, trivial⟩ rfl) rfl ?_
          refine wpR_x (OpX_litE (e := (eP eI (eP e64 (eP eS eI)))) (l := ([(5001, 0, [], 0)] : List (Int × UInt64 × (List UInt8) × Int))) (vs := [(0, .agg #[vI 5001, v64 0, vS [], vI 0], [vI 5001, v64 0, vS [], vI 0])]) Tryd.underlying22 ti33 rfl ⟨rfl, trivial⟩ rfl rfl (Nat.le_of_ble_eq_true rfl) (Nat.le_of_ble_eq_true rfl) hS) rfl ?_
          rintro v_123 w hS
          obtain ⟨x_125, hx_125, h⟩ := obind_some h
          refine wpR_x (G_append_tw Tryd.underlying22 ti33 rfl rfl rfl hS (i := 1) (j := 9) rfl rfl hA_117 (hS.ro 0 rfl) hx_125) rfl ?_
          rintro v_126 w ⟨b_127, hA_128, hS⟩
          refine wpR_v (OpV_assign rfl) rfl (wpR_nil (QE_then_n (wpC_region (wpR_v (OpV_move rfl) rfl (wpR_v (OpV_move rfl) rfl (wpR_v (OpV_bin rfl rfl (b_iadd _ 80 1)) rfl ?_))))))
          refine wpR_v (OpV_conv rfl (cv_i_8 Tryd.underlying3 Tryd.underlying5 81)) rfl ?_
          refine wpR_x (OpX_lit (e := e8) (l := [UInt8.ofInt 81]) (vs := [v8 (UInt8.ofInt 81)]) Tryd.underlying25 ti5 rfl rfl rfl rfl (by decide) (by decide) hS) rfl ?_
          rintro v_130 w hS
          obtain ⟨x_132, hx_132, h⟩ := obind_some h
          refine wpR_x (G_append_tw Tryd.underlying25 ti5 rfl rfl rfl hS (i := 3) (j := 14) rfl rfl hA_119 (hS.ro 0 rfl) hx_132) rfl ?_
          rintro v_133 w ⟨b_134, hA_135, hS⟩
          refine wpR_v (OpV_assign rfl) rfl (wpR_nil (QE_blk_n ?_))
          refine QE_then_n (wpC_region (wpR_v (OpV_move rfl) rfl (wpR_v (OpV_bin rfl rfl (b_iadd _ x_115 1)) rfl ?_)))
          refine wpR_v (OpV_assign rfl) rfl (wpR_nil ?_)
          exact QE_rnd (wpN_le _ (by exact ⟨rfl, rfl, rfl, rfl, rfl, rfl, rfl, rfl, rfl, rfl, rfl, rfl, rfl, rfl, trivial⟩) (ih_121 (x_125, x_132, wI (x_115 + 1)) _ _ ⟨v_126, v_133, b_127, b_134, rfl, hA_128, hA_135, (hS.pick [2, 3, 4, 5, 6, 7, 8, 9, 10, 11, 12, 13, 14, 15, 16] (by decide) rfl)⟩ (oinl_some h hk_120)))
         ·have h := if_f h hb_232
          refine wpC_exit ?_
          refine QE_then_x (QE_then_x ?_)
          have h := oinr_some h hk_120
          refine QE_blk_x ?_
          refine QE_then_n (wpC_seq (wpC_region (wpR_v (OpV_move rfl) rfl (wpR_v (OpV_move rfl) rfl ?_))))
          refine wpR_x (OpX_lit (e := eV) (l := ([SV.of v_110] : List SV)) (vs := [v_110]) Tryd.underlying44 ti22 rfl rfl rfl (fl_eVc (hS.ro 0 rfl).sv rfl) (by decide) (by decide) hS) rfl ?_
          rintro v_137 w hS
          refine wpR_x (G_append Tryd.underlying44 ti22 rfl rfl rfl hS (i := 14) rfl (hS.ro 0 rfl) (apO_v rfl)) rfl ?_
          rintro v_139 w hS
          replace hS : St _ w0 w [own eV v_137 ([SV.of v_110] : List SV), own (eP eI (eP e64 (eP eS eI))) v_110 x_109, own e8 v_113 x_112, own e8 v_3 x_2.1, own (eP eI (eP e64 (eP eS eI))) v_26 x_25.1, own e8 v_30 x_29.1, own eV v_33 ([SV.of v_7, SV.of v_10] : List SV), twE (eP eI (eP e64 (eP eS eI))) v_7 x_38 b_76, own (eP eI (eP e64 (eP eS eI))) v_70 x_69, twE (eP eI (eP e64 (eP eS eI))) v_10 x_52 b_116, own eV v_35 ([SV.of v_13, SV.of v_16] : List SV), twE e8 v_13 x_45 b_78, own e8 v_73 x_72, twE e8 v_16 x_59 b_118, own eV v_139 ([SV.of v_70, SV.of v_110] : List SV), own eV v_103 ([SV.of v_73] : List SV)] := hS
          refine wpR_v (OpV_assign rfl) rfl (wpR_nil (QE_then_n (wpC_region (wpR_v (OpV_move rfl) rfl (wpR_v (OpV_move rfl) rfl ?_)))))
          refine wpR_x (OpX_lit (e := eV) (l := ([SV.of v_113] : List SV)) (vs := [v_113]) Tryd.underlying51 ti25 rfl rfl rfl (fl_eVc (hS.ro 2 rfl).sv rfl) (by decide) (by decide) hS) rfl ?_
          rintro v_141 w hS
          refine wpR_x (G_append Tryd.underlying51 ti25 rfl rfl rfl hS (i := 16) rfl (hS.ro 0 rfl) (apO_v rfl)) rfl ?_
          rintro v_143 w hS
          replace hS : St _ w0 w [own eV v_141 ([SV.of v_113] : List SV), own eV v_137 ([SV.of v_110] : List SV), own (eP eI (eP e64 (eP eS eI))) v_110 x_109, own e8 v_113 x_112, own e8 v_3 x_2.1, own (eP eI (eP e64 (eP eS eI))) v_26 x_25.1, own e8 v_30 x_29.1, own eV v_33 ([SV.of v_7, SV.of v_10] : List SV), twE (eP eI (eP e64 (eP eS eI))) v_7 x_38 b_76, own (eP eI (eP e64 (eP eS eI))) v_70 x_69, twE (eP eI (eP e64 (eP eS eI))) v_10 x_52 b_116, own eV v_35 ([SV.of v_13, SV.of v_16] : List SV), twE e8 v_13 x_45 b_78, own e8 v_73 x_72, twE e8 v_16 x_59 b_118, own eV v_139 ([SV.of v_70, SV.of v_110] : List SV), own eV v_143 ([SV.of v_73, SV.of v_113] : List SV)] := hS
          refine wpR_v (OpV_assign rfl) rfl (wpR_nil (QE_blk_n ?_))
          refine QE_then_n (wpC_region (wpR_v (OpV_move rfl) rfl (wpR_v (OpV_bin rfl rfl (b_iadd _ 1 1)) rfl ?_)))
          refine wpR_v (OpV_assign rfl) rfl (wpR_nil (QE_rnd ?_))
          refine wpN_succ ?_
          refine wpC_seq (wpC_seq (wpC_region (wpR_v (OpV_move rfl) rfl (wpR_v (OpV_bin rfl rfl (b_ilss _ 2 2)) rfl ?_))))
          refine wpR_nil (QE_then_n (wpC_condF rfl ?_))
          refine wpC_exit ?_
          refine QE_then_x (QE_then_x (QE_blk_x ?_))
          refine QE_then_n (wpC_seq (wpC_seq (wpC_region (wpR_v (OpV_assign rfl) rfl (wpR_nil (QE_then_n ?_))))))
          refine wpC_block ?_
          refine wpC_loop 100 ?_
          refine wpN_succ ?_
          refine wpC_seq (wpC_seq (wpC_region (wpR_v (OpV_move rfl) rfl (wpR_v (OpV_bin rfl rfl (b_ilss _ 0 2)) rfl ?_))))
          refine wpR_nil (QE_then_n (wpC_condT rfl ?_))
          refine wpC_skip (QE_then_n (wpC_seq (wpC_block ?_)))
          refine wpC_seq (wpC_seq (wpC_region (wpR_v (OpV_assign rfl) rfl (wpR_nil (QE_then_n (wpC_block ?_))))))
          refine wpC_le [(0, va0), (3, slV v_3 e8.sz 0 x_2.2), (5, vI x_6.2.1), (11, vI x_12.2), (14, slV v_26 (eP eI (eP e64 (eP eS eI))).sz 0 x_25.2), (15, slV v_30 e8.sz 0 x_29.2), (16, v_33), (17, v_35), (21, v_139), (22, v_143), (27, vI 0), (28, vI 0)] ⟨rfl, rfl, rfl, rfl, rfl, rfl, rfl, rfl, rfl, rfl, rfl, rfl, trivial⟩ ?_
          refine loop_ind (F.law30_CborSpares_L7 x_38 x_69 x_45 x_72 x_52 x_109 a0 x_2 x_6 x_25 x_59 x_112 x_12 x_29) (fun (s : Int) L w => L = [(0, va0), (3, slV v_3 e8.sz 0 x_2.2), (5, vI x_6.2.1), (11, vI x_12.2), (14, slV v_26 (eP eI (eP e64 (eP eS eI))).sz 0 x_25.2), (15, slV v_30 e8.sz 0 x_29.2), (16, v_33), (17, v_35), (21, v_139), (22, v_143), (27, vI 0), (28, vI s)] ∧ St [] w0 w [own e8 v_3 x_2.1, own (eP eI (eP e64 (eP eS eI))) v_26 x_25.1, own e8 v_30 x_29.1, own eV v_33 ([SV.of v_7, SV.of v_10] : List SV), twE (eP eI (eP e64 (eP eS eI))) v_7 x_38 b_76, own (eP eI (eP e64 (eP eS eI))) v_70 x_69, twE (eP eI (eP e64 (eP eS eI))) v_10 x_52 b_116, own (eP eI (eP e64 (eP eS eI))) v_110 x_109, own eV v_35 ([SV.of v_13, SV.of v_16] : List SV), twE e8 v_13 x_45 b_78, own e8 v_73 x_72, twE e8 v_16 x_59 b_118, own e8 v_113 x_112, own eV v_139 ([SV.of v_70, SV.of v_110] : List SV), own eV v_143 ([SV.of v_73, SV.of v_113] : List SV)]) ?_ 0 ⟨rfl, (hS.pick [4, 5, 6, 7, 8, 9, 10, 2, 11, 12, 13, 14, 3, 15, 16] (by decide) rfl)⟩ h
          rintro k_231 x_145 L w q_148 hI ih_147 h hk_146
          try dsimp only at hI
          obtain ⟨rfl, hS⟩ := hI
          unfold F.law30_CborSpares_L7 at h
          refine wpC_seq (wpC_seq (wpC_region (wpR_v (OpV_move rfl) rfl (wpR_v (OpV_move rfl) rfl (wpR_v (OpV_move rfl) rfl (wpR_v (G_ix Tryd.underlying44 ti22 rfl rfl (hS.ro 13 rfl) (show getO ([SV.of v_70, SV.of v_110] : List SV) (0 : Int) = some (SV.of v_70) from rfl)) rfl ?_))))))
          refine wpR_v (G_load Tryd.underlying22 rfl rfl (hS.ro 13 rfl) (show getO ([SV.of v_70, SV.of v_110] : List SV) (0 : Int) = some (SV.of v_70) from rfl) (eVc (hS.ro 5 rfl).sv)) rfl ?_
          refine wpR_v (OpV_len Tryd.underlying22 rfl (hS.ro 5 rfl)) rfl ?_
          refine wpR_v (OpV_bin rfl rfl (b_ilss _ x_145 (x_69.length : Int))) rfl ?_
          refine wpR_nil (QE_then_n ?_)
          refine wpC_cond rfl (fun hb_230 => ?_) (fun hb_230 => ?_)
          ·have h := if_t h hb_230
           refine wpC_skip (QE_then_n (wpC_seq (wpC_block ?_)))
           refine seq_join (r := q_148) (fun (g : Bool) L w => L = [(0, va0), (3, slV v_3 e8.sz 0 x_2.2), (5, vI x_6.2.1), (11, vI x_12.2), (14, slV v_26 (eP eI (eP e64 (eP eS eI))).sz 0 x_25.2), (15, slV v_30 e8.sz 0 x_29.2), (16, v_33), (17, v_35), (21, v_139), (22, v_143), (27, vI 0), (28, vI x_145), (234, vB g)] ∧ St [] w0 w [own e8 v_3 x_2.1, own (eP eI (eP e64 (eP eS eI))) v_26 x_25.1, own e8 v_30 x_29.1, own eV v_33 ([SV.of v_7, SV.of v_10] : List SV), twE (eP eI (eP e64 (eP eS eI))) v_7 x_38 b_76, own (eP eI (eP e64 (eP eS eI))) v_70 x_69, twE (eP eI (eP e64 (eP eS eI))) v_10 x_52 b_116, own (eP eI (eP e64 (eP eS eI))) v_110 x_109, own eV v_35 ([SV.of v_13, SV.of v_16] : List SV), twE e8 v_13 x_45 b_78, own e8 v_73 x_72, twE e8 v_16 x_59 b_118, own e8 v_113 x_112, own eV v_139 ([SV.of v_70, SV.of v_110] : List SV), own eV v_143 ([SV.of v_73, SV.of v_113] : List SV)]) (F.law30_CborSpares_K2 x_145) ?_ ?_
           ·rintro x_158 L w hJ h
            try dsimp only at hJ
            obtain ⟨rfl, hS⟩ := hJ
            unfold F.law30_CborSpares_K2 at h
            refine wpC_cond rfl (fun hb_160 => ?_) (fun hb_160 => ?_)
            ·have h := if_t h hb_160
             refine wpC_seq (wpC_region (wpR_v (OpV_assign rfl) rfl (wpR_nil (QE_then_n (wpC_ret (QE_blk_r ?_))))))
             refine QE_then_r (QE_then_r ?_)
             have h := oinr_some h hk_146
             refine QE_blk_r ?_
             refine QE_then_r (QE_blk_r ?_)
             refine QE_then_r (QE_then_r (QE_blk_r ?_))
             refine QE_then_r ?_
             cases h
             exact QE_ret1 rfl rfl ⟨rfl, hS.pick [] (by decide) rfl⟩
            ·have h := if_f h hb_160
             refine wpC_skip (QE_blk_n ?_)
             refine QE_then_n (wpC_region (wpR_v (OpV_move rfl) rfl (wpR_v (OpV_bin rfl rfl (b_iadd _ x_145 1)) rfl ?_)))
             refine wpR_v (OpV_assign rfl) rfl (wpR_nil ?_)
             exact QE_rnd (wpN_le _ (by exact ⟨rfl, rfl, rfl, rfl, rfl, rfl, rfl, rfl, rfl, rfl, rfl, rfl, trivial⟩) (ih_147 (wI (x_145 + 1)) _ _ ⟨rfl, hS⟩ (oinl_some h hk_146)))
           ·intro hK_159
            refine wpC_region (wpR_v (OpV_move rfl) rfl (wpR_v (OpV_move rfl) rfl (wpR_v (OpV_move rfl) rfl (wpR_v (G_ix Tryd.underlying44 ti22 rfl rfl (hS.ro 3 rfl) (show getO ([SV.of v_7, SV.of v_10] : List SV) (0 : Int) = some (SV.of v_7) from rfl)) rfl ?_))))
            refine wpR_v (G_load Tryd.underlying22 rfl rfl (hS.ro 3 rfl) (show getO ([SV.of v_7, SV.of v_10] : List SV) (0 : Int) = some (SV.of v_7) from rfl) (eVc (hS.twro hA_77 5 4 rfl rfl).sv)) rfl ?_
            refine wpR_v (OpV_len Tryd.underlying22 rfl (hS.twro hA_77 5 4 rfl rfl)) rfl ?_
            refine wpR_v (OpV_bin rfl rfl (b_ilss _ x_145 (x_38.length : Int))) rfl ?_
            refine wpR_v (OpV_move rfl) rfl ?_
            cases hb_149 : (decide (x_145 < (x_38.length : Int)))
            case true =>
             have h := if_t h hb_149
             try simp only [hb_149]
             refine wpR_gv (t := 187) rfl rfl (OpV_move rfl) rfl ?_
             refine wpR_gv (t := 187) rfl rfl (OpV_move rfl) rfl ?_
             refine wpR_gv (t := 187) rfl rfl (G_ix Tryd.underlying44 ti22 rfl rfl (hS.ro 3 rfl) (show getO ([SV.of v_7, SV.of v_10] : List SV) (0 : Int) = some (SV.of v_7) from rfl)) rfl ?_
             refine wpR_gv (t := 187) rfl rfl (G_load Tryd.underlying22 rfl rfl (hS.ro 3 rfl) (show getO ([SV.of v_7, SV.of v_10] : List SV) (0 : Int) = some (SV.of v_7) from rfl) (eVc (hS.twro hA_77 5 4 rfl rfl).sv)) rfl ?_
             refine wpR_gv (t := 187) rfl rfl (OpV_move rfl) rfl ?_
             obtain ⟨x_150, hx_150, h⟩ := obind_some h
             refine wpR_gv (t := 187) rfl rfl (G_ix Tryd.underlying22 ti33 rfl rfl (hS.twro hA_77 5 4 rfl rfl) hx_150) rfl ?_
             refine wpR_gv (t := 187) rfl rfl (OpV_fieldE (k := 0) Tryd.underlying33 rfl rfl nz3 rfl) rfl ?_
             refine wpR_gv (t := 187) rfl rfl (G_loadF Tryd.underlying3 rfl rfl (hS.twro hA_77 5 4 rfl rfl) hx_150 rfl rfl) rfl ?_
             refine wpR_gv (t := 187) rfl rfl (OpV_move rfl) rfl ?_
             refine wpR_gv (t := 187) rfl rfl (OpV_bin rfl rfl (b_iadd _ 1000 0)) rfl ?_
             refine wpR_gv (t := 187) rfl rfl (OpV_bin rfl rfl (b_ineq _ x_150.1 1000)) rfl ?_
             refine wpR_gv (t := 187) rfl rfl (OpV_move rfl) rfl ?_
             cases hb_151 : (x_150.1 != 1000)
             case true =>
              have h := if_t h hb_151
              try simp only [hb_151]
              refine wpR_gskip (b := true) (t := 199) rfl rfl rfl rfl ?_
              refine wpR_gskip (b := true) (t := 199) rfl rfl rfl rfl ?_
              refine wpR_gskip (b := true) (t := 199) rfl rfl rfl rfl ?_
              refine wpR_gskip (b := true) (t := 199) rfl rfl rfl rfl ?_
              refine wpR_gskip (b := true) (t := 199) rfl rfl rfl rfl ?_
              refine wpR_gskip (b := true) (t := 199) rfl rfl rfl rfl ?_
              refine wpR_gskip (b := true) (t := 199) rfl rfl rfl rfl ?_
              refine wpR_gskip (b := true) (t := 199) rfl rfl rfl rfl ?_
              refine wpR_gskip (b := true) (t := 199) rfl rfl rfl rfl ?_
              refine wpR_gskip (b := true) (t := 199) rfl rfl rfl rfl ?_
              refine wpR_gskip (b := true) (t := 199) rfl rfl rfl rfl ?_
              refine wpR_gv (t := 187) rfl rfl (OpV_pickT rfl rfl) rfl ?_
              refine wpR_v (OpV_pickT rfl rfl) rfl (wpR_v (OpV_move rfl) rfl (wpR_gskip (b := true) (t := 213) rfl rfl rfl rfl ?_))
              refine wpR_gskip (b := true) (t := 213) rfl rfl rfl rfl ?_
              refine wpR_gskip (b := true) (t := 213) rfl rfl rfl rfl ?_
              refine wpR_gskip (b := true) (t := 213) rfl rfl rfl rfl ?_
              refine wpR_gskip (b := true) (t := 213) rfl rfl rfl rfl ?_
              refine wpR_gskip (b := true) (t := 213) rfl rfl rfl rfl ?_
              refine wpR_gskip (b := true) (t := 213) rfl rfl rfl rfl ?_
              refine wpR_gskip (b := true) (t := 213) rfl rfl rfl rfl ?_
              refine wpR_gskipU (t := 221) rfl rfl rfl ?_
              refine wpR_gskipU (t := 221) rfl rfl rfl ?_
              refine wpR_gskipU (t := 221) rfl rfl rfl ?_
              refine wpR_gskipU (t := 221) rfl rfl rfl ?_
              refine wpR_gskipU (t := 221) rfl rfl rfl ?_
              refine wpR_gskipU (t := 221) rfl rfl rfl ?_
              refine wpR_gskipU (t := 221) rfl rfl rfl ?_
              refine wpR_gskipU (t := 221) rfl rfl rfl ?_
              refine wpR_gskipU (t := 221) rfl rfl rfl ?_
              refine wpR_gskipU (t := 221) rfl rfl rfl ?_
              refine wpR_gskipU (t := 221) rfl rfl rfl ?_
              refine wpR_gskip (b := true) (t := 213) rfl rfl rfl rfl ?_
              refine wpR_v (OpV_pickT rfl rfl) rfl (wpR_nil (QE_then_n ?_))
              exact wpC_le _ (by exact ⟨rfl, rfl, rfl, rfl, rfl, rfl, rfl, rfl, rfl, rfl, rfl, rfl, rfl, trivial⟩) (hK_159 true _ _ ⟨rfl, hS⟩ h)
             case false =>
              have h := if_f h hb_151
              try simp only [hb_151]
              refine wpR_gv (t := 199) rfl rfl (OpV_move rfl) rfl ?_
              refine wpR_gv (t := 199) rfl rfl (OpV_move rfl) rfl ?_
              refine wpR_gv (t := 199) rfl rfl (G_ix Tryd.underlying44 ti22 rfl rfl (hS.ro 13 rfl) (show getO ([SV.of v_70, SV.of v_110] : List SV) (0 : Int) = some (SV.of v_70) from rfl)) rfl ?_
              refine wpR_gv (t := 199) rfl rfl (G_load Tryd.underlying22 rfl rfl (hS.ro 13 rfl) (show getO ([SV.of v_70, SV.of v_110] : List SV) (0 : Int) = some (SV.of v_70) from rfl) (eVc (hS.ro 5 rfl).sv)) rfl ?_
              refine wpR_gv (t := 199) rfl rfl (OpV_move rfl) rfl ?_
              obtain ⟨x_152, hx_152, h⟩ := obind_some h
              refine wpR_gv (t := 199) rfl rfl (G_ix Tryd.underlying22 ti33 rfl rfl (hS.ro 5 rfl) hx_152) rfl ?_
              refine wpR_gv (t := 199) rfl rfl (OpV_fieldE (k := 0) Tryd.underlying33 rfl rfl nz3 rfl) rfl ?_
              refine wpR_gv (t := 199) rfl rfl (G_loadF Tryd.underlying3 rfl rfl (hS.ro 5 rfl) hx_152 rfl rfl) rfl ?_
              refine wpR_gv (t := 199) rfl rfl (OpV_move rfl) rfl ?_
              refine wpR_gv (t := 199) rfl rfl (OpV_bin rfl rfl (b_iadd _ 1000 0)) rfl ?_
              refine wpR_gv (t := 199) rfl rfl (OpV_bin rfl rfl (b_ineq _ x_152.1 1000)) rfl ?_
              refine wpR_gv (t := 187) rfl rfl (OpV_pickF rfl rfl) rfl ?_
              refine wpR_v (OpV_pickT rfl rfl) rfl (wpR_v (OpV_move rfl) rfl ?_)
              cases hb_153 : (x_152.1 != 1000)
              case true =>
               have h := if_t h hb_153
               try simp only [hb_153]
               refine wpR_gskip (b := true) (t := 213) rfl rfl rfl rfl ?_
               refine wpR_gskip (b := true) (t := 213) rfl rfl rfl rfl ?_
               refine wpR_gskip (b := true) (t := 213) rfl rfl rfl rfl ?_
               refine wpR_gskip (b := true) (t := 213) rfl rfl rfl rfl ?_
               refine wpR_gskip (b := true) (t := 213) rfl rfl rfl rfl ?_
               refine wpR_gskip (b := true) (t := 213) rfl rfl rfl rfl ?_
               refine wpR_gskip (b := true) (t := 213) rfl rfl rfl rfl ?_
               refine wpR_gskip (b := true) (t := 213) rfl rfl rfl rfl ?_
               refine wpR_gskipU (t := 221) rfl rfl rfl ?_
               refine wpR_gskipU (t := 221) rfl rfl rfl ?_
               refine wpR_gskipU (t := 221) rfl rfl rfl ?_
               refine wpR_gskipU (t := 221) rfl rfl rfl ?_
               refine wpR_gskipU (t := 221) rfl rfl rfl ?_
               refine wpR_gskipU (t := 221) rfl rfl rfl ?_
               refine wpR_gskipU (t := 221) rfl rfl rfl ?_
               refine wpR_gskipU (t := 221) rfl rfl rfl ?_
               refine wpR_gskipU (t := 221) rfl rfl rfl ?_
               refine wpR_gskipU (t := 221) rfl rfl rfl ?_
               refine wpR_gskipU (t := 221) rfl rfl rfl ?_
               refine wpR_gskip (b := true) (t := 213) rfl rfl rfl rfl ?_
               refine wpR_v (OpV_pickT rfl rfl) rfl (wpR_nil (QE_then_n ?_))
               exact wpC_le _ (by exact ⟨rfl, rfl, rfl, rfl, rfl, rfl, rfl, rfl, rfl, rfl, rfl, rfl, rfl, trivial⟩) (hK_159 true _ _ ⟨rfl, hS⟩ h)
              case false =>
               have h := if_f h hb_153
               try simp only [hb_153]
               refine wpR_gv (t := 213) rfl rfl (OpV_move rfl) rfl ?_
               refine wpR_gv (t := 213) rfl rfl (OpV_move rfl) rfl ?_
               refine wpR_gv (t := 213) rfl rfl (OpV_move rfl) rfl ?_
               refine wpR_gv (t := 213) rfl rfl (G_ix Tryd.underlying44 ti22 rfl rfl (hS.ro 3 rfl) (show getO ([SV.of v_7, SV.of v_10] : List SV) (0 : Int) = some (SV.of v_7) from rfl)) rfl ?_
               refine wpR_gv (t := 213) rfl rfl (G_load Tryd.underlying22 rfl rfl (hS.ro 3 rfl) (show getO ([SV.of v_7, SV.of v_10] : List SV) (0 : Int) = some (SV.of v_7) from rfl) (eVc (hS.twro hA_77 5 4 rfl rfl).sv)) rfl ?_
               refine wpR_gv (t := 213) rfl rfl (OpV_len Tryd.underlying22 rfl (hS.twro hA_77 5 4 rfl rfl)) rfl ?_
               refine wpR_gv (t := 213) rfl rfl (OpV_bin rfl rfl (b_igeq _ x_145 (x_38.length : Int))) rfl ?_
               refine wpR_gv (t := 213) rfl rfl (OpV_move rfl) rfl ?_
               cases hb_154 : (decide ((x_38.length : Int) ≤ x_145))
               case true =>
                have h := if_t h hb_154
                try simp only [hb_154]
                refine wpR_gv (t := 221) rfl rfl (OpV_move rfl) rfl ?_
                refine wpR_gv (t := 221) rfl rfl (OpV_move rfl) rfl ?_
                refine wpR_gv (t := 221) rfl rfl (G_ix Tryd.underlying44 ti22 rfl rfl (hS.ro 13 rfl) (show getO ([SV.of v_70, SV.of v_110] : List SV) (0 : Int) = some (SV.of v_70) from rfl)) rfl ?_
                refine wpR_gv (t := 221) rfl rfl (G_load Tryd.underlying22 rfl rfl (hS.ro 13 rfl) (show getO ([SV.of v_70, SV.of v_110] : List SV) (0 : Int) = some (SV.of v_70) from rfl) (eVc (hS.ro 5 rfl).sv)) rfl ?_
                refine wpR_gv (t := 221) rfl rfl (OpV_move rfl) rfl ?_
                obtain ⟨x_155, hx_155, h⟩ := obind_some h
                refine wpR_gv (t := 221) rfl rfl (G_ix Tryd.underlying22 ti33 rfl rfl (hS.ro 5 rfl) hx_155) rfl ?_
                refine wpR_gv (t := 221) rfl rfl (OpV_fieldE (k := 0) Tryd.underlying33 rfl rfl nz3 rfl) rfl ?_
                refine wpR_gv (t := 221) rfl rfl (G_loadF Tryd.underlying3 rfl rfl (hS.ro 5 rfl) hx_155 rfl rfl) rfl ?_
                refine wpR_gv (t := 221) rfl rfl (OpV_move rfl) rfl ?_
                refine wpR_gv (t := 221) rfl rfl (OpV_bin rfl rfl (b_iadd _ 5000 0)) rfl ?_
                refine wpR_gv (t := 221) rfl rfl (OpV_bin rfl rfl (b_ineq _ x_155.1 5000)) rfl ?_
                refine wpR_gv (t := 213) rfl rfl (OpV_pickT rfl rfl) rfl ?_
                refine wpR_v (OpV_pickF rfl rfl) rfl (wpR_nil (QE_then_n ?_))
                exact wpC_le _ (by exact ⟨rfl, rfl, rfl, rfl, rfl, rfl, rfl, rfl, rfl, rfl, rfl, rfl, rfl, trivial⟩) (hK_159 (x_155.1 != 5000) _ _ ⟨rfl, hS⟩ h)
               case false =>
                have h := if_f h hb_154
                try simp only [hb_154]
                refine wpR_gskip (b := false) (t := 221) rfl rfl rfl rfl ?_
                refine wpR_gskip (b := false) (t := 221) rfl rfl rfl rfl ?_
                refine wpR_gskip (b := false) (t := 221) rfl rfl rfl rfl ?_
                refine wpR_gskip (b := false) (t := 221) rfl rfl rfl rfl ?_
                refine wpR_gskip (b := false) (t := 221) rfl rfl rfl rfl ?_
                refine wpR_gskip (b := false) (t := 221) rfl rfl rfl rfl ?_
                refine wpR_gskip (b := false) (t := 221) rfl rfl rfl rfl ?_
                refine wpR_gskip (b := false) (t := 221) rfl rfl rfl rfl ?_
                refine wpR_gskip (b := false) (t := 221) rfl rfl rfl rfl ?_
                refine wpR_gskip (b := false) (t := 221) rfl rfl rfl rfl ?_
                refine wpR_gskip (b := false) (t := 221) rfl rfl rfl rfl ?_
                refine wpR_gv (t := 213) rfl rfl (OpV_pickF rfl rfl) rfl ?_
                refine wpR_v (OpV_pickF rfl rfl) rfl (wpR_nil (QE_then_n ?_))
                exact wpC_le _ (by exact ⟨rfl, rfl, rfl, rfl, rfl, rfl, rfl, rfl, rfl, rfl, rfl, rfl, rfl, trivial⟩) (hK_159 false _ _ ⟨rfl, hS⟩ h)
            case false =>
             have h := if_f h hb_149
             try simp only [hb_149]
             refine wpR_gskip (b := false) (t := 187) rfl rfl rfl rfl ?_
             refine wpR_gskip (b := false) (t := 187) rfl rfl rfl rfl ?_
             refine wpR_gskip (b := false) (t := 187) rfl rfl rfl rfl ?_
             refine wpR_gskip (b := false) (t := 187) rfl rfl rfl rfl ?_
             refine wpR_gskip (b := false) (t := 187) rfl rfl rfl rfl ?_
             refine wpR_gskip (b := false) (t := 187) rfl rfl rfl rfl ?_
             refine wpR_gskip (b := false) (t := 187) rfl rfl rfl rfl ?_
             refine wpR_gskip (b := false) (t := 187) rfl rfl rfl rfl ?_
             refine wpR_gskip (b := false) (t := 187) rfl rfl rfl rfl ?_
             refine wpR_gskip (b := false) (t := 187) rfl rfl rfl rfl ?_
             refine wpR_gskip (b := false) (t := 187) rfl rfl rfl rfl ?_
             refine wpR_gskip (b := false) (t := 187) rfl rfl rfl rfl ?_
             refine wpR_gskipU (t := 199) rfl rfl rfl ?_
             refine wpR_gskipU (t := 199) rfl rfl rfl ?_
             refine wpR_gskipU (t := 199) rfl rfl rfl ?_
             refine wpR_gskipU (t := 199) rfl rfl rfl ?_
             refine wpR_gskipU (t := 199) rfl rfl rfl ?_
             refine wpR_gskipU (t := 199) rfl rfl rfl ?_
             refine wpR_gskipU (t := 199) rfl rfl rfl ?_
             refine wpR_gskipU (t := 199) rfl rfl rfl ?_
             refine wpR_gskipU (t := 199) rfl rfl rfl ?_
             refine wpR_gskipU (t := 199) rfl rfl rfl ?_
             refine wpR_gskipU (t := 199) rfl rfl rfl ?_
             refine wpR_gskip (b := false) (t := 187) rfl rfl rfl rfl ?_
             refine wpR_v (OpV_pickF rfl rfl) rfl (wpR_v (OpV_move rfl) rfl (wpR_gv (t := 213) rfl rfl (OpV_move rfl) rfl ?_))
             refine wpR_gv (t := 213) rfl rfl (OpV_move rfl) rfl ?_
             refine wpR_gv (t := 213) rfl rfl (OpV_move rfl) rfl ?_
             refine wpR_gv (t := 213) rfl rfl (G_ix Tryd.underlying44 ti22 rfl rfl (hS.ro 3 rfl) (show getO ([SV.of v_7, SV.of v_10] : List SV) (0 : Int) = some (SV.of v_7) from rfl)) rfl ?_
             refine wpR_gv (t := 213) rfl rfl (G_load Tryd.underlying22 rfl rfl (hS.ro 3 rfl) (show getO ([SV.of v_7, SV.of v_10] : List SV) (0 : Int) = some (SV.of v_7) from rfl) (eVc (hS.twro hA_77 5 4 rfl rfl).sv)) rfl ?_
             refine wpR_gv (t := 213) rfl rfl (OpV_len Tryd.underlying22 rfl (hS.twro hA_77 5 4 rfl rfl)) rfl ?_
             refine wpR_gv (t := 213) rfl rfl (OpV_bin rfl rfl (b_igeq _ x_145 (x_38.length : Int))) rfl ?_
             refine wpR_gv (t := 213) rfl rfl (OpV_move rfl) rfl ?_
             cases hb_156 : (decide ((x_38.length : Int) ≤ x_145))
             case true =>
              have h := if_t h hb_156
              try simp only [hb_156]
              refine wpR_gv (t := 221) rfl rfl (OpV_move rfl) rfl ?_
              refine wpR_gv (t := 221) rfl rfl (OpV_move rfl) rfl ?_
              refine wpR_gv (t := 221) rfl rfl (G_ix Tryd.underlying44 ti22 rfl rfl (hS.ro 13 rfl) (show getO ([SV.of v_70, SV.of v_110] : List SV) (0 : Int) = some (SV.of v_70) from rfl)) rfl ?_
              refine wpR_gv (t := 221) rfl rfl (G_load Tryd.underlying22 rfl rfl (hS.ro 13 rfl) (show getO ([SV.of v_70, SV.of v_110] : List SV) (0 : Int) = some (SV.of v_70) from rfl) (eVc (hS.ro 5 rfl).sv)) rfl ?_
              refine wpR_gv (t := 221) rfl rfl (OpV_move rfl) rfl ?_
              obtain ⟨x_157, hx_157, h⟩ := obind_some h
              refine wpR_gv (t := 221) rfl rfl (G_ix Tryd.underlying22 ti33 rfl rfl (hS.ro 5 rfl) hx_157) rfl ?_
              refine wpR_gv (t := 221) rfl rfl (OpV_fieldE (k := 0) Tryd.underlying33 rfl rfl nz3 rfl) rfl ?_
              refine wpR_gv (t := 221) rfl rfl (G_loadF Tryd.underlying3 rfl rfl (hS.ro 5 rfl) hx_157 rfl rfl) rfl ?_
              refine wpR_gv (t := 221) rfl rfl (OpV_move rfl) rfl ?_
              refine wpR_gv (t := 221) rfl rfl (OpV_bin rfl rfl (b_iadd _ 5000 0)) rfl ?_
              refine wpR_gv (t := 221) rfl rfl (OpV_bin rfl rfl (b_ineq _ x_157.1 5000)) rfl ?_
              refine wpR_gv (t := 213) rfl rfl (OpV_pickT rfl rfl) rfl ?_
              refine wpR_v (OpV_pickF rfl rfl) rfl (wpR_nil (QE_then_n ?_))
              exact wpC_le _ (by exact ⟨rfl, rfl, rfl, rfl, rfl, rfl, rfl, rfl, rfl, rfl, rfl, rfl, rfl, trivial⟩) (hK_159 (x_157.1 != 5000) _ _ ⟨rfl, hS⟩ h)
             case false =>
              have h := if_f h hb_156
              try simp only [hb_156]
              refine wpR_gskip (b := false) (t := 221) rfl rfl rfl rfl ?_
              refine wpR_gskip (b := false) (t := 221) rfl rfl rfl rfl ?_
              refine wpR_gskip (b := false) (t := 221) rfl rfl rfl rfl ?_
              refine wpR_gskip (b := false) (t := 221) rfl rfl rfl rfl ?_
              refine wpR_gskip (b := false) (t := 221) rfl rfl rfl rfl ?_
              refine wpR_gskip (b := false) (t := 221) rfl rfl rfl rfl ?_
              refine wpR_gskip (b := false) (t := 221) rfl rfl rfl rfl ?_
              refine wpR_gskip (b := false) (t := 221) rfl rfl rfl rfl ?_
              refine wpR_gskip (b := false) (t := 221) rfl rfl rfl rfl ?_
              refine wpR_gskip (b := false) (t := 221) rfl rfl rfl rfl ?_
              refine wpR_gskip (b := false) (t := 221) rfl rfl rfl rfl ?_
              refine wpR_gv (t := 213) rfl rfl (OpV_pickF rfl rfl) rfl ?_
              refine wpR_v (OpV_pickF rfl rfl) rfl (wpR_nil (QE_then_n ?_))
              exact wpC_le _ (by exact ⟨rfl, rfl, rfl, rfl, rfl, rfl, rfl, rfl, rfl, rfl, rfl, rfl, rfl, trivial⟩) (hK_159 false _ _ ⟨rfl, hS⟩ h)
          ·have h := if_f h hb_230
           refine wpC_exit ?_
           refine QE_then_x (QE_then_x ?_)
           have h := oinr_some h hk_146
           refine QE_blk_x ?_
           refine QE_then_n (wpC_seq (wpC_region (wpR_v (OpV_assign rfl) rfl (wpR_nil (QE_then_n (wpC_block ?_))))))
           refine wpC_le [(0, va0), (3, slV v_3 e8.sz 0 x_2.2), (5, vI x_6.2.1), (11, vI x_12.2), (14, slV v_26 (eP eI (eP e64 (eP eS eI))).sz 0 x_25.2), (15, slV v_30 e8.sz 0 x_29.2), (16, v_33), (17, v_35), (21, v_139), (22, v_143), (27, vI 0), (29, vI 0)] ⟨rfl, rfl, rfl, rfl, rfl, rfl, rfl, rfl, rfl, rfl, rfl, rfl, trivial⟩ ?_
           refine loop_ind (F.law30_CborSpares_L8 x_45 x_72 x_52 x_109 a0 x_2 x_6 x_25 x_59 x_112 x_12 x_29) (fun (s : Int) L w => L = [(0, va0), (3, slV v_3 e8.sz 0 x_2.2), (5, vI x_6.2.1), (11, vI x_12.2), (14, slV v_26 (eP eI (eP e64 (eP eS eI))).sz 0 x_25.2), (15, slV v_30 e8.sz 0 x_29.2), (16, v_33), (17, v_35), (21, v_139), (22, v_143), (27, vI 0), (29, vI s)] ∧ St [] w0 w [own e8 v_3 x_2.1, own (eP eI (eP e64 (eP eS eI))) v_26 x_25.1, own e8 v_30 x_29.1, own eV v_33 ([SV.of v_7, SV.of v_10] : List SV), twE (eP eI (eP e64 (eP eS eI))) v_7 x_38 b_76, own (eP eI (eP e64 (eP eS eI))) v_70 x_69, twE (eP eI (eP e64 (eP eS eI))) v_10 x_52 b_116, own (eP eI (eP e64 (eP eS eI))) v_110 x_109, own eV v_35 ([SV.of v_13, SV.of v_16] : List SV), twE e8 v_13 x_45 b_78, own e8 v_73 x_72, twE e8 v_16 x_59 b_118, own e8 v_113 x_112, own eV v_139 ([SV.of v_70, SV.of v_110] : List SV), own eV v_143 ([SV.of v_73, SV.of v_113] : List SV)]) ?_ 0 ⟨rfl, hS⟩ h
           rintro k_229 x_161 L w q_164 hI ih_163 h hk_162
           try dsimp only at hI
           obtain ⟨rfl, hS⟩ := hI
           unfold F.law30_CborSpares_L8 at h
           refine wpC_seq (wpC_seq (wpC_region (wpR_v (OpV_move rfl) rfl (wpR_v (OpV_move rfl) rfl (wpR_v (OpV_move rfl) rfl (wpR_v (G_ix Tryd.underlying51 ti25 rfl rfl (hS.ro 14 rfl) (show getO ([SV.of v_73, SV.of v_113] : List SV) (0 : Int) = some (SV.of v_73) from rfl)) rfl ?_))))))
           refine wpR_v (G_load Tryd.underlying25 rfl rfl (hS.ro 14 rfl) (show getO ([SV.of v_73, SV.of v_113] : List SV) (0 : Int) = some (SV.of v_73) from rfl) (eVc (hS.ro 10 rfl).sv)) rfl ?_
           refine wpR_v (OpV_len Tryd.underlying25 rfl (hS.ro 10 rfl)) rfl ?_
           refine wpR_v (OpV_bin rfl rfl (b_ilss _ x_161 (x_72.length : Int))) rfl ?_
           refine wpR_nil (QE_then_n ?_)
           refine wpC_cond rfl (fun hb_228 => ?_) (fun hb_228 => ?_)
           ·have h := if_t h hb_228
            refine wpC_skip (QE_then_n (wpC_seq (wpC_block ?_)))
            refine seq_join (r := q_164) (fun (g : Bool) L w => L = [(0, va0), (3, slV v_3 e8.sz 0 x_2.2), (5, vI x_6.2.1), (11, vI x_12.2), (14, slV v_26 (eP eI (eP e64 (eP eS eI))).sz 0 x_25.2), (15, slV v_30 e8.sz 0 x_29.2), (16, v_33), (17, v_35), (21, v_139), (22, v_143), (27, vI 0), (29, vI x_161), (298, vB g)] ∧ St [] w0 w [own e8 v_3 x_2.1, own (eP eI (eP e64 (eP eS eI))) v_26 x_25.1, own e8 v_30 x_29.1, own eV v_33 ([SV.of v_7, SV.of v_10] : List SV), twE (eP eI (eP e64 (eP eS eI))) v_7 x_38 b_76, own (eP eI (eP e64 (eP eS eI))) v_70 x_69, twE (eP eI (eP e64 (eP eS eI))) v_10 x_52 b_116, own (eP eI (eP e64 (eP eS eI))) v_110 x_109, own eV v_35 ([SV.of v_13, SV.of v_16] : List SV), twE e8 v_13 x_45 b_78, own e8 v_73 x_72, twE e8 v_16 x_59 b_118, own e8 v_113 x_112, own eV v_139 ([SV.of v_70, SV.of v_110] : List SV), own eV v_143 ([SV.of v_73, SV.of v_113] : List SV)]) (F.law30_CborSpares_K3 x_161) ?_ ?_
            ·rintro x_174 L w hJ h
             try dsimp only at hJ
             obtain ⟨rfl, hS⟩ := hJ
             unfold F.law30_CborSpares_K3 at h
             refine wpC_cond rfl (fun hb_176 => ?_) (fun hb_176 => ?_)
             ·have h := if_t h hb_176
              refine wpC_seq (wpC_region (wpR_v (OpV_assign rfl) rfl (wpR_nil (QE_then_n (wpC_ret (QE_blk_r ?_))))))
              refine QE_then_r (QE_then_r ?_)
              have h := oinr_some h hk_162
              refine QE_blk_r ?_
              refine QE_blk_r ?_
              refine QE_then_r (QE_then_r (QE_blk_r ?_))
              refine QE_then_r ?_
              cases h
              exact QE_ret1 rfl rfl ⟨rfl, hS.pick [] (by decide) rfl⟩
             ·have h := if_f h hb_176
              refine wpC_skip (QE_blk_n ?_)
              refine QE_then_n (wpC_region (wpR_v (OpV_move rfl) rfl (wpR_v (OpV_bin rfl rfl (b_iadd _ x_161 1)) rfl ?_)))
              refine wpR_v (OpV_assign rfl) rfl (wpR_nil ?_)
              exact QE_rnd (wpN_le _ (by exact ⟨rfl, rfl, rfl, rfl, rfl, rfl, rfl, rfl, rfl, rfl, rfl, rfl, trivial⟩) (ih_163 (wI (x_161 + 1)) _ _ ⟨rfl, hS⟩ (oinl_some h hk_162)))
            ·intro hK_175
             refine wpC_region (wpR_v (OpV_move rfl) rfl (wpR_v (OpV_move rfl) rfl (wpR_v (OpV_move rfl) rfl (wpR_v (G_ix Tryd.underlying51 ti25 rfl rfl (hS.ro 8 rfl) (show getO ([SV.of v_13, SV.of v_16] : List SV) (0 : Int) = some (SV.of v_13) from rfl)) rfl ?_))))
             refine wpR_v (G_load Tryd.underlying25 rfl rfl (hS.ro 8 rfl) (show getO ([SV.of v_13, SV.of v_16] : List SV) (0 : Int) = some (SV.of v_13) from rfl) (eVc (hS.twro hA_79 10 9 rfl rfl).sv)) rfl ?_
             refine wpR_v (OpV_len Tryd.underlying25 rfl (hS.twro hA_79 10 9 rfl rfl)) rfl ?_
             refine wpR_v (OpV_bin rfl rfl (b_ilss _ x_161 (x_45.length : Int))) rfl ?_
             refine wpR_v (OpV_move rfl) rfl ?_
             cases hb_165 : (decide (x_161 < (x_45.length : Int)))
             case true =>
              have h := if_t h hb_165
              try simp only [hb_165]
              refine wpR_gv (t := 251) rfl rfl (OpV_move rfl) rfl ?_
              refine wpR_gv (t := 251) rfl rfl (OpV_move rfl) rfl ?_
              refine wpR_gv (t := 251) rfl rfl (G_ix Tryd.underlying51 ti25 rfl rfl (hS.ro 8 rfl) (show getO ([SV.of v_13, SV.of v_16] : List SV) (0 : Int) = some (SV.of v_13) from rfl)) rfl ?_
              refine wpR_gv (t := 251) rfl rfl (G_load Tryd.underlying25 rfl rfl (hS.ro 8 rfl) (show getO ([SV.of v_13, SV.of v_16] : List SV) (0 : Int) = some (SV.of v_13) from rfl) (eVc (hS.twro hA_79 10 9 rfl rfl).sv)) rfl ?_
              refine wpR_gv (t := 251) rfl rfl (OpV_move rfl) rfl ?_
              obtain ⟨x_166, hx_166, h⟩ := obind_some h
              refine wpR_gv (t := 251) rfl rfl (G_ix Tryd.underlying25 ti5 rfl rfl (hS.twro hA_79 10 9 rfl rfl) hx_166) rfl ?_
              refine wpR_gv (t := 251) rfl rfl (G_load Tryd.underlying5 rfl rfl (hS.twro hA_79 10 9 rfl rfl) hx_166 rfl) rfl ?_
              refine wpR_gv (t := 251) rfl rfl (OpV_move rfl) rfl ?_
              refine wpR_gv (t := 251) rfl rfl (OpV_bin rfl rfl (b_iadd _ 70 0)) rfl ?_
              refine wpR_gv (t := 251) rfl rfl (OpV_conv rfl (cv_i_8 Tryd.underlying3 Tryd.underlying5 70)) rfl ?_
              refine wpR_gv (t := 251) rfl rfl (OpV_bin rfl rfl (b_neq8 _ x_166 (UInt8.ofInt 70))) rfl ?_
              refine wpR_gv (t := 251) rfl rfl (OpV_move rfl) rfl ?_
              cases hb_167 : (x_166 != (UInt8.ofInt 70))
              case true =>
               have h := if_t h hb_167
               try simp only [hb_167]
               refine wpR_gskip (b := true) (t := 263) rfl rfl rfl rfl ?_
               refine wpR_gskip (b := true) (t := 263) rfl rfl rfl rfl ?_
               refine wpR_gskip (b := true) (t := 263) rfl rfl rfl rfl ?_
               refine wpR_gskip (b := true) (t := 263) rfl rfl rfl rfl ?_
               refine wpR_gskip (b := true) (t := 263) rfl rfl rfl rfl ?_
               refine wpR_gskip (b := true) (t := 263) rfl rfl rfl rfl ?_
               refine wpR_gskip (b := true) (t := 263) rfl rfl rfl rfl ?_
               refine wpR_gskip (b := true) (t := 263) rfl rfl rfl rfl ?_
               refine wpR_gskip (b := true) (t := 263) rfl rfl rfl rfl ?_
               refine wpR_gskip (b := true) (t := 263) rfl rfl rfl rfl ?_
               refine wpR_gskip (b := true) (t := 263) rfl rfl rfl rfl ?_
               refine wpR_gv (t := 251) rfl rfl (OpV_pickT rfl rfl) rfl ?_
               refine wpR_v (OpV_pickT rfl rfl) rfl (wpR_v (OpV_move rfl) rfl (wpR_gskip (b := true) (t := 277) rfl rfl rfl rfl ?_))
               refine wpR_gskip (b := true) (t := 277) rfl rfl rfl rfl ?_
               refine wpR_gskip (b := true) (t := 277) rfl rfl rfl rfl ?_
               refine wpR_gskip (b := true) (t := 277) rfl rfl rfl rfl ?_
               refine wpR_gskip (b := true) (t := 277) rfl rfl rfl rfl ?_
               refine wpR_gskip (b := true) (t := 277) rfl rfl rfl rfl ?_
               refine wpR_gskip (b := true) (t := 277) rfl rfl rfl rfl ?_
               refine wpR_gskip (b := true) (t := 277) rfl rfl rfl rfl ?_
               refine wpR_gskipU (t := 285) rfl rfl rfl ?_
               refine wpR_gskipU (t := 285) rfl rfl rfl ?_
               refine wpR_gskipU (t := 285) rfl rfl rfl ?_
               refine wpR_gskipU (t := 285) rfl rfl rfl ?_
               refine wpR_gskipU (t := 285) rfl rfl rfl ?_
               refine wpR_gskipU (t := 285) rfl rfl rfl ?_
               refine wpR_gskipU (t := 285) rfl rfl rfl ?_
               refine wpR_gskipU (t := 285) rfl rfl rfl ?_
               refine wpR_gskipU (t := 285) rfl rfl rfl ?_
               refine wpR_gskipU (t := 285) rfl rfl rfl ?_
               refine wpR_gskipU (t := 285) rfl rfl rfl ?_
               refine wpR_gskip (b := true) (t := 277) rfl rfl rfl rfl ?_
               refine wpR_v (OpV_pickT rfl rfl) rfl (wpR_nil (QE_then_n ?_))
               exact wpC_le _ (by exact ⟨rfl, rfl, rfl, rfl, rfl, rfl, rfl, rfl, rfl, rfl, rfl, rfl, rfl, trivial⟩) (hK_175 true _ _ ⟨rfl, hS⟩ h)
              case false =>
               have h := if_f h hb_167
               try simp only [hb_167]
               refine wpR_gv (t := 263) rfl rfl (OpV_move rfl) rfl ?_
               refine wpR_gv (t := 263) rfl rfl (OpV_move rfl) rfl ?_
               refine wpR_gv (t := 263) rfl rfl (G_ix Tryd.underlying51 ti25 rfl rfl (hS.ro 14 rfl) (show getO ([SV.of v_73, SV.of v_113] : List SV) (0 : Int) = some (SV.of v_73) from rfl)) rfl ?_
               refine wpR_gv (t := 263) rfl rfl (G_load Tryd.underlying25 rfl rfl (hS.ro 14 rfl) (show getO ([SV.of v_73, SV.of v_113] : List SV) (0 : Int) = some (SV.of v_73) from rfl) (eVc (hS.ro 10 rfl).sv)) rfl ?_
               refine wpR_gv (t := 263) rfl rfl (OpV_move rfl) rfl ?_
               obtain ⟨x_168, hx_168, h⟩ := obind_some h
               refine wpR_gv (t := 263) rfl rfl (G_ix Tryd.underlying25 ti5 rfl rfl (hS.ro 10 rfl) hx_168) rfl ?_
               refine wpR_gv (t := 263) rfl rfl (G_load Tryd.underlying5 rfl rfl (hS.ro 10 rfl) hx_168 rfl) rfl ?_
               refine wpR_gv (t := 263) rfl rfl (OpV_move rfl) rfl ?_
               refine wpR_gv (t := 263) rfl rfl (OpV_bin rfl rfl (b_iadd _ 70 0)) rfl ?_
               refine wpR_gv (t := 263) rfl rfl (OpV_conv rfl (cv_i_8 Tryd.underlying3 Tryd.underlying5 70)) rfl ?_
               refine wpR_gv (t := 263) rfl rfl (OpV_bin rfl rfl (b_neq8 _ x_168 (UInt8.ofInt 70))) rfl ?_
               refine wpR_gv (t := 251) rfl rfl (OpV_pickF rfl rfl) rfl ?_
               refine wpR_v (OpV_pickT rfl rfl) rfl (wpR_v (OpV_move rfl) rfl ?_)
               cases hb_169 : (x_168 != (UInt8.ofInt 70))
               case true =>
                have h := if_t h hb_169
                try simp only [hb_169]
                refine wpR_gskip (b := true) (t := 277) rfl rfl rfl rfl ?_
                refine wpR_gskip (b := true) (t := 277) rfl rfl rfl rfl ?_
                refine wpR_gskip (b := true) (t := 277) rfl rfl rfl rfl ?_
                refine wpR_gskip (b := true) (t := 277) rfl rfl rfl rfl ?_
                refine wpR_gskip (b := true) (t := 277) rfl rfl rfl rfl ?_
                refine wpR_gskip (b := true) (t := 277) rfl rfl rfl rfl ?_
                refine wpR_gskip (b := true) (t := 277) rfl rfl rfl rfl ?_
                refine wpR_gskip (b := true) (t := 277) rfl rfl rfl rfl ?_
                refine wpR_gskipU (t := 285) rfl rfl rfl ?_
                refine wpR_gskipU (t := 285) rfl rfl rfl ?_
                refine wpR_gskipU (t := 285) rfl rfl rfl ?_
                refine wpR_gskipU (t := 285) rfl rfl rfl ?_
                refine wpR_gskipU (t := 285) rfl rfl rfl ?_
                refine wpR_gskipU (t := 285) rfl rfl rfl ?_
                refine wpR_gskipU (t := 285) rfl rfl rfl ?_
                refine wpR_gskipU (t := 285) rfl rfl rfl ?_
                refine wpR_gskipU (t := 285) rfl rfl rfl ?_
                refine wpR_gskipU (t := 285) rfl rfl rfl ?_
                refine wpR_gskipU (t := 285) rfl rfl rfl ?_
                refine wpR_gskip (b := true) (t := 277) rfl rfl rfl rfl ?_
                refine wpR_v (OpV_pickT rfl rfl) rfl (wpR_nil (QE_then_n ?_))
                exact wpC_le _ (by exact ⟨rfl, rfl, rfl, rfl, rfl, rfl, rfl, rfl, rfl, rfl, rfl, rfl, rfl, trivial⟩) (hK_175 true _ _ ⟨rfl, hS⟩ h)
               case false =>
                have h := if_f h hb_169
                try simp only [hb_169]
                refine wpR_gv (t := 277) rfl rfl (OpV_move rfl) rfl ?_
                refine wpR_gv (t := 277) rfl rfl (OpV_move rfl) rfl ?_
                refine wpR_gv (t := 277) rfl rfl (OpV_move rfl) rfl ?_
                refine wpR_gv (t := 277) rfl rfl (G_ix Tryd.underlying51 ti25 rfl rfl (hS.ro 8 rfl) (show getO ([SV.of v_13, SV.of v_16] : List SV) (0 : Int) = some (SV.of v_13) from rfl)) rfl ?_
                refine wpR_gv (t := 277) rfl rfl (G_load Tryd.underlying25 rfl rfl (hS.ro 8 rfl) (show getO ([SV.of v_13, SV.of v_16] : List SV) (0 : Int) = some (SV.of v_13) from rfl) (eVc (hS.twro hA_79 10 9 rfl rfl).sv)) rfl ?_
                refine wpR_gv (t := 277) rfl rfl (OpV_len Tryd.underlying25 rfl (hS.twro hA_79 10 9 rfl rfl)) rfl ?_
                refine wpR_gv (t := 277) rfl rfl (OpV_bin rfl rfl (b_igeq _ x_161 (x_45.length : Int))) rfl ?_
                refine wpR_gv (t := 277) rfl rfl (OpV_move rfl) rfl ?_
                cases hb_170 : (decide ((x_45.length : Int) ≤ x_161))
                case true =>
                 have h := if_t h hb_170
                 try simp only [hb_170]
                 refine wpR_gv (t := 285) rfl rfl (OpV_move rfl) rfl ?_
                 refine wpR_gv (t := 285) rfl rfl (OpV_move rfl) rfl ?_
                 refine wpR_gv (t := 285) rfl rfl (G_ix Tryd.underlying51 ti25 rfl rfl (hS.ro 14 rfl) (show getO ([SV.of v_73, SV.of v_113] : List SV) (0 : Int) = some (SV.of v_73) from rfl)) rfl ?_
                 refine wpR_gv (t := 285) rfl rfl (G_load Tryd.underlying25 rfl rfl (hS.ro 14 rfl) (show getO ([SV.of v_73, SV.of v_113] : List SV) (0 : Int) = some (SV.of v_73) from rfl) (eVc (hS.ro 10 rfl).sv)) rfl ?_
                 refine wpR_gv (t := 285) rfl rfl (OpV_move rfl) rfl ?_
                 obtain ⟨x_171, hx_171, h⟩ := obind_some h
                 refine wpR_gv (t := 285) rfl rfl (G_ix Tryd.underlying25 ti5 rfl rfl (hS.ro 10 rfl) hx_171) rfl ?_
                 refine wpR_gv (t := 285) rfl rfl (G_load Tryd.underlying5 rfl rfl (hS.ro 10 rfl) hx_171 rfl) rfl ?_
                 refine wpR_gv (t := 285) rfl rfl (OpV_move rfl) rfl ?_
                 refine wpR_gv (t := 285) rfl rfl (OpV_bin rfl rfl (b_iadd _ 80 0)) rfl ?_
                 refine wpR_gv (t := 285) rfl rfl (OpV_conv rfl (cv_i_8 Tryd.underlying3 Tryd.underlying5 80)) rfl ?_
                 refine wpR_gv (t := 285) rfl rfl (OpV_bin rfl rfl (b_neq8 _ x_171 (UInt8.ofInt 80))) rfl ?_
                 refine wpR_gv (t := 277) rfl rfl (OpV_pickT rfl rfl) rfl ?_
                 refine wpR_v (OpV_pickF rfl rfl) rfl (wpR_nil (QE_then_n ?_))
                 exact wpC_le _ (by exact ⟨rfl, rfl, rfl, rfl, rfl, rfl, rfl, rfl, rfl, rfl, rfl, rfl, rfl, trivial⟩) (hK_175 (x_171 != (UInt8.ofInt 80)) _ _ ⟨rfl, hS⟩ h)
                case false =>
                 have h := if_f h hb_170
                 try simp only [hb_170]
                 refine wpR_gskip (b := false) (t := 285) rfl rfl rfl rfl ?_
                 refine wpR_gskip (b := false) (t := 285) rfl rfl rfl rfl ?_
                 refine wpR_gskip (b := false) (t := 285) rfl rfl rfl rfl ?_
                 refine wpR_gskip (b := false) (t := 285) rfl rfl rfl rfl ?_
                 refine wpR_gskip (b := false) (t := 285) rfl rfl rfl rfl ?_
                 refine wpR_gskip (b := false) (t := 285) rfl rfl rfl rfl ?_
                 refine wpR_gskip (b := false) (t := 285) rfl rfl rfl rfl ?_
                 refine wpR_gskip (b := false) (t := 285) rfl rfl rfl rfl ?_
                 refine wpR_gskip (b := false) (t := 285) rfl rfl rfl rfl ?_
                 refine wpR_gskip (b := false) (t := 285) rfl rfl rfl rfl ?_
                 refine wpR_gskip (b := false) (t := 285) rfl rfl rfl rfl ?_
                 refine wpR_gv (t := 277) rfl rfl (OpV_pickF rfl rfl) rfl ?_
                 refine wpR_v (OpV_pickF rfl rfl) rfl (wpR_nil (QE_then_n ?_))
                 exact wpC_le _ (by exact ⟨rfl, rfl, rfl, rfl, rfl, rfl, rfl, rfl, rfl, rfl, rfl, rfl, rfl, trivial⟩) (hK_175 false _ _ ⟨rfl, hS⟩ h)
             case false =>
              have h := if_f h hb_165
              try simp only [hb_165]
              refine wpR_gskip (b := false) (t := 251) rfl rfl rfl rfl ?_
              refine wpR_gskip (b := false) (t := 251) rfl rfl rfl rfl ?_
              refine wpR_gskip (b := false) (t := 251) rfl rfl rfl rfl ?_
              refine wpR_gskip (b := false) (t := 251) rfl rfl rfl rfl ?_
              refine wpR_gskip (b := false) (t := 251) rfl rfl rfl rfl ?_
              refine wpR_gskip (b := false) (t := 251) rfl rfl rfl rfl ?_
              refine wpR_gskip (b := false) (t := 251) rfl rfl rfl rfl ?_
              refine wpR_gskip (b := false) (t := 251) rfl rfl rfl rfl ?_
              refine wpR_gskip (b := false) (t := 251) rfl rfl rfl rfl ?_
              refine wpR_gskip (b := false) (t := 251) rfl rfl rfl rfl ?_
              refine wpR_gskip (b := false) (t := 251) rfl rfl rfl rfl ?_
              refine wpR_gskip (b := false) (t := 251) rfl rfl rfl rfl ?_
              refine wpR_gskipU (t := 263) rfl rfl rfl ?_
              refine wpR_gskipU (t := 263) rfl rfl rfl ?_
              refine wpR_gskipU (t := 263) rfl rfl rfl ?_
              refine wpR_gskipU (t := 263) rfl rfl rfl ?_
              refine wpR_gskipU (t := 263) rfl rfl rfl ?_
              refine wpR_gskipU (t := 263) rfl rfl rfl ?_
              refine wpR_gskipU (t := 263) rfl rfl rfl ?_
              refine wpR_gskipU (t := 263) rfl rfl rfl ?_
              refine wpR_gskipU (t := 263) rfl rfl rfl ?_
              refine wpR_gskipU (t := 263) rfl rfl rfl ?_
              refine wpR_gskipU (t := 263) rfl rfl rfl ?_
              refine wpR_gskip (b := false) (t := 251) rfl rfl rfl rfl ?_
              refine wpR_v (OpV_pickF rfl rfl) rfl (wpR_v (OpV_move rfl) rfl (wpR_gv (t := 277) rfl rfl (OpV_move rfl) rfl ?_))
              refine wpR_gv (t := 277) rfl rfl (OpV_move rfl) rfl ?_
              refine wpR_gv (t := 277) rfl rfl (OpV_move rfl) rfl ?_
              refine wpR_gv (t := 277) rfl rfl (G_ix Tryd.underlying51 ti25 rfl rfl (hS.ro 8 rfl) (show getO ([SV.of v_13, SV.of v_16] : List SV) (0 : Int) = some (SV.of v_13) from rfl)) rfl ?_
              refine wpR_gv (t := 277) rfl rfl (G_load Tryd.underlying25 rfl rfl (hS.ro 8 rfl) (show getO ([SV.of v_13, SV.of v_16] : List SV) (0 : Int) = some (SV.of v_13) from rfl) (eVc (hS.twro hA_79 10 9 rfl rfl).sv)) rfl ?_
              refine wpR_gv (t := 277) rfl rfl (OpV_len Tryd.underlying25 rfl (hS.twro hA_79 10 9 rfl rfl)) rfl ?_
              refine wpR_gv (t := 277) rfl rfl (OpV_bin rfl rfl (b_igeq _ x_161 (x_45.length : Int))) rfl ?_
              refine wpR_gv (t := 277) rfl rfl (OpV_move rfl) rfl ?_
              cases hb_172 : (decide ((x_45.length : Int) ≤ x_161))
              case true =>
               have h := if_t h hb_172
               try simp only [hb_172]
               refine wpR_gv (t := 285) rfl rfl (OpV_move rfl) rfl ?_
               refine wpR_gv (t := 285) rfl rfl (OpV_move rfl) rfl ?_
               refine wpR_gv (t := 285) rfl rfl (G_ix Tryd.underlying51 ti25 rfl rfl (hS.ro 14 rfl) (show getO ([SV.of v_73, SV.of v_113] : List SV) (0 : Int) = some (SV.of v_73) from rfl)) rfl ?_
               refine wpR_gv (t := 285) rfl rfl (G_load Tryd.underlying25 rfl rfl (hS.ro 14 rfl) (show getO ([SV.of v_73, SV.of v_113] : List SV) (0 : Int) = some (SV.of v_73) from rfl) (eVc (hS.ro 10 rfl).sv)) rfl ?_
               refine wpR_gv (t := 285) rfl rfl (OpV_move rfl) rfl ?_
               obtain ⟨x_173, hx_173, h⟩ := obind_some h
               refine wpR_gv (t := 285) rfl rfl (G_ix Tryd.underlying25 ti5 rfl rfl (hS.ro 10 rfl) hx_173) rfl ?_
               refine wpR_gv (t := 285) rfl rfl (G_load Tryd.underlying5 rfl rfl (hS.ro 10 rfl) hx_173 rfl) rfl ?_
               refine wpR_gv (t := 285) rfl rfl (OpV_move rfl) rfl ?_
               refine wpR_gv (t := 285) rfl rfl (OpV_bin rfl rfl (b_iadd _ 80 0)) rfl ?_
               refine wpR_gv (t := 285) rfl rfl (OpV_conv rfl (cv_i_8 Tryd.underlying3 Tryd.underlying5 80)) rfl ?_
               refine wpR_gv (t := 285) rfl rfl (OpV_bin rfl rfl (b_neq8 _ x_173 (UInt8.ofInt 80))) rfl ?_
               refine wpR_gv (t := 277) rfl rfl (OpV_pickT rfl rfl) rfl ?_
               refine wpR_v (OpV_pickF rfl rfl) rfl (wpR_nil (QE_then_n ?_))
               exact wpC_le _ (by exact ⟨rfl, rfl, rfl, rfl, rfl, rfl, rfl, rfl, rfl, rfl, rfl, rfl, rfl, trivial⟩) (hK_175 (x_173 != (UInt8.ofInt 80)) _ _ ⟨rfl, hS⟩ h)
              case false =>
               have h := if_f h hb_172
               try simp only [hb_172]
               refine wpR_gskip (b := false) (t := 285) rfl rfl rfl rfl ?_
               refine wpR_gskip (b := false) (t := 285) rfl rfl rfl rfl ?_
               refine wpR_gskip (b := false) (t := 285) rfl rfl rfl rfl ?_
               refine wpR_gskip (b := false) (t := 285) rfl rfl rfl rfl ?_
               refine wpR_gskip (b := false) (t := 285) rfl rfl rfl rfl ?_
               refine wpR_gskip (b := false) (t := 285) rfl rfl rfl rfl ?_
               refine wpR_gskip (b := false) (t := 285) rfl rfl rfl rfl ?_
               refine wpR_gskip (b := false) (t := 285) rfl rfl rfl rfl ?_
               refine wpR_gskip (b := false) (t := 285) rfl rfl rfl rfl ?_
               refine wpR_gskip (b := false) (t := 285) rfl rfl rfl rfl ?_
               refine wpR_gskip (b := false) (t := 285) rfl rfl rfl rfl ?_
               refine wpR_gv (t := 277) rfl rfl (OpV_pickF rfl rfl) rfl ?_
               refine wpR_v (OpV_pickF rfl rfl) rfl (wpR_nil (QE_then_n ?_))
               exact wpC_le _ (by exact ⟨rfl, rfl, rfl, rfl, rfl, rfl, rfl, rfl, rfl, rfl, rfl, rfl, rfl, trivial⟩) (hK_175 false _ _ ⟨rfl, hS⟩ h)
           ·have h := if_f h hb_228
            refine wpC_exit ?_
            refine QE_then_x (QE_then_x ?_)
            have h := oinr_some h hk_162
            refine QE_blk_x ?_
            refine QE_blk_n ?_
            refine QE_then_n (wpC_region (wpR_v (OpV_move rfl) rfl (wpR_v (OpV_bin rfl rfl (b_iadd _ 0 1)) rfl ?_)))
            refine wpR_v (OpV_assign rfl) rfl (wpR_nil (QE_rnd ?_))
            refine wpN_succ ?_
            refine wpC_seq (wpC_seq (wpC_region (wpR_v (OpV_move rfl) rfl (wpR_v (OpV_bin rfl rfl (b_ilss _ 1 2)) rfl ?_))))
            refine wpR_nil (QE_then_n (wpC_condT rfl ?_))
            refine wpC_skip (QE_then_n (wpC_seq (wpC_block ?_)))
            refine wpC_seq (wpC_seq (wpC_region (wpR_v (OpV_assign rfl) rfl (wpR_nil (QE_then_n (wpC_block ?_))))))
            refine wpC_le [(0, va0), (3, slV v_3 e8.sz 0 x_2.2), (5, vI x_6.2.1), (11, vI x_12.2), (14, slV v_26 (eP eI (eP e64 (eP eS eI))).sz 0 x_25.2), (15, slV v_30 e8.sz 0 x_29.2), (16, v_33), (17, v_35), (21, v_139), (22, v_143), (27, vI 1), (28, vI 0)] ⟨rfl, rfl, rfl, rfl, rfl, rfl, rfl, rfl, rfl, rfl, rfl, rfl, trivial⟩ ?_
            refine loop_ind (F.law30_CborSpares_L9 x_52 x_109 a0 x_2 x_6 x_25 x_59 x_112 x_12 x_29) (fun (s : Int) L w => L = [(0, va0), (3, slV v_3 e8.sz 0 x_2.2), (5, vI x_6.2.1), (11, vI x_12.2), (14, slV v_26 (eP eI (eP e64 (eP eS eI))).sz 0 x_25.2), (15, slV v_30 e8.sz 0 x_29.2), (16, v_33), (17, v_35), (21, v_139), (22, v_143), (27, vI 1), (28, vI s)] ∧ St [] w0 w [own e8 v_3 x_2.1, own (eP eI (eP e64 (eP eS eI))) v_26 x_25.1, own e8 v_30 x_29.1, own eV v_33 ([SV.of v_7, SV.of v_10] : List SV), twE (eP eI (eP e64 (eP eS eI))) v_7 x_38 b_76, own (eP eI (eP e64 (eP eS eI))) v_70 x_69, twE (eP eI (eP e64 (eP eS eI))) v_10 x_52 b_116, own (eP eI (eP e64 (eP eS eI))) v_110 x_109, own eV v_35 ([SV.of v_13, SV.of v_16] : List SV), twE e8 v_13 x_45 b_78, own e8 v_73 x_72, twE e8 v_16 x_59 b_118, own e8 v_113 x_112, own eV v_139 ([SV.of v_70, SV.of v_110] : List SV), own eV v_143 ([SV.of v_73, SV.of v_113] : List SV)]) ?_ 0 ⟨rfl, hS⟩ h
            rintro k_227 x_177 L w q_180 hI ih_179 h hk_178
            try dsimp only at hI
            obtain ⟨rfl, hS⟩ := hI
            unfold F.law30_CborSpares_L9 at h
            refine wpC_seq (wpC_seq (wpC_region (wpR_v (OpV_move rfl) rfl (wpR_v (OpV_move rfl) rfl (wpR_v (OpV_move rfl) rfl (wpR_v (G_ix Tryd.underlying44 ti22 rfl rfl (hS.ro 13 rfl) (show getO ([SV.of v_70, SV.of v_110] : List SV) (1 : Int) = some (SV.of v_110) from rfl)) rfl ?_))))))
            refine wpR_v (G_load Tryd.underlying22 rfl rfl (hS.ro 13 rfl) (show getO ([SV.of v_70, SV.of v_110] : List SV) (1 : Int) = some (SV.of v_110) from rfl) (eVc (hS.ro 7 rfl).sv)) rfl ?_
            refine wpR_v (OpV_len Tryd.underlying22 rfl (hS.ro 7 rfl)) rfl ?_
            refine wpR_v (OpV_bin rfl rfl (b_ilss _ x_177 (x_109.length : Int))) rfl ?_
            refine wpR_nil (QE_then_n ?_)
            refine wpC_cond rfl (fun hb_226 => ?_) (fun hb_226 => ?_)
            ·have h := if_t h hb_226
             refine wpC_skip (QE_then_n (wpC_seq (wpC_block ?_)))
             refine seq_join (r := q_180) (fun (g : Bool) L w => L = [(0, va0), (3, slV v_3 e8.sz 0 x_2.2), (5, vI x_6.2.1), (11, vI x_12.2), (14, slV v_26 (eP eI (eP e64 (eP eS eI))).sz 0 x_25.2), (15, slV v_30 e8.sz 0 x_29.2), (16, v_33), (17, v_35), (21, v_139), (22, v_143), (27, vI 1), (28, vI x_177), (234, vB g)] ∧ St [] w0 w [own e8 v_3 x_2.1, own (eP eI (eP e64 (eP eS eI))) v_26 x_25.1, own e8 v_30 x_29.1, own eV v_33 ([SV.of v_7, SV.of v_10] : List SV), twE (eP eI (eP e64 (eP eS eI))) v_7 x_38 b_76, own (eP eI (eP e64 (eP eS eI))) v_70 x_69, twE (eP eI (eP e64 (eP eS eI))) v_10 x_52 b_116, own (eP eI (eP e64 (eP eS eI))) v_110 x_109, own eV v_35 ([SV.of v_13, SV.of v_16] : List SV), twE e8 v_13 x_45 b_78, own e8 v_73 x_72, twE e8 v_16 x_59 b_118, own e8 v_113 x_112, own eV v_139 ([SV.of v_70, SV.of v_110] : List SV), own eV v_143 ([SV.of v_73, SV.of v_113] : List SV)]) (F.law30_CborSpares_K4 x_177) ?_ ?_
             ·rintro x_190 L w hJ h
              try dsimp only at hJ
              obtain ⟨rfl, hS⟩ := hJ
              unfold F.law30_CborSpares_K4 at h
              refine wpC_cond rfl (fun hb_192 => ?_) (fun hb_192 => ?_)
              ·have h := if_t h hb_192
               refine wpC_seq (wpC_region (wpR_v (OpV_assign rfl) rfl (wpR_nil (QE_then_n (wpC_ret (QE_blk_r ?_))))))
               refine QE_then_r (QE_then_r ?_)
               have h := oinr_some h hk_178
               refine QE_blk_r ?_
               refine QE_then_r (QE_blk_r ?_)
               refine QE_then_r (QE_then_r (QE_blk_r ?_))
               refine QE_then_r ?_
               cases h
               exact QE_ret1 rfl rfl ⟨rfl, hS.pick [] (by decide) rfl⟩
              ·have h := if_f h hb_192
               refine wpC_skip (QE_blk_n ?_)
               refine QE_then_n (wpC_region (wpR_v (OpV_move rfl) rfl (wpR_v (OpV_bin rfl rfl (b_iadd _ x_177 1)) rfl ?_)))
               refine wpR_v (OpV_assign rfl) rfl (wpR_nil ?_)
               exact QE_rnd (wpN_le _ (by exact ⟨rfl, rfl, rfl, rfl, rfl, rfl, rfl, rfl, rfl, rfl, rfl, rfl, trivial⟩) (ih_179 (wI (x_177 + 1)) _ _ ⟨rfl, hS⟩ (oinl_some h hk_178)))
             ·intro hK_191
              refine wpC_region (wpR_v (OpV_move rfl) rfl (wpR_v (OpV_move rfl) rfl (wpR_v (OpV_move rfl) rfl (wpR_v (G_ix Tryd.underlying44 ti22 rfl rfl (hS.ro 3 rfl) (show getO ([SV.of v_7, SV.of v_10] : List SV) (1 : Int) = some (SV.of v_10) from rfl)) rfl ?_))))
              refine wpR_v (G_load Tryd.underlying22 rfl rfl (hS.ro 3 rfl) (show getO ([SV.of v_7, SV.of v_10] : List SV) (1 : Int) = some (SV.of v_10) from rfl) (eVc (hS.twro hA_117 7 6 rfl rfl).sv)) rfl ?_
              refine wpR_v (OpV_len Tryd.underlying22 rfl (hS.twro hA_117 7 6 rfl rfl)) rfl ?_
              refine wpR_v (OpV_bin rfl rfl (b_ilss _ x_177 (x_52.length : Int))) rfl ?_
              refine wpR_v (OpV_move rfl) rfl ?_
              cases hb_181 : (decide (x_177 < (x_52.length : Int)))
              case true =>
               have h := if_t h hb_181
               try simp only [hb_181]
               refine wpR_gv (t := 187) rfl rfl (OpV_move rfl) rfl ?_
               refine wpR_gv (t := 187) rfl rfl (OpV_move rfl) rfl ?_
               refine wpR_gv (t := 187) rfl rfl (G_ix Tryd.underlying44 ti22 rfl rfl (hS.ro 3 rfl) (show getO ([SV.of v_7, SV.of v_10] : List SV) (1 : Int) = some (SV.of v_10) from rfl)) rfl ?_
               refine wpR_gv (t := 187) rfl rfl (G_load Tryd.underlying22 rfl rfl (hS.ro 3 rfl) (show getO ([SV.of v_7, SV.of v_10] : List SV) (1 : Int) = some (SV.of v_10) from rfl) (eVc (hS.twro hA_117 7 6 rfl rfl).sv)) rfl ?_
               refine wpR_gv (t := 187) rfl rfl (OpV_move rfl) rfl ?_
               obtain ⟨x_182, hx_182, h⟩ := obind_some h
               refine wpR_gv (t := 187) rfl rfl (G_ix Tryd.underlying22 ti33 rfl rfl (hS.twro hA_117 7 6 rfl rfl) hx_182) rfl ?_
               refine wpR_gv (t := 187) rfl rfl (OpV_fieldE (k := 0) Tryd.underlying33 rfl rfl nz3 rfl) rfl ?_
               refine wpR_gv (t := 187) rfl rfl (G_loadF Tryd.underlying3 rfl rfl (hS.twro hA_117 7 6 rfl rfl) hx_182 rfl rfl) rfl ?_
               refine wpR_gv (t := 187) rfl rfl (OpV_move rfl) rfl ?_
               refine wpR_gv (t := 187) rfl rfl (OpV_bin rfl rfl (b_iadd _ 1000 1)) rfl ?_
               refine wpR_gv (t := 187) rfl rfl (OpV_bin rfl rfl (b_ineq _ x_182.1 1001)) rfl ?_
               refine wpR_gv (t := 187) rfl rfl (OpV_move rfl) rfl ?_
               cases hb_183 : (x_182.1 != 1001)
               case true =>
                have h := if_t h hb_183
                try simp only [hb_183]
                refine wpR_gskip (b := true) (t := 199) rfl rfl rfl rfl ?_
                refine wpR_gskip (b := true) (t := 199) rfl rfl rfl rfl ?_
                refine wpR_gskip (b := true) (t := 199) rfl rfl rfl rfl ?_
                refine wpR_gskip (b := true) (t := 199) rfl rfl rfl rfl ?_
                refine wpR_gskip (b := true) (t := 199) rfl rfl rfl rfl ?_
                refine wpR_gskip (b := true) (t := 199) rfl rfl rfl rfl ?_
                refine wpR_gskip (b := true) (t := 199) rfl rfl rfl rfl ?_
                refine wpR_gskip (b := true) (t := 199) rfl rfl rfl rfl ?_
                refine wpR_gskip (b := true) (t := 199) rfl rfl rfl rfl ?_
                refine wpR_gskip (b := true) (t := 199) rfl rfl rfl rfl ?_
                refine wpR_gskip (b := true) (t := 199) rfl rfl rfl rfl ?_
                refine wpR_gv (t := 187) rfl rfl (OpV_pickT rfl rfl) rfl ?_
                refine wpR_v (OpV_pickT rfl rfl) rfl (wpR_v (OpV_move rfl) rfl (wpR_gskip (b := true) (t := 213) rfl rfl rfl rfl ?_))
                refine wpR_gskip (b := true) (t := 213) rfl rfl rfl rfl ?_
                refine wpR_gskip (b := true) (t := 213) rfl rfl rfl rfl ?_
                refine wpR_gskip (b := true) (t := 213) rfl rfl rfl rfl ?_
                refine wpR_gskip (b := true) (t := 213) rfl rfl rfl rfl ?_
                refine wpR_gskip (b := true) (t := 213) rfl rfl rfl rfl ?_
                refine wpR_gskip (b := true) (t := 213) rfl rfl rfl rfl ?_
                refine wpR_gskip (b := true) (t := 213) rfl rfl rfl rfl ?_
                refine wpR_gskipU (t := 221) rfl rfl rfl ?_
                refine wpR_gskipU (t := 221) rfl rfl rfl ?_
                refine wpR_gskipU (t := 221) rfl rfl rfl ?_
                refine wpR_gskipU (t := 221) rfl rfl rfl ?_
                refine wpR_gskipU (t := 221) rfl rfl rfl ?_
                refine wpR_gskipU (t := 221) rfl rfl rfl ?_
                refine wpR_gskipU (t := 221) rfl rfl rfl ?_
                refine wpR_gskipU (t := 221) rfl rfl rfl ?_
                refine wpR_gskipU (t := 221) rfl rfl rfl ?_
                refine wpR_gskipU (t := 221) rfl rfl rfl ?_
                refine wpR_gskipU (t := 221) rfl rfl rfl ?_
                refine wpR_gskip (b := true) (t := 213) rfl rfl rfl rfl ?_
                refine wpR_v (OpV_pickT rfl rfl) rfl (wpR_nil (QE_then_n ?_))
                exact wpC_le _ (by exact ⟨rfl, rfl, rfl, rfl, rfl, rfl, rfl, rfl, rfl, rfl, rfl, rfl, rfl, trivial⟩) (hK_191 true _ _ ⟨rfl, hS⟩ h)
               case false =>
                have h := if_f h hb_183
                try simp only [hb_183]
                refine wpR_gv (t := 199) rfl rfl (OpV_move rfl) rfl ?_
                refine wpR_gv (t := 199) rfl rfl (OpV_move rfl) rfl ?_
                refine wpR_gv (t := 199) rfl rfl (G_ix Tryd.underlying44 ti22 rfl rfl (hS.ro 13 rfl) (show getO ([SV.of v_70, SV.of v_110] : List SV) (1 : Int) = some (SV.of v_110) from rfl)) rfl ?_
                refine wpR_gv (t := 199) rfl rfl (G_load Tryd.underlying22 rfl rfl (hS.ro 13 rfl) (show getO ([SV.of v_70, SV.of v_110] : List SV) (1 : Int) = some (SV.of v_110) from rfl) (eVc (hS.ro 7 rfl).sv)) rfl ?_
                refine wpR_gv (t := 199) rfl rfl (OpV_move rfl) rfl ?_
                obtain ⟨x_184, hx_184, h⟩ := obind_some h
                refine wpR_gv (t := 199) rfl rfl (G_ix Tryd.underlying22 ti33 rfl rfl (hS.ro 7 rfl) hx_184) rfl ?_
                refine wpR_gv (t := 199) rfl rfl (OpV_fieldE (k := 0) Tryd.underlying33 rfl rfl nz3 rfl) rfl ?_
                refine wpR_gv (t := 199) rfl rfl (G_loadF Tryd.underlying3 rfl rfl (hS.ro 7 rfl) hx_184 rfl rfl) rfl ?_
                refine wpR_gv (t := 199) rfl rfl (OpV_move rfl) rfl ?_
                refine wpR_gv (t := 199) rfl rfl (OpV_bin rfl rfl (b_iadd _ 1000 1)) rfl ?_
                refine wpR_gv (t := 199) rfl rfl (OpV_bin rfl rfl (b_ineq _ x_184.1 1001)) rfl ?_
                refine wpR_gv (t := 187) rfl rfl (OpV_pickF rfl rfl) rfl ?_
                refine wpR_v (OpV_pickT rfl rfl) rfl (wpR_v (OpV_move rfl) rfl ?_)
                cases hb_185 : (x_184.1 != 1001)
                case true =>
                 have h := if_t h hb_185
                 try simp only [hb_185]
                 refine wpR_gskip (b := true) (t := 213) rfl rfl rfl rfl ?_
                 refine wpR_gskip (b := true) (t := 213) rfl rfl rfl rfl ?_
                 refine wpR_gskip (b := true) (t := 213) rfl rfl rfl rfl ?_
                 refine wpR_gskip (b := true) (t := 213) rfl rfl rfl rfl ?_
                 refine wpR_gskip (b := true) (t := 213) rfl rfl rfl rfl ?_
                 refine wpR_gskip (b := true) (t := 213) rfl rfl rfl rfl ?_
                 refine wpR_gskip (b := true) (t := 213) rfl rfl rfl rfl ?_
                 refine wpR_gskip (b := true) (t := 213) rfl rfl rfl rfl ?_
                 refine wpR_gskipU (t := 221) rfl rfl rfl ?_
                 refine wpR_gskipU (t := 221) rfl rfl rfl ?_
                 refine wpR_gskipU (t := 221) rfl rfl rfl ?_
                 refine wpR_gskipU (t := 221) rfl rfl rfl ?_
                 refine wpR_gskipU (t := 221) rfl rfl rfl ?_
                 refine wpR_gskipU (t := 221) rfl rfl rfl ?_
                 refine wpR_gskipU (t := 221) rfl rfl rfl ?_
                 refine wpR_gskipU (t := 221) rfl rfl rfl ?_
                 refine wpR_gskipU (t := 221) rfl rfl rfl ?_
                 refine wpR_gskipU (t := 221) rfl rfl rfl ?_
                 refine wpR_gskipU (t := 221) rfl rfl rfl ?_
                 refine wpR_gskip (b := true) (t := 213) rfl rfl rfl rfl ?_
                 refine wpR_v (OpV_pickT rfl rfl) rfl (wpR_nil (QE_then_n ?_))
                 exact wpC_le _ (by exact ⟨rfl, rfl, rfl, rfl, rfl, rfl, rfl, rfl, rfl, rfl, rfl, rfl, rfl, trivial⟩) (hK_191 true _ _ ⟨rfl, hS⟩ h)
                case false =>
                 have h := if_f h hb_185
                 try simp only [hb_185]
                 refine wpR_gv (t := 213) rfl rfl (OpV_move rfl) rfl ?_
                 refine wpR_gv (t := 213) rfl rfl (OpV_move rfl) rfl ?_
                 refine wpR_gv (t := 213) rfl rfl (OpV_move rfl) rfl ?_
                 refine wpR_gv (t := 213) rfl rfl (G_ix Tryd.underlying44 ti22 rfl rfl (hS.ro 3 rfl) (show getO ([SV.of v_7, SV.of v_10] : List SV) (1 : Int) = some (SV.of v_10) from rfl)) rfl ?_
                 refine wpR_gv (t := 213) rfl rfl (G_load Tryd.underlying22 rfl rfl (hS.ro 3 rfl) (show getO ([SV.of v_7, SV.of v_10] : List SV) (1 : Int) = some (SV.of v_10) from rfl) (eVc (hS.twro hA_117 7 6 rfl rfl).sv)) rfl ?_
                 refine wpR_gv (t := 213) rfl rfl (OpV_len Tryd.underlying22 rfl (hS.twro hA_117 7 6 rfl rfl)) rfl ?_
                 refine wpR_gv (t := 213) rfl rfl (OpV_bin rfl rfl (b_igeq _ x_177 (x_52.length : Int))) rfl ?_
                 refine wpR_gv (t := 213) rfl rfl (OpV_move rfl) rfl ?_
                 cases hb_186 : (decide ((x_52.length : Int) ≤ x_177))
                 case true =>
                  have h := if_t h hb_186
                  try simp only [hb_186]
                  refine wpR_gv (t := 221) rfl rfl (OpV_move rfl) rfl ?_
                  refine wpR_gv (t := 221) rfl rfl (OpV_move rfl) rfl ?_
                  refine wpR_gv (t := 221) rfl rfl (G_ix Tryd.underlying44 ti22 rfl rfl (hS.ro 13 rfl) (show getO ([SV.of v_70, SV.of v_110] : List SV) (1 : Int) = some (SV.of v_110) from rfl)) rfl ?_
                  refine wpR_gv (t := 221) rfl rfl (G_load Tryd.underlying22 rfl rfl (hS.ro 13 rfl) (show getO ([SV.of v_70, SV.of v_110] : List SV) (1 : Int) = some (SV.of v_110) from rfl) (eVc (hS.ro 7 rfl).sv)) rfl ?_
                  refine wpR_gv (t := 221) rfl rfl (OpV_move rfl) rfl ?_
                  obtain ⟨x_187, hx_187, h⟩ := obind_some h
                  refine wpR_gv (t := 221) rfl rfl (G_ix Tryd.underlying22 ti33 rfl rfl (hS.ro 7 rfl) hx_187) rfl ?_
                  refine wpR_gv (t := 221) rfl rfl (OpV_fieldE (k := 0) Tryd.underlying33 rfl rfl nz3 rfl) rfl ?_
                  refine wpR_gv (t := 221) rfl rfl (G_loadF Tryd.underlying3 rfl rfl (hS.ro 7 rfl) hx_187 rfl rfl) rfl ?_
                  refine wpR_gv (t := 221) rfl rfl (OpV_move rfl) rfl ?_
                  refine wpR_gv (t := 221) rfl rfl (OpV_bin rfl rfl (b_iadd _ 5000 1)) rfl ?_
                  refine wpR_gv (t := 221) rfl rfl (OpV_bin rfl rfl (b_ineq _ x_187.1 5001)) rfl ?_
                  refine wpR_gv (t := 213) rfl rfl (OpV_pickT rfl rfl) rfl ?_
                  refine wpR_v (OpV_pickF rfl rfl) rfl (wpR_nil (QE_then_n ?_))
                  exact wpC_le _ (by exact ⟨rfl, rfl, rfl, rfl, rfl, rfl, rfl, rfl, rfl, rfl, rfl, rfl, rfl, trivial⟩) (hK_191 (x_187.1 != 5001) _ _ ⟨rfl, hS⟩ h)
                 case false =>
                  have h := if_f h hb_186
                  try simp only [hb_186]
                  refine wpR_gskip (b := false) (t := 221) rfl rfl rfl rfl ?_
                  refine wpR_gskip (b := false) (t := 221) rfl rfl rfl rfl ?_
                  refine wpR_gskip (b := false) (t := 221) rfl rfl rfl rfl ?_
                  refine wpR_gskip (b := false) (t := 221) rfl rfl rfl rfl ?_
                  refine wpR_gskip (b := false) (t := 221) rfl rfl rfl rfl ?_
                  refine wpR_gskip (b := false) (t := 221) rfl rfl rfl rfl ?_
                  refine wpR_gskip (b := false) (t := 221) rfl rfl rfl rfl ?_
                  refine wpR_gskip (b := false) (t := 221) rfl rfl rfl rfl ?_
                  refine wpR_gskip (b := false) (t := 221) rfl rfl rfl rfl ?_
                  refine wpR_gskip (b := false) (t := 221) rfl rfl rfl rfl ?_
                  refine wpR_gskip (b := false) (t := 221) rfl rfl rfl rfl ?_
                  refine wpR_gv (t := 213) rfl rfl (OpV_pickF rfl rfl) rfl ?_
                  refine wpR_v (OpV_pickF rfl rfl) rfl (wpR_nil (QE_then_n ?_))
                  exact wpC_le _ (by exact ⟨rfl, rfl, rfl, rfl, rfl, rfl, rfl, rfl, rfl, rfl, rfl, rfl, rfl, trivial⟩) (hK_191 false _ _ ⟨rfl, hS⟩ h)
              case false =>
               have h := if_f h hb_181
               try simp only [hb_181]
               refine wpR_gskip (b := false) (t := 187) rfl rfl rfl rfl ?_
               refine wpR_gskip (b := false) (t := 187) rfl rfl rfl rfl ?_
               refine wpR_gskip (b := false) (t := 187) rfl rfl rfl rfl ?_
               refine wpR_gskip (b := false) (t := 187) rfl rfl rfl rfl ?_
               refine wpR_gskip (b := false) (t := 187) rfl rfl rfl rfl ?_
               refine wpR_gskip (b := false) (t := 187) rfl rfl rfl rfl ?_
               refine wpR_gskip (b := false) (t := 187) rfl rfl rfl rfl ?_
               refine wpR_gskip (b := false) (t := 187) rfl rfl rfl rfl ?_
               refine wpR_gskip (b := false) (t := 187) rfl rfl rfl rfl ?_
               refine wpR_gskip (b := false) (t := 187) rfl rfl rfl rfl ?_
               refine wpR_gskip (b := false) (t := 187) rfl rfl rfl rfl ?_
               refine wpR_gskip (b := false) (t := 187) rfl rfl rfl rfl ?_
               refine wpR_gskipU (t := 199) rfl rfl rfl ?_
               refine wpR_gskipU (t := 199) rfl rfl rfl ?_
               refine wpR_gskipU (t := 199) rfl rfl rfl ?_
               refine wpR_gskipU (t := 199) rfl rfl rfl ?_
               refine wpR_gskipU (t := 199) rfl rfl rfl ?_
               refine wpR_gskipU (t := 199) rfl rfl rfl ?_
               refine wpR_gskipU (t := 199) rfl rfl rfl ?_
               refine wpR_gskipU (t := 199) rfl rfl rfl ?_
               refine wpR_gskipU (t := 199) rfl rfl rfl ?_
               refine wpR_gskipU (t := 199) rfl rfl rfl ?_
               refine wpR_gskipU (t := 199) rfl rfl rfl ?_
               refine wpR_gskip (b := false) (t := 187) rfl rfl rfl rfl ?_
               refine wpR_v (OpV_pickF rfl rfl) rfl (wpR_v (OpV_move rfl) rfl (wpR_gv (t := 213) rfl rfl (OpV_move rfl) rfl ?_))
               refine wpR_gv (t := 213) rfl rfl (OpV_move rfl) rfl ?_
               refine wpR_gv (t := 213) rfl rfl (OpV_move rfl) rfl ?_
               refine wpR_gv (t := 213) rfl rfl (G_ix Tryd.underlying44 ti22 rfl rfl (hS.ro 3 rfl) (show getO ([SV.of v_7, SV.of v_10] : List SV) (1 : Int) = some (SV.of v_10) from rfl)) rfl ?_
               refine wpR_gv (t := 213) rfl rfl (G_load Tryd.underlying22 rfl rfl (hS.ro 3 rfl) (show getO ([SV.of v_7, SV.of v_10] : List SV) (1 : Int) = some (SV.of v_10) from rfl) (eVc (hS.twro hA_117 7 6 rfl rfl).sv)) rfl ?_
               refine wpR_gv (t := 213) rfl rfl (OpV_len Tryd.underlying22 rfl (hS.twro hA_117 7 6 rfl rfl)) rfl ?_
               refine wpR_gv (t := 213) rfl rfl (OpV_bin rfl rfl (b_igeq _ x_177 (x_52.length : Int))) rfl ?_
               refine wpR_gv (t := 213) rfl rfl (OpV_move rfl) rfl ?_
               cases hb_188 : (decide ((x_52.length : Int) ≤ x_177))
               case true =>
                have h := if_t h hb_188
                try simp only [hb_188]
                refine wpR_gv (t := 221) rfl rfl (OpV_move rfl) rfl ?_
                refine wpR_gv (t := 221) rfl rfl (OpV_move rfl) rfl ?_
                refine wpR_gv (t := 221) rfl rfl (G_ix Tryd.underlying44 ti22 rfl rfl (hS.ro 13 rfl) (show getO ([SV.of v_70, SV.of v_110] : List SV) (1 : Int) = some (SV.of v_110) from rfl)) rfl ?_
                refine wpR_gv (t := 221) rfl rfl (G_load Tryd.underlying22 rfl rfl (hS.ro 13 rfl) (show getO ([SV.of v_70, SV.of v_110] : List SV) (1 : Int) = some (SV.of v_110) from rfl) (eVc (hS.ro 7 rfl).sv)) rfl ?_
                refine wpR_gv (t := 221) rfl rfl (OpV_move rfl) rfl ?_
                obtain ⟨x_189, hx_189, h⟩ := obind_some h
                refine wpR_gv (t := 221) rfl rfl (G_ix Tryd.underlying22 ti33 rfl rfl (hS.ro 7 rfl) hx_189) rfl ?_
                refine wpR_gv (t := 221) rfl rfl (OpV_fieldE (k := 0) Tryd.underlying33 rfl rfl nz3 rfl) rfl ?_
                refine wpR_gv (t := 221) rfl rfl (G_loadF Tryd.underlying3 rfl rfl (hS.ro 7 rfl) hx_189 rfl rfl) rfl ?_
                refine wpR_gv (t := 221) rfl rfl (OpV_move rfl) rfl ?_
                refine wpR_gv (t := 221) rfl rfl (OpV_bin rfl rfl (b_iadd _ 5000 1)) rfl ?_
                refine wpR_gv (t := 221) rfl rfl (OpV_bin rfl rfl (b_ineq _ x_189.1 5001)) rfl ?_
                refine wpR_gv (t := 213) rfl rfl (OpV_pickT rfl rfl) rfl ?_
                refine wpR_v (OpV_pickF rfl rfl) rfl (wpR_nil (QE_then_n ?_))
                exact wpC_le _ (by exact ⟨rfl, rfl, rfl, rfl, rfl, rfl, rfl, rfl, rfl, rfl, rfl, rfl, rfl, trivial⟩) (hK_191 (x_189.1 != 5001) _ _ ⟨rfl, hS⟩ h)
               case false =>
                have h := if_f h hb_188
                try simp only [hb_188]
                refine wpR_gskip (b := false) (t := 221) rfl rfl rfl rfl ?_
                refine wpR_gskip (b := false) (t := 221) rfl rfl rfl rfl ?_
                refine wpR_gskip (b := false) (t := 221) rfl rfl rfl rfl ?_
                refine wpR_gskip (b := false) (t := 221) rfl rfl rfl rfl ?_
                refine wpR_gskip (b := false) (t := 221) rfl rfl rfl rfl ?_
                refine wpR_gskip (b := false) (t := 221) rfl rfl rfl rfl ?_
                refine wpR_gskip (b := false) (t := 221) rfl rfl rfl rfl ?_
                refine wpR_gskip (b := false) (t := 221) rfl rfl rfl rfl ?_
                refine wpR_gskip (b := false) (t := 221) rfl rfl rfl rfl ?_
                refine wpR_gskip (b := false) (t := 221) rfl rfl rfl rfl ?_
                refine wpR_gskip (b := false) (t := 221) rfl rfl rfl rfl ?_
                refine wpR_gv (t := 213) rfl rfl (OpV_pickF rfl rfl) rfl ?_
                refine wpR_v (OpV_pickF rfl rfl) rfl (wpR_nil (QE_then_n ?_))
                exact wpC_le _ (by exact ⟨rfl, rfl, rfl, rfl, rfl, rfl, rfl, rfl, rfl, rfl, rfl, rfl, rfl, trivial⟩) (hK_191 false _ _ ⟨rfl, hS⟩ h)
            ·have h := if_f h hb_226
             refine wpC_exit ?_
             refine QE_then_x (QE_then_x ?_)
             have h := oinr_some h hk_178
             refine QE_blk_x ?_
             refine QE_then_n (wpC_seq (wpC_region (wpR_v (OpV_assign rfl) rfl (wpR_nil (QE_then_n (wpC_block ?_))))))
             refine wpC_le [(0, va0), (3, slV v_3 e8.sz 0 x_2.2), (5, vI x_6.2.1), (11, vI x_12.2), (14, slV v_26 (eP eI (eP e64 (eP eS eI))).sz 0 x_25.2), (15, slV v_30 e8.sz 0 x_29.2), (16, v_33), (17, v_35), (21, v_139), (22, v_143), (27, vI 1), (29, vI 0)] ⟨rfl, rfl, rfl, rfl, rfl, rfl, rfl, rfl, rfl, rfl, rfl, rfl, trivial⟩ ?_
             refine loop_ind (F.law30_CborSpares_L10 a0 x_2 x_6 x_25 x_59 x_112 x_12 x_29) (fun (s : Int) L w => L = [(0, va0), (3, slV v_3 e8.sz 0 x_2.2), (5, vI x_6.2.1), (11, vI x_12.2), (14, slV v_26 (eP eI (eP e64 (eP eS eI))).sz 0 x_25.2), (15, slV v_30 e8.sz 0 x_29.2), (16, v_33), (17, v_35), (21, v_139), (22, v_143), (27, vI 1), (29, vI s)] ∧ St [] w0 w [own e8 v_3 x_2.1, own (eP eI (eP e64 (eP eS eI))) v_26 x_25.1, own e8 v_30 x_29.1, own eV v_33 ([SV.of v_7, SV.of v_10] : List SV), twE (eP eI (eP e64 (eP eS eI))) v_7 x_38 b_76, own (eP eI (eP e64 (eP eS eI))) v_70 x_69, twE (eP eI (eP e64 (eP eS eI))) v_10 x_52 b_116, own (eP eI (eP e64 (eP eS eI))) v_110 x_109, own eV v_35 ([SV.of v_13, SV.of v_16] : List SV), twE e8 v_13 x_45 b_78, own e8 v_73 x_72, twE e8 v_16 x_59 b_118, own e8 v_113 x_112, own eV v_139 ([SV.of v_70, SV.of v_110] : List SV), own eV v_143 ([SV.of v_73, SV.of v_113] : List SV)]) ?_ 0 ⟨rfl, hS⟩ h
             rintro k_225 x_193 L w q_196 hI ih_195 h hk_194
             try dsimp only at hI
             obtain ⟨rfl, hS⟩ := hI
             unfold F.law30_CborSpares_L10 at h
             refine wpC_seq (wpC_seq (wpC_region (wpR_v (OpV_move rfl) rfl (wpR_v (OpV_move rfl) rfl (wpR_v (OpV_move rfl) rfl (wpR_v (G_ix Tryd.underlying51 ti25 rfl rfl (hS.ro 14 rfl) (show getO ([SV.of v_73, SV.of v_113] : List SV) (1 : Int) = some (SV.of v_113) from rfl)) rfl ?_))))))
             refine wpR_v (G_load Tryd.underlying25 rfl rfl (hS.ro 14 rfl) (show getO ([SV.of v_73, SV.of v_113] : List SV) (1 : Int) = some (SV.of v_113) from rfl) (eVc (hS.ro 12 rfl).sv)) rfl ?_
             refine wpR_v (OpV_len Tryd.underlying25 rfl (hS.ro 12 rfl)) rfl ?_
             refine wpR_v (OpV_bin rfl rfl (b_ilss _ x_193 (x_112.length : Int))) rfl ?_
             refine wpR_nil (QE_then_n ?_)
             refine wpC_cond rfl (fun hb_224 => ?_) (fun hb_224 => ?_)
             ·have h := if_t h hb_224
              refine wpC_skip (QE_then_n (wpC_seq (wpC_block ?_)))
              refine seq_join (r := q_196) (fun (g : Bool) L w => L = [(0, va0), (3, slV v_3 e8.sz 0 x_2.2), (5, vI x_6.2.1), (11, vI x_12.2), (14, slV v_26 (eP eI (eP e64 (eP eS eI))).sz 0 x_25.2), (15, slV v_30 e8.sz 0 x_29.2), (16, v_33), (17, v_35), (21, v_139), (22, v_143), (27, vI 1), (29, vI x_193), (298, vB g)] ∧ St [] w0 w [own e8 v_3 x_2.1, own (eP eI (eP e64 (eP eS eI))) v_26 x_25.1, own e8 v_30 x_29.1, own eV v_33 ([SV.of v_7, SV.of v_10] : List SV), twE (eP eI (eP e64 (eP eS eI))) v_7 x_38 b_76, own (eP eI (eP e64 (eP eS eI))) v_70 x_69, twE (eP eI (eP e64 (eP eS eI))) v_10 x_52 b_116, own (eP eI (eP e64 (eP eS eI))) v_110 x_109, own eV v_35 ([SV.of v_13, SV.of v_16] : List SV), twE e8 v_13 x_45 b_78, own e8 v_73 x_72, twE e8 v_16 x_59 b_118, own e8 v_113 x_112, own eV v_139 ([SV.of v_70, SV.of v_110] : List SV), own eV v_143 ([SV.of v_73, SV.of v_113] : List SV)]) (F.law30_CborSpares_K5 x_193) ?_ ?_
              ·rintro x_206 L w hJ h
               try dsimp only at hJ
               obtain ⟨rfl, hS⟩ := hJ
               unfold F.law30_CborSpares_K5 at h
               refine wpC_cond rfl (fun hb_208 => ?_) (fun hb_208 => ?_)
               ·have h := if_t h hb_208
                refine wpC_seq (wpC_region (wpR_v (OpV_assign rfl) rfl (wpR_nil (QE_then_n (wpC_ret (QE_blk_r ?_))))))
                refine QE_then_r (QE_then_r ?_)
                have h := oinr_some h hk_194
                refine QE_blk_r ?_
                refine QE_blk_r ?_
                refine QE_then_r (QE_then_r (QE_blk_r ?_))
                refine QE_then_r ?_
                cases h
                exact QE_ret1 rfl rfl ⟨rfl, hS.pick [] (by decide) rfl⟩
               ·have h := if_f h hb_208
                refine wpC_skip (QE_blk_n ?_)
                refine QE_then_n (wpC_region (wpR_v (OpV_move rfl) rfl (wpR_v (OpV_bin rfl rfl (b_iadd _ x_193 1)) rfl ?_)))
                refine wpR_v (OpV_assign rfl) rfl (wpR_nil ?_)
                exact QE_rnd (wpN_le _ (by exact ⟨rfl, rfl, rfl, rfl, rfl, rfl, rfl, rfl, rfl, rfl, rfl, rfl, trivial⟩) (ih_195 (wI (x_193 + 1)) _ _ ⟨rfl, hS⟩ (oinl_some h hk_194)))
              ·intro hK_207
               refine wpC_region (wpR_v (OpV_move rfl) rfl (wpR_v (OpV_move rfl) rfl (wpR_v (OpV_move rfl) rfl (wpR_v (G_ix Tryd.underlying51 ti25 rfl rfl (hS.ro 8 rfl) (show getO ([SV.of v_13, SV.of v_16] : List SV) (1 : Int) = some (SV.of v_16) from rfl)) rfl ?_))))
               refine wpR_v (G_load Tryd.underlying25 rfl rfl (hS.ro 8 rfl) (show getO ([SV.of v_13, SV.of v_16] : List SV) (1 : Int) = some (SV.of v_16) from rfl) (eVc (hS.twro hA_119 12 11 rfl rfl).sv)) rfl ?_
               refine wpR_v (OpV_len Tryd.underlying25 rfl (hS.twro hA_119 12 11 rfl rfl)) rfl ?_
               refine wpR_v (OpV_bin rfl rfl (b_ilss _ x_193 (x_59.length : Int))) rfl ?_
               refine wpR_v (OpV_move rfl) rfl ?_
               cases hb_197 : (decide (x_193 < (x_59.length : Int)))
               case true =>
                have h := if_t h hb_197
                try simp only [hb_197]
                refine wpR_gv (t := 251) rfl rfl (OpV_move rfl) rfl ?_
                refine wpR_gv (t := 251) rfl rfl (OpV_move rfl) rfl ?_
                refine wpR_gv (t := 251) rfl rfl (G_ix Tryd.underlying51 ti25 rfl rfl (hS.ro 8 rfl) (show getO ([SV.of v_13, SV.of v_16] : List SV) (1 : Int) = some (SV.of v_16) from rfl)) rfl ?_
                refine wpR_gv (t := 251) rfl rfl (G_load Tryd.underlying25 rfl rfl (hS.ro 8 rfl) (show getO ([SV.of v_13, SV.of v_16] : List SV) (1 : Int) = some (SV.of v_16) from rfl) (eVc (hS.twro hA_119 12 11 rfl rfl).sv)) rfl ?_
                refine wpR_gv (t := 251) rfl rfl (OpV_move rfl) rfl ?_
                obtain ⟨x_198, hx_198, h⟩ := obind_some h
                refine wpR_gv (t := 251) rfl rfl (G_ix Tryd.underlying25 ti5 rfl rfl (hS.twro hA_119 12 11 rfl rfl) hx_198) rfl ?_
                refine wpR_gv (t := 251) rfl rfl (G_load Tryd.underlying5 rfl rfl (hS.twro hA_119 12 11 rfl rfl) hx_198 rfl) rfl ?_
                refine wpR_gv (t := 251) rfl rfl (OpV_move rfl) rfl ?_
                refine wpR_gv (t := 251) rfl rfl (OpV_bin rfl rfl (b_iadd _ 70 1)) rfl ?_
                refine wpR_gv (t := 251) rfl rfl (OpV_conv rfl (cv_i_8 Tryd.underlying3 Tryd.underlying5 71)) rfl ?_
                refine wpR_gv (t := 251) rfl rfl (OpV_bin rfl rfl (b_neq8 _ x_198 (UInt8.ofInt 71))) rfl ?_
                refine wpR_gv (t := 251) rfl rfl (OpV_move rfl) rfl ?_
                cases hb_199 : (x_198 != (UInt8.ofInt 71))
                case true =>
                 have h := if_t h hb_199
                 try simp only [hb_199]
                 refine wpR_gskip (b := true) (t := 263) rfl rfl rfl rfl ?_
                 refine wpR_gskip (b := true) (t := 263) rfl rfl rfl rfl ?_
                 refine wpR_gskip (b := true) (t := 263) rfl rfl rfl rfl ?_
                 refine wpR_gskip (b := true) (t := 263) rfl rfl rfl rfl ?_
                 refine wpR_gskip (b := true) (t := 263) rfl rfl rfl rfl ?_
                 refine wpR_gskip (b := true) (t := 263) rfl rfl rfl rfl ?_
                 refine wpR_gskip (b := true) (t := 263) rfl rfl rfl rfl ?_
                 refine wpR_gskip (b := true) (t := 263) rfl rfl rfl rfl ?_
                 refine wpR_gskip (b := true) (t := 263) rfl rfl rfl rfl ?_
                 refine wpR_gskip (b := true) (t := 263) rfl rfl rfl rfl ?_
                 refine wpR_gskip (b := true) (t := 263) rfl rfl rfl rfl ?_
                 refine wpR_gv (t := 251) rfl rfl (OpV_pickT rfl rfl) rfl ?_
                 refine wpR_v (OpV_pickT rfl rfl) rfl (wpR_v (OpV_move rfl) rfl (wpR_gskip (b := true) (t := 277) rfl rfl rfl rfl ?_))
                 refine wpR_gskip (b := true) (t := 277) rfl rfl rfl rfl ?_
                 refine wpR_gskip (b := true) (t := 277) rfl rfl rfl rfl ?_
                 refine wpR_gskip (b := true) (t := 277) rfl rfl rfl rfl ?_
                 refine wpR_gskip (b := true) (t := 277) rfl rfl rfl rfl ?_
                 refine wpR_gskip (b := true) (t := 277) rfl rfl rfl rfl ?_
                 refine wpR_gskip (b := true) (t := 277) rfl rfl rfl rfl ?_
                 refine wpR_gskip (b := true) (t := 277) rfl rfl rfl rfl ?_
                 refine wpR_gskipU (t := 285) rfl rfl rfl ?_
                 refine wpR_gskipU (t := 285) rfl rfl rfl ?_
                 refine wpR_gskipU (t := 285) rfl rfl rfl ?_
                 refine wpR_gskipU (t := 285) rfl rfl rfl ?_
                 refine wpR_gskipU (t := 285) rfl rfl rfl ?_
                 refine wpR_gskipU (t := 285) rfl rfl rfl ?_
                 refine wpR_gskipU (t := 285) rfl rfl rfl ?_
                 refine wpR_gskipU (t := 285) rfl rfl rfl ?_
                 refine wpR_gskipU (t := 285) rfl rfl rfl ?_
                 refine wpR_gskipU (t := 285) rfl rfl rfl ?_
                 refine wpR_gskipU (t := 285) rfl rfl rfl ?_
                 refine wpR_gskip (b := true) (t := 277) rfl rfl rfl rfl ?_
                 refine wpR_v (OpV_pickT rfl rfl) rfl (wpR_nil (QE_then_n ?_))
                 exact wpC_le _ (by exact ⟨rfl, rfl, rfl, rfl, rfl, rfl, rfl, rfl, rfl, rfl, rfl, rfl, rfl, trivial⟩) (hK_207 true _ _ ⟨rfl, hS⟩ h)
                case false =>
                 have h := if_f h hb_199
                 try simp only [hb_199]
                 refine wpR_gv (t := 263) rfl rfl (OpV_move rfl) rfl ?_
                 refine wpR_gv (t := 263) rfl rfl (OpV_move rfl) rfl ?_
                 refine wpR_gv (t := 263) rfl rfl (G_ix Tryd.underlying51 ti25 rfl rfl (hS.ro 14 rfl) (show getO ([SV.of v_73, SV.of v_113] : List SV) (1 : Int) = some (SV.of v_113) from rfl)) rfl ?_
                 refine wpR_gv (t := 263) rfl rfl (G_load Tryd.underlying25 rfl rfl (hS.ro 14 rfl) (show getO ([SV.of v_73, SV.of v_113] : List SV) (1 : Int) = some (SV.of v_113) from rfl) (eVc (hS.ro 12 rfl).sv)) rfl ?_
                 refine wpR_gv (t := 263) rfl rfl (OpV_move rfl) rfl ?_
                 obtain ⟨x_200, hx_200, h⟩ := obind_some h
                 refine wpR_gv (t := 263) rfl rfl (G_ix Tryd.underlying25 ti5 rfl rfl (hS.ro 12 rfl) hx_200) rfl ?_
                 refine wpR_gv (t := 263) rfl rfl (G_load Tryd.underlying5 rfl rfl (hS.ro 12 rfl) hx_200 rfl) rfl ?_
                 refine wpR_gv (t := 263) rfl rfl (OpV_move rfl) rfl ?_
                 refine wpR_gv (t := 263) rfl rfl (OpV_bin rfl rfl (b_iadd _ 70 1)) rfl ?_
                 refine wpR_gv (t := 263) rfl rfl (OpV_conv rfl (cv_i_8 Tryd.underlying3 Tryd.underlying5 71)) rfl ?_
                 refine wpR_gv (t := 263) rfl rfl (OpV_bin rfl rfl (b_neq8 _ x_200 (UInt8.ofInt 71))) rfl ?_
                 refine wpR_gv (t := 251) rfl rfl (OpV_pickF rfl rfl) rfl ?_
                 refine wpR_v (OpV_pickT rfl rfl) rfl (wpR_v (OpV_move rfl) rfl ?_)
                 cases hb_201 : (x_200 != (UInt8.ofInt 71))
                 case true =>
                  have h := if_t h hb_201
                  try simp only [hb_201]
                  refine wpR_gskip (b := true) (t := 277) rfl rfl rfl rfl ?_
                  refine wpR_gskip (b := true) (t := 277) rfl rfl rfl rfl ?_
                  refine wpR_gskip (b := true) (t := 277) rfl rfl rfl rfl ?_
                  refine wpR_gskip (b := true) (t := 277) rfl rfl rfl rfl ?_
                  refine wpR_gskip (b := true) (t := 277) rfl rfl rfl rfl ?_
                  refine wpR_gskip (b := true) (t := 277) rfl rfl rfl rfl ?_
                  refine wpR_gskip (b := true) (t := 277) rfl rfl rfl rfl ?_
                  refine wpR_gskip (b := true) (t := 277) rfl rfl rfl rfl ?_
                  refine wpR_gskipU (t := 285) rfl rfl rfl ?_
                  refine wpR_gskipU (t := 285) rfl rfl rfl ?_
                  refine wpR_gskipU (t := 285) rfl rfl rfl ?_
                  refine wpR_gskipU (t := 285) rfl rfl rfl ?_
                  refine wpR_gskipU (t := 285) rfl rfl rfl ?_
                  refine wpR_gskipU (t := 285) rfl rfl rfl ?_
                  refine wpR_gskipU (t := 285) rfl rfl rfl ?_
                  refine wpR_gskipU (t := 285) rfl rfl rfl ?_
                  refine wpR_gskipU (t := 285) rfl rfl rfl ?_
                  refine wpR_gskipU (t := 285) rfl rfl rfl ?_
                  refine wpR_gskipU (t := 285) rfl rfl rfl ?_
                  refine wpR_gskip (b := true) (t := 277) rfl rfl rfl rfl ?_
                  refine wpR_v (OpV_pickT rfl rfl) rfl (wpR_nil (QE_then_n ?_))
                  exact wpC_le _ (by exact ⟨rfl, rfl, rfl, rfl, rfl, rfl, rfl, rfl, rfl, rfl, rfl, rfl, rfl, trivial⟩) (hK_207 true _ _ ⟨rfl, hS⟩ h)
                 case false =>
                  have h := if_f h hb_201
                  try simp only [hb_201]
                  refine wpR_gv (t := 277) rfl rfl (OpV_move rfl) rfl ?_
                  refine wpR_gv (t := 277) rfl rfl (OpV_move rfl) rfl ?_
                  refine wpR_gv (t := 277) rfl rfl (OpV_move rfl) rfl ?_
                  refine wpR_gv (t := 277) rfl rfl (G_ix Tryd.underlying51 ti25 rfl rfl (hS.ro 8 rfl) (show getO ([SV.of v_13, SV.of v_16] : List SV) (1 : Int) = some (SV.of v_16) from rfl)) rfl ?_
                  refine wpR_gv (t := 277) rfl rfl (G_load Tryd.underlying25 rfl rfl (hS.ro 8 rfl) (show getO ([SV.of v_13, SV.of v_16] : List SV) (1 : Int) = some (SV.of v_16) from rfl) (eVc (hS.twro hA_119 12 11 rfl rfl).sv)) rfl ?_
                  refine wpR_gv (t := 277) rfl rfl (OpV_len Tryd.underlying25 rfl (hS.twro hA_119 12 11 rfl rfl)) rfl ?_
                  refine wpR_gv (t := 277) rfl rfl (OpV_bin rfl rfl (b_igeq _ x_193 (x_59.length : Int))) rfl ?_
                  refine wpR_gv (t := 277) rfl rfl (OpV_move rfl) rfl ?_
                  cases hb_202 : (decide ((x_59.length : Int) ≤ x_193))
                  case true =>
                   have h := if_t h hb_202
                   try simp only [hb_202]
                   refine wpR_gv (t := 285) rfl rfl (OpV_move rfl) rfl ?_
                   refine wpR_gv (t := 285) rfl rfl (OpV_move rfl) rfl ?_
                   refine wpR_gv (t := 285) rfl rfl (G_ix Tryd.underlying51 ti25 rfl rfl (hS.ro 14 rfl) (show getO ([SV.of v_73, SV.of v_113] : List SV) (1 : Int) = some (SV.of v_113) from rfl)) rfl ?_
                   refine wpR_gv (t := 285) rfl rfl (G_load Tryd.underlying25 rfl rfl (hS.ro 14 rfl) (show getO ([SV.of v_73, SV.of v_113] : List SV) (1 : Int) = some (SV.of v_113) from rfl) (eVc (hS.ro 12 rfl).sv)) rfl ?_
                   refine wpR_gv (t := 285) rfl rfl (OpV_move rfl) rfl ?_
                   obtain ⟨x_203, hx_203, h⟩ := obind_some h
                   refine wpR_gv (t := 285) rfl rfl (G_ix Tryd.underlying25 ti5 rfl rfl (hS.ro 12 rfl) hx_203) rfl ?_
                   refine wpR_gv (t := 285) rfl rfl (G_load Tryd.underlying5 rfl rfl (hS.ro 12 rfl) hx_203 rfl) rfl ?_
                   refine wpR_gv (t := 285) rfl rfl (OpV_move rfl) rfl ?_
                   refine wpR_gv (t := 285) rfl rfl (OpV_bin rfl rfl (b_iadd _ 80 1)) rfl ?_
                   refine wpR_gv (t := 285) rfl rfl (OpV_conv rfl (cv_i_8 Tryd.underlying3 Tryd.underlying5 81)) rfl ?_
                   refine wpR_gv (t := 285) rfl rfl (OpV_bin rfl rfl (b_neq8 _ x_203 (UInt8.ofInt 81))) rfl ?_
                   refine wpR_gv (t := 277) rfl rfl (OpV_pickT rfl rfl) rfl ?_
                   refine wpR_v (OpV_pickF rfl rfl) rfl (wpR_nil (QE_then_n ?_))
                   exact wpC_le _ (by exact ⟨rfl, rfl, rfl, rfl, rfl, rfl, rfl, rfl, rfl, rfl, rfl, rfl, rfl, trivial⟩) (hK_207 (x_203 != (UInt8.ofInt 81)) _ _ ⟨rfl, hS⟩ h)
                  case false =>
                   have h := if_f h hb_202
                   try simp only [hb_202]
                   refine wpR_gskip (b := false) (t := 285) rfl rfl rfl rfl ?_
                   refine wpR_gskip (b := false) (t := 285) rfl rfl rfl rfl ?_
                   refine wpR_gskip (b := false) (t := 285) rfl rfl rfl rfl ?_
                   refine wpR_gskip (b := false) (t := 285) rfl rfl rfl rfl ?_
                   refine wpR_gskip (b := false) (t := 285) rfl rfl rfl rfl ?_
                   refine wpR_gskip (b := false) (t := 285) rfl rfl rfl rfl ?_
                   refine wpR_gskip (b := false) (t := 285) rfl rfl rfl rfl ?_
                   refine wpR_gskip (b := false) (t := 285) rfl rfl rfl rfl ?_
                   refine wpR_gskip (b := false) (t := 285) rfl rfl rfl rfl ?_
                   refine wpR_gskip (b := false) (t := 285) rfl rfl rfl rfl ?_
                   refine wpR_gskip (b := false) (t := 285) rfl rfl rfl rfl ?_
                   refine wpR_gv (t := 277) rfl rfl (OpV_pickF rfl rfl) rfl ?_
                   refine wpR_v (OpV_pickF rfl rfl) rfl (wpR_nil (QE_then_n ?_))
                   exact wpC_le _ (by exact ⟨rfl, rfl, rfl, rfl, rfl, rfl, rfl, rfl, rfl, rfl, rfl, rfl, rfl, trivial⟩) (hK_207 false _ _ ⟨rfl, hS⟩ h)
               case false =>
                have h := if_f h hb_197
                try simp only [hb_197]
                refine wpR_gskip (b := false) (t := 251) rfl rfl rfl rfl ?_
                refine wpR_gskip (b := false) (t := 251) rfl rfl rfl rfl ?_
                refine wpR_gskip (b := false) (t := 251) rfl rfl rfl rfl ?_
                refine wpR_gskip (b := false) (t := 251) rfl rfl rfl rfl ?_
                refine wpR_gskip (b := false) (t := 251) rfl rfl rfl rfl ?_
                refine wpR_gskip (b := false) (t := 251) rfl rfl rfl rfl ?_
                refine wpR_gskip (b := false) (t := 251) rfl rfl rfl rfl ?_
                refine wpR_gskip (b := false) (t := 251) rfl rfl rfl rfl ?_
                refine wpR_gskip (b := false) (t := 251) rfl rfl rfl rfl ?_
                refine wpR_gskip (b := false) (t := 251) rfl rfl rfl rfl ?_
                refine wpR_gskip (b := false) (t := 251) rfl rfl rfl rfl ?_
                refine wpR_gskip (b := false) (t := 251) rfl rfl rfl rfl ?_
                refine wpR_gskipU (t := 263) rfl rfl rfl ?_
                refine wpR_gskipU (t := 263) rfl rfl rfl ?_
                refine wpR_gskipU (t := 263) rfl rfl rfl ?_
                refine wpR_gskipU (t := 263) rfl rfl rfl ?_
                refine wpR_gskipU (t := 263) rfl rfl rfl ?_
                refine wpR_gskipU (t := 263) rfl rfl rfl ?_
                refine wpR_gskipU (t := 263) rfl rfl rfl ?_
                refine wpR_gskipU (t := 263) rfl rfl rfl ?_
                refine wpR_gskipU (t := 263) rfl rfl rfl ?_
                refine wpR_gskipU (t := 263) rfl rfl rfl ?_
                refine wpR_gskipU (t := 263) rfl rfl rfl ?_
                refine wpR_gskip (b := false) (t := 251) rfl rfl rfl rfl ?_
                refine wpR_v (OpV_pickF rfl rfl) rfl (wpR_v (OpV_move rfl) rfl (wpR_gv (t := 277) rfl rfl (OpV_move rfl) rfl ?_))
                refine wpR_gv (t := 277) rfl rfl (OpV_move rfl) rfl ?_
                refine wpR_gv (t := 277) rfl rfl (OpV_move rfl) rfl ?_
                refine wpR_gv (t := 277) rfl rfl (G_ix Tryd.underlying51 ti25 rfl rfl (hS.ro 8 rfl) (show getO ([SV.of v_13, SV.of v_16] : List SV) (1 : Int) = some (SV.of v_16) from rfl)) rfl ?_
                refine wpR_gv (t := 277) rfl rfl (G_load Tryd.underlying25 rfl rfl (hS.ro 8 rfl) (show getO ([SV.of v_13, SV.of v_16] : List SV) (1 : Int) = some (SV.of v_16) from rfl) (eVc (hS.twro hA_119 12 11 rfl rfl).sv)) rfl ?_
                refine wpR_gv (t := 277) rfl rfl (OpV_len Tryd.underlying25 rfl (hS.twro hA_119 12 11 rfl rfl)) rfl ?_
                refine wpR_gv (t := 277) rfl rfl (OpV_bin rfl rfl (b_igeq _ x_193 (x_59.length : Int))) rfl ?_
                refine wpR_gv (t := 277) rfl rfl (OpV_move rfl) rfl ?_
                cases hb_204 : (decide ((x_59.length : Int) ≤ x_193))
                case true =>
                 have h := if_t h hb_204
                 try simp only [hb_204]
                 refine wpR_gv (t := 285) rfl rfl (OpV_move rfl) rfl ?_
                 refine wpR_gv (t := 285) rfl rfl (OpV_move rfl) rfl ?_
                 refine wpR_gv (t := 285) rfl rfl (G_ix Tryd.underlying51 ti25 rfl rfl (hS.ro 14 rfl) (show getO ([SV.of v_73, SV.of v_113] : List SV) (1 : Int) = some (SV.of v_113) from rfl)) rfl ?_
                 refine wpR_gv (t := 285) rfl rfl (G_load Tryd.underlying25 rfl rfl (hS.ro 14 rfl) (show getO ([SV.of v_73, SV.of v_113] : List SV) (1 : Int) = some (SV.of v_113) from rfl) (eVc (hS.ro 12 rfl).sv)) rfl ?_
                 refine wpR_gv (t := 285) rfl rfl (OpV_move rfl) rfl ?_
                 obtain ⟨x_205, hx_205, h⟩ := obind_some h
                 refine wpR_gv (t := 285) rfl rfl (G_ix Tryd.underlying25 ti5 rfl rfl (hS.ro 12 rfl) hx_205) rfl ?_
                 refine wpR_gv (t := 285) rfl rfl (G_load Tryd.underlying5 rfl rfl (hS.ro 12 rfl) hx_205 rfl) rfl ?_
                 refine wpR_gv (t := 285) rfl rfl (OpV_move rfl) rfl ?_
                 refine wpR_gv (t := 285) rfl rfl (OpV_bin rfl rfl (b_iadd _ 80 1)) rfl ?_
                 refine wpR_gv (t := 285) rfl rfl (OpV_conv rfl (cv_i_8 Tryd.underlying3 Tryd.underlying5 81)) rfl ?_
                 refine wpR_gv (t := 285) rfl rfl (OpV_bin rfl rfl (b_neq8 _ x_205 (UInt8.ofInt 81))) rfl ?_
                 refine wpR_gv (t := 277) rfl rfl (OpV_pickT rfl rfl) rfl ?_
                 refine wpR_v (OpV_pickF rfl rfl) rfl (wpR_nil (QE_then_n ?_))
                 exact wpC_le _ (by exact ⟨rfl, rfl, rfl, rfl, rfl, rfl, rfl, rfl, rfl, rfl, rfl, rfl, rfl, trivial⟩) (hK_207 (x_205 != (UInt8.ofInt 81)) _ _ ⟨rfl, hS⟩ h)
                case false =>
                 have h := if_f h hb_204
                 try simp only [hb_204]
                 refine wpR_gskip (b := false) (t := 285) rfl rfl rfl rfl ?_
                 refine wpR_gskip (b := false) (t := 285) rfl rfl rfl rfl ?_
                 refine wpR_gskip (b := false) (t := 285) rfl rfl rfl rfl ?_
                 refine wpR_gskip (b := false) (t := 285) rfl rfl rfl rfl ?_
                 refine wpR_gskip (b := false) (t := 285) rfl rfl rfl rfl ?_
                 refine wpR_gskip (b := false) (t := 285) rfl rfl rfl rfl ?_
                 refine wpR_gskip (b := false) (t := 285) rfl rfl rfl rfl ?_
                 refine wpR_gskip (b := false) (t := 285) rfl rfl rfl rfl ?_
                 refine wpR_gskip (b := false) (t := 285) rfl rfl rfl rfl ?_
                 refine wpR_gskip (b := false) (t := 285) rfl rfl rfl rfl ?_
                 refine wpR_gskip (b := false) (t := 285) rfl rfl rfl rfl ?_
                 refine wpR_gv (t := 277) rfl rfl (OpV_pickF rfl rfl) rfl ?_
                 refine wpR_v (OpV_pickF rfl rfl) rfl (wpR_nil (QE_then_n ?_))
                 exact wpC_le _ (by exact ⟨rfl, rfl, rfl, rfl, rfl, rfl, rfl, rfl, rfl, rfl, rfl, rfl, rfl, trivial⟩) (hK_207 false _ _ ⟨rfl, hS⟩ h)
             ·have h := if_f h hb_224
              refine wpC_exit ?_
              refine QE_then_x (QE_then_x ?_)
              have h := oinr_some h hk_194
              refine QE_blk_x ?_
              refine QE_blk_n ?_
              refine QE_then_n (wpC_region (wpR_v (OpV_move rfl) rfl (wpR_v (OpV_bin rfl rfl (b_iadd _ 1 1)) rfl ?_)))
              refine wpR_v (OpV_assign rfl) rfl (wpR_nil (QE_rnd ?_))
              refine wpN_succ ?_
              refine wpC_seq (wpC_seq (wpC_region (wpR_v (OpV_move rfl) rfl (wpR_v (OpV_bin rfl rfl (b_ilss _ 2 2)) rfl ?_))))
              refine wpR_nil (QE_then_n (wpC_condF rfl ?_))
              refine wpC_exit ?_
              refine QE_then_x (QE_then_x (QE_blk_x ?_))
              refine QE_then_n (wpC_seq (wpC_region (wpR_v (OpV_move rfl) rfl ?_)))
              obtain ⟨x_209, hx_209, h⟩ := obind_some h
              refine wpR_call (by kernel_rfl) rfl (c_cbor_Parse _ (x_2.1.take x_2.2) (slV v_3 e8.sz 0 x_2.2)  (hT.now hS.fr) ((hS.ro 0 rfl).tk hk_5).rp _ hx_209) rfl ?_
              rintro _ w ⟨v_210, rfl, hS1⟩
              have hS := hS.call hS1
              simp only [List.cons_append, List.nil_append] at hS
              refine wpR_v (OpV_move rfl) rfl (wpR_v (OpV_extract rfl rfl) rfl ?_)
              refine wpR_v (OpV_extract rfl rfl) rfl ?_
              refine wpR_v (OpV_extract rfl rfl) rfl ?_
              refine wpR_v (OpV_assign rfl) rfl (wpR_v (OpV_assign rfl) rfl (wpR_v (OpV_assign rfl) rfl (wpR_nil (QE_then_n (wpC_seq ?_)))))
              refine seq_join (r := r) (fun (g : Bool) L w => L = [(11, vI x_12.2), (15, slV v_30 e8.sz 0 x_29.2), (30, v_210), (319, vB g)] ∧ St [] w0 w [own e8 v_30 x_29.1, own (eP eI (eP e64 (eP eS eI))) v_210 x_209.1]) (F.law30_CborSpares_K6 x_12 x_29 x_209) ?_ ?_
              ·rintro x_216 L w hJ h
               try dsimp only at hJ
               obtain ⟨rfl, hS⟩ := hJ
               unfold F.law30_CborSpares_K6 at h
               refine wpC_cond rfl (fun hb_223 => ?_) (fun hb_223 => ?_)
               ·have h := if_t h hb_223
                refine wpC_seq (wpC_region (wpR_v (OpV_assign rfl) rfl (wpR_nil (QE_then_n (wpC_ret (QE_then_r ?_))))))
                cases h
                exact QE_ret1 rfl rfl ⟨rfl, hS.pick [] (by decide) rfl⟩
               ·have h := if_f h hb_223
                refine wpC_skip (QE_then_n (wpC_seq (wpC_region (wpR_v (OpV_move rfl) rfl ?_))))
                obtain ⟨x_218, hx_218, h⟩ := obind_some h
                refine wpR_call (by kernel_rfl) rfl (c_cbor_Print _ x_209.1 v_210  (hT.now hS.fr) (hS.ro 1 rfl).rp _ hx_218) rfl ?_
                rintro _ w ⟨v_219, rfl, hS1⟩
                have hS := hS.call hS1
                simp only [List.cons_append, List.nil_append] at hS
                refine wpR_v (OpV_move rfl) rfl (wpR_v (OpV_extract rfl rfl) rfl ?_)
                refine wpR_v (OpV_extract rfl rfl) rfl ?_
                refine wpR_v (OpV_assign rfl) rfl (wpR_v (OpV_assign rfl) rfl (wpR_nil (QE_then_n (wpC_seq (wpC_region (wpR_v (OpV_move rfl) rfl ?_))))))
                refine wpR_v (OpV_move rfl) rfl (wpR_v (OpV_bin rfl rfl (b_ieql _ x_218.2 x_12.2)) rfl ?_)
                refine wpR_v (OpV_move rfl) rfl ?_
                cases hb_221 : (x_218.2 == x_12.2)
                case true =>
                 have h := if_t h hb_221
                 try simp only [hb_221]
                 refine wpR_gv (t := 328) rfl rfl (OpV_move rfl) rfl ?_
                 refine wpR_gv (t := 328) rfl rfl (OpV_move rfl) rfl ?_
                 obtain ⟨x_222, hx_222, h⟩ := obind_some h
                 refine wpR_gcall (t := 328) rfl rfl (by kernel_rfl) rfl (c_law30_sameBytes _ x_218.1 (x_29.1.take x_29.2) v_219 (slV v_30 e8.sz 0 x_29.2)  (hS.ro 0 rfl).rp ((hS.ro 1 rfl).tk hk_32).rp _ hx_222) rfl ?_
                 rintro _ w ⟨rfl, hS1⟩
                 have hS := hS.call hS1
                 simp only [List.cons_append, List.nil_append] at hS
                 refine wpR_v (OpV_pickT rfl rfl) rfl (wpR_v (OpV_assign rfl) rfl (wpR_nil (QE_then_n (wpC_ret ?_))))
                 cases h
                 exact QE_ret1 rfl rfl ⟨rfl, hS.pick [] (by decide) rfl⟩
                case false =>
                 have h := if_f h hb_221
                 try simp only [hb_221]
                 refine wpR_gskip (b := false) (t := 328) rfl rfl rfl rfl ?_
                 refine wpR_gskip (b := false) (t := 328) rfl rfl rfl rfl ?_
                 refine wpR_gskip (b := false) (t := 328) rfl rfl rfl rfl ?_
                 refine wpR_v (OpV_pickF rfl rfl) rfl (wpR_v (OpV_assign rfl) rfl (wpR_nil (QE_then_n (wpC_ret ?_))))
                 cases h
                 exact QE_ret1 rfl rfl ⟨rfl, hS.pick [] (by decide) rfl⟩
              ·intro hK_217
               refine wpC_region (wpR_v (OpV_move rfl) rfl (wpR_v (OpV_move rfl) rfl (wpR_v (OpV_bin rfl rfl (b_ineq _ x_209.2.1 x_6.2.1)) rfl ?_)))
               refine wpR_v (OpV_move rfl) rfl ?_
               cases hb_212 : (x_209.2.1 != x_6.2.1)
               case true =>
                have h := if_t h hb_212
                try simp only [hb_212]
                refine wpR_gskip (b := true) (t := 308) rfl rfl rfl rfl ?_
                refine wpR_gskip (b := true) (t := 308) rfl rfl rfl rfl ?_
                refine wpR_gskip (b := true) (t := 308) rfl rfl rfl rfl ?_
                refine wpR_gskip (b := true) (t := 308) rfl rfl rfl rfl ?_
                refine wpR_v (OpV_pickT rfl rfl) rfl (wpR_v (OpV_move rfl) rfl (wpR_gskip (b := true) (t := 314) rfl rfl rfl rfl ?_))
                refine wpR_gskip (b := true) (t := 314) rfl rfl rfl rfl ?_
                refine wpR_gskip (b := true) (t := 314) rfl rfl rfl rfl ?_
                refine wpR_gskip (b := true) (t := 314) rfl rfl rfl rfl ?_
                refine wpR_v (OpV_pickT rfl rfl) rfl (wpR_nil (QE_then_n ?_))
                exact wpC_le _ (by exact ⟨rfl, rfl, rfl, rfl, trivial⟩) (hK_217 true _ _ ⟨rfl, (hS.pick [3, 0] (by decide) rfl)⟩ h)
               case false =>
                have h := if_f h hb_212
                try simp only [hb_212]
                refine wpR_gv (t := 308) rfl rfl (OpV_move rfl) rfl ?_
                refine wpR_gv (t := 308) rfl rfl (OpV_move rfl) rfl ?_
                obtain ⟨x_213, hx_213, h⟩ := obind_some h
                refine wpR_gcall (t := 308) rfl rfl (by kernel_rfl) rfl (c_law30_same _ x_209.1 (x_25.1.take x_25.2) v_210 (slV v_26 (eP eI (eP e64 (eP eS eI))).sz 0 x_25.2)  (hS.ro 0 rfl).rp ((hS.ro 2 rfl).tk hk_28).rp _ hx_213) rfl ?_
                rintro _ w ⟨rfl, hS1⟩
                have hS := hS.call hS1
                simp only [List.cons_append, List.nil_append] at hS
                refine wpR_gv (t := 308) rfl rfl (OpV_un rfl (u_not x_213)) rfl ?_
                refine wpR_v (OpV_pickF rfl rfl) rfl (wpR_v (OpV_move rfl) rfl ?_)
                cases hb_214 : (!x_213)
                case true =>
                 have h := if_t h hb_214
                 try simp only [hb_214]
                 refine wpR_gskip (b := true) (t := 314) rfl rfl rfl rfl ?_
                 refine wpR_gskip (b := true) (t := 314) rfl rfl rfl rfl ?_
                 refine wpR_gskip (b := true) (t := 314) rfl rfl rfl rfl ?_
                 refine wpR_gskip (b := true) (t := 314) rfl rfl rfl rfl ?_
                 refine wpR_v (OpV_pickT rfl rfl) rfl (wpR_nil (QE_then_n ?_))
                 exact wpC_le _ (by exact ⟨rfl, rfl, rfl, rfl, trivial⟩) (hK_217 true _ _ ⟨rfl, (hS.pick [3, 0] (by decide) rfl)⟩ h)
                case false =>
                 have h := if_f h hb_214
                 try simp only [hb_214]
                 refine wpR_gv (t := 314) rfl rfl (OpV_move rfl) rfl ?_
                 refine wpR_gv (t := 314) rfl rfl (OpV_move rfl) rfl ?_
                 obtain ⟨x_215, hx_215, h⟩ := obind_some h
                 refine wpR_gcall (t := 314) rfl rfl (by kernel_rfl) rfl (c_law30_spared _ x_2.1 x_2.2 a0 v_3 va0  (hS.ro 1 rfl).rp hk_5 (ha0.now hS.fr).rp _ hx_215) rfl ?_
                 rintro _ w ⟨rfl, hS1⟩
                 have hS := hS.call hS1
                 simp only [List.cons_append, List.nil_append] at hS
                 refine wpR_gv (t := 314) rfl rfl (OpV_un rfl (u_not x_215)) rfl ?_
                 refine wpR_v (OpV_pickF rfl rfl) rfl (wpR_nil (QE_then_n ?_))
                 exact wpC_le _ (by exact ⟨rfl, rfl, rfl, rfl, trivial⟩) (hK_217 (!x_215) _ _ ⟨rfl, (hS.pick [3, 0] (by decide) rfl)⟩ h)
  ·intro hK_24
   refine wpC_region (wpR_v (OpV_move rfl) rfl (wpR_v (OpV_move rfl) rfl (wpR_v (OpV_bin rfl rfl (b_ineq _ x_6.2.1 x_9.2.1)) rfl ?_)))
   refine wpR_v (OpV_move rfl) rfl ?_
   cases hb_18 : (x_6.2.1 != x_9.2.1)
   case true =>
    have h := if_t h hb_18
    try simp only [hb_18]
    refine wpR_gskip (b := true) (t := 64) rfl rfl rfl rfl ?_
    refine wpR_gskip (b := true) (t := 64) rfl rfl rfl rfl ?_
    refine wpR_gskip (b := true) (t := 64) rfl rfl rfl rfl ?_
    refine wpR_v (OpV_pickT rfl rfl) rfl (wpR_v (OpV_move rfl) rfl (wpR_gskip (b := true) (t := 69) rfl rfl rfl rfl ?_))
    refine wpR_gskip (b := true) (t := 69) rfl rfl rfl rfl ?_
    refine wpR_gskip (b := true) (t := 69) rfl rfl rfl rfl ?_
    refine wpR_gskip (b := true) (t := 69) rfl rfl rfl rfl ?_
    refine wpR_v (OpV_pickT rfl rfl) rfl (wpR_v (OpV_move rfl) rfl (wpR_gskip (b := true) (t := 75) rfl rfl rfl rfl ?_))
    refine wpR_gskip (b := true) (t := 75) rfl rfl rfl rfl ?_
    refine wpR_gskip (b := true) (t := 75) rfl rfl rfl rfl ?_
    refine wpR_gskip (b := true) (t := 75) rfl rfl rfl rfl ?_
    refine wpR_v (OpV_pickT rfl rfl) rfl (wpR_nil (QE_then_n ?_))
    exact wpC_le _ (by exact ⟨rfl, rfl, rfl, rfl, rfl, rfl, rfl, rfl, rfl, trivial⟩) (hK_24 true _ _ ⟨rfl, (hS.pick [4, 3, 2, 1, 0] (by decide) rfl)⟩ h)
   case false =>
    have h := if_f h hb_18
    try simp only [hb_18]
    refine wpR_gv (t := 64) rfl rfl (OpV_move rfl) rfl ?_
    refine wpR_gv (t := 64) rfl rfl (OpV_move rfl) rfl ?_
    refine wpR_gv (t := 64) rfl rfl (OpV_bin rfl rfl (b_ineq _ x_12.2 x_15.2)) rfl ?_
    refine wpR_v (OpV_pickF rfl rfl) rfl (wpR_v (OpV_move rfl) rfl ?_)
    cases hb_19 : (x_12.2 != x_15.2)
    case true =>
     have h := if_t h hb_19
     try simp only [hb_19]
     refine wpR_gskip (b := true) (t := 69) rfl rfl rfl rfl ?_
     refine wpR_gskip (b := true) (t := 69) rfl rfl rfl rfl ?_
     refine wpR_gskip (b := true) (t := 69) rfl rfl rfl rfl ?_
     refine wpR_gskip (b := true) (t := 69) rfl rfl rfl rfl ?_
     refine wpR_v (OpV_pickT rfl rfl) rfl (wpR_v (OpV_move rfl) rfl (wpR_gskip (b := true) (t := 75) rfl rfl rfl rfl ?_))
     refine wpR_gskip (b := true) (t := 75) rfl rfl rfl rfl ?_
     refine wpR_gskip (b := true) (t := 75) rfl rfl rfl rfl ?_
     refine wpR_gskip (b := true) (t := 75) rfl rfl rfl rfl ?_
     refine wpR_v (OpV_pickT rfl rfl) rfl (wpR_nil (QE_then_n ?_))
     exact wpC_le _ (by exact ⟨rfl, rfl, rfl, rfl, rfl, rfl, rfl, rfl, rfl, trivial⟩) (hK_24 true _ _ ⟨rfl, (hS.pick [4, 3, 2, 1, 0] (by decide) rfl)⟩ h)
    case false =>
     have h := if_f h hb_19
     try simp only [hb_19]
     refine wpR_gv (t := 69) rfl rfl (OpV_move rfl) rfl ?_
     refine wpR_gv (t := 69) rfl rfl (OpV_move rfl) rfl ?_
     obtain ⟨x_20, hx_20, h⟩ := obind_some h
     refine wpR_gcall (t := 69) rfl rfl (by kernel_rfl) rfl (c_law30_same _ x_6.1 x_9.1 v_7 v_10  (hS.ro 3 rfl).rp (hS.ro 2 rfl).rp _ hx_20) rfl ?_
     rintro _ w ⟨rfl, hS1⟩
     have hS := hS.call hS1
     simp only [List.cons_append, List.nil_append] at hS
     refine wpR_gv (t := 69) rfl rfl (OpV_un rfl (u_not x_20)) rfl ?_
     refine wpR_v (OpV_pickF rfl rfl) rfl (wpR_v (OpV_move rfl) rfl ?_)
     cases hb_21 : (!x_20)
     case true =>
      have h := if_t h hb_21
      try simp only [hb_21]
      refine wpR_gskip (b := true) (t := 75) rfl rfl rfl rfl ?_
      refine wpR_gskip (b := true) (t := 75) rfl rfl rfl rfl ?_
      refine wpR_gskip (b := true) (t := 75) rfl rfl rfl rfl ?_
      refine wpR_gskip (b := true) (t := 75) rfl rfl rfl rfl ?_
      refine wpR_v (OpV_pickT rfl rfl) rfl (wpR_nil (QE_then_n ?_))
      exact wpC_le _ (by exact ⟨rfl, rfl, rfl, rfl, rfl, rfl, rfl, rfl, rfl, trivial⟩) (hK_24 true _ _ ⟨rfl, (hS.pick [4, 3, 2, 1, 0] (by decide) rfl)⟩ h)
     case false =>
      have h := if_f h hb_21
      try simp only [hb_21]
      refine wpR_gv (t := 75) rfl rfl (OpV_move rfl) rfl ?_
      refine wpR_gv (t := 75) rfl rfl (OpV_move rfl) rfl ?_
      obtain ⟨x_22, hx_22, h⟩ := obind_some h
      refine wpR_gcall (t := 75) rfl rfl (by kernel_rfl) rfl (c_law30_sameBytes _ x_12.1 x_15.1 v_13 v_16  (hS.ro 1 rfl).rp (hS.ro 0 rfl).rp _ hx_22) rfl ?_
      rintro _ w ⟨rfl, hS1⟩
      have hS := hS.call hS1
      simp only [List.cons_append, List.nil_append] at hS
      refine wpR_gv (t := 75) rfl rfl (OpV_un rfl (u_not x_22)) rfl ?_
      refine wpR_v (OpV_pickF rfl rfl) rfl (wpR_nil (QE_then_n ?_))
      exact wpC_le _ (by exact ⟨rfl, rfl, rfl, rfl, rfl, rfl, rfl, rfl, rfl, trivial⟩) (hK_24 (!x_22) _ _ ⟨rfl, (hS.pick [4, 3, 2, 1, 0] (by decide) rfl)⟩ h)
end Go.Proofs
