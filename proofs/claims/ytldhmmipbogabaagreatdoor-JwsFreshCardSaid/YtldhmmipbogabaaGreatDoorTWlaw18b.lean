import Derived.Test.YtldhmmipbogabaaGreatDoorTW0
import Derived.Test.YtldhmmipbogabaaGreatDoorGkFlaw18
import Derived.Test.YtldhmmipbogabaaGreatDoorTWjws
import Derived.Test.YtldhmmipbogabaaGreatDoorTWlaw18a
set_option linter.unusedVariables false
set_option linter.unusedSimpArgs false
set_option linter.unusedVariables false
set_option maxRecDepth 4000
namespace Go.Proofs
open Go Go.RowKit Go.Gk
set_option maxHeartbeats 8000000 in
theorem c_law18_JwsFresh (w0 : World) (a0 : List UInt8)  (hT : TB [] w0) (r : Bool)
  (h : F.law18_JwsFresh a0 = some r) : Calls Tryz.prog 9 #[vS a0] w0 (Ret fun v w => v = vB r ∧ St [] w0 w []) := by
 refine calls_at 276 Tryz.func9 rfl rfl rfl ?_
 have hS := St.start w0
 refine wpC_le [(0, vS a0)] ⟨rfl, trivial⟩ ?_
 unfold F.law18_JwsFresh at h
 refine wpC_seq (wpC_region (wpR_run 1 rfl ?_))
 refine wpR_nil (QE_then_n (wpC_seq (wpC_seq (wpC_region ?_))))
 obtain ⟨x_1, hx_1, h⟩ := obind_some h
 refine wpR_call (by kernel_rfl) rfl (c_law18_alive _    (hT.now hS.fr) _ hx_1) rfl ?_
 rintro _ w ⟨rfl, hS1⟩
 have hS := hS.call hS1
 simp only [List.cons_append, List.nil_append] at hS
 refine wpR_run 1 rfl ?_
 refine wpR_nil (QE_then_n ?_)
 refine wpC_cond rfl (fun hb_234 => ?_) (fun hb_234 => ?_)
 ·have h := if_t h hb_234
  refine wpC_seq (wpC_region (wpR_run 1 rfl ?_))
  refine wpR_nil (QE_then_n (wpC_ret (QE_then_r ?_)))
  cases h
  exact QE_ret1 rfl rfl ⟨rfl, hS⟩
 have h := if_f h hb_234
 refine wpC_skip (QE_then_n (wpC_seq (wpC_region (wpR_run 1 rfl ?_))))
 obtain ⟨x_2, hx_2, h⟩ := obind_some h
 refine wpR_call (by kernel_rfl) rfl (c_jws_Decode _ a0    _ hx_2) rfl ?_
 rintro _ w ⟨v_3, v_5, v_7, rfl, hS1⟩
 have hS := hS.call hS1
 simp only [List.cons_append, List.nil_append] at hS
 refine wpR_run 9 rfl ?_
 refine wpR_nil (QE_then_n (wpC_seq (wpC_region (wpR_run 1 rfl ?_))))
 obtain ⟨x_9, hx_9, h⟩ := obind_some h
 refine wpR_call (by kernel_rfl) rfl (c_jws_Decode _ a0    _ hx_9) rfl ?_
 rintro _ w ⟨v_10, v_12, v_14, rfl, hS1⟩
 have hS := hS.call hS1
 simp only [List.cons_append, List.nil_append] at hS
 refine wpR_run 9 rfl ?_
 refine wpR_nil (QE_then_n (wpC_seq ?_))
 refine seq_join (r := r) (fun (g : Bool) L w => L = [(0, vS a0), (3, v_3), (4, v_5), (5, v_7), (6, vI x_2.2.2.2), (7, v_10), (8, v_12), (9, v_14), (66, vB g)] ∧ St [] w0 w [own e8 v_3 x_2.1, own e8 v_5 x_2.2.1, own e8 v_7 x_2.2.2.1, own e8 v_10 x_9.1, own e8 v_12 x_9.2.1, own e8 v_14 x_9.2.2.1]) (F.law18_JwsFresh_K1 x_2 x_9 a0) ?_ ?_
 rotate_left
 ·intro hK_23
  refine wpC_region (wpR_run 4 rfl ?_)
  cases hb_16 : (x_2.2.2.2 != x_9.2.2.2)
  case true =>
   have h := if_t h hb_16
   try simp only [hb_16]
   refine wpR_run 17 rfl ?_
   refine wpR_nil (QE_then_n ?_)
   exact wpC_le _ (by exact ⟨rfl, rfl, rfl, rfl, rfl, rfl, rfl, rfl, rfl, trivial⟩) (hK_23 true _ _ ⟨rfl, (hS.pick [3, 4, 5, 0, 1, 2] (by decide) rfl)⟩ h)
  case false =>
   have h := if_f h hb_16
   try simp only [hb_16]
   refine wpR_run 2 rfl ?_
   obtain ⟨x_17, hx_17, h⟩ := obind_some h
   refine wpR_gcall (t := 49) rfl rfl (by kernel_rfl) rfl (c_law18_same _ x_2.1 x_9.1 v_3 v_10  (hS.ro 3 rfl).rp (hS.ro 0 rfl).rp _ hx_17) rfl ?_
   rintro _ w ⟨rfl, hS1⟩
   have hS := hS.call hS1
   simp only [List.cons_append, List.nil_append] at hS
   refine wpR_run 3 rfl ?_
   cases hb_18 : (!x_17)
   case true =>
    have h := if_t h hb_18
    try simp only [hb_18]
    refine wpR_run 11 rfl ?_
    refine wpR_nil (QE_then_n ?_)
    exact wpC_le _ (by exact ⟨rfl, rfl, rfl, rfl, rfl, rfl, rfl, rfl, rfl, trivial⟩) (hK_23 true _ _ ⟨rfl, (hS.pick [3, 4, 5, 0, 1, 2] (by decide) rfl)⟩ h)
   case false =>
    have h := if_f h hb_18
    try simp only [hb_18]
    refine wpR_run 2 rfl ?_
    obtain ⟨x_19, hx_19, h⟩ := obind_some h
    refine wpR_gcall (t := 55) rfl rfl (by kernel_rfl) rfl (c_law18_same _ x_2.2.1 x_9.2.1 v_5 v_12  (hS.ro 4 rfl).rp (hS.ro 1 rfl).rp _ hx_19) rfl ?_
    rintro _ w ⟨rfl, hS1⟩
    have hS := hS.call hS1
    simp only [List.cons_append, List.nil_append] at hS
    refine wpR_run 3 rfl ?_
    cases hb_20 : (!x_19)
    case true =>
     have h := if_t h hb_20
     try simp only [hb_20]
     refine wpR_run 5 rfl ?_
     refine wpR_nil (QE_then_n ?_)
     exact wpC_le _ (by exact ⟨rfl, rfl, rfl, rfl, rfl, rfl, rfl, rfl, rfl, trivial⟩) (hK_23 true _ _ ⟨rfl, (hS.pick [3, 4, 5, 0, 1, 2] (by decide) rfl)⟩ h)
    case false =>
     have h := if_f h hb_20
     try simp only [hb_20]
     refine wpR_run 2 rfl ?_
     obtain ⟨x_21, hx_21, h⟩ := obind_some h
     refine wpR_gcall (t := 61) rfl rfl (by kernel_rfl) rfl (c_law18_same _ x_2.2.2.1 x_9.2.2.1 v_7 v_14  (hS.ro 5 rfl).rp (hS.ro 2 rfl).rp _ hx_21) rfl ?_
     rintro _ w ⟨rfl, hS1⟩
     have hS := hS.call hS1
     simp only [List.cons_append, List.nil_append] at hS
     refine wpR_run 2 rfl ?_
     refine wpR_nil (QE_then_n ?_)
     exact wpC_le _ (by exact ⟨rfl, rfl, rfl, rfl, rfl, rfl, rfl, rfl, rfl, trivial⟩) (hK_23 (!x_21) _ _ ⟨rfl, (hS.pick [3, 4, 5, 0, 1, 2] (by decide) rfl)⟩ h)
 rintro x_22 L w hJ h
 try dsimp only at hJ
 obtain ⟨rfl, hS⟩ := hJ
 unfold F.law18_JwsFresh_K1 at h
 refine wpC_cond rfl (fun hb_233 => ?_) (fun hb_233 => ?_)
 ·have h := if_t h hb_233
  refine wpC_seq (wpC_region (wpR_run 1 rfl ?_))
  refine wpR_nil (QE_then_n (wpC_ret (QE_then_r ?_)))
  cases h
  exact QE_ret1 rfl rfl ⟨rfl, hS.pick [] (by decide) rfl⟩
 have h := if_f h hb_233
 refine wpC_skip (QE_then_n (wpC_seq (wpC_region (wpR_run 3 rfl ?_))))
 refine wpR_nil (QE_then_n (wpC_seq (wpC_region (wpR_run 2 rfl ?_))))
 obtain ⟨x_24, hx_24, h⟩ := obind_some h
 refine wpR_x (G_append0 Tryz.underlying25 ti5 rfl rfl rfl hS (hS.ro 3 rfl) hx_24) rfl ?_
 rintro v_25 w hS
 refine wpR_run 1 rfl ?_
 refine wpR_nil (QE_then_n (wpC_seq (wpC_region (wpR_run 2 rfl ?_))))
 obtain ⟨x_27, hx_27, h⟩ := obind_some h
 refine wpR_x (G_append0 Tryz.underlying25 ti5 rfl rfl rfl hS (hS.ro 5 rfl) hx_27) rfl ?_
 rintro v_28 w hS
 refine wpR_run 1 rfl ?_
 refine wpR_nil (QE_then_n (wpC_seq (wpC_region (wpR_run 2 rfl ?_))))
 obtain ⟨x_30, hx_30, h⟩ := obind_some h
 refine wpR_x (G_append0 Tryz.underlying25 ti5 rfl rfl rfl hS (hS.ro 7 rfl) hx_30) rfl ?_
 rintro v_31 w hS
 refine wpR_run 1 rfl ?_
 refine wpR_nil (QE_then_n (wpC_seq (wpC_region (wpR_run 3 rfl ?_))))
 refine wpR_x (OpX_lit (e := eV) (l := ([SV.of v_3, SV.of v_5, SV.of v_7] : List SV)) (vs := [v_3, v_5, v_7]) Tryz.underlying56 ti25 rfl rfl rfl (fl_eVc (hS.ro 3 rfl).sv (fl_eVc (hS.ro 4 rfl).sv (fl_eVc (hS.ro 5 rfl).sv rfl))) (by decide) (by decide) hS) rfl ?_
 rintro v_33 w hS
 refine wpR_run 1 rfl ?_
 refine wpR_nil (QE_then_n (wpC_seq (wpC_seq (wpC_region (wpR_run 1 rfl ?_)))))
 refine wpR_nil (QE_then_n (wpC_block ?_))
 refine wpC_loop 100 ?_
 refine wpN_succ ?_
 refine wpC_seq (wpC_seq (wpC_region (wpR_run 2 rfl ?_)))
 refine wpR_v (show OpV _ _ _ _ _ (vI 3) _ from OpV_len Tryz.underlying56 rfl (hS.ro 0 rfl)) rfl ?_
 refine wpR_v (OpV_bin rfl rfl (b_ilss _ 0 3)) rfl ?_
 refine wpR_nil (QE_then_n (wpC_condT rfl ?_))
 refine wpC_skip (QE_then_n (wpC_seq (wpC_block ?_)))
 refine wpC_seq (wpC_region (wpR_run 1 rfl ?_))
 refine wpR_nil (QE_then_n (wpC_block ?_))
 refine wpC_le [(0, vS a0), (6, vI x_2.2.2.2), (7, v_10), (8, v_12), (9, v_14), (11, v_25), (12, v_28), (13, v_31), (14, v_33), (15, vI 0), (16, vI 0)] ⟨rfl, rfl, rfl, rfl, rfl, rfl, rfl, rfl, rfl, rfl, rfl, trivial⟩ ?_
 refine loop_ind (F.law18_JwsFresh_L1 x_2 x_9 x_24 x_27 x_30 a0) (fun (s : Int × List UInt8) L w => L = [(0, vS a0), (6, vI x_2.2.2.2), (7, v_10), (8, v_12), (9, v_14), (11, v_25), (12, v_28), (13, v_31), (14, v_33), (15, vI 0), (16, vI s.1)] ∧ St [] w0 w [own e8 v_10 x_9.1, own e8 v_12 x_9.2.1, own e8 v_14 x_9.2.2.1, own e8 v_25 x_24, own e8 v_28 x_27, own e8 v_31 x_30, own eV v_33 ([SV.of v_3, SV.of v_5, SV.of v_7] : List SV), own e8 v_3 s.2, own e8 v_5 x_2.2.1, own e8 v_7 x_2.2.2.1]) ?_ (0, x_2.1) ⟨rfl, (hS.pick [7, 8, 9, 3, 2, 1, 0, 4, 5, 6] (by decide) rfl)⟩ h
 rintro k_232 ⟨x_35, x_36⟩ L w q_39 hI ih_38 h hk_37
 try dsimp only at hI
 obtain ⟨rfl, hS⟩ := hI
 unfold F.law18_JwsFresh_L1 at h
 refine wpC_seq (wpC_seq (wpC_region (wpR_run 3 rfl ?_)))
 refine wpR_v (G_ix Tryz.underlying56 ti25 rfl rfl (hS.ro 6 rfl) (show getO ([SV.of v_3, SV.of v_5, SV.of v_7] : List SV) (0 : Int) = some (SV.of v_3) from rfl)) rfl ?_
 refine wpR_v (G_load Tryz.underlying25 rfl rfl (hS.ro 6 rfl) (show getO ([SV.of v_3, SV.of v_5, SV.of v_7] : List SV) (0 : Int) = some (SV.of v_3) from rfl) (eVc (hS.ro 7 rfl).sv)) rfl ?_
 refine wpR_v (OpV_len Tryz.underlying25 rfl (hS.ro 7 rfl)) rfl ?_
 refine wpR_run 1 rfl ?_
 refine wpR_nil (QE_then_n ?_)
 refine wpC_cond rfl (fun hb_231 => ?_) (fun hb_231 => ?_)
 ·have h := if_t h hb_231
  refine wpC_skip (QE_then_n (wpC_seq (wpC_block ?_)))
  refine wpC_region (wpR_run 2 rfl ?_)
  refine wpR_v (G_ix Tryz.underlying56 ti25 rfl rfl (hS.ro 6 rfl) (show getO ([SV.of v_3, SV.of v_5, SV.of v_7] : List SV) (0 : Int) = some (SV.of v_3) from rfl)) rfl ?_
  refine wpR_v (G_load Tryz.underlying25 rfl rfl (hS.ro 6 rfl) (show getO ([SV.of v_3, SV.of v_5, SV.of v_7] : List SV) (0 : Int) = some (SV.of v_3) from rfl) (eVc (hS.ro 7 rfl).sv)) rfl ?_
  refine wpR_run 2 rfl ?_
  refine wpR_v (OpV_bin rfl rfl (b_iadd _ 1 0)) rfl ?_
  refine wpR_v (OpV_conv rfl (cv_i_8 Tryz.underlying3 Tryz.underlying5 1)) rfl ?_
  obtain ⟨x_40, hx_40, h⟩ := obind_some h
  refine wpR_v (G_ix Tryz.underlying25 ti5 rfl rfl (hS.ro 7 rfl) hx_40) rfl ?_
  refine wpR_y (G_storeE (t := (UInt8.ofInt 1)) ti5 rfl rfl hS (i := 7) rfl hx_40 rfl) ?_
  intro w hS
  obtain ⟨x_41, hx_41, h⟩ := olet_some h
  rw [hx_41] at hS
  refine wpR_nil (QE_blk_n ?_)
  refine QE_then_n (wpC_region (wpR_run 3 rfl ?_))
  refine wpR_nil ?_
  exact QE_rnd (wpN_le _ (by exact ⟨rfl, rfl, rfl, rfl, rfl, rfl, rfl, rfl, rfl, rfl, rfl, trivial⟩) (ih_38 (wI (x_35 + 1), x_41) _ _ ⟨rfl, hS⟩ (oinl_some h hk_37)))
 have h := if_f h hb_231
 refine wpC_exit ?_
 refine QE_then_x (QE_then_x ?_)
 have h := oinr_some h hk_37
 refine QE_blk_x ?_
 refine QE_blk_n ?_
 refine QE_then_n (wpC_region (wpR_run 1 rfl ?_))
 refine wpR_v (OpV_bin rfl rfl (b_iadd _ 0 1)) rfl ?_
 refine wpR_run 1 rfl ?_
 refine wpR_nil (QE_rnd ?_)
 refine wpN_succ ?_
 refine wpC_seq (wpC_seq (wpC_region (wpR_run 2 rfl ?_)))
 refine wpR_v (show OpV _ _ _ _ _ (vI 3) _ from OpV_len Tryz.underlying56 rfl (hS.ro 6 rfl)) rfl ?_
 refine wpR_v (OpV_bin rfl rfl (b_ilss _ 1 3)) rfl ?_
 refine wpR_nil (QE_then_n (wpC_condT rfl ?_))
 refine wpC_skip (QE_then_n (wpC_seq (wpC_block ?_)))
 refine wpC_seq (wpC_region (wpR_run 1 rfl ?_))
 refine wpR_nil (QE_then_n (wpC_block ?_))
 refine wpC_le [(0, vS a0), (6, vI x_2.2.2.2), (7, v_10), (8, v_12), (9, v_14), (11, v_25), (12, v_28), (13, v_31), (14, v_33), (15, vI 1), (16, vI 0)] ⟨rfl, rfl, rfl, rfl, rfl, rfl, rfl, rfl, rfl, rfl, rfl, trivial⟩ ?_
 refine loop_ind (F.law18_JwsFresh_L2 x_2 x_36 x_9 x_24 x_27 x_30 a0) (fun (s : Int × List UInt8) L w => L = [(0, vS a0), (6, vI x_2.2.2.2), (7, v_10), (8, v_12), (9, v_14), (11, v_25), (12, v_28), (13, v_31), (14, v_33), (15, vI 1), (16, vI s.1)] ∧ St [] w0 w [own e8 v_10 x_9.1, own e8 v_12 x_9.2.1, own e8 v_14 x_9.2.2.1, own e8 v_25 x_24, own e8 v_28 x_27, own e8 v_31 x_30, own eV v_33 ([SV.of v_3, SV.of v_5, SV.of v_7] : List SV), own e8 v_3 x_36, own e8 v_5 s.2, own e8 v_7 x_2.2.2.1]) ?_ (0, x_2.2.1) ⟨rfl, hS⟩ h
 rintro k_230 ⟨x_42, x_43⟩ L w q_46 hI ih_45 h hk_44
 try dsimp only at hI
 obtain ⟨rfl, hS⟩ := hI
 unfold F.law18_JwsFresh_L2 at h
 refine wpC_seq (wpC_seq (wpC_region (wpR_run 3 rfl ?_)))
 refine wpR_v (G_ix Tryz.underlying56 ti25 rfl rfl (hS.ro 6 rfl) (show getO ([SV.of v_3, SV.of v_5, SV.of v_7] : List SV) (1 : Int) = some (SV.of v_5) from rfl)) rfl ?_
 refine wpR_v (G_load Tryz.underlying25 rfl rfl (hS.ro 6 rfl) (show getO ([SV.of v_3, SV.of v_5, SV.of v_7] : List SV) (1 : Int) = some (SV.of v_5) from rfl) (eVc (hS.ro 8 rfl).sv)) rfl ?_
 refine wpR_v (OpV_len Tryz.underlying25 rfl (hS.ro 8 rfl)) rfl ?_
 refine wpR_run 1 rfl ?_
 refine wpR_nil (QE_then_n ?_)
 refine wpC_cond rfl (fun hb_229 => ?_) (fun hb_229 => ?_)
 ·have h := if_t h hb_229
  refine wpC_skip (QE_then_n (wpC_seq (wpC_block ?_)))
  refine wpC_region (wpR_run 2 rfl ?_)
  refine wpR_v (G_ix Tryz.underlying56 ti25 rfl rfl (hS.ro 6 rfl) (show getO ([SV.of v_3, SV.of v_5, SV.of v_7] : List SV) (1 : Int) = some (SV.of v_5) from rfl)) rfl ?_
  refine wpR_v (G_load Tryz.underlying25 rfl rfl (hS.ro 6 rfl) (show getO ([SV.of v_3, SV.of v_5, SV.of v_7] : List SV) (1 : Int) = some (SV.of v_5) from rfl) (eVc (hS.ro 8 rfl).sv)) rfl ?_
  refine wpR_run 2 rfl ?_
  refine wpR_v (OpV_bin rfl rfl (b_iadd _ 1 1)) rfl ?_
  refine wpR_v (OpV_conv rfl (cv_i_8 Tryz.underlying3 Tryz.underlying5 2)) rfl ?_
  obtain ⟨x_47, hx_47, h⟩ := obind_some h
  refine wpR_v (G_ix Tryz.underlying25 ti5 rfl rfl (hS.ro 8 rfl) hx_47) rfl ?_
  refine wpR_y (G_storeE (t := (UInt8.ofInt 2)) ti5 rfl rfl hS (i := 8) rfl hx_47 rfl) ?_
  intro w hS
  obtain ⟨x_48, hx_48, h⟩ := olet_some h
  rw [hx_48] at hS
  refine wpR_nil (QE_blk_n ?_)
  refine QE_then_n (wpC_region (wpR_run 3 rfl ?_))
  refine wpR_nil ?_
  exact QE_rnd (wpN_le _ (by exact ⟨rfl, rfl, rfl, rfl, rfl, rfl, rfl, rfl, rfl, rfl, rfl, trivial⟩) (ih_45 (wI (x_42 + 1), x_48) _ _ ⟨rfl, hS⟩ (oinl_some h hk_44)))
 have h := if_f h hb_229
 refine wpC_exit ?_
 refine QE_then_x (QE_then_x ?_)
 have h := oinr_some h hk_44
 refine QE_blk_x ?_
 refine QE_blk_n ?_
 refine QE_then_n (wpC_region (wpR_run 1 rfl ?_))
 refine wpR_v (OpV_bin rfl rfl (b_iadd _ 1 1)) rfl ?_
 refine wpR_run 1 rfl ?_
 refine wpR_nil (QE_rnd ?_)
 refine wpN_succ ?_
 refine wpC_seq (wpC_seq (wpC_region (wpR_run 2 rfl ?_)))
 refine wpR_v (show OpV _ _ _ _ _ (vI 3) _ from OpV_len Tryz.underlying56 rfl (hS.ro 6 rfl)) rfl ?_
 refine wpR_v (OpV_bin rfl rfl (b_ilss _ 2 3)) rfl ?_
 refine wpR_nil (QE_then_n (wpC_condT rfl ?_))
 refine wpC_skip (QE_then_n (wpC_seq (wpC_block ?_)))
 refine wpC_seq (wpC_region (wpR_run 1 rfl ?_))
 refine wpR_nil (QE_then_n (wpC_block ?_))
 refine wpC_le [(0, vS a0), (6, vI x_2.2.2.2), (7, v_10), (8, v_12), (9, v_14), (11, v_25), (12, v_28), (13, v_31), (14, v_33), (15, vI 2), (16, vI 0)] ⟨rfl, rfl, rfl, rfl, rfl, rfl, rfl, rfl, rfl, rfl, rfl, trivial⟩ ?_
 refine loop_ind (F.law18_JwsFresh_L3 x_36 x_43 x_9 x_24 x_27 x_30 a0 x_2) (fun (s : Int × List UInt8) L w => L = [(0, vS a0), (6, vI x_2.2.2.2), (7, v_10), (8, v_12), (9, v_14), (11, v_25), (12, v_28), (13, v_31), (14, v_33), (15, vI 2), (16, vI s.1)] ∧ St [] w0 w [own e8 v_10 x_9.1, own e8 v_12 x_9.2.1, own e8 v_14 x_9.2.2.1, own e8 v_25 x_24, own e8 v_28 x_27, own e8 v_31 x_30, own eV v_33 ([SV.of v_3, SV.of v_5, SV.of v_7] : List SV), own e8 v_3 x_36, own e8 v_5 x_43, own e8 v_7 s.2]) ?_ (0, x_2.2.2.1) ⟨rfl, hS⟩ h
 rintro k_228 ⟨x_49, x_50⟩ L w q_53 hI ih_52 h hk_51
 try dsimp only at hI
 obtain ⟨rfl, hS⟩ := hI
 unfold F.law18_JwsFresh_L3 at h
 refine wpC_seq (wpC_seq (wpC_region (wpR_run 3 rfl ?_)))
 refine wpR_v (G_ix Tryz.underlying56 ti25 rfl rfl (hS.ro 6 rfl) (show getO ([SV.of v_3, SV.of v_5, SV.of v_7] : List SV) (2 : Int) = some (SV.of v_7) from rfl)) rfl ?_
 refine wpR_v (G_load Tryz.underlying25 rfl rfl (hS.ro 6 rfl) (show getO ([SV.of v_3, SV.of v_5, SV.of v_7] : List SV) (2 : Int) = some (SV.of v_7) from rfl) (eVc (hS.ro 9 rfl).sv)) rfl ?_
 refine wpR_v (OpV_len Tryz.underlying25 rfl (hS.ro 9 rfl)) rfl ?_
 refine wpR_run 1 rfl ?_
 refine wpR_nil (QE_then_n ?_)
 refine wpC_cond rfl (fun hb_227 => ?_) (fun hb_227 => ?_)
 ·have h := if_t h hb_227
  refine wpC_skip (QE_then_n (wpC_seq (wpC_block ?_)))
  refine wpC_region (wpR_run 2 rfl ?_)
  refine wpR_v (G_ix Tryz.underlying56 ti25 rfl rfl (hS.ro 6 rfl) (show getO ([SV.of v_3, SV.of v_5, SV.of v_7] : List SV) (2 : Int) = some (SV.of v_7) from rfl)) rfl ?_
  refine wpR_v (G_load Tryz.underlying25 rfl rfl (hS.ro 6 rfl) (show getO ([SV.of v_3, SV.of v_5, SV.of v_7] : List SV) (2 : Int) = some (SV.of v_7) from rfl) (eVc (hS.ro 9 rfl).sv)) rfl ?_
  refine wpR_run 2 rfl ?_
  refine wpR_v (OpV_bin rfl rfl (b_iadd _ 1 2)) rfl ?_
  refine wpR_v (OpV_conv rfl (cv_i_8 Tryz.underlying3 Tryz.underlying5 3)) rfl ?_
  obtain ⟨x_54, hx_54, h⟩ := obind_some h
  refine wpR_v (G_ix Tryz.underlying25 ti5 rfl rfl (hS.ro 9 rfl) hx_54) rfl ?_
  refine wpR_y (G_storeE (t := (UInt8.ofInt 3)) ti5 rfl rfl hS (i := 9) rfl hx_54 rfl) ?_
  intro w hS
  obtain ⟨x_55, hx_55, h⟩ := olet_some h
  rw [hx_55] at hS
  refine wpR_nil (QE_blk_n ?_)
  refine QE_then_n (wpC_region (wpR_run 3 rfl ?_))
  refine wpR_nil ?_
  exact QE_rnd (wpN_le _ (by exact ⟨rfl, rfl, rfl, rfl, rfl, rfl, rfl, rfl, rfl, rfl, rfl, trivial⟩) (ih_52 (wI (x_49 + 1), x_55) _ _ ⟨rfl, hS⟩ (oinl_some h hk_51)))
 have h := if_f h hb_227
 refine wpC_exit ?_
 refine QE_then_x (QE_then_x ?_)
 have h := oinr_some h hk_51
 refine QE_blk_x ?_
 refine QE_blk_n ?_
 refine QE_then_n (wpC_region (wpR_run 1 rfl ?_))
 refine wpR_v (OpV_bin rfl rfl (b_iadd _ 2 1)) rfl ?_
 refine wpR_run 1 rfl ?_
 refine wpR_nil (QE_rnd ?_)
 refine wpN_succ ?_
 refine wpC_seq (wpC_seq (wpC_region (wpR_run 2 rfl ?_)))
 refine wpR_v (show OpV _ _ _ _ _ (vI 3) _ from OpV_len Tryz.underlying56 rfl (hS.ro 6 rfl)) rfl ?_
 refine wpR_v (OpV_bin rfl rfl (b_ilss _ 3 3)) rfl ?_
 refine wpR_nil (QE_then_n (wpC_condF rfl ?_))
 refine wpC_exit ?_
 refine QE_then_x (QE_then_x (QE_blk_x ?_))
 refine QE_then_n (wpC_seq (wpC_region (wpR_run 1 rfl ?_)))
 refine wpR_nil (QE_then_n (wpC_seq (wpC_seq (wpC_region (wpR_run 1 rfl ?_)))))
 refine wpR_nil (QE_then_n (wpC_block ?_))
 refine wpC_loop 100 ?_
 refine wpN_succ ?_
 refine wpC_seq (wpC_seq (wpC_region (wpR_run 2 rfl ?_)))
 refine wpR_v (show OpV _ _ _ _ _ (vI 3) _ from OpV_len Tryz.underlying56 rfl (hS.ro 6 rfl)) rfl ?_
 refine wpR_v (OpV_bin rfl rfl (b_ilss _ 0 3)) rfl ?_
 refine wpR_nil (QE_then_n (wpC_condT rfl ?_))
 refine wpC_skip (QE_then_n (wpC_seq (wpC_block ?_)))
 refine wpC_seq (wpC_region (wpR_run 2 rfl ?_))
 refine wpR_v (G_ix Tryz.underlying56 ti25 rfl rfl (hS.ro 6 rfl) (show getO ([SV.of v_3, SV.of v_5, SV.of v_7] : List SV) (0 : Int) = some (SV.of v_3) from rfl)) rfl ?_
 refine wpR_v (G_load Tryz.underlying25 rfl rfl (hS.ro 6 rfl) (show getO ([SV.of v_3, SV.of v_5, SV.of v_7] : List SV) (0 : Int) = some (SV.of v_3) from rfl) (eVc (hS.ro 7 rfl).sv)) rfl ?_
 refine wpR_run 1 rfl ?_
 have hA_57 := (hS.ro 7 rfl).tw
 replace hS := hS.twin 7 rfl
 refine wpR_nil (QE_then_n (wpC_seq (wpC_seq (wpC_region (wpR_run 1 rfl ?_)))))
 refine wpR_nil (QE_then_n (wpC_block ?_))
 refine wpC_le [(0, vS a0), (6, vI x_2.2.2.2), (7, v_10), (8, v_12), (9, v_14), (11, v_25), (12, v_28), (13, v_31), (14, v_33), (17, .slice none 0 0), (18, vI 0), (19, v_3), (20, vI 0)] ⟨rfl, rfl, rfl, rfl, rfl, rfl, rfl, rfl, rfl, rfl, rfl, rfl, rfl, trivial⟩ ?_
 refine loop_ind (F.law18_JwsFresh_L4 x_43 x_50 x_36 x_9 x_24 x_27 x_30 a0 x_2) (fun (s : List UInt8 × Int) L w => ∃ (v_59 : Value) (b_62 : Nat), L = [(0, vS a0), (6, vI x_2.2.2.2), (7, v_10), (8, v_12), (9, v_14), (11, v_25), (12, v_28), (13, v_31), (14, v_33), (17, .slice none 0 0), (18, vI 0), (19, v_59), (20, vI s.2)] ∧ Tw v_3 x_36 v_59 s.1 b_62 ∧ St [] w0 w [own e8 v_59 s.1, own e8 v_10 x_9.1, own e8 v_12 x_9.2.1, own e8 v_14 x_9.2.2.1, own e8 v_25 x_24, own e8 v_28 x_27, own e8 v_31 x_30, own eV v_33 ([SV.of v_3, SV.of v_5, SV.of v_7] : List SV), twE e8 v_3 x_36 b_62, own e8 v_5 x_43, own e8 v_7 x_50]) ?_ (x_36, 0) ⟨v_3, 0, rfl, hA_57, (hS.pick [8, 1, 2, 3, 4, 5, 6, 7, 0, 9, 10] (by decide) rfl)⟩ h
 rintro k_226 ⟨x_58, x_61⟩ L w q_66 hI ih_65 h hk_64
 try dsimp only at hI
 obtain ⟨v_59, b_62, rfl, hA_63, hS⟩ := hI
 unfold F.law18_JwsFresh_L4 at h
 refine wpC_seq (wpC_seq (wpC_region (wpR_run 2 rfl ?_)))
 refine wpR_nil (QE_then_n ?_)
 refine wpC_cond rfl (fun hb_225 => ?_) (fun hb_225 => ?_)
 ·have h := if_t h hb_225
  refine wpC_skip (QE_then_n (wpC_seq (wpC_block ?_)))
  refine wpC_region (wpR_run 2 rfl ?_)
  refine wpR_v (OpV_bin rfl rfl (b_iadd _ 11 0)) rfl ?_
  refine wpR_v (OpV_conv rfl (cv_i_8 Tryz.underlying3 Tryz.underlying5 11)) rfl ?_
  refine wpR_x (OpX_lit (e := e8) (l := [UInt8.ofInt 11]) (vs := [v8 (UInt8.ofInt 11)]) Tryz.underlying25 ti5 rfl rfl rfl rfl (by decide) (by decide) hS) rfl ?_
  rintro v_67 w hS
  obtain ⟨x_69, hx_69, h⟩ := obind_some h
  refine wpR_x (G_append_tw Tryz.underlying25 ti5 rfl rfl rfl hS (i := 1) (j := 9) rfl rfl hA_63 (hS.ro 0 rfl) hx_69) rfl ?_
  rintro v_70 w ⟨b_71, hA_72, hS⟩
  refine wpR_run 1 rfl ?_
  refine wpR_nil (QE_blk_n ?_)
  refine QE_then_n (wpC_region (wpR_run 3 rfl ?_))
  refine wpR_nil ?_
  exact QE_rnd (wpN_le _ (by exact ⟨rfl, rfl, rfl, rfl, rfl, rfl, rfl, rfl, rfl, rfl, rfl, rfl, rfl, trivial⟩) (ih_65 (x_69, wI (x_61 + 1)) _ _ ⟨v_70, b_71, rfl, hA_72, (hS.pick [1, 2, 3, 4, 5, 6, 7, 8, 9, 10, 11] (by decide) rfl)⟩ (oinl_some h hk_64)))
 have h := if_f h hb_225
 refine wpC_exit ?_
 refine QE_then_x (QE_then_x ?_)
 have h := oinr_some h hk_64
 refine QE_blk_x ?_
 refine QE_then_n (wpC_region (wpR_run 2 rfl ?_))
 refine wpR_x (OpX_lit (e := eV) (l := ([SV.of v_59] : List SV)) (vs := [v_59]) Tryz.underlying56 ti25 rfl rfl rfl (fl_eVc (hS.ro 0 rfl).sv rfl) (by decide) (by decide) hS) rfl ?_
 rintro v_74 w hS
 refine wpR_x (G_append0 Tryz.underlying56 ti25 rfl rfl rfl hS (hS.ro 0 rfl) (apO_v rfl)) rfl ?_
 rintro v_76 w hS
 replace hS : St _ w0 w [own eV v_76 ([SV.of v_59] : List SV), own eV v_74 ([SV.of v_59] : List SV), own e8 v_59 x_58, own e8 v_10 x_9.1, own e8 v_12 x_9.2.1, own e8 v_14 x_9.2.2.1, own e8 v_25 x_24, own e8 v_28 x_27, own e8 v_31 x_30, own eV v_33 ([SV.of v_3, SV.of v_5, SV.of v_7] : List SV), twE e8 v_3 x_36 b_62, own e8 v_5 x_43, own e8 v_7 x_50] := hS
 refine wpR_run 1 rfl ?_
 refine wpR_nil (QE_blk_n ?_)
 refine QE_then_n (wpC_region (wpR_run 1 rfl ?_))
 refine wpR_v (OpV_bin rfl rfl (b_iadd _ 0 1)) rfl ?_
 refine wpR_run 1 rfl ?_
 refine wpR_nil (QE_rnd ?_)
 refine wpN_succ ?_
 refine wpC_seq (wpC_seq (wpC_region (wpR_run 2 rfl ?_)))
 refine wpR_v (show OpV _ _ _ _ _ (vI 3) _ from OpV_len Tryz.underlying56 rfl (hS.ro 9 rfl)) rfl ?_
 refine wpR_v (OpV_bin rfl rfl (b_ilss _ 1 3)) rfl ?_
 refine wpR_nil (QE_then_n (wpC_condT rfl ?_))
 refine wpC_skip (QE_then_n (wpC_seq (wpC_block ?_)))
 refine wpC_seq (wpC_region (wpR_run 2 rfl ?_))
 refine wpR_v (G_ix Tryz.underlying56 ti25 rfl rfl (hS.ro 9 rfl) (show getO ([SV.of v_3, SV.of v_5, SV.of v_7] : List SV) (1 : Int) = some (SV.of v_5) from rfl)) rfl ?_
 refine wpR_v (G_load Tryz.underlying25 rfl rfl (hS.ro 9 rfl) (show getO ([SV.of v_3, SV.of v_5, SV.of v_7] : List SV) (1 : Int) = some (SV.of v_5) from rfl) (eVc (hS.ro 11 rfl).sv)) rfl ?_
 refine wpR_run 1 rfl ?_
 have hA_79 := (hS.ro 11 rfl).tw
 replace hS := hS.twin 11 rfl
 refine wpR_nil (QE_then_n (wpC_seq (wpC_seq (wpC_region (wpR_run 1 rfl ?_)))))
 refine wpR_nil (QE_then_n (wpC_block ?_))
 refine wpC_le [(0, vS a0), (6, vI x_2.2.2.2), (7, v_10), (8, v_12), (9, v_14), (11, v_25), (12, v_28), (13, v_31), (14, v_33), (17, v_76), (18, vI 1), (19, v_5), (20, vI 0)] ⟨rfl, rfl, rfl, rfl, rfl, rfl, rfl, rfl, rfl, rfl, rfl, rfl, rfl, trivial⟩ ?_
 refine loop_ind (F.law18_JwsFresh_L5 x_50 x_36 x_58 x_43 x_9 x_24 x_27 x_30 a0 x_2) (fun (s : List UInt8 × Int) L w => ∃ (v_81 : Value) (b_84 : Nat), L = [(0, vS a0), (6, vI x_2.2.2.2), (7, v_10), (8, v_12), (9, v_14), (11, v_25), (12, v_28), (13, v_31), (14, v_33), (17, v_76), (18, vI 1), (19, v_81), (20, vI s.2)] ∧ Tw v_5 x_43 v_81 s.1 b_84 ∧ St [] w0 w [own e8 v_81 s.1, own e8 v_10 x_9.1, own e8 v_12 x_9.2.1, own e8 v_14 x_9.2.2.1, own e8 v_25 x_24, own e8 v_28 x_27, own e8 v_31 x_30, own eV v_33 ([SV.of v_3, SV.of v_5, SV.of v_7] : List SV), twE e8 v_3 x_36 b_62, own e8 v_59 x_58, twE e8 v_5 x_43 b_84, own e8 v_7 x_50, own eV v_76 ([SV.of v_59] : List SV)]) ?_ (x_43, 0) ⟨v_5, 0, rfl, hA_79, (hS.pick [12, 4, 5, 6, 7, 8, 9, 10, 11, 3, 0, 13, 1] (by decide) rfl)⟩ h
 rintro k_224 ⟨x_80, x_83⟩ L w q_88 hI ih_87 h hk_86
 try dsimp only at hI
 obtain ⟨v_81, b_84, rfl, hA_85, hS⟩ := hI
 unfold F.law18_JwsFresh_L5 at h
 refine wpC_seq (wpC_seq (wpC_region (wpR_run 2 rfl ?_)))
 refine wpR_nil (QE_then_n ?_)
 refine wpC_cond rfl (fun hb_223 => ?_) (fun hb_223 => ?_)
 ·have h := if_t h hb_223
  refine wpC_skip (QE_then_n (wpC_seq (wpC_block ?_)))
  refine wpC_region (wpR_run 2 rfl ?_)
  refine wpR_v (OpV_bin rfl rfl (b_iadd _ 11 1)) rfl ?_
  refine wpR_v (OpV_conv rfl (cv_i_8 Tryz.underlying3 Tryz.underlying5 12)) rfl ?_
  refine wpR_x (OpX_lit (e := e8) (l := [UInt8.ofInt 12]) (vs := [v8 (UInt8.ofInt 12)]) Tryz.underlying25 ti5 rfl rfl rfl rfl (by decide) (by decide) hS) rfl ?_
  rintro v_89 w hS
  obtain ⟨x_91, hx_91, h⟩ := obind_some h
  refine wpR_x (G_append_tw Tryz.underlying25 ti5 rfl rfl rfl hS (i := 1) (j := 11) rfl rfl hA_85 (hS.ro 0 rfl) hx_91) rfl ?_
  rintro v_92 w ⟨b_93, hA_94, hS⟩
  refine wpR_run 1 rfl ?_
  refine wpR_nil (QE_blk_n ?_)
  refine QE_then_n (wpC_region (wpR_run 3 rfl ?_))
  refine wpR_nil ?_
  exact QE_rnd (wpN_le _ (by exact ⟨rfl, rfl, rfl, rfl, rfl, rfl, rfl, rfl, rfl, rfl, rfl, rfl, rfl, trivial⟩) (ih_87 (x_91, wI (x_83 + 1)) _ _ ⟨v_92, b_93, rfl, hA_94, (hS.pick [1, 2, 3, 4, 5, 6, 7, 8, 9, 10, 11, 12, 13] (by decide) rfl)⟩ (oinl_some h hk_86)))
 have h := if_f h hb_223
 refine wpC_exit ?_
 refine QE_then_x (QE_then_x ?_)
 have h := oinr_some h hk_86
 refine QE_blk_x ?_
 refine QE_then_n (wpC_region (wpR_run 2 rfl ?_))
 refine wpR_x (OpX_lit (e := eV) (l := ([SV.of v_81] : List SV)) (vs := [v_81]) Tryz.underlying56 ti25 rfl rfl rfl (fl_eVc (hS.ro 0 rfl).sv rfl) (by decide) (by decide) hS) rfl ?_
 rintro v_96 w hS
 refine wpR_x (G_append Tryz.underlying56 ti25 rfl rfl rfl hS (i := 13) rfl (hS.ro 0 rfl) (apO_v rfl)) rfl ?_
 rintro v_98 w hS
 replace hS : St _ w0 w [own eV v_96 ([SV.of v_81] : List SV), own e8 v_81 x_80, own e8 v_10 x_9.1, own e8 v_12 x_9.2.1, own e8 v_14 x_9.2.2.1, own e8 v_25 x_24, own e8 v_28 x_27, own e8 v_31 x_30, own eV v_33 ([SV.of v_3, SV.of v_5, SV.of v_7] : List SV), twE e8 v_3 x_36 b_62, own e8 v_59 x_58, twE e8 v_5 x_43 b_84, own e8 v_7 x_50, own eV v_98 ([SV.of v_59, SV.of v_81] : List SV)] := hS
 refine wpR_run 1 rfl ?_
 refine wpR_nil (QE_blk_n ?_)
 refine QE_then_n (wpC_region (wpR_run 1 rfl ?_))
 refine wpR_v (OpV_bin rfl rfl (b_iadd _ 1 1)) rfl ?_
 refine wpR_run 1 rfl ?_
 refine wpR_nil (QE_rnd ?_)
 refine wpN_succ ?_
 refine wpC_seq (wpC_seq (wpC_region (wpR_run 2 rfl ?_)))
 refine wpR_v (show OpV _ _ _ _ _ (vI 3) _ from OpV_len Tryz.underlying56 rfl (hS.ro 8 rfl)) rfl ?_
 refine wpR_v (OpV_bin rfl rfl (b_ilss _ 2 3)) rfl ?_
 refine wpR_nil (QE_then_n (wpC_condT rfl ?_))
 refine wpC_skip (QE_then_n (wpC_seq (wpC_block ?_)))
 refine wpC_seq (wpC_region (wpR_run 2 rfl ?_))
 refine wpR_v (G_ix Tryz.underlying56 ti25 rfl rfl (hS.ro 8 rfl) (show getO ([SV.of v_3, SV.of v_5, SV.of v_7] : List SV) (2 : Int) = some (SV.of v_7) from rfl)) rfl ?_
 refine wpR_v (G_load Tryz.underlying25 rfl rfl (hS.ro 8 rfl) (show getO ([SV.of v_3, SV.of v_5, SV.of v_7] : List SV) (2 : Int) = some (SV.of v_7) from rfl) (eVc (hS.ro 12 rfl).sv)) rfl ?_
 refine wpR_run 1 rfl ?_
 have hA_101 := (hS.ro 12 rfl).tw
 replace hS := hS.twin 12 rfl
 refine wpR_nil (QE_then_n (wpC_seq (wpC_seq (wpC_region (wpR_run 1 rfl ?_)))))
 refine wpR_nil (QE_then_n (wpC_block ?_))
 refine wpC_le [(0, vS a0), (6, vI x_2.2.2.2), (7, v_10), (8, v_12), (9, v_14), (11, v_25), (12, v_28), (13, v_31), (14, v_33), (17, v_98), (18, vI 2), (19, v_7), (20, vI 0)] ⟨rfl, rfl, rfl, rfl, rfl, rfl, rfl, rfl, rfl, rfl, rfl, rfl, rfl, trivial⟩ ?_
 refine loop_ind (F.law18_JwsFresh_L6 x_36 x_58 x_43 x_80 x_9 x_24 x_27 x_30 x_50 a0 x_2) (fun (s : List UInt8 × Int) L w => ∃ (v_103 : Value) (b_106 : Nat), L = [(0, vS a0), (6, vI x_2.2.2.2), (7, v_10), (8, v_12), (9, v_14), (11, v_25), (12, v_28), (13, v_31), (14, v_33), (17, v_98), (18, vI 2), (19, v_103), (20, vI s.2)] ∧ Tw v_7 x_50 v_103 s.1 b_106 ∧ St [] w0 w [own e8 v_103 s.1, own e8 v_10 x_9.1, own e8 v_12 x_9.2.1, own e8 v_14 x_9.2.2.1, own e8 v_25 x_24, own e8 v_28 x_27, own e8 v_31 x_30, own eV v_33 ([SV.of v_3, SV.of v_5, SV.of v_7] : List SV), twE e8 v_3 x_36 b_62, own e8 v_59 x_58, twE e8 v_5 x_43 b_84, own e8 v_81 x_80, twE e8 v_7 x_50 b_106, own eV v_98 ([SV.of v_59, SV.of v_81] : List SV)]) ?_ (x_50, 0) ⟨v_7, 0, rfl, hA_101, (hS.pick [13, 3, 4, 5, 6, 7, 8, 9, 10, 11, 12, 2, 0, 14] (by decide) rfl)⟩ h
 rintro k_222 ⟨x_102, x_105⟩ L w q_110 hI ih_109 h hk_108
 try dsimp only at hI
 obtain ⟨v_103, b_106, rfl, hA_107, hS⟩ := hI
 unfold F.law18_JwsFresh_L6 at h
 refine wpC_seq (wpC_seq (wpC_region (wpR_run 2 rfl ?_)))
 refine wpR_nil (QE_then_n ?_)
 refine wpC_cond rfl (fun hb_221 => ?_) (fun hb_221 => ?_)
 ·have h := if_t h hb_221
  refine wpC_skip (QE_then_n (wpC_seq (wpC_block ?_)))
  refine wpC_region (wpR_run 2 rfl ?_)
  refine wpR_v (OpV_bin rfl rfl (b_iadd _ 11 2)) rfl ?_
  refine wpR_v (OpV_conv rfl (cv_i_8 Tryz.underlying3 Tryz.underlying5 13)) rfl ?_
  refine wpR_x (OpX_lit (e := e8) (l := [UInt8.ofInt 13]) (vs := [v8 (UInt8.ofInt 13)]) Tryz.underlying25 ti5 rfl rfl rfl rfl (by decide) (by decide) hS) rfl ?_
  rintro v_111 w hS
  obtain ⟨x_113, hx_113, h⟩ := obind_some h
  refine wpR_x (G_append_tw Tryz.underlying25 ti5 rfl rfl rfl hS (i := 1) (j := 13) rfl rfl hA_107 (hS.ro 0 rfl) hx_113) rfl ?_
  rintro v_114 w ⟨b_115, hA_116, hS⟩
  refine wpR_run 1 rfl ?_
  refine wpR_nil (QE_blk_n ?_)
  refine QE_then_n (wpC_region (wpR_run 3 rfl ?_))
  refine wpR_nil ?_
  exact QE_rnd (wpN_le _ (by exact ⟨rfl, rfl, rfl, rfl, rfl, rfl, rfl, rfl, rfl, rfl, rfl, rfl, rfl, trivial⟩) (ih_109 (x_113, wI (x_105 + 1)) _ _ ⟨v_114, b_115, rfl, hA_116, (hS.pick [1, 2, 3, 4, 5, 6, 7, 8, 9, 10, 11, 12, 13, 14] (by decide) rfl)⟩ (oinl_some h hk_108)))
 have h := if_f h hb_221
 refine wpC_exit ?_
 refine QE_then_x (QE_then_x ?_)
 have h := oinr_some h hk_108
 refine QE_blk_x ?_
 refine QE_then_n (wpC_region (wpR_run 2 rfl ?_))
 refine wpR_x (OpX_lit (e := eV) (l := ([SV.of v_103] : List SV)) (vs := [v_103]) Tryz.underlying56 ti25 rfl rfl rfl (fl_eVc (hS.ro 0 rfl).sv rfl) (by decide) (by decide) hS) rfl ?_
 rintro v_118 w hS
 refine wpR_x (G_append Tryz.underlying56 ti25 rfl rfl rfl hS (i := 14) rfl (hS.ro 0 rfl) (apO_v rfl)) rfl ?_
 rintro v_120 w hS
 replace hS : St _ w0 w [own eV v_118 ([SV.of v_103] : List SV), own e8 v_103 x_102, own e8 v_10 x_9.1, own e8 v_12 x_9.2.1, own e8 v_14 x_9.2.2.1, own e8 v_25 x_24, own e8 v_28 x_27, own e8 v_31 x_30, own eV v_33 ([SV.of v_3, SV.of v_5, SV.of v_7] : List SV), twE e8 v_3 x_36 b_62, own e8 v_59 x_58, twE e8 v_5 x_43 b_84, own e8 v_81 x_80, twE e8 v_7 x_50 b_106, own eV v_120 ([SV.of v_59, SV.of v_81, SV.of v_103] : List SV)] := hS
 refine wpR_run 1 rfl ?_
 refine wpR_nil (QE_blk_n ?_)
 refine QE_then_n (wpC_region (wpR_run 1 rfl ?_))
 refine wpR_v (OpV_bin rfl rfl (b_iadd _ 2 1)) rfl ?_
 refine wpR_run 1 rfl ?_
 refine wpR_nil (QE_rnd ?_)
 refine wpN_succ ?_
 refine wpC_seq (wpC_seq (wpC_region (wpR_run 2 rfl ?_)))
 refine wpR_v (show OpV _ _ _ _ _ (vI 3) _ from OpV_len Tryz.underlying56 rfl (hS.ro 8 rfl)) rfl ?_
 refine wpR_v (OpV_bin rfl rfl (b_ilss _ 3 3)) rfl ?_
 refine wpR_nil (QE_then_n (wpC_condF rfl ?_))
 refine wpC_exit ?_
 refine QE_then_x (QE_then_x (QE_blk_x ?_))
 refine QE_then_n (wpC_seq (wpC_seq (wpC_region (wpR_run 1 rfl ?_))))
 refine wpR_nil (QE_then_n (wpC_block ?_))
 refine wpC_loop 100 ?_
 refine wpN_succ ?_
 refine wpC_seq (wpC_seq (wpC_region (wpR_run 2 rfl ?_)))
 refine wpR_v (show OpV _ _ _ _ _ (vI 3) _ from OpV_len Tryz.underlying56 rfl (hS.ro 8 rfl)) rfl ?_
 refine wpR_v (OpV_bin rfl rfl (b_ilss _ 0 3)) rfl ?_
 refine wpR_nil (QE_then_n (wpC_condT rfl ?_))
 refine wpC_skip (QE_then_n (wpC_seq (wpC_block ?_)))
 refine wpC_seq (wpC_region (wpR_run 1 rfl ?_))
 refine wpR_nil (QE_then_n (wpC_block ?_))
 refine wpC_le [(0, vS a0), (6, vI x_2.2.2.2), (7, v_10), (8, v_12), (9, v_14), (11, v_25), (12, v_28), (13, v_31), (14, v_33), (17, v_120), (21, vI 0), (22, vI 0)] ⟨rfl, rfl, rfl, rfl, rfl, rfl, rfl, rfl, rfl, rfl, rfl, rfl, trivial⟩ ?_
 refine loop_ind (F.law18_JwsFresh_L7 x_36 x_58 x_43 x_80 x_9 x_24 x_27 x_30 x_50 x_102 a0 x_2) (fun (s : Int) L w => L = [(0, vS a0), (6, vI x_2.2.2.2), (7, v_10), (8, v_12), (9, v_14), (11, v_25), (12, v_28), (13, v_31), (14, v_33), (17, v_120), (21, vI 0), (22, vI s)] ∧ St [] w0 w [own e8 v_10 x_9.1, own e8 v_12 x_9.2.1, own e8 v_14 x_9.2.2.1, own e8 v_25 x_24, own e8 v_28 x_27, own e8 v_31 x_30, own eV v_33 ([SV.of v_3, SV.of v_5, SV.of v_7] : List SV), twE e8 v_3 x_36 b_62, own e8 v_59 x_58, twE e8 v_5 x_43 b_84, own e8 v_81 x_80, twE e8 v_7 x_50 b_106, own e8 v_103 x_102, own eV v_120 ([SV.of v_59, SV.of v_81, SV.of v_103] : List SV)]) ?_ 0 ⟨rfl, (hS.pick [2, 3, 4, 5, 6, 7, 8, 9, 10, 11, 12, 13, 1, 14] (by decide) rfl)⟩ h
 rintro k_220 x_122 L w q_125 hI ih_124 h hk_123
 try dsimp only at hI
 obtain ⟨rfl, hS⟩ := hI
 unfold F.law18_JwsFresh_L7 at h
 refine wpC_seq (wpC_seq (wpC_region (wpR_run 3 rfl ?_)))
 refine wpR_v (G_ix Tryz.underlying56 ti25 rfl rfl (hS.ro 13 rfl) (show getO ([SV.of v_59, SV.of v_81, SV.of v_103] : List SV) (0 : Int) = some (SV.of v_59) from rfl)) rfl ?_
 refine wpR_v (G_load Tryz.underlying25 rfl rfl (hS.ro 13 rfl) (show getO ([SV.of v_59, SV.of v_81, SV.of v_103] : List SV) (0 : Int) = some (SV.of v_59) from rfl) (eVc (hS.ro 8 rfl).sv)) rfl ?_
 refine wpR_v (OpV_len Tryz.underlying25 rfl (hS.ro 8 rfl)) rfl ?_
 refine wpR_run 1 rfl ?_
 refine wpR_nil (QE_then_n ?_)
 refine wpC_cond rfl (fun hb_219 => ?_) (fun hb_219 => ?_)
 ·have h := if_t h hb_219
  refine wpC_skip (QE_then_n (wpC_seq (wpC_block ?_)))
  refine wpC_seq (wpC_region (wpR_run 3 rfl ?_))
  refine wpR_v (G_ix Tryz.underlying56 ti25 rfl rfl (hS.ro 6 rfl) (show getO ([SV.of v_3, SV.of v_5, SV.of v_7] : List SV) (0 : Int) = some (SV.of v_3) from rfl)) rfl ?_
  refine wpR_v (G_load Tryz.underlying25 rfl rfl (hS.ro 6 rfl) (show getO ([SV.of v_3, SV.of v_5, SV.of v_7] : List SV) (0 : Int) = some (SV.of v_3) from rfl) (eVc (hS.twro hA_63 8 7 rfl rfl).sv)) rfl ?_
  refine wpR_v (OpV_len Tryz.underlying25 rfl (hS.twro hA_63 8 7 rfl rfl)) rfl ?_
  refine wpR_run 1 rfl ?_
  obtain ⟨x_126, hx_126, h⟩ := olet_some h
  refine wpR_v (OpV_assign (v := vB x_126) (by rw [← hx_126]; rfl)) rfl ?_
  refine wpR_nil (QE_then_n ?_)
  refine seq_join (r := q_125) (fun (g : Bool) L w => L = [(0, vS a0), (6, vI x_2.2.2.2), (7, v_10), (8, v_12), (9, v_14), (11, v_25), (12, v_28), (13, v_31), (14, v_33), (17, v_120), (21, vI 0), (22, vI x_122), (193, vB g)] ∧ St [] w0 w [own e8 v_10 x_9.1, own e8 v_12 x_9.2.1, own e8 v_14 x_9.2.2.1, own e8 v_25 x_24, own e8 v_28 x_27, own e8 v_31 x_30, own eV v_33 ([SV.of v_3, SV.of v_5, SV.of v_7] : List SV), twE e8 v_3 x_36 b_62, own e8 v_59 x_58, twE e8 v_5 x_43 b_84, own e8 v_81 x_80, twE e8 v_7 x_50 b_106, own e8 v_103 x_102, own eV v_120 ([SV.of v_59, SV.of v_81, SV.of v_103] : List SV)]) (F.law18_JwsFresh_K2 x_122) ?_ ?_
  rotate_left
  ·intro hK_134
   refine wpC_region (wpR_run 2 rfl ?_)
   cases hb_127 : x_126
   case true =>
    have h := if_t h hb_127
    try simp only [hb_127]
    refine wpR_run 2 rfl ?_
    refine wpR_gv (t := 151) rfl rfl (G_ix Tryz.underlying56 ti25 rfl rfl (hS.ro 6 rfl) (show getO ([SV.of v_3, SV.of v_5, SV.of v_7] : List SV) (0 : Int) = some (SV.of v_3) from rfl)) rfl ?_
    refine wpR_gv (t := 151) rfl rfl (G_load Tryz.underlying25 rfl rfl (hS.ro 6 rfl) (show getO ([SV.of v_3, SV.of v_5, SV.of v_7] : List SV) (0 : Int) = some (SV.of v_3) from rfl) (eVc (hS.twro hA_63 8 7 rfl rfl).sv)) rfl ?_
    refine wpR_run 1 rfl ?_
    obtain ⟨x_128, hx_128, h⟩ := obind_some h
    refine wpR_gv (t := 151) rfl rfl (G_ix Tryz.underlying25 ti5 rfl rfl (hS.twro hA_63 8 7 rfl rfl) hx_128) rfl ?_
    refine wpR_gv (t := 151) rfl rfl (G_load Tryz.underlying5 rfl rfl (hS.twro hA_63 8 7 rfl rfl) hx_128 rfl) rfl ?_
    refine wpR_run 1 rfl ?_
    refine wpR_gv (t := 151) rfl rfl (OpV_bin rfl rfl (b_iadd _ 1 0)) rfl ?_
    refine wpR_gv (t := 151) rfl rfl (OpV_conv rfl (cv_i_8 Tryz.underlying3 Tryz.underlying5 1)) rfl ?_
    refine wpR_gv (t := 151) rfl rfl (OpV_bin rfl rfl (b_neq8 _ x_128 (UInt8.ofInt 1))) rfl ?_
    refine wpR_run 1 rfl ?_
    cases hb_129 : (x_128 != (UInt8.ofInt 1))
    case true =>
     have h := if_t h hb_129
     try simp only [hb_129]
     refine wpR_run 30 rfl ?_
     refine wpR_nil (QE_then_n ?_)
     exact wpC_le _ (by exact ⟨rfl, rfl, rfl, rfl, rfl, rfl, rfl, rfl, rfl, rfl, rfl, rfl, rfl, trivial⟩) (hK_134 true _ _ ⟨rfl, hS⟩ h)
    case false =>
     have h := if_f h hb_129
     try simp only [hb_129]
     refine wpR_run 2 rfl ?_
     refine wpR_gv (t := 163) rfl rfl (G_ix Tryz.underlying56 ti25 rfl rfl (hS.ro 13 rfl) (show getO ([SV.of v_59, SV.of v_81, SV.of v_103] : List SV) (0 : Int) = some (SV.of v_59) from rfl)) rfl ?_
     refine wpR_gv (t := 163) rfl rfl (G_load Tryz.underlying25 rfl rfl (hS.ro 13 rfl) (show getO ([SV.of v_59, SV.of v_81, SV.of v_103] : List SV) (0 : Int) = some (SV.of v_59) from rfl) (eVc (hS.ro 8 rfl).sv)) rfl ?_
     refine wpR_run 1 rfl ?_
     obtain ⟨x_130, hx_130, h⟩ := obind_some h
     refine wpR_gv (t := 163) rfl rfl (G_ix Tryz.underlying25 ti5 rfl rfl (hS.ro 8 rfl) hx_130) rfl ?_
     refine wpR_gv (t := 163) rfl rfl (G_load Tryz.underlying5 rfl rfl (hS.ro 8 rfl) hx_130 rfl) rfl ?_
     refine wpR_run 1 rfl ?_
     refine wpR_gv (t := 163) rfl rfl (OpV_bin rfl rfl (b_iadd _ 1 0)) rfl ?_
     refine wpR_gv (t := 163) rfl rfl (OpV_conv rfl (cv_i_8 Tryz.underlying3 Tryz.underlying5 1)) rfl ?_
     refine wpR_gv (t := 163) rfl rfl (OpV_bin rfl rfl (b_neq8 _ x_130 (UInt8.ofInt 1))) rfl ?_
     refine wpR_run 3 rfl ?_
     cases hb_131 : (x_130 != (UInt8.ofInt 1))
     case true =>
      have h := if_t h hb_131
      try simp only [hb_131]
      refine wpR_run 16 rfl ?_
      refine wpR_nil (QE_then_n ?_)
      exact wpC_le _ (by exact ⟨rfl, rfl, rfl, rfl, rfl, rfl, rfl, rfl, rfl, rfl, rfl, rfl, rfl, trivial⟩) (hK_134 true _ _ ⟨rfl, hS⟩ h)
     case false =>
      have h := if_f h hb_131
      try simp only [hb_131]
      refine wpR_run 1 rfl ?_
      refine wpR_gv (t := 177) rfl rfl (OpV_un rfl (u_not true)) rfl ?_
      refine wpR_run 14 rfl ?_
      refine wpR_nil (QE_then_n ?_)
      exact wpC_le _ (by exact ⟨rfl, rfl, rfl, rfl, rfl, rfl, rfl, rfl, rfl, rfl, rfl, rfl, rfl, trivial⟩) (hK_134 false _ _ ⟨rfl, hS⟩ h)
   case false =>
    have h := if_f h hb_127
    try simp only [hb_127]
    refine wpR_run 27 rfl ?_
    refine wpR_gv (t := 177) rfl rfl (OpV_un rfl (u_not false)) rfl ?_
    refine wpR_run 3 rfl ?_
    refine wpR_gv (t := 180) rfl rfl (G_ix Tryz.underlying56 ti25 rfl rfl (hS.ro 13 rfl) (show getO ([SV.of v_59, SV.of v_81, SV.of v_103] : List SV) (0 : Int) = some (SV.of v_59) from rfl)) rfl ?_
    refine wpR_gv (t := 180) rfl rfl (G_load Tryz.underlying25 rfl rfl (hS.ro 13 rfl) (show getO ([SV.of v_59, SV.of v_81, SV.of v_103] : List SV) (0 : Int) = some (SV.of v_59) from rfl) (eVc (hS.ro 8 rfl).sv)) rfl ?_
    refine wpR_run 1 rfl ?_
    obtain ⟨x_132, hx_132, h⟩ := obind_some h
    refine wpR_gv (t := 180) rfl rfl (G_ix Tryz.underlying25 ti5 rfl rfl (hS.ro 8 rfl) hx_132) rfl ?_
    refine wpR_gv (t := 180) rfl rfl (G_load Tryz.underlying5 rfl rfl (hS.ro 8 rfl) hx_132 rfl) rfl ?_
    refine wpR_run 1 rfl ?_
    refine wpR_gv (t := 180) rfl rfl (OpV_bin rfl rfl (b_iadd _ 11 0)) rfl ?_
    refine wpR_gv (t := 180) rfl rfl (OpV_conv rfl (cv_i_8 Tryz.underlying3 Tryz.underlying5 11)) rfl ?_
    refine wpR_gv (t := 180) rfl rfl (OpV_bin rfl rfl (b_neq8 _ x_132 (UInt8.ofInt 11))) rfl ?_
    refine wpR_run 2 rfl ?_
    refine wpR_nil (QE_then_n ?_)
    exact wpC_le _ (by exact ⟨rfl, rfl, rfl, rfl, rfl, rfl, rfl, rfl, rfl, rfl, rfl, rfl, rfl, trivial⟩) (hK_134 (x_132 != (UInt8.ofInt 11)) _ _ ⟨rfl, hS⟩ h)
  rintro x_133 L w hJ h
  try dsimp only at hJ
  obtain ⟨rfl, hS⟩ := hJ
  unfold F.law18_JwsFresh_K2 at h
  refine wpC_cond rfl (fun hb_135 => ?_) (fun hb_135 => ?_)
  ·have h := if_t h hb_135
   refine wpC_seq (wpC_region (wpR_run 1 rfl ?_))
   refine wpR_nil (QE_then_n (wpC_ret (QE_blk_r ?_)))
   refine QE_then_r (QE_then_r ?_)
   have h := oinr_some h hk_123
   refine QE_blk_r ?_
   refine QE_blk_r ?_
   refine QE_then_r (QE_then_r (QE_blk_r ?_))
   refine QE_then_r ?_
   cases h
   exact QE_ret1 rfl rfl ⟨rfl, hS.pick [] (by decide) rfl⟩
  have h := if_f h hb_135
  refine wpC_skip (QE_blk_n ?_)
  refine QE_then_n (wpC_region (wpR_run 3 rfl ?_))
  refine wpR_nil ?_
  exact QE_rnd (wpN_le _ (by exact ⟨rfl, rfl, rfl, rfl, rfl, rfl, rfl, rfl, rfl, rfl, rfl, rfl, trivial⟩) (ih_124 (wI (x_122 + 1)) _ _ ⟨rfl, hS⟩ (oinl_some h hk_123)))
 have h := if_f h hb_219
 refine wpC_exit ?_
 refine QE_then_x (QE_then_x ?_)
 have h := oinr_some h hk_123
 refine QE_blk_x ?_
 refine QE_blk_n ?_
 refine QE_then_n (wpC_region (wpR_run 1 rfl ?_))
 refine wpR_v (OpV_bin rfl rfl (b_iadd _ 0 1)) rfl ?_
 refine wpR_run 1 rfl ?_
 refine wpR_nil (QE_rnd ?_)
 refine wpN_succ ?_
 refine wpC_seq (wpC_seq (wpC_region (wpR_run 2 rfl ?_)))
 refine wpR_v (show OpV _ _ _ _ _ (vI 3) _ from OpV_len Tryz.underlying56 rfl (hS.ro 6 rfl)) rfl ?_
 refine wpR_v (OpV_bin rfl rfl (b_ilss _ 1 3)) rfl ?_
 refine wpR_nil (QE_then_n (wpC_condT rfl ?_))
 refine wpC_skip (QE_then_n (wpC_seq (wpC_block ?_)))
 refine wpC_seq (wpC_region (wpR_run 1 rfl ?_))
 refine wpR_nil (QE_then_n (wpC_block ?_))
 refine wpC_le [(0, vS a0), (6, vI x_2.2.2.2), (7, v_10), (8, v_12), (9, v_14), (11, v_25), (12, v_28), (13, v_31), (14, v_33), (17, v_120), (21, vI 1), (22, vI 0)] ⟨rfl, rfl, rfl, rfl, rfl, rfl, rfl, rfl, rfl, rfl, rfl, rfl, trivial⟩ ?_
 refine loop_ind (F.law18_JwsFresh_L8 x_43 x_80 x_9 x_24 x_27 x_30 x_50 x_102 a0 x_36 x_2) (fun (s : Int) L w => L = [(0, vS a0), (6, vI x_2.2.2.2), (7, v_10), (8, v_12), (9, v_14), (11, v_25), (12, v_28), (13, v_31), (14, v_33), (17, v_120), (21, vI 1), (22, vI s)] ∧ St [] w0 w [own e8 v_10 x_9.1, own e8 v_12 x_9.2.1, own e8 v_14 x_9.2.2.1, own e8 v_25 x_24, own e8 v_28 x_27, own e8 v_31 x_30, own eV v_33 ([SV.of v_3, SV.of v_5, SV.of v_7] : List SV), twE e8 v_3 x_36 b_62, own e8 v_59 x_58, twE e8 v_5 x_43 b_84, own e8 v_81 x_80, twE e8 v_7 x_50 b_106, own e8 v_103 x_102, own eV v_120 ([SV.of v_59, SV.of v_81, SV.of v_103] : List SV)]) ?_ 0 ⟨rfl, hS⟩ h
 rintro k_218 x_136 L w q_139 hI ih_138 h hk_137
 try dsimp only at hI
 obtain ⟨rfl, hS⟩ := hI
 unfold F.law18_JwsFresh_L8 at h
 refine wpC_seq (wpC_seq (wpC_region (wpR_run 3 rfl ?_)))
 refine wpR_v (G_ix Tryz.underlying56 ti25 rfl rfl (hS.ro 13 rfl) (show getO ([SV.of v_59, SV.of v_81, SV.of v_103] : List SV) (1 : Int) = some (SV.of v_81) from rfl)) rfl ?_
 refine wpR_v (G_load Tryz.underlying25 rfl rfl (hS.ro 13 rfl) (show getO ([SV.of v_59, SV.of v_81, SV.of v_103] : List SV) (1 : Int) = some (SV.of v_81) from rfl) (eVc (hS.ro 10 rfl).sv)) rfl ?_
 refine wpR_v (OpV_len Tryz.underlying25 rfl (hS.ro 10 rfl)) rfl ?_
 refine wpR_run 1 rfl ?_
 refine wpR_nil (QE_then_n ?_)
 refine wpC_cond rfl (fun hb_217 => ?_) (fun hb_217 => ?_)
 ·have h := if_t h hb_217
  refine wpC_skip (QE_then_n (wpC_seq (wpC_block ?_)))
  refine wpC_seq (wpC_region (wpR_run 3 rfl ?_))
  refine wpR_v (G_ix Tryz.underlying56 ti25 rfl rfl (hS.ro 6 rfl) (show getO ([SV.of v_3, SV.of v_5, SV.of v_7] : List SV) (1 : Int) = some (SV.of v_5) from rfl)) rfl ?_
  refine wpR_v (G_load Tryz.underlying25 rfl rfl (hS.ro 6 rfl) (show getO ([SV.of v_3, SV.of v_5, SV.of v_7] : List SV) (1 : Int) = some (SV.of v_5) from rfl) (eVc (hS.twro hA_85 10 9 rfl rfl).sv)) rfl ?_
  refine wpR_v (OpV_len Tryz.underlying25 rfl (hS.twro hA_85 10 9 rfl rfl)) rfl ?_
  refine wpR_run 1 rfl ?_
  obtain ⟨x_140, hx_140, h⟩ := olet_some h
  refine wpR_v (OpV_assign (v := vB x_140) (by rw [← hx_140]; rfl)) rfl ?_
  refine wpR_nil (QE_then_n ?_)
  refine seq_join (r := q_139) (fun (g : Bool) L w => L = [(0, vS a0), (6, vI x_2.2.2.2), (7, v_10), (8, v_12), (9, v_14), (11, v_25), (12, v_28), (13, v_31), (14, v_33), (17, v_120), (21, vI 1), (22, vI x_136), (193, vB g)] ∧ St [] w0 w [own e8 v_10 x_9.1, own e8 v_12 x_9.2.1, own e8 v_14 x_9.2.2.1, own e8 v_25 x_24, own e8 v_28 x_27, own e8 v_31 x_30, own eV v_33 ([SV.of v_3, SV.of v_5, SV.of v_7] : List SV), twE e8 v_3 x_36 b_62, own e8 v_59 x_58, twE e8 v_5 x_43 b_84, own e8 v_81 x_80, twE e8 v_7 x_50 b_106, own e8 v_103 x_102, own eV v_120 ([SV.of v_59, SV.of v_81, SV.of v_103] : List SV)]) (F.law18_JwsFresh_K3 x_136) ?_ ?_
  rotate_left
  ·intro hK_148
   refine wpC_region (wpR_run 2 rfl ?_)
   cases hb_141 : x_140
   case true =>
    have h := if_t h hb_141
    try simp only [hb_141]
    refine wpR_run 2 rfl ?_
    refine wpR_gv (t := 151) rfl rfl (G_ix Tryz.underlying56 ti25 rfl rfl (hS.ro 6 rfl) (show getO ([SV.of v_3, SV.of v_5, SV.of v_7] : List SV) (1 : Int) = some (SV.of v_5) from rfl)) rfl ?_
    refine wpR_gv (t := 151) rfl rfl (G_load Tryz.underlying25 rfl rfl (hS.ro 6 rfl) (show getO ([SV.of v_3, SV.of v_5, SV.of v_7] : List SV) (1 : Int) = some (SV.of v_5) from rfl) (eVc (hS.twro hA_85 10 9 rfl rfl).sv)) rfl ?_
    refine wpR_run 1 rfl ?_
    obtain ⟨x_142, hx_142, h⟩ := obind_some h
    refine wpR_gv (t := 151) rfl rfl (G_ix Tryz.underlying25 ti5 rfl rfl (hS.twro hA_85 10 9 rfl rfl) hx_142) rfl ?_
    refine wpR_gv (t := 151) rfl rfl (G_load Tryz.underlying5 rfl rfl (hS.twro hA_85 10 9 rfl rfl) hx_142 rfl) rfl ?_
    refine wpR_run 1 rfl ?_
    refine wpR_gv (t := 151) rfl rfl (OpV_bin rfl rfl (b_iadd _ 1 1)) rfl ?_
    refine wpR_gv (t := 151) rfl rfl (OpV_conv rfl (cv_i_8 Tryz.underlying3 Tryz.underlying5 2)) rfl ?_
    refine wpR_gv (t := 151) rfl rfl (OpV_bin rfl rfl (b_neq8 _ x_142 (UInt8.ofInt 2))) rfl ?_
    refine wpR_run 1 rfl ?_
    cases hb_143 : (x_142 != (UInt8.ofInt 2))
    case true =>
     have h := if_t h hb_143
     try simp only [hb_143]
     refine wpR_run 30 rfl ?_
     refine wpR_nil (QE_then_n ?_)
     exact wpC_le _ (by exact ⟨rfl, rfl, rfl, rfl, rfl, rfl, rfl, rfl, rfl, rfl, rfl, rfl, rfl, trivial⟩) (hK_148 true _ _ ⟨rfl, hS⟩ h)
    case false =>
     have h := if_f h hb_143
     try simp only [hb_143]
     refine wpR_run 2 rfl ?_
     refine wpR_gv (t := 163) rfl rfl (G_ix Tryz.underlying56 ti25 rfl rfl (hS.ro 13 rfl) (show getO ([SV.of v_59, SV.of v_81, SV.of v_103] : List SV) (1 : Int) = some (SV.of v_81) from rfl)) rfl ?_
     refine wpR_gv (t := 163) rfl rfl (G_load Tryz.underlying25 rfl rfl (hS.ro 13 rfl) (show getO ([SV.of v_59, SV.of v_81, SV.of v_103] : List SV) (1 : Int) = some (SV.of v_81) from rfl) (eVc (hS.ro 10 rfl).sv)) rfl ?_
     refine wpR_run 1 rfl ?_
     obtain ⟨x_144, hx_144, h⟩ := obind_some h
     refine wpR_gv (t := 163) rfl rfl (G_ix Tryz.underlying25 ti5 rfl rfl (hS.ro 10 rfl) hx_144) rfl ?_
     refine wpR_gv (t := 163) rfl rfl (G_load Tryz.underlying5 rfl rfl (hS.ro 10 rfl) hx_144 rfl) rfl ?_
     refine wpR_run 1 rfl ?_
     refine wpR_gv (t := 163) rfl rfl (OpV_bin rfl rfl (b_iadd _ 1 1)) rfl ?_
     refine wpR_gv (t := 163) rfl rfl (OpV_conv rfl (cv_i_8 Tryz.underlying3 Tryz.underlying5 2)) rfl ?_
     refine wpR_gv (t := 163) rfl rfl (OpV_bin rfl rfl (b_neq8 _ x_144 (UInt8.ofInt 2))) rfl ?_
     refine wpR_run 3 rfl ?_
     cases hb_145 : (x_144 != (UInt8.ofInt 2))
     case true =>
      have h := if_t h hb_145
      try simp only [hb_145]
      refine wpR_run 16 rfl ?_
      refine wpR_nil (QE_then_n ?_)
      exact wpC_le _ (by exact ⟨rfl, rfl, rfl, rfl, rfl, rfl, rfl, rfl, rfl, rfl, rfl, rfl, rfl, trivial⟩) (hK_148 true _ _ ⟨rfl, hS⟩ h)
     case false =>
      have h := if_f h hb_145
      try simp only [hb_145]
      refine wpR_run 1 rfl ?_
      refine wpR_gv (t := 177) rfl rfl (OpV_un rfl (u_not true)) rfl ?_
      refine wpR_run 14 rfl ?_
      refine wpR_nil (QE_then_n ?_)
      exact wpC_le _ (by exact ⟨rfl, rfl, rfl, rfl, rfl, rfl, rfl, rfl, rfl, rfl, rfl, rfl, rfl, trivial⟩) (hK_148 false _ _ ⟨rfl, hS⟩ h)
   case false =>
    have h := if_f h hb_141
    try simp only [hb_141]
    refine wpR_run 27 rfl ?_
    refine wpR_gv (t := 177) rfl rfl (OpV_un rfl (u_not false)) rfl ?_
    refine wpR_run 3 rfl ?_
    refine wpR_gv (t := 180) rfl rfl (G_ix Tryz.underlying56 ti25 rfl rfl (hS.ro 13 rfl) (show getO ([SV.of v_59, SV.of v_81, SV.of v_103] : List SV) (1 : Int) = some (SV.of v_81) from rfl)) rfl ?_
    refine wpR_gv (t := 180) rfl rfl (G_load Tryz.underlying25 rfl rfl (hS.ro 13 rfl) (show getO ([SV.of v_59, SV.of v_81, SV.of v_103] : List SV) (1 : Int) = some (SV.of v_81) from rfl) (eVc (hS.ro 10 rfl).sv)) rfl ?_
    refine wpR_run 1 rfl ?_
    obtain ⟨x_146, hx_146, h⟩ := obind_some h
    refine wpR_gv (t := 180) rfl rfl (G_ix Tryz.underlying25 ti5 rfl rfl (hS.ro 10 rfl) hx_146) rfl ?_
    refine wpR_gv (t := 180) rfl rfl (G_load Tryz.underlying5 rfl rfl (hS.ro 10 rfl) hx_146 rfl) rfl ?_
    refine wpR_run 1 rfl ?_
    refine wpR_gv (t := 180) rfl rfl (OpV_bin rfl rfl (b_iadd _ 11 1)) rfl ?_
    refine wpR_gv (t := 180) rfl rfl (OpV_conv rfl (cv_i_8 Tryz.underlying3 Tryz.underlying5 12)) rfl ?_
    refine wpR_gv (t := 180) rfl rfl (OpV_bin rfl rfl (b_neq8 _ x_146 (UInt8.ofInt 12))) rfl ?_
    refine wpR_run 2 rfl ?_
    refine wpR_nil (QE_then_n ?_)
    exact wpC_le _ (by exact ⟨rfl, rfl, rfl, rfl, rfl, rfl, rfl, rfl, rfl, rfl, rfl, rfl, rfl, trivial⟩) (hK_148 (x_146 != (UInt8.ofInt 12)) _ _ ⟨rfl, hS⟩ h)
  rintro x_147 L w hJ h
  try dsimp only at hJ
  obtain ⟨rfl, hS⟩ := hJ
  unfold F.law18_JwsFresh_K3 at h
  refine wpC_cond rfl (fun hb_149 => ?_) (fun hb_149 => ?_)
  ·have h := if_t h hb_149
   refine wpC_seq (wpC_region (wpR_run 1 rfl ?_))
   refine wpR_nil (QE_then_n (wpC_ret (QE_blk_r ?_)))
   refine QE_then_r (QE_then_r ?_)
   have h := oinr_some h hk_137
   refine QE_blk_r ?_
   refine QE_blk_r ?_
   refine QE_then_r (QE_then_r (QE_blk_r ?_))
   refine QE_then_r ?_
   cases h
   exact QE_ret1 rfl rfl ⟨rfl, hS.pick [] (by decide) rfl⟩
  have h := if_f h hb_149
  refine wpC_skip (QE_blk_n ?_)
  refine QE_then_n (wpC_region (wpR_run 3 rfl ?_))
  refine wpR_nil ?_
  exact QE_rnd (wpN_le _ (by exact ⟨rfl, rfl, rfl, rfl, rfl, rfl, rfl, rfl, rfl, rfl, rfl, rfl, trivial⟩) (ih_138 (wI (x_136 + 1)) _ _ ⟨rfl, hS⟩ (oinl_some h hk_137)))
 have h := if_f h hb_217
 refine wpC_exit ?_
 refine QE_then_x (QE_then_x ?_)
 have h := oinr_some h hk_137
 refine QE_blk_x ?_
 refine QE_blk_n ?_
 refine QE_then_n (wpC_region (wpR_run 1 rfl ?_))
 refine wpR_v (OpV_bin rfl rfl (b_iadd _ 1 1)) rfl ?_
 refine wpR_run 1 rfl ?_
 refine wpR_nil (QE_rnd ?_)
 refine wpN_succ ?_
 refine wpC_seq (wpC_seq (wpC_region (wpR_run 2 rfl ?_)))
 refine wpR_v (show OpV _ _ _ _ _ (vI 3) _ from OpV_len Tryz.underlying56 rfl (hS.ro 6 rfl)) rfl ?_
 refine wpR_v (OpV_bin rfl rfl (b_ilss _ 2 3)) rfl ?_
 refine wpR_nil (QE_then_n (wpC_condT rfl ?_))
 refine wpC_skip (QE_then_n (wpC_seq (wpC_block ?_)))
 refine wpC_seq (wpC_region (wpR_run 1 rfl ?_))
 refine wpR_nil (QE_then_n (wpC_block ?_))
 refine wpC_le [(0, vS a0), (6, vI x_2.2.2.2), (7, v_10), (8, v_12), (9, v_14), (11, v_25), (12, v_28), (13, v_31), (14, v_33), (17, v_120), (21, vI 2), (22, vI 0)] ⟨rfl, rfl, rfl, rfl, rfl, rfl, rfl, rfl, rfl, rfl, rfl, rfl, trivial⟩ ?_
 refine loop_ind (F.law18_JwsFresh_L9 x_9 x_24 x_27 x_30 x_50 x_102 a0 x_36 x_43 x_2) (fun (s : Int) L w => L = [(0, vS a0), (6, vI x_2.2.2.2), (7, v_10), (8, v_12), (9, v_14), (11, v_25), (12, v_28), (13, v_31), (14, v_33), (17, v_120), (21, vI 2), (22, vI s)] ∧ St [] w0 w [own e8 v_10 x_9.1, own e8 v_12 x_9.2.1, own e8 v_14 x_9.2.2.1, own e8 v_25 x_24, own e8 v_28 x_27, own e8 v_31 x_30, own eV v_33 ([SV.of v_3, SV.of v_5, SV.of v_7] : List SV), twE e8 v_3 x_36 b_62, own e8 v_59 x_58, twE e8 v_5 x_43 b_84, own e8 v_81 x_80, twE e8 v_7 x_50 b_106, own e8 v_103 x_102, own eV v_120 ([SV.of v_59, SV.of v_81, SV.of v_103] : List SV)]) ?_ 0 ⟨rfl, hS⟩ h
 rintro k_216 x_150 L w q_153 hI ih_152 h hk_151
 try dsimp only at hI
 obtain ⟨rfl, hS⟩ := hI
 unfold F.law18_JwsFresh_L9 at h
 refine wpC_seq (wpC_seq (wpC_region (wpR_run 3 rfl ?_)))
 refine wpR_v (G_ix Tryz.underlying56 ti25 rfl rfl (hS.ro 13 rfl) (show getO ([SV.of v_59, SV.of v_81, SV.of v_103] : List SV) (2 : Int) = some (SV.of v_103) from rfl)) rfl ?_
 refine wpR_v (G_load Tryz.underlying25 rfl rfl (hS.ro 13 rfl) (show getO ([SV.of v_59, SV.of v_81, SV.of v_103] : List SV) (2 : Int) = some (SV.of v_103) from rfl) (eVc (hS.ro 12 rfl).sv)) rfl ?_
 refine wpR_v (OpV_len Tryz.underlying25 rfl (hS.ro 12 rfl)) rfl ?_
 refine wpR_run 1 rfl ?_
 refine wpR_nil (QE_then_n ?_)
 refine wpC_cond rfl (fun hb_215 => ?_) (fun hb_215 => ?_)
 ·have h := if_t h hb_215
  refine wpC_skip (QE_then_n (wpC_seq (wpC_block ?_)))
  refine wpC_seq (wpC_region (wpR_run 3 rfl ?_))
  refine wpR_v (G_ix Tryz.underlying56 ti25 rfl rfl (hS.ro 6 rfl) (show getO ([SV.of v_3, SV.of v_5, SV.of v_7] : List SV) (2 : Int) = some (SV.of v_7) from rfl)) rfl ?_
  refine wpR_v (G_load Tryz.underlying25 rfl rfl (hS.ro 6 rfl) (show getO ([SV.of v_3, SV.of v_5, SV.of v_7] : List SV) (2 : Int) = some (SV.of v_7) from rfl) (eVc (hS.twro hA_107 12 11 rfl rfl).sv)) rfl ?_
  refine wpR_v (OpV_len Tryz.underlying25 rfl (hS.twro hA_107 12 11 rfl rfl)) rfl ?_
  refine wpR_run 1 rfl ?_
  obtain ⟨x_154, hx_154, h⟩ := olet_some h
  refine wpR_v (OpV_assign (v := vB x_154) (by rw [← hx_154]; rfl)) rfl ?_
  refine wpR_nil (QE_then_n ?_)
  refine seq_join (r := q_153) (fun (g : Bool) L w => L = [(0, vS a0), (6, vI x_2.2.2.2), (7, v_10), (8, v_12), (9, v_14), (11, v_25), (12, v_28), (13, v_31), (14, v_33), (17, v_120), (21, vI 2), (22, vI x_150), (193, vB g)] ∧ St [] w0 w [own e8 v_10 x_9.1, own e8 v_12 x_9.2.1, own e8 v_14 x_9.2.2.1, own e8 v_25 x_24, own e8 v_28 x_27, own e8 v_31 x_30, own eV v_33 ([SV.of v_3, SV.of v_5, SV.of v_7] : List SV), twE e8 v_3 x_36 b_62, own e8 v_59 x_58, twE e8 v_5 x_43 b_84, own e8 v_81 x_80, twE e8 v_7 x_50 b_106, own e8 v_103 x_102, own eV v_120 ([SV.of v_59, SV.of v_81, SV.of v_103] : List SV)]) (F.law18_JwsFresh_K4 x_150) ?_ ?_
  rotate_left
  ·intro hK_162
   refine wpC_region (wpR_run 2 rfl ?_)
   cases hb_155 : x_154
   case true =>
    have h := if_t h hb_155
    try simp only [hb_155]
    refine wpR_run 2 rfl ?_
    refine wpR_gv (t := 151) rfl rfl (G_ix Tryz.underlying56 ti25 rfl rfl (hS.ro 6 rfl) (show getO ([SV.of v_3, SV.of v_5, SV.of v_7] : List SV) (2 : Int) = some (SV.of v_7) from rfl)) rfl ?_
    refine wpR_gv (t := 151) rfl rfl (G_load Tryz.underlying25 rfl rfl (hS.ro 6 rfl) (show getO ([SV.of v_3, SV.of v_5, SV.of v_7] : List SV) (2 : Int) = some (SV.of v_7) from rfl) (eVc (hS.twro hA_107 12 11 rfl rfl).sv)) rfl ?_
    refine wpR_run 1 rfl ?_
    obtain ⟨x_156, hx_156, h⟩ := obind_some h
    refine wpR_gv (t := 151) rfl rfl (G_ix Tryz.underlying25 ti5 rfl rfl (hS.twro hA_107 12 11 rfl rfl) hx_156) rfl ?_
    refine wpR_gv (t := 151) rfl rfl (G_load Tryz.underlying5 rfl rfl (hS.twro hA_107 12 11 rfl rfl) hx_156 rfl) rfl ?_
    refine wpR_run 1 rfl ?_
    refine wpR_gv (t := 151) rfl rfl (OpV_bin rfl rfl (b_iadd _ 1 2)) rfl ?_
    refine wpR_gv (t := 151) rfl rfl (OpV_conv rfl (cv_i_8 Tryz.underlying3 Tryz.underlying5 3)) rfl ?_
    refine wpR_gv (t := 151) rfl rfl (OpV_bin rfl rfl (b_neq8 _ x_156 (UInt8.ofInt 3))) rfl ?_
    refine wpR_run 1 rfl ?_
    cases hb_157 : (x_156 != (UInt8.ofInt 3))
    case true =>
     have h := if_t h hb_157
     try simp only [hb_157]
     refine wpR_run 30 rfl ?_
     refine wpR_nil (QE_then_n ?_)
     exact wpC_le _ (by exact ⟨rfl, rfl, rfl, rfl, rfl, rfl, rfl, rfl, rfl, rfl, rfl, rfl, rfl, trivial⟩) (hK_162 true _ _ ⟨rfl, hS⟩ h)
    case false =>
     have h := if_f h hb_157
     try simp only [hb_157]
     refine wpR_run 2 rfl ?_
     refine wpR_gv (t := 163) rfl rfl (G_ix Tryz.underlying56 ti25 rfl rfl (hS.ro 13 rfl) (show getO ([SV.of v_59, SV.of v_81, SV.of v_103] : List SV) (2 : Int) = some (SV.of v_103) from rfl)) rfl ?_
     refine wpR_gv (t := 163) rfl rfl (G_load Tryz.underlying25 rfl rfl (hS.ro 13 rfl) (show getO ([SV.of v_59, SV.of v_81, SV.of v_103] : List SV) (2 : Int) = some (SV.of v_103) from rfl) (eVc (hS.ro 12 rfl).sv)) rfl ?_
     refine wpR_run 1 rfl ?_
     obtain ⟨x_158, hx_158, h⟩ := obind_some h
     refine wpR_gv (t := 163) rfl rfl (G_ix Tryz.underlying25 ti5 rfl rfl (hS.ro 12 rfl) hx_158) rfl ?_
     refine wpR_gv (t := 163) rfl rfl (G_load Tryz.underlying5 rfl rfl (hS.ro 12 rfl) hx_158 rfl) rfl ?_
     refine wpR_run 1 rfl ?_
     refine wpR_gv (t := 163) rfl rfl (OpV_bin rfl rfl (b_iadd _ 1 2)) rfl ?_
     refine wpR_gv (t := 163) rfl rfl (OpV_conv rfl (cv_i_8 Tryz.underlying3 Tryz.underlying5 3)) rfl ?_
     refine wpR_gv (t := 163) rfl rfl (OpV_bin rfl rfl (b_neq8 _ x_158 (UInt8.ofInt 3))) rfl ?_
     refine wpR_run 3 rfl ?_
     cases hb_159 : (x_158 != (UInt8.ofInt 3))
     case true =>
      have h := if_t h hb_159
      try simp only [hb_159]
      refine wpR_run 16 rfl ?_
      refine wpR_nil (QE_then_n ?_)
      exact wpC_le _ (by exact ⟨rfl, rfl, rfl, rfl, rfl, rfl, rfl, rfl, rfl, rfl, rfl, rfl, rfl, trivial⟩) (hK_162 true _ _ ⟨rfl, hS⟩ h)
     case false =>
      have h := if_f h hb_159
      try simp only [hb_159]
      refine wpR_run 1 rfl ?_
      refine wpR_gv (t := 177) rfl rfl (OpV_un rfl (u_not true)) rfl ?_
      refine wpR_run 14 rfl ?_
      refine wpR_nil (QE_then_n ?_)
      exact wpC_le _ (by exact ⟨rfl, rfl, rfl, rfl, rfl, rfl, rfl, rfl, rfl, rfl, rfl, rfl, rfl, trivial⟩) (hK_162 false _ _ ⟨rfl, hS⟩ h)
   case false =>
    have h := if_f h hb_155
    try simp only [hb_155]
    refine wpR_run 27 rfl ?_
    refine wpR_gv (t := 177) rfl rfl (OpV_un rfl (u_not false)) rfl ?_
    refine wpR_run 3 rfl ?_
    refine wpR_gv (t := 180) rfl rfl (G_ix Tryz.underlying56 ti25 rfl rfl (hS.ro 13 rfl) (show getO ([SV.of v_59, SV.of v_81, SV.of v_103] : List SV) (2 : Int) = some (SV.of v_103) from rfl)) rfl ?_
    refine wpR_gv (t := 180) rfl rfl (G_load Tryz.underlying25 rfl rfl (hS.ro 13 rfl) (show getO ([SV.of v_59, SV.of v_81, SV.of v_103] : List SV) (2 : Int) = some (SV.of v_103) from rfl) (eVc (hS.ro 12 rfl).sv)) rfl ?_
    refine wpR_run 1 rfl ?_
    obtain ⟨x_160, hx_160, h⟩ := obind_some h
    refine wpR_gv (t := 180) rfl rfl (G_ix Tryz.underlying25 ti5 rfl rfl (hS.ro 12 rfl) hx_160) rfl ?_
    refine wpR_gv (t := 180) rfl rfl (G_load Tryz.underlying5 rfl rfl (hS.ro 12 rfl) hx_160 rfl) rfl ?_
    refine wpR_run 1 rfl ?_
    refine wpR_gv (t := 180) rfl rfl (OpV_bin rfl rfl (b_iadd _ 11 2)) rfl ?_
    refine wpR_gv (t := 180) rfl rfl (OpV_conv rfl (cv_i_8 Tryz.underlying3 Tryz.underlying5 13)) rfl ?_
    refine wpR_gv (t := 180) rfl rfl (OpV_bin rfl rfl (b_neq8 _ x_160 (UInt8.ofInt 13))) rfl ?_
    refine wpR_run 2 rfl ?_
    refine wpR_nil (QE_then_n ?_)
    exact wpC_le _ (by exact ⟨rfl, rfl, rfl, rfl, rfl, rfl, rfl, rfl, rfl, rfl, rfl, rfl, rfl, trivial⟩) (hK_162 (x_160 != (UInt8.ofInt 13)) _ _ ⟨rfl, hS⟩ h)
  rintro x_161 L w hJ h
  try dsimp only at hJ
  obtain ⟨rfl, hS⟩ := hJ
  unfold F.law18_JwsFresh_K4 at h
  refine wpC_cond rfl (fun hb_163 => ?_) (fun hb_163 => ?_)
  ·have h := if_t h hb_163
   refine wpC_seq (wpC_region (wpR_run 1 rfl ?_))
   refine wpR_nil (QE_then_n (wpC_ret (QE_blk_r ?_)))
   refine QE_then_r (QE_then_r ?_)
   have h := oinr_some h hk_151
   refine QE_blk_r ?_
   refine QE_blk_r ?_
   refine QE_then_r (QE_then_r (QE_blk_r ?_))
   refine QE_then_r ?_
   cases h
   exact QE_ret1 rfl rfl ⟨rfl, hS.pick [] (by decide) rfl⟩
  have h := if_f h hb_163
  refine wpC_skip (QE_blk_n ?_)
  refine QE_then_n (wpC_region (wpR_run 3 rfl ?_))
  refine wpR_nil ?_
  exact QE_rnd (wpN_le _ (by exact ⟨rfl, rfl, rfl, rfl, rfl, rfl, rfl, rfl, rfl, rfl, rfl, rfl, trivial⟩) (ih_152 (wI (x_150 + 1)) _ _ ⟨rfl, hS⟩ (oinl_some h hk_151)))
 have h := if_f h hb_215
 refine wpC_exit ?_
 refine QE_then_x (QE_then_x ?_)
 have h := oinr_some h hk_151
 refine QE_blk_x ?_
 refine QE_blk_n ?_
 refine QE_then_n (wpC_region (wpR_run 1 rfl ?_))
 refine wpR_v (OpV_bin rfl rfl (b_iadd _ 2 1)) rfl ?_
 refine wpR_run 1 rfl ?_
 refine wpR_nil (QE_rnd ?_)
 refine wpN_succ ?_
 refine wpC_seq (wpC_seq (wpC_region (wpR_run 2 rfl ?_)))
 refine wpR_v (show OpV _ _ _ _ _ (vI 3) _ from OpV_len Tryz.underlying56 rfl (hS.ro 6 rfl)) rfl ?_
 refine wpR_v (OpV_bin rfl rfl (b_ilss _ 3 3)) rfl ?_
 refine wpR_nil (QE_then_n (wpC_condF rfl ?_))
 refine wpC_exit ?_
 refine QE_then_x (QE_then_x (QE_blk_x ?_))
 refine QE_then_n (wpC_seq ?_)
 refine seq_join (r := r) (fun (g : Bool) L w => L = [(0, vS a0), (6, vI x_2.2.2.2), (7, v_10), (8, v_12), (9, v_14), (11, v_25), (12, v_28), (13, v_31), (14, v_33), (209, vB g)] ∧ St [] w0 w [own e8 v_10 x_9.1, own e8 v_12 x_9.2.1, own e8 v_14 x_9.2.2.1, own e8 v_25 x_24, own e8 v_28 x_27, own e8 v_31 x_30, own eV v_33 ([SV.of v_3, SV.of v_5, SV.of v_7] : List SV), twE e8 v_3 x_36 b_62, own e8 v_59 x_58, twE e8 v_5 x_43 b_84, own e8 v_81 x_80, twE e8 v_7 x_50 b_106, own e8 v_103 x_102]) (F.law18_JwsFresh_K5 a0 x_36 x_43 x_2 x_9 x_24 x_27 x_30 x_50) ?_ ?_
 rotate_left
 ·intro hK_170
  refine wpC_region (wpR_run 2 rfl ?_)
  obtain ⟨x_164, hx_164, h⟩ := obind_some h
  refine wpR_call (by kernel_rfl) rfl (c_law18_same _ x_9.1 x_24 v_10 v_25  (hS.ro 0 rfl).rp (hS.ro 3 rfl).rp _ hx_164) rfl ?_
  rintro _ w ⟨rfl, hS1⟩
  have hS := hS.call hS1
  simp only [List.cons_append, List.nil_append] at hS
  refine wpR_run 2 rfl ?_
  cases hb_165 : (!x_164)
  case true =>
   have h := if_t h hb_165
   try simp only [hb_165]
   refine wpR_run 11 rfl ?_
   refine wpR_nil (QE_then_n ?_)
   exact wpC_le _ (by exact ⟨rfl, rfl, rfl, rfl, rfl, rfl, rfl, rfl, rfl, rfl, trivial⟩) (hK_170 true _ _ ⟨rfl, (hS.pick [0, 1, 2, 3, 4, 5, 6, 7, 8, 9, 10, 11, 12] (by decide) rfl)⟩ h)
  case false =>
   have h := if_f h hb_165
   try simp only [hb_165]
   refine wpR_run 2 rfl ?_
   obtain ⟨x_166, hx_166, h⟩ := obind_some h
   refine wpR_gcall (t := 198) rfl rfl (by kernel_rfl) rfl (c_law18_same _ x_9.2.1 x_27 v_12 v_28  (hS.ro 1 rfl).rp (hS.ro 4 rfl).rp _ hx_166) rfl ?_
   rintro _ w ⟨rfl, hS1⟩
   have hS := hS.call hS1
   simp only [List.cons_append, List.nil_append] at hS
   refine wpR_run 3 rfl ?_
   cases hb_167 : (!x_166)
   case true =>
    have h := if_t h hb_167
    try simp only [hb_167]
    refine wpR_run 5 rfl ?_
    refine wpR_nil (QE_then_n ?_)
    exact wpC_le _ (by exact ⟨rfl, rfl, rfl, rfl, rfl, rfl, rfl, rfl, rfl, rfl, trivial⟩) (hK_170 true _ _ ⟨rfl, (hS.pick [0, 1, 2, 3, 4, 5, 6, 7, 8, 9, 10, 11, 12] (by decide) rfl)⟩ h)
   case false =>
    have h := if_f h hb_167
    try simp only [hb_167]
    refine wpR_run 2 rfl ?_
    obtain ⟨x_168, hx_168, h⟩ := obind_some h
    refine wpR_gcall (t := 204) rfl rfl (by kernel_rfl) rfl (c_law18_same _ x_9.2.2.1 x_30 v_14 v_31  (hS.ro 2 rfl).rp (hS.ro 5 rfl).rp _ hx_168) rfl ?_
    rintro _ w ⟨rfl, hS1⟩
    have hS := hS.call hS1
    simp only [List.cons_append, List.nil_append] at hS
    refine wpR_run 2 rfl ?_
    refine wpR_nil (QE_then_n ?_)
    exact wpC_le _ (by exact ⟨rfl, rfl, rfl, rfl, rfl, rfl, rfl, rfl, rfl, rfl, trivial⟩) (hK_170 (!x_168) _ _ ⟨rfl, (hS.pick [0, 1, 2, 3, 4, 5, 6, 7, 8, 9, 10, 11, 12] (by decide) rfl)⟩ h)
 rintro x_169 L w hJ h
 try dsimp only at hJ
 obtain ⟨rfl, hS⟩ := hJ
 unfold F.law18_JwsFresh_K5 at h
 refine wpC_cond rfl (fun hb_214 => ?_) (fun hb_214 => ?_)
 ·have h := if_t h hb_214
  refine wpC_seq (wpC_region (wpR_run 1 rfl ?_))
  refine wpR_nil (QE_then_n (wpC_ret (QE_then_r ?_)))
  cases h
  exact QE_ret1 rfl rfl ⟨rfl, hS.pick [] (by decide) rfl⟩
 have h := if_f h hb_214
 refine wpC_skip (QE_then_n (wpC_seq (wpC_region (wpR_run 1 rfl ?_))))
 obtain ⟨x_171, hx_171, h⟩ := obind_some h
 refine wpR_call (by kernel_rfl) rfl (c_jws_Decode _ a0    _ hx_171) rfl ?_
 rintro _ w ⟨v_172, v_174, v_176, rfl, hS1⟩
 have hS := hS.call hS1
 simp only [List.cons_append, List.nil_append] at hS
 refine wpR_run 9 rfl ?_
 refine wpR_nil (QE_then_n (wpC_seq (wpC_seq (wpC_region (wpR_run 1 rfl ?_)))))
 refine wpR_nil (QE_then_n (wpC_block ?_))
 refine wpC_loop 100 ?_
 refine wpN_succ ?_
 refine wpC_seq (wpC_seq (wpC_region (wpR_run 2 rfl ?_)))
 refine wpR_v (show OpV _ _ _ _ _ (vI 3) _ from OpV_len Tryz.underlying56 rfl (hS.ro 9 rfl)) rfl ?_
 refine wpR_v (OpV_bin rfl rfl (b_ilss _ 0 3)) rfl ?_
 refine wpR_nil (QE_then_n (wpC_condT rfl ?_))
 refine wpC_skip (QE_then_n (wpC_seq (wpC_block ?_)))
 refine wpC_seq (wpC_region (wpR_run 1 rfl ?_))
 refine wpR_nil (QE_then_n (wpC_block ?_))
 refine wpC_le [(6, vI x_2.2.2.2), (7, v_10), (8, v_12), (9, v_14), (11, v_25), (12, v_28), (13, v_31), (14, v_33), (24, v_172), (25, v_174), (26, v_176), (27, vI x_171.2.2.2), (28, vI 0), (29, vI 0)] ⟨rfl, rfl, rfl, rfl, rfl, rfl, rfl, rfl, rfl, rfl, rfl, rfl, rfl, rfl, trivial⟩ ?_
 refine loop_ind (F.law18_JwsFresh_L10 x_36 x_43 x_2 x_9 x_24 x_27 x_30 x_50 x_171) (fun (s : Int) L w => L = [(6, vI x_2.2.2.2), (7, v_10), (8, v_12), (9, v_14), (11, v_25), (12, v_28), (13, v_31), (14, v_33), (24, v_172), (25, v_174), (26, v_176), (27, vI x_171.2.2.2), (28, vI 0), (29, vI s)] ∧ St [] w0 w [own e8 v_10 x_9.1, own e8 v_12 x_9.2.1, own e8 v_14 x_9.2.2.1, own e8 v_25 x_24, own e8 v_28 x_27, own e8 v_31 x_30, own eV v_33 ([SV.of v_3, SV.of v_5, SV.of v_7] : List SV), twE e8 v_3 x_36 b_62, own e8 v_59 x_58, twE e8 v_5 x_43 b_84, own e8 v_81 x_80, twE e8 v_7 x_50 b_106, own e8 v_103 x_102, own e8 v_172 x_171.1, own e8 v_174 x_171.2.1, own e8 v_176 x_171.2.2.1]) ?_ 0 ⟨rfl, (hS.pick [3, 4, 5, 6, 7, 8, 9, 10, 11, 12, 13, 14, 15, 0, 1, 2] (by decide) rfl)⟩ h
 rintro k_213 x_178 L w q_181 hI ih_180 h hk_179
 try dsimp only at hI
 obtain ⟨rfl, hS⟩ := hI
 unfold F.law18_JwsFresh_L10 at h
 refine wpC_seq (wpC_seq (wpC_region (wpR_run 3 rfl ?_)))
 refine wpR_v (G_ix Tryz.underlying56 ti25 rfl rfl (hS.ro 6 rfl) (show getO ([SV.of v_3, SV.of v_5, SV.of v_7] : List SV) (0 : Int) = some (SV.of v_3) from rfl)) rfl ?_
 refine wpR_v (G_load Tryz.underlying25 rfl rfl (hS.ro 6 rfl) (show getO ([SV.of v_3, SV.of v_5, SV.of v_7] : List SV) (0 : Int) = some (SV.of v_3) from rfl) (eVc (hS.twro hA_63 8 7 rfl rfl).sv)) rfl ?_
 refine wpR_v (OpV_len Tryz.underlying25 rfl (hS.twro hA_63 8 7 rfl rfl)) rfl ?_
 refine wpR_run 1 rfl ?_
 refine wpR_nil (QE_then_n ?_)
 refine wpC_cond rfl (fun hb_212 => ?_) (fun hb_212 => ?_)
 ·have h := if_t h hb_212
  refine wpC_skip (QE_then_n (wpC_seq (wpC_block ?_)))
  refine wpC_seq (wpC_region (wpR_run 2 rfl ?_))
  refine wpR_v (G_ix Tryz.underlying56 ti25 rfl rfl (hS.ro 6 rfl) (show getO ([SV.of v_3, SV.of v_5, SV.of v_7] : List SV) (0 : Int) = some (SV.of v_3) from rfl)) rfl ?_
  refine wpR_v (G_load Tryz.underlying25 rfl rfl (hS.ro 6 rfl) (show getO ([SV.of v_3, SV.of v_5, SV.of v_7] : List SV) (0 : Int) = some (SV.of v_3) from rfl) (eVc (hS.twro hA_63 8 7 rfl rfl).sv)) rfl ?_
  refine wpR_run 1 rfl ?_
  obtain ⟨x_182, hx_182, h⟩ := obind_some h
  refine wpR_v (G_ix Tryz.underlying25 ti5 rfl rfl (hS.twro hA_63 8 7 rfl rfl) hx_182) rfl ?_
  refine wpR_v (G_load Tryz.underlying5 rfl rfl (hS.twro hA_63 8 7 rfl rfl) hx_182 rfl) rfl ?_
  refine wpR_run 1 rfl ?_
  refine wpR_v (OpV_bin rfl rfl (b_iadd _ 1 0)) rfl ?_
  refine wpR_v (OpV_conv rfl (cv_i_8 Tryz.underlying3 Tryz.underlying5 1)) rfl ?_
  refine wpR_v (OpV_bin rfl rfl (b_neq8 _ x_182 (UInt8.ofInt 1))) rfl ?_
  refine wpR_nil (QE_then_n ?_)
  refine wpC_cond rfl (fun hb_183 => ?_) (fun hb_183 => ?_)
  ·have h := if_t h hb_183
   refine wpC_seq (wpC_region (wpR_run 1 rfl ?_))
   refine wpR_nil (QE_then_n (wpC_ret (QE_blk_r ?_)))
   refine QE_then_r (QE_then_r ?_)
   have h := oinr_some h hk_179
   refine QE_blk_r ?_
   refine QE_blk_r ?_
   refine QE_then_r (QE_then_r (QE_blk_r ?_))
   refine QE_then_r ?_
   cases h
   exact QE_ret1 rfl rfl ⟨rfl, hS.pick [] (by decide) rfl⟩
  have h := if_f h hb_183
  refine wpC_skip (QE_blk_n ?_)
  refine QE_then_n (wpC_region (wpR_run 3 rfl ?_))
  refine wpR_nil ?_
  exact QE_rnd (wpN_le _ (by exact ⟨rfl, rfl, rfl, rfl, rfl, rfl, rfl, rfl, rfl, rfl, rfl, rfl, rfl, rfl, trivial⟩) (ih_180 (wI (x_178 + 1)) _ _ ⟨rfl, hS⟩ (oinl_some h hk_179)))
 have h := if_f h hb_212
 refine wpC_exit ?_
 refine QE_then_x (QE_then_x ?_)
 have h := oinr_some h hk_179
 refine QE_blk_x ?_
 refine QE_blk_n ?_
 refine QE_then_n (wpC_region (wpR_run 1 rfl ?_))
 refine wpR_v (OpV_bin rfl rfl (b_iadd _ 0 1)) rfl ?_
 refine wpR_run 1 rfl ?_
 refine wpR_nil (QE_rnd ?_)
 refine wpN_succ ?_
 refine wpC_seq (wpC_seq (wpC_region (wpR_run 2 rfl ?_)))
 refine wpR_v (show OpV _ _ _ _ _ (vI 3) _ from OpV_len Tryz.underlying56 rfl (hS.ro 6 rfl)) rfl ?_
 refine wpR_v (OpV_bin rfl rfl (b_ilss _ 1 3)) rfl ?_
 refine wpR_nil (QE_then_n (wpC_condT rfl ?_))
 refine wpC_skip (QE_then_n (wpC_seq (wpC_block ?_)))
 refine wpC_seq (wpC_region (wpR_run 1 rfl ?_))
 refine wpR_nil (QE_then_n (wpC_block ?_))
 refine wpC_le [(6, vI x_2.2.2.2), (7, v_10), (8, v_12), (9, v_14), (11, v_25), (12, v_28), (13, v_31), (14, v_33), (24, v_172), (25, v_174), (26, v_176), (27, vI x_171.2.2.2), (28, vI 1), (29, vI 0)] ⟨rfl, rfl, rfl, rfl, rfl, rfl, rfl, rfl, rfl, rfl, rfl, rfl, rfl, rfl, trivial⟩ ?_
 refine loop_ind (F.law18_JwsFresh_L11 x_43 x_2 x_9 x_24 x_27 x_30 x_50 x_171) (fun (s : Int) L w => L = [(6, vI x_2.2.2.2), (7, v_10), (8, v_12), (9, v_14), (11, v_25), (12, v_28), (13, v_31), (14, v_33), (24, v_172), (25, v_174), (26, v_176), (27, vI x_171.2.2.2), (28, vI 1), (29, vI s)] ∧ St [] w0 w [own e8 v_10 x_9.1, own e8 v_12 x_9.2.1, own e8 v_14 x_9.2.2.1, own e8 v_25 x_24, own e8 v_28 x_27, own e8 v_31 x_30, own eV v_33 ([SV.of v_3, SV.of v_5, SV.of v_7] : List SV), twE e8 v_3 x_36 b_62, own e8 v_59 x_58, twE e8 v_5 x_43 b_84, own e8 v_81 x_80, twE e8 v_7 x_50 b_106, own e8 v_103 x_102, own e8 v_172 x_171.1, own e8 v_174 x_171.2.1, own e8 v_176 x_171.2.2.1]) ?_ 0 ⟨rfl, hS⟩ h
 rintro k_211 x_184 L w q_187 hI ih_186 h hk_185
 try dsimp only at hI
 obtain ⟨rfl, hS⟩ := hI
 unfold F.law18_JwsFresh_L11 at h
 refine wpC_seq (wpC_seq (wpC_region (wpR_run 3 rfl ?_)))
 refine wpR_v (G_ix Tryz.underlying56 ti25 rfl rfl (hS.ro 6 rfl) (show getO ([SV.of v_3, SV.of v_5, SV.of v_7] : List SV) (1 : Int) = some (SV.of v_5) from rfl)) rfl ?_
 refine wpR_v (G_load Tryz.underlying25 rfl rfl (hS.ro 6 rfl) (show getO ([SV.of v_3, SV.of v_5, SV.of v_7] : List SV) (1 : Int) = some (SV.of v_5) from rfl) (eVc (hS.twro hA_85 10 9 rfl rfl).sv)) rfl ?_
 refine wpR_v (OpV_len Tryz.underlying25 rfl (hS.twro hA_85 10 9 rfl rfl)) rfl ?_
 refine wpR_run 1 rfl ?_
 refine wpR_nil (QE_then_n ?_)
 refine wpC_cond rfl (fun hb_210 => ?_) (fun hb_210 => ?_)
 ·have h := if_t h hb_210
  refine wpC_skip (QE_then_n (wpC_seq (wpC_block ?_)))
  refine wpC_seq (wpC_region (wpR_run 2 rfl ?_))
  refine wpR_v (G_ix Tryz.underlying56 ti25 rfl rfl (hS.ro 6 rfl) (show getO ([SV.of v_3, SV.of v_5, SV.of v_7] : List SV) (1 : Int) = some (SV.of v_5) from rfl)) rfl ?_
  refine wpR_v (G_load Tryz.underlying25 rfl rfl (hS.ro 6 rfl) (show getO ([SV.of v_3, SV.of v_5, SV.of v_7] : List SV) (1 : Int) = some (SV.of v_5) from rfl) (eVc (hS.twro hA_85 10 9 rfl rfl).sv)) rfl ?_
  refine wpR_run 1 rfl ?_
  obtain ⟨x_188, hx_188, h⟩ := obind_some h
  refine wpR_v (G_ix Tryz.underlying25 ti5 rfl rfl (hS.twro hA_85 10 9 rfl rfl) hx_188) rfl ?_
  refine wpR_v (G_load Tryz.underlying5 rfl rfl (hS.twro hA_85 10 9 rfl rfl) hx_188 rfl) rfl ?_
  refine wpR_run 1 rfl ?_
  refine wpR_v (OpV_bin rfl rfl (b_iadd _ 1 1)) rfl ?_
  refine wpR_v (OpV_conv rfl (cv_i_8 Tryz.underlying3 Tryz.underlying5 2)) rfl ?_
  refine wpR_v (OpV_bin rfl rfl (b_neq8 _ x_188 (UInt8.ofInt 2))) rfl ?_
  refine wpR_nil (QE_then_n ?_)
  refine wpC_cond rfl (fun hb_189 => ?_) (fun hb_189 => ?_)
  ·have h := if_t h hb_189
   refine wpC_seq (wpC_region (wpR_run 1 rfl ?_))
   refine wpR_nil (QE_then_n (wpC_ret (QE_blk_r ?_)))
   refine QE_then_r (QE_then_r ?_)
   have h := oinr_some h hk_185
   refine QE_blk_r ?_
   refine QE_blk_r ?_
   refine QE_then_r (QE_then_r (QE_blk_r ?_))
   refine QE_then_r ?_
   cases h
   exact QE_ret1 rfl rfl ⟨rfl, hS.pick [] (by decide) rfl⟩
  have h := if_f h hb_189
  refine wpC_skip (QE_blk_n ?_)
  refine QE_then_n (wpC_region (wpR_run 3 rfl ?_))
  refine wpR_nil ?_
  exact QE_rnd (wpN_le _ (by exact ⟨rfl, rfl, rfl, rfl, rfl, rfl, rfl, rfl, rfl, rfl, rfl, rfl, rfl, rfl, trivial⟩) (ih_186 (wI (x_184 + 1)) _ _ ⟨rfl, hS⟩ (oinl_some h hk_185)))
 have h := if_f h hb_210
 refine wpC_exit ?_
 refine QE_then_x (QE_then_x ?_)
 have h := oinr_some h hk_185
 refine QE_blk_x ?_
 refine QE_blk_n ?_
 refine QE_then_n (wpC_region (wpR_run 1 rfl ?_))
 refine wpR_v (OpV_bin rfl rfl (b_iadd _ 1 1)) rfl ?_
 refine wpR_run 1 rfl ?_
 refine wpR_nil (QE_rnd ?_)
 refine wpN_succ ?_
 refine wpC_seq (wpC_seq (wpC_region (wpR_run 2 rfl ?_)))
 refine wpR_v (show OpV _ _ _ _ _ (vI 3) _ from OpV_len Tryz.underlying56 rfl (hS.ro 6 rfl)) rfl ?_
 refine wpR_v (OpV_bin rfl rfl (b_ilss _ 2 3)) rfl ?_
 refine wpR_nil (QE_then_n (wpC_condT rfl ?_))
 refine wpC_skip (QE_then_n (wpC_seq (wpC_block ?_)))
 refine wpC_seq (wpC_region (wpR_run 1 rfl ?_))
 refine wpR_nil (QE_then_n (wpC_block ?_))
 refine wpC_le [(6, vI x_2.2.2.2), (7, v_10), (8, v_12), (9, v_14), (11, v_25), (12, v_28), (13, v_31), (14, v_33), (24, v_172), (25, v_174), (26, v_176), (27, vI x_171.2.2.2), (28, vI 2), (29, vI 0)] ⟨rfl, rfl, rfl, rfl, rfl, rfl, rfl, rfl, rfl, rfl, rfl, rfl, rfl, rfl, trivial⟩ ?_
 refine loop_ind (F.law18_JwsFresh_L12 x_2 x_9 x_24 x_27 x_30 x_50 x_171) (fun (s : Int) L w => L = [(6, vI x_2.2.2.2), (7, v_10), (8, v_12), (9, v_14), (11, v_25), (12, v_28), (13, v_31), (14, v_33), (24, v_172), (25, v_174), (26, v_176), (27, vI x_171.2.2.2), (28, vI 2), (29, vI s)] ∧ St [] w0 w [own e8 v_10 x_9.1, own e8 v_12 x_9.2.1, own e8 v_14 x_9.2.2.1, own e8 v_25 x_24, own e8 v_28 x_27, own e8 v_31 x_30, own eV v_33 ([SV.of v_3, SV.of v_5, SV.of v_7] : List SV), twE e8 v_3 x_36 b_62, own e8 v_59 x_58, twE e8 v_5 x_43 b_84, own e8 v_81 x_80, twE e8 v_7 x_50 b_106, own e8 v_103 x_102, own e8 v_172 x_171.1, own e8 v_174 x_171.2.1, own e8 v_176 x_171.2.2.1]) ?_ 0 ⟨rfl, hS⟩ h
 rintro k_209 x_190 L w q_193 hI ih_192 h hk_191
 try dsimp only at hI
 obtain ⟨rfl, hS⟩ := hI
 unfold F.law18_JwsFresh_L12 at h
 refine wpC_seq (wpC_seq (wpC_region (wpR_run 3 rfl ?_)))
 refine wpR_v (G_ix Tryz.underlying56 ti25 rfl rfl (hS.ro 6 rfl) (show getO ([SV.of v_3, SV.of v_5, SV.of v_7] : List SV) (2 : Int) = some (SV.of v_7) from rfl)) rfl ?_
 refine wpR_v (G_load Tryz.underlying25 rfl rfl (hS.ro 6 rfl) (show getO ([SV.of v_3, SV.of v_5, SV.of v_7] : List SV) (2 : Int) = some (SV.of v_7) from rfl) (eVc (hS.twro hA_107 12 11 rfl rfl).sv)) rfl ?_
 refine wpR_v (OpV_len Tryz.underlying25 rfl (hS.twro hA_107 12 11 rfl rfl)) rfl ?_
 refine wpR_run 1 rfl ?_
 refine wpR_nil (QE_then_n ?_)
 refine wpC_cond rfl (fun hb_208 => ?_) (fun hb_208 => ?_)
 ·have h := if_t h hb_208
  refine wpC_skip (QE_then_n (wpC_seq (wpC_block ?_)))
  refine wpC_seq (wpC_region (wpR_run 2 rfl ?_))
  refine wpR_v (G_ix Tryz.underlying56 ti25 rfl rfl (hS.ro 6 rfl) (show getO ([SV.of v_3, SV.of v_5, SV.of v_7] : List SV) (2 : Int) = some (SV.of v_7) from rfl)) rfl ?_
  refine wpR_v (G_load Tryz.underlying25 rfl rfl (hS.ro 6 rfl) (show getO ([SV.of v_3, SV.of v_5, SV.of v_7] : List SV) (2 : Int) = some (SV.of v_7) from rfl) (eVc (hS.twro hA_107 12 11 rfl rfl).sv)) rfl ?_
  refine wpR_run 1 rfl ?_
  obtain ⟨x_194, hx_194, h⟩ := obind_some h
  refine wpR_v (G_ix Tryz.underlying25 ti5 rfl rfl (hS.twro hA_107 12 11 rfl rfl) hx_194) rfl ?_
  refine wpR_v (G_load Tryz.underlying5 rfl rfl (hS.twro hA_107 12 11 rfl rfl) hx_194 rfl) rfl ?_
  refine wpR_run 1 rfl ?_
  refine wpR_v (OpV_bin rfl rfl (b_iadd _ 1 2)) rfl ?_
  refine wpR_v (OpV_conv rfl (cv_i_8 Tryz.underlying3 Tryz.underlying5 3)) rfl ?_
  refine wpR_v (OpV_bin rfl rfl (b_neq8 _ x_194 (UInt8.ofInt 3))) rfl ?_
  refine wpR_nil (QE_then_n ?_)
  refine wpC_cond rfl (fun hb_195 => ?_) (fun hb_195 => ?_)
  ·have h := if_t h hb_195
   refine wpC_seq (wpC_region (wpR_run 1 rfl ?_))
   refine wpR_nil (QE_then_n (wpC_ret (QE_blk_r ?_)))
   refine QE_then_r (QE_then_r ?_)
   have h := oinr_some h hk_191
   refine QE_blk_r ?_
   refine QE_blk_r ?_
   refine QE_then_r (QE_then_r (QE_blk_r ?_))
   refine QE_then_r ?_
   cases h
   exact QE_ret1 rfl rfl ⟨rfl, hS.pick [] (by decide) rfl⟩
  have h := if_f h hb_195
  refine wpC_skip (QE_blk_n ?_)
  refine QE_then_n (wpC_region (wpR_run 3 rfl ?_))
  refine wpR_nil ?_
  exact QE_rnd (wpN_le _ (by exact ⟨rfl, rfl, rfl, rfl, rfl, rfl, rfl, rfl, rfl, rfl, rfl, rfl, rfl, rfl, trivial⟩) (ih_192 (wI (x_190 + 1)) _ _ ⟨rfl, hS⟩ (oinl_some h hk_191)))
 have h := if_f h hb_208
 refine wpC_exit ?_
 refine QE_then_x (QE_then_x ?_)
 have h := oinr_some h hk_191
 refine QE_blk_x ?_
 refine QE_blk_n ?_
 refine QE_then_n (wpC_region (wpR_run 1 rfl ?_))
 refine wpR_v (OpV_bin rfl rfl (b_iadd _ 2 1)) rfl ?_
 refine wpR_run 1 rfl ?_
 refine wpR_nil (QE_rnd ?_)
 refine wpN_succ ?_
 refine wpC_seq (wpC_seq (wpC_region (wpR_run 2 rfl ?_)))
 refine wpR_v (show OpV _ _ _ _ _ (vI 3) _ from OpV_len Tryz.underlying56 rfl (hS.ro 6 rfl)) rfl ?_
 refine wpR_v (OpV_bin rfl rfl (b_ilss _ 3 3)) rfl ?_
 refine wpR_nil (QE_then_n (wpC_condF rfl ?_))
 refine wpC_exit ?_
 refine QE_then_x (QE_then_x (QE_blk_x ?_))
 refine QE_then_n (wpC_seq (wpC_region (wpR_run 4 rfl ?_)))
 cases hb_196 : (x_171.2.2.2 == x_2.2.2.2)
 case true =>
  have h := if_t h hb_196
  try simp only [hb_196]
  refine wpR_run 2 rfl ?_
  obtain ⟨x_197, hx_197, h⟩ := obind_some h
  refine wpR_gcall (t := 246) rfl rfl (by kernel_rfl) rfl (c_law18_same _ x_171.1 x_24 v_172 v_25  (hS.ro 13 rfl).rp (hS.ro 3 rfl).rp _ hx_197) rfl ?_
  rintro _ w ⟨rfl, hS1⟩
  have hS := hS.call hS1
  simp only [List.cons_append, List.nil_append] at hS
  refine wpR_run 2 rfl ?_
  cases hb_198 : x_197
  case true =>
   have h := if_t h hb_198
   try simp only [hb_198]
   refine wpR_run 2 rfl ?_
   obtain ⟨x_199, hx_199, h⟩ := obind_some h
   refine wpR_gcall (t := 251) rfl rfl (by kernel_rfl) rfl (c_law18_same _ x_171.2.1 x_27 v_174 v_28  (hS.ro 14 rfl).rp (hS.ro 4 rfl).rp _ hx_199) rfl ?_
   rintro _ w ⟨rfl, hS1⟩
   have hS := hS.call hS1
   simp only [List.cons_append, List.nil_append] at hS
   refine wpR_run 2 rfl ?_
   cases hb_200 : x_199
   case true =>
    have h := if_t h hb_200
    try simp only [hb_200]
    refine wpR_run 2 rfl ?_
    obtain ⟨x_201, hx_201, h⟩ := obind_some h
    refine wpR_gcall (t := 256) rfl rfl (by kernel_rfl) rfl (c_law18_same _ x_171.2.2.1 x_30 v_176 v_31  (hS.ro 15 rfl).rp (hS.ro 5 rfl).rp _ hx_201) rfl ?_
    rintro _ w ⟨rfl, hS1⟩
    have hS := hS.call hS1
    simp only [List.cons_append, List.nil_append] at hS
    refine wpR_run 2 rfl ?_
    cases hb_202 : x_201
    case true =>
     have h := if_t h hb_202
     try simp only [hb_202]
     refine wpR_run 2 rfl ?_
     obtain ⟨x_203, hx_203, h⟩ := obind_some h
     refine wpR_gcall (t := 261) rfl rfl (by kernel_rfl) rfl (c_law18_same _ x_9.1 x_24 v_10 v_25  (hS.ro 0 rfl).rp (hS.ro 3 rfl).rp _ hx_203) rfl ?_
     rintro _ w ⟨rfl, hS1⟩
     have hS := hS.call hS1
     simp only [List.cons_append, List.nil_append] at hS
     refine wpR_run 2 rfl ?_
     cases hb_204 : x_203
     case true =>
      have h := if_t h hb_204
      try simp only [hb_204]
      refine wpR_run 2 rfl ?_
      obtain ⟨x_205, hx_205, h⟩ := obind_some h
      refine wpR_gcall (t := 266) rfl rfl (by kernel_rfl) rfl (c_law18_same _ x_9.2.1 x_27 v_12 v_28  (hS.ro 1 rfl).rp (hS.ro 4 rfl).rp _ hx_205) rfl ?_
      rintro _ w ⟨rfl, hS1⟩
      have hS := hS.call hS1
      simp only [List.cons_append, List.nil_append] at hS
      refine wpR_run 2 rfl ?_
      cases hb_206 : x_205
      case true =>
       have h := if_t h hb_206
       try simp only [hb_206]
       refine wpR_run 2 rfl ?_
       obtain ⟨x_207, hx_207, h⟩ := obind_some h
       refine wpR_gcall (t := 271) rfl rfl (by kernel_rfl) rfl (c_law18_same _ x_9.2.2.1 x_30 v_14 v_31  (hS.ro 2 rfl).rp (hS.ro 5 rfl).rp _ hx_207) rfl ?_
       rintro _ w ⟨rfl, hS1⟩
       have hS := hS.call hS1
       simp only [List.cons_append, List.nil_append] at hS
       refine wpR_run 2 rfl ?_
       refine wpR_nil (QE_then_n (wpC_ret ?_))
       cases h
       exact QE_ret1 rfl rfl ⟨rfl, hS.pick [] (by decide) rfl⟩
      case false =>
       have h := if_f h hb_206
       try simp only [hb_206]
       refine wpR_run 5 rfl ?_
       refine wpR_nil (QE_then_n (wpC_ret ?_))
       cases h
       exact QE_ret1 rfl rfl ⟨rfl, hS.pick [] (by decide) rfl⟩
     case false =>
      have h := if_f h hb_204
      try simp only [hb_204]
      refine wpR_run 10 rfl ?_
      refine wpR_nil (QE_then_n (wpC_ret ?_))
      cases h
      exact QE_ret1 rfl rfl ⟨rfl, hS.pick [] (by decide) rfl⟩
    case false =>
     have h := if_f h hb_202
     try simp only [hb_202]
     refine wpR_run 15 rfl ?_
     refine wpR_nil (QE_then_n (wpC_ret ?_))
     cases h
     exact QE_ret1 rfl rfl ⟨rfl, hS.pick [] (by decide) rfl⟩
   case false =>
    have h := if_f h hb_200
    try simp only [hb_200]
    refine wpR_run 20 rfl ?_
    refine wpR_nil (QE_then_n (wpC_ret ?_))
    cases h
    exact QE_ret1 rfl rfl ⟨rfl, hS.pick [] (by decide) rfl⟩
  case false =>
   have h := if_f h hb_198
   try simp only [hb_198]
   refine wpR_run 25 rfl ?_
   refine wpR_nil (QE_then_n (wpC_ret ?_))
   cases h
   exact QE_ret1 rfl rfl ⟨rfl, hS.pick [] (by decide) rfl⟩
 case false =>
  have h := if_f h hb_196
  try simp only [hb_196]
  refine wpR_run 30 rfl ?_
  refine wpR_nil (QE_then_n (wpC_ret ?_))
  cases h
  exact QE_ret1 rfl rfl ⟨rfl, hS.pick [] (by decide) rfl⟩
end Go.Proofs
