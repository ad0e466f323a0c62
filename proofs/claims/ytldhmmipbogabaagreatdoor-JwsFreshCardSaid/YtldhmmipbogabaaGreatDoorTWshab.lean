import Derived.Test.YtldhmmipbogabaaGreatDoorTW0
import Derived.Test.YtldhmmipbogabaaGreatDoorGkFsha
import Derived.Test.YtldhmmipbogabaaGreatDoorTWshaa
set_option linter.unusedVariables false
set_option linter.unusedSimpArgs false
set_option linter.unusedVariables false
set_option maxRecDepth 4000
namespace Go.Proofs
open Go Go.RowKit Go.Gk
theorem c_sha_State_Sum (w0 : World) (a0_0 : Int) (a0_1 : List UInt32) (a0_2 : List UInt64) (a0_3 : List UInt8) (a0_4 : UInt64) (ba0 : Nat) (S : List Nat) (hS : St S w0 w0 [OE.bx ba0 ([vI a0_0] ++ (e32.fl a0_1 ++ (e64.fl a0_2 ++ (e8.fl a0_3 ++ [v64 a0_4]))))]) (hT : TB S w0) (ha0_1 : a0_1.length = 8) (ha0_2 : a0_2.length = 8) (ha0_3 : a0_3.length = 128) (r : List UInt8 × Int × List UInt32 × List UInt64 × List UInt8 × UInt64)
  (h : F.sha_State_Sum a0_0 a0_1 a0_2 a0_3 a0_4 = some r) : Calls Tryz.prog 136 #[pB ba0 0] w0 (Ret fun v w => ∃ u0 : Value, v = u0 ∧ r.2.2.1.length = 8 ∧ r.2.2.2.1.length = 8 ∧ r.2.2.2.2.1.length = 128 ∧ St S w0 w [own e8 u0 r.1, OE.bx ba0 ([vI r.2.1] ++ (e32.fl r.2.2.1 ++ (e64.fl r.2.2.2.1 ++ (e8.fl r.2.2.2.2.1 ++ [v64 r.2.2.2.2.2]))))]) := by
 refine calls_at 120 Tryz.func136 rfl rfl rfl ?_
 refine wpC_le [(0, pB ba0 0)] ⟨rfl, trivial⟩ ?_
 unfold F.sha_State_Sum at h
 refine wpC_seq (wpC_region (wpR_run 1 rfl ?_))
 refine wpR_nil (QE_then_n (wpC_seq (wpC_region (wpR_run 1 rfl ?_))))
 refine wpR_v (OpV_nilB rfl) rfl ?_
 refine wpR_v (OpV_ldA (us := [vI a0_0] ++ (e32.fl a0_1 ++ (e64.fl a0_2 ++ (e8.fl a0_3 ++ [v64 a0_4])))) Tryz.underlying198 rfl sz198 (app_len rfl (app_len (fl_len1 ha0_1 rfl) (app_len (fl_len1 ha0_2 rfl) (app_len (fl_len1 ha0_3 rfl) rfl rfl) rfl) rfl) rfl) rfl (hS.bxgs0 0 rfl Up.last)) rfl ?_
 refine wpR_x (OpX_alloc (cs := [vI 0] ++ (e32.fl (List.replicate 8 0) ++ (e64.fl (List.replicate 8 0) ++ (e8.fl (List.replicate 128 0) ++ [v64 0])))) tz198 (by kernel_rfl) hS) rfl ?_
 rintro _ w ⟨b_2, rfl, hS⟩
 refine wpR_y (OpY_stU (m := 146) (xs := [vI 0] ++ (e32.fl (List.replicate 8 0) ++ (e64.fl (List.replicate 8 0) ++ (e8.fl (List.replicate 128 0) ++ [v64 0])))) (xs' := [vI a0_0] ++ (e32.fl a0_1 ++ (e64.fl a0_2 ++ (e8.fl a0_3 ++ [v64 a0_4])))) (i := 0) rfl sz198 rfl rfl rfl Up.last (app_len rfl (app_len (fl_len1 List.length_replicate rfl) (app_len (fl_len1 List.length_replicate rfl) (app_len (fl_len1 List.length_replicate rfl) rfl rfl) rfl) rfl) rfl) (app_len rfl (app_len (fl_len1 ha0_1 rfl) (app_len (fl_len1 ha0_2 rfl) (app_len (fl_len1 ha0_3 rfl) rfl rfl) rfl) rfl) rfl) (one_app (one_one rfl) (one_app one_fl (one_app one_fl (one_app one_fl (one_one rfl))))) hS) ?_
 intro w hS
 replace hS : St _ w0 w [OE.bx b_2 ([vI a0_0] ++ (e32.fl a0_1 ++ (e64.fl a0_2 ++ (e8.fl a0_3 ++ [v64 a0_4])))), OE.bx ba0 ([vI a0_0] ++ (e32.fl a0_1 ++ (e64.fl a0_2 ++ (e8.fl a0_3 ++ [v64 a0_4]))))] := hS
 refine wpR_nil (QE_then_n (wpC_seq ?_))
 refine wpC_regionT (fun w' => St S w0 w' [OE.bx b_2 ([vI a0_0] ++ (e32.fl a0_1 ++ (e64.fl a0_2 ++ (e8.fl a0_3 ++ [v64 a0_4])))), OE.bx ba0 ([vI a0_0] ++ (e32.fl a0_1 ++ (e64.fl a0_2 ++ (e8.fl a0_3 ++ [v64 a0_4]))))]) (fun i => !([2].contains i)) hmix (fun _ _ _ hf => hf.2) (fun _ _ hf => hf) (by kernel_rfl) ?_
 have hS := hS.drew
 show lxE _ _ _ _ _ _ _ [0, 1, 2, 3, 4, 5, 6] _ _
 refine lxE_v hS rfl rfl (fun w hF => OpV_fieldB (k := 0) Tryz.underlying198 rfl rfl nz45 rfl) rfl ?_
 refine lxE_v hS rfl rfl (fun w hF => OpV_ldB Tryz.underlying45 rfl rfl (hF.bxg 0 rfl (Up.get0 Up.here))) rfl ?_
 obtain ⟨x_4, hx_4, h⟩ := obind_some h
 refine lxE_call hS rfl rfl (by kernel_rfl) rfl (c_sha_Block _ a0_0    _ hx_4) rfl ?_
 rintro _ w ⟨rfl, hS1⟩
 have hS := hS.call hS1
 simp only [List.cons_append, List.nil_append] at hS
 replace hS : St _ w0 w [OE.bx b_2 ([vI a0_0] ++ (e32.fl a0_1 ++ (e64.fl a0_2 ++ (e8.fl a0_3 ++ [v64 a0_4])))), OE.bx ba0 ([vI a0_0] ++ (e32.fl a0_1 ++ (e64.fl a0_2 ++ (e8.fl a0_3 ++ [v64 a0_4]))))] := hS
 refine lxE_v hS rfl rfl (fun w hF => OpV_fieldB (k := 145) Tryz.underlying198 rfl rfl nz131 rfl) rfl ?_
 refine lxE_v hS rfl rfl (fun w hF => OpV_ldB Tryz.underlying131 rfl rfl (hF.bxg 0 rfl (Up.get0 (Up.skip (k := 1) rfl (Up.skip (k := 8) (fl_len1 ha0_1 rfl) (Up.skip (k := 8) (fl_len1 ha0_2 rfl) (Up.skip (k := 128) (fl_len1 ha0_3 rfl) Up.last rfl) rfl) rfl) rfl)))) rfl ?_
 refine lxE_v hS rfl rfl (fun w hF => OpV_assign rfl) rfl ?_
 refine lxE_v hS rfl rfl (fun w hF => OpV_assign rfl) rfl ?_
 refine lxE_nil hS ?_
 refine QE_then_n (wpC_seq (wpC_region (wpR_run 1 rfl ?_)))
 refine wpR_v (OpV_bin rfl rfl (b_iquo _ x_4 8 (by decide))) rfl ?_
 refine wpR_run 1 rfl ?_
 refine wpR_nil (QE_then_n (wpC_seq (wpC_region ?_)))
 refine wpR_x (OpX_lit (e := e8) (l := [128]) (vs := [v8 128]) Tryz.underlying25 ti5 rfl rfl rfl rfl (by decide) (by decide) hS) rfl ?_
 rintro v_5 w hS
 refine wpR_run 1 rfl ?_
 refine wpR_nil (QE_then_n (wpC_seq (wpC_block ?_)))
 refine wpC_le [(3, pB b_2 0), (4, vI x_4), (5, v64 a0_4), (6, vI (wI (Int.tdiv x_4 8))), (7, v_5)] ⟨rfl, rfl, rfl, rfl, rfl, trivial⟩ ?_
 refine loop_ind (F.sha_State_Sum_L1 a0_4 x_4 a0_0 a0_1 a0_2 a0_3) (fun (s : List UInt8) L w => ∃ (v_8 : Value), L = [(3, pB b_2 0), (4, vI x_4), (5, v64 a0_4), (6, vI (wI (Int.tdiv x_4 8))), (7, v_8)] ∧ St S w0 w [own e8 v_8 s, OE.bx b_2 ([vI a0_0] ++ (e32.fl a0_1 ++ (e64.fl a0_2 ++ (e8.fl a0_3 ++ [v64 a0_4])))), OE.bx ba0 ([vI a0_0] ++ (e32.fl a0_1 ++ (e64.fl a0_2 ++ (e8.fl a0_3 ++ [v64 a0_4]))))]) ?_ [128] ⟨v_5, rfl, hS⟩ h
 rintro k_90 x_7 L w q_12 hI ih_11 h hk_10
 try dsimp only at hI
 obtain ⟨v_8, rfl, hS⟩ := hI
 unfold F.sha_State_Sum_L1 at h
 refine wpC_seq (wpC_seq (wpC_region (wpR_run 2 rfl ?_)))
 refine wpR_v (OpV_conv rfl (cv_i_64 Tryz.underlying3 Tryz.underlying131 x_4)) rfl ?_
 obtain ⟨hg_13, h⟩ := grd_some h
 refine wpR_v (OpV_bin rfl rfl (b_rem64 _ a0_4 (UInt64.ofInt x_4) hg_13)) rfl ?_
 refine wpR_v (OpV_conv rfl (cv_64_i Tryz.underlying131 Tryz.underlying3 (a0_4 % (UInt64.ofInt x_4)))) rfl ?_
 refine wpR_run 1 rfl ?_
 refine wpR_v (OpV_len Tryz.underlying25 rfl (hS.ro 0 rfl)) rfl ?_
 refine wpR_run 2 rfl ?_
 obtain ⟨hg_14, h⟩ := grd_some h
 refine wpR_v (OpV_bin rfl rfl (b_irem _ (wI ((wI ((a0_4 % (UInt64.ofInt x_4)).toNat : Int)) + (x_7.length : Int))) x_4 hg_14)) rfl ?_
 refine wpR_run 4 rfl ?_
 refine wpR_nil (QE_then_n ?_)
 refine wpC_cond rfl (fun hb_89 => ?_) (fun hb_89 => ?_)
 ·have h := if_t h hb_89
  refine wpC_skip (QE_then_n (wpC_block ?_))
  refine wpC_region (wpR_run 1 rfl ?_)
  refine wpR_x (OpX_lit (e := e8) (l := [0]) (vs := [v8 0]) Tryz.underlying25 ti5 rfl rfl rfl rfl (by decide) (by decide) hS) rfl ?_
  rintro v_15 w hS
  obtain ⟨x_17, hx_17, h⟩ := obind_some h
  refine wpR_x (G_append Tryz.underlying25 ti5 rfl rfl rfl hS (i := 1) rfl (hS.ro 0 rfl) hx_17) rfl ?_
  rintro v_18 w hS
  refine wpR_run 1 rfl ?_
  refine wpR_nil (QE_blk_n ?_)
  exact QE_rnd (wpN_le _ (by exact ⟨rfl, rfl, rfl, rfl, rfl, trivial⟩) (ih_11 x_17 _ _ ⟨v_18, rfl, (hS.pick [1, 2, 3] (by decide) rfl)⟩ (oinl_some h hk_10)))
 have h := if_f h hb_89
 refine wpC_exit ?_
 refine QE_then_x (QE_then_x ?_)
 have h := oinr_some h hk_10
 refine QE_blk_x ?_
 refine QE_then_n (wpC_seq (wpC_seq (wpC_region (wpR_run 2 rfl ?_))))
 obtain ⟨x_20, hx_20, h⟩ := olet_some h
 refine wpR_v (OpV_assign (v := vI x_20) (by rw [← hx_20]; rfl)) rfl ?_
 refine wpR_nil (QE_then_n (wpC_block ?_))
 refine wpC_le [(3, pB b_2 0), (5, v64 a0_4), (7, v_8), (8, vI x_20)] ⟨rfl, rfl, rfl, rfl, trivial⟩ ?_
 refine loop_ind (F.sha_State_Sum_L2 a0_0 a0_1 a0_2 a0_3 a0_4) (fun (s : List UInt8 × Int) L w => ∃ (v_22 : Value), L = [(3, pB b_2 0), (5, v64 a0_4), (7, v_22), (8, vI s.2)] ∧ St S w0 w [own e8 v_22 s.1, OE.bx b_2 ([vI a0_0] ++ (e32.fl a0_1 ++ (e64.fl a0_2 ++ (e8.fl a0_3 ++ [v64 a0_4])))), OE.bx ba0 ([vI a0_0] ++ (e32.fl a0_1 ++ (e64.fl a0_2 ++ (e8.fl a0_3 ++ [v64 a0_4]))))]) ?_ (x_7, x_20) ⟨v_8, rfl, hS⟩ h
 rintro k_88 ⟨x_21, x_24⟩ L w q_27 hI ih_26 h hk_25
 try dsimp only at hI
 obtain ⟨v_22, rfl, hS⟩ := hI
 unfold F.sha_State_Sum_L2 at h
 refine wpC_seq (wpC_seq (wpC_region (wpR_run 2 rfl ?_)))
 refine wpR_nil (QE_then_n ?_)
 refine wpC_cond rfl (fun hb_87 => ?_) (fun hb_87 => ?_)
 ·have h := if_t h hb_87
  refine wpC_skip (QE_then_n (wpC_seq (wpC_block ?_)))
  refine wpC_seq (wpC_region (wpR_run 1 rfl ?_))
  refine wpR_nil (QE_then_n ?_)
  refine seq_join (r := q_27) (fun (g : UInt8) L w => L = [(3, pB b_2 0), (5, v64 a0_4), (7, v_22), (8, vI x_24), (9, v8 g)] ∧ St S w0 w [OE.bx b_2 ([vI a0_0] ++ (e32.fl a0_1 ++ (e64.fl a0_2 ++ (e8.fl a0_3 ++ [v64 a0_4])))), own e8 v_22 x_21, OE.bx ba0 ([vI a0_0] ++ (e32.fl a0_1 ++ (e64.fl a0_2 ++ (e8.fl a0_3 ++ [v64 a0_4]))))]) (F.sha_State_Sum_K1 x_21 x_24) ?_ ?_
  rotate_left
  ·intro hK_33
   refine wpC_block ?_
   refine wpC_seq (wpC_region (wpR_run 3 rfl ?_))
   refine wpR_nil (QE_then_n ?_)
   refine wpC_cond rfl (fun hb_31 => ?_) (fun hb_31 => ?_)
   ·have h := if_t h hb_31
    refine wpC_region (wpR_run 1 rfl ?_)
    refine wpR_v (OpV_bin rfl rfl (b_shl64_64 _ a0_4 3)) rfl ?_
    refine wpR_run 1 rfl ?_
    refine wpR_v (OpV_bin rfl rfl (b_imul _ 8 x_24)) rfl ?_
    obtain ⟨hg_28, h⟩ := grd_some h
    refine wpR_v (OpV_bin rfl rfl (b_shr64_i _ (shl64 a0_4 3) (wI (8 * x_24)) hg_28)) rfl ?_
    refine wpR_v (OpV_conv rfl (cv_64_8 Tryz.underlying131 Tryz.underlying5 (shr64 (shl64 a0_4 3) (((wI (8 * x_24))).toNat)))) rfl ?_
    obtain ⟨x_29, hx_29, h⟩ := olet_some h
    refine wpR_v (OpV_assign (v := v8 x_29) (by rw [← hx_29]; rfl)) rfl ?_
    refine wpR_nil (QE_blk_n ?_)
    refine QE_then_n ?_
    exact wpC_le _ (by exact ⟨rfl, rfl, rfl, rfl, rfl, trivial⟩) (hK_33 x_29 _ _ ⟨rfl, (hS.pick [1, 0, 2] (by decide) rfl)⟩ h)
   have h := if_f h hb_31
   refine wpC_seq (wpC_region (wpR_run 3 rfl ?_))
   refine wpR_nil (QE_then_n ?_)
   refine wpC_cond rfl (fun hb_30 => ?_) (fun hb_30 => ?_)
   ·have h := if_t h hb_30
    refine wpC_region (wpR_run 1 rfl ?_)
    refine wpR_v (OpV_bin rfl rfl (b_shr64_64 _ a0_4 61)) rfl ?_
    refine wpR_v (OpV_conv rfl (cv_64_8 Tryz.underlying131 Tryz.underlying5 (shr64 a0_4 61))) rfl ?_
    refine wpR_run 1 rfl ?_
    refine wpR_nil (QE_blk_n ?_)
    refine QE_then_n ?_
    exact wpC_le _ (by exact ⟨rfl, rfl, rfl, rfl, rfl, trivial⟩) (hK_33 ((shr64 a0_4 61).toUInt8) _ _ ⟨rfl, (hS.pick [1, 0, 2] (by decide) rfl)⟩ h)
   have h := if_f h hb_30
   refine wpC_skip (QE_blk_n ?_)
   refine QE_then_n ?_
   exact wpC_le _ (by exact ⟨rfl, rfl, rfl, rfl, rfl, trivial⟩) (hK_33 0 _ _ ⟨rfl, (hS.pick [1, 0, 2] (by decide) rfl)⟩ h)
  rintro x_32 L w hJ h
  try dsimp only at hJ
  obtain ⟨rfl, hS⟩ := hJ
  unfold F.sha_State_Sum_K1 at h
  refine wpC_region (wpR_run 2 rfl ?_)
  refine wpR_x (OpX_lit (e := e8) (l := [x_32]) (vs := [v8 x_32]) Tryz.underlying25 ti5 rfl rfl rfl rfl (by decide) (by decide) hS) rfl ?_
  rintro v_34 w hS
  obtain ⟨x_36, hx_36, h⟩ := obind_some h
  refine wpR_x (G_append Tryz.underlying25 ti5 rfl rfl rfl hS (i := 2) rfl (hS.ro 0 rfl) hx_36) rfl ?_
  rintro v_37 w hS
  refine wpR_run 1 rfl ?_
  refine wpR_nil (QE_blk_n ?_)
  refine QE_then_n (wpC_region (wpR_run 3 rfl ?_))
  refine wpR_nil ?_
  exact QE_rnd (wpN_le _ (by exact ⟨rfl, rfl, rfl, rfl, trivial⟩) (ih_26 (x_36, wI (x_24 - 1)) _ _ ⟨v_37, rfl, (hS.pick [2, 1, 3] (by decide) rfl)⟩ (oinl_some h hk_25)))
 have h := if_f h hb_87
 refine wpC_exit ?_
 refine QE_then_x (QE_then_x ?_)
 have h := oinr_some h hk_25
 refine QE_blk_x ?_
 refine QE_then_n (wpC_seq (wpC_region (wpR_run 1 rfl ?_)))
 have hG := hS.pick (os' := [OE.bx b_2 ([vI a0_0] ++ (e32.fl a0_1 ++ (e64.fl a0_2 ++ (e8.fl a0_3 ++ [v64 a0_4]))))] ++ [own e8 v_22 x_21, OE.bx ba0 ([vI a0_0] ++ (e32.fl a0_1 ++ (e64.fl a0_2 ++ (e8.fl a0_3 ++ [v64 a0_4]))))]) [1, 0, 2] (by decide) rfl
 obtain ⟨x_39, hx_39, h⟩ := obind_some h
 refine wpR_call (by kernel_rfl) rfl (c_sha_State_Write _ a0_0 a0_1 a0_2 a0_3 a0_4 x_21 v_22 b_2 _ hG.give (hT.give hG) ha0_1 ha0_2 ha0_3 (hG.giveO 0 rfl) _ hx_39) rfl ?_
 rintro _ w ⟨rfl, hL_40, hL_41, hL_42, hS1⟩
 have hS := hG.back hS1
 simp only [List.cons_append, List.nil_append] at hS
 replace hS : St _ w0 w [OE.bx b_2 ([vI x_39.1] ++ (e32.fl x_39.2.1 ++ (e64.fl x_39.2.2.1 ++ (e8.fl x_39.2.2.2.1 ++ [v64 x_39.2.2.2.2])))), own e8 v_22 x_21, OE.bx ba0 ([vI a0_0] ++ (e32.fl a0_1 ++ (e64.fl a0_2 ++ (e8.fl a0_3 ++ [v64 a0_4]))))] := hS
 refine wpR_nil (QE_then_n (wpC_seq (wpC_region (wpR_run 1 rfl ?_))))
 refine wpR_nil (QE_then_n (wpC_seq (wpC_seq (wpC_region (wpR_v (OpV_fieldB (k := 0) Tryz.underlying198 rfl rfl nz45 rfl) rfl ?_)))))
 refine wpR_v (OpV_ldB Tryz.underlying45 rfl rfl (hS.bxg 0 rfl (Up.get0 Up.here))) rfl ?_
 refine wpR_run 1 rfl ?_
 refine wpR_nil (QE_then_n ?_)
 refine wpC_cond rfl (fun hb_86 => ?_) (fun hb_86 => ?_)
 ·have h := if_t h hb_86
  refine wpC_seq (wpC_seq (wpC_region (wpR_v (OpV_fieldB (k := 1) Tryz.underlying198 rfl rfl nz174 rfl) rfl ?_)))
  refine wpR_v (OpV_ldA (us := e32.fl x_39.2.1) Tryz.underlying174 rfl sz174 (fl_len1 hL_40 rfl) rfl (hS.bxgs0 0 rfl (Up.skip (k := 1) rfl Up.here rfl))) rfl ?_
  refine wpR_run 1 rfl ?_
  refine wpR_nil (QE_then_n (wpC_block ?_))
  refine wpC_le [(10, .slice none 0 0), (75, .agg (e32.fl x_39.2.1).toArray), (76, vI 0)] ⟨rfl, rfl, rfl, trivial⟩ ?_
  refine loop_ind (F.sha_State_Sum_L3 a0_0 a0_1 a0_2 a0_3 a0_4 x_39) (fun (s : List UInt8 × Int) L w => ∃ (v_44 : Value), L = [(10, v_44), (75, .agg (e32.fl x_39.2.1).toArray), (76, vI s.2)] ∧ St S w0 w [own e8 v_44 s.1, OE.bx ba0 ([vI a0_0] ++ (e32.fl a0_1 ++ (e64.fl a0_2 ++ (e8.fl a0_3 ++ [v64 a0_4]))))]) ?_ ([], 0) ⟨.slice none 0 0, rfl, ((hS.nil e8).pick [0, 3] (by decide) rfl)⟩ h
  rintro k_57 ⟨x_43, x_46⟩ L w q_49 hI ih_48 h hk_47
  try dsimp only at hI
  obtain ⟨v_44, rfl, hS⟩ := hI
  unfold F.sha_State_Sum_L3 at h
  refine wpC_seq (wpC_region (wpR_run 1 rfl ?_))
  refine wpR_nil (QE_then_n (wpC_seq ?_))
  refine wpC_cond rfl (fun hb_56 => ?_) (fun hb_56 => ?_)
  ·have h := if_t h hb_56
   refine wpC_skip (QE_then_n (wpC_seq (wpC_block ?_)))
   refine wpC_seq (wpC_region ?_)
   obtain ⟨x_50, hx_50, h⟩ := obind_some h
   refine wpR_v (OpV_ixAO (cs := (e32.fl x_39.2.1).toArray) Tryz.underlying174 Tryz.underlying134 rfl sz134 rfl rfl (getO_bd hx_50 hL_40) (fl_getA hx_50 rfl)) rfl ?_
   refine wpR_run 1 rfl ?_
   refine wpR_nil (QE_then_n (wpC_region (wpR_run 2 rfl ?_)))
   refine wpR_v (OpV_bin rfl rfl (b_shr32_64 _ x_50 24)) rfl ?_
   refine wpR_v (OpV_conv rfl (cv_32_8 Tryz.underlying134 Tryz.underlying5 (shr32 x_50 24))) rfl ?_
   refine wpR_run 1 rfl ?_
   refine wpR_v (OpV_bin rfl rfl (b_shr32_64 _ x_50 16)) rfl ?_
   refine wpR_v (OpV_conv rfl (cv_32_8 Tryz.underlying134 Tryz.underlying5 (shr32 x_50 16))) rfl ?_
   refine wpR_run 1 rfl ?_
   refine wpR_v (OpV_bin rfl rfl (b_shr32_64 _ x_50 8)) rfl ?_
   refine wpR_v (OpV_conv rfl (cv_32_8 Tryz.underlying134 Tryz.underlying5 (shr32 x_50 8))) rfl ?_
   refine wpR_run 1 rfl ?_
   refine wpR_v (OpV_conv rfl (cv_32_8 Tryz.underlying134 Tryz.underlying5 x_50)) rfl ?_
   refine wpR_x (OpX_lit (e := e8) (l := [(shr32 x_50 24).toUInt8, (shr32 x_50 16).toUInt8, (shr32 x_50 8).toUInt8, x_50.toUInt8]) (vs := [v8 ((shr32 x_50 24).toUInt8), v8 ((shr32 x_50 16).toUInt8), v8 ((shr32 x_50 8).toUInt8), v8 x_50.toUInt8]) Tryz.underlying25 ti5 rfl rfl rfl rfl (by decide) (by decide) hS) rfl ?_
   rintro v_51 w hS
   obtain ⟨x_53, hx_53, h⟩ := obind_some h
   refine wpR_x (G_append Tryz.underlying25 ti5 rfl rfl rfl hS (i := 1) rfl (hS.ro 0 rfl) hx_53) rfl ?_
   rintro v_54 w hS
   refine wpR_run 1 rfl ?_
   refine wpR_nil (QE_blk_n ?_)
   refine QE_then_n (wpC_region (wpR_run 2 rfl ?_))
   refine wpR_nil ?_
   exact QE_rnd (wpN_le _ (by exact ⟨rfl, rfl, rfl, trivial⟩) (ih_48 (x_53, wI (x_46 + 1)) _ _ ⟨v_54, rfl, (hS.pick [1, 2] (by decide) rfl)⟩ (oinl_some h hk_47)))
  have h := if_f h hb_56
  refine wpC_exit ?_
  refine QE_then_x (QE_then_x ?_)
  have h := oinr_some h hk_47
  refine QE_blk_x ?_
  refine QE_then_n (wpC_seq (wpC_region (wpR_run 2 rfl ?_)))
  refine wpR_nil (QE_then_n (wpC_ret (QE_then_r ?_)))
  cases h
  exact QE_ret1 rfl rfl ⟨v_44, rfl, ha0_1, ha0_2, ha0_3, hS.pick [0, 1] (by decide) rfl⟩
 have h := if_f h hb_86
 refine wpC_skip (QE_then_n (wpC_seq (wpC_seq (wpC_region (wpR_v (OpV_fieldB (k := 9) Tryz.underlying198 rfl rfl nz191 rfl) rfl ?_)))))
 refine wpR_v (OpV_ldA (us := e64.fl x_39.2.2.1) Tryz.underlying191 rfl sz191 (fl_len1 hL_41 rfl) rfl (hS.bxgs0 0 rfl (Up.skip (k := 1) rfl (Up.skip (k := 8) (fl_len1 hL_40 rfl) Up.here rfl) rfl))) rfl ?_
 refine wpR_run 1 rfl ?_
 refine wpR_nil (QE_then_n (wpC_block ?_))
 refine wpC_le [(3, pB b_2 0), (10, .slice none 0 0), (96, .agg (e64.fl x_39.2.2.1).toArray), (97, vI 0)] ⟨rfl, rfl, rfl, rfl, trivial⟩ ?_
 refine loop_ind (F.sha_State_Sum_L4 a0_0 a0_1 a0_2 a0_3 a0_4 x_39) (fun (s : List UInt8 × Int) L w => ∃ (v_59 : Value), L = [(3, pB b_2 0), (10, v_59), (96, .agg (e64.fl x_39.2.2.1).toArray), (97, vI s.2)] ∧ St S w0 w [own e8 v_59 s.1, OE.bx b_2 ([vI x_39.1] ++ (e32.fl x_39.2.1 ++ (e64.fl x_39.2.2.1 ++ (e8.fl x_39.2.2.2.1 ++ [v64 x_39.2.2.2.2])))), OE.bx ba0 ([vI a0_0] ++ (e32.fl a0_1 ++ (e64.fl a0_2 ++ (e8.fl a0_3 ++ [v64 a0_4]))))]) ?_ ([], 0) ⟨.slice none 0 0, rfl, ((hS.nil e8).pick [0, 1, 3] (by decide) rfl)⟩ h
 rintro k_85 ⟨x_58, x_61⟩ L w q_64 hI ih_63 h hk_62
 try dsimp only at hI
 obtain ⟨v_59, rfl, hS⟩ := hI
 unfold F.sha_State_Sum_L4 at h
 refine wpC_seq (wpC_region (wpR_run 1 rfl ?_))
 refine wpR_nil (QE_then_n (wpC_seq ?_))
 refine wpC_cond rfl (fun hb_84 => ?_) (fun hb_84 => ?_)
 ·have h := if_t h hb_84
  refine wpC_skip (QE_then_n (wpC_seq (wpC_block ?_)))
  refine wpC_seq (wpC_region ?_)
  obtain ⟨x_65, hx_65, h⟩ := obind_some h
  refine wpR_v (OpV_ixAO (cs := (e64.fl x_39.2.2.1).toArray) Tryz.underlying191 Tryz.underlying131 rfl sz131 rfl rfl (getO_bd hx_65 hL_41) (fl_getA hx_65 rfl)) rfl ?_
  refine wpR_run 1 rfl ?_
  refine wpR_nil (QE_then_n (wpC_seq (wpC_region (wpR_run 1 rfl ?_))))
  refine wpR_nil (QE_then_n (wpC_block ?_))
  refine wpC_le [(3, pB b_2 0), (10, v_59), (14, v64 x_65), (15, vI 56), (96, .agg (e64.fl x_39.2.2.1).toArray), (97, vI x_61)] ⟨rfl, rfl, rfl, rfl, rfl, rfl, trivial⟩ ?_
  refine loop_ind (F.sha_State_Sum_L5 x_61 x_65) (fun (s : List UInt8 × Int) L w => ∃ (v_67 : Value), L = [(3, pB b_2 0), (10, v_67), (14, v64 x_65), (15, vI s.2), (96, .agg (e64.fl x_39.2.2.1).toArray), (97, vI x_61)] ∧ St S w0 w [own e8 v_67 s.1, OE.bx b_2 ([vI x_39.1] ++ (e32.fl x_39.2.1 ++ (e64.fl x_39.2.2.1 ++ (e8.fl x_39.2.2.2.1 ++ [v64 x_39.2.2.2.2])))), OE.bx ba0 ([vI a0_0] ++ (e32.fl a0_1 ++ (e64.fl a0_2 ++ (e8.fl a0_3 ++ [v64 a0_4]))))]) ?_ (x_58, 56) ⟨v_59, rfl, hS⟩ h
  rintro k_80 ⟨x_66, x_69⟩ L w q_72 hI ih_71 h hk_70
  try dsimp only at hI
  obtain ⟨v_67, rfl, hS⟩ := hI
  unfold F.sha_State_Sum_L5 at h
  refine wpC_seq (wpC_seq (wpC_region (wpR_run 2 rfl ?_)))
  refine wpR_nil (QE_then_n ?_)
  refine wpC_cond rfl (fun hb_79 => ?_) (fun hb_79 => ?_)
  ·have h := if_t h hb_79
   refine wpC_skip (QE_then_n (wpC_seq (wpC_block ?_)))
   refine wpC_region (wpR_run 3 rfl ?_)
   obtain ⟨hg_73, h⟩ := grd_some h
   refine wpR_v (OpV_bin rfl rfl (b_shr64_i _ x_65 x_69 hg_73)) rfl ?_
   refine wpR_v (OpV_conv rfl (cv_64_8 Tryz.underlying131 Tryz.underlying5 (shr64 x_65 ((x_69).toNat)))) rfl ?_
   refine wpR_x (OpX_lit (e := e8) (l := [(shr64 x_65 ((x_69).toNat)).toUInt8]) (vs := [v8 ((shr64 x_65 ((x_69).toNat)).toUInt8)]) Tryz.underlying25 ti5 rfl rfl rfl rfl (by decide) (by decide) hS) rfl ?_
   rintro v_74 w hS
   obtain ⟨x_76, hx_76, h⟩ := obind_some h
   refine wpR_x (G_append Tryz.underlying25 ti5 rfl rfl rfl hS (i := 1) rfl (hS.ro 0 rfl) hx_76) rfl ?_
   rintro v_77 w hS
   refine wpR_run 1 rfl ?_
   refine wpR_nil (QE_blk_n ?_)
   refine QE_then_n (wpC_region (wpR_run 3 rfl ?_))
   refine wpR_nil ?_
   exact QE_rnd (wpN_le _ (by exact ⟨rfl, rfl, rfl, rfl, rfl, rfl, trivial⟩) (ih_71 (x_76, wI (x_69 - 8)) _ _ ⟨v_77, rfl, (hS.pick [1, 2, 3] (by decide) rfl)⟩ (oinl_some h hk_70)))
  have h := if_f h hb_79
  refine wpC_exit ?_
  refine QE_then_x (QE_then_x ?_)
  have h := oinr_some h hk_70
  refine QE_blk_x ?_
  refine QE_blk_n ?_
  refine QE_then_n (wpC_region (wpR_run 2 rfl ?_))
  refine wpR_nil ?_
  exact QE_rnd (wpN_le _ (by exact ⟨rfl, rfl, rfl, rfl, trivial⟩) (ih_63 (x_66, wI (x_61 + 1)) _ _ ⟨v_67, rfl, hS⟩ (oinl_some h hk_62)))
 have h := if_f h hb_84
 refine wpC_exit ?_
 refine QE_then_x (QE_then_x ?_)
 have h := oinr_some h hk_62
 refine QE_blk_x ?_
 refine QE_then_n (wpC_seq ?_)
 refine wpC_regionT (fun w' => St S w0 w' [own e8 v_59 x_58, OE.bx b_2 ([vI x_39.1] ++ (e32.fl x_39.2.1 ++ (e64.fl x_39.2.2.1 ++ (e8.fl x_39.2.2.2.1 ++ [v64 x_39.2.2.2.2])))), OE.bx ba0 ([vI a0_0] ++ (e32.fl a0_1 ++ (e64.fl a0_2 ++ (e8.fl a0_3 ++ [v64 a0_4]))))]) (fun i => !([3, 6].contains i)) hmix (fun _ _ _ hf => hf.2) (fun _ _ hf => hf) (by kernel_rfl) ?_
 have hS := hS.drew
 show lxE _ _ _ _ _ _ _ [0, 1, 2, 3, 4, 5, 6, 7, 8] _ _
 refine lxE_v hS rfl rfl (fun w hF => OpV_move rfl) rfl ?_
 refine lxE_v hS rfl rfl (fun w hF => OpV_fieldB (k := 0) Tryz.underlying198 rfl rfl nz45 rfl) rfl ?_
 refine lxE_v hS rfl rfl (fun w hF => OpV_ldB Tryz.underlying45 rfl rfl (hF.bxg 1 rfl (Up.get0 Up.here))) rfl ?_
 obtain ⟨x_81, hx_81, h⟩ := obind_some h
 refine lxE_call hS rfl rfl (by kernel_rfl) rfl (c_sha_Size _ x_39.1    _ hx_81) rfl ?_
 rintro _ w ⟨rfl, hS1⟩
 have hS := hS.call hS1
 simp only [List.cons_append, List.nil_append] at hS
 replace hS : St _ w0 w [own e8 v_59 x_58, OE.bx b_2 ([vI x_39.1] ++ (e32.fl x_39.2.1 ++ (e64.fl x_39.2.2.1 ++ (e8.fl x_39.2.2.2.1 ++ [v64 x_39.2.2.2.2])))), OE.bx ba0 ([vI a0_0] ++ (e32.fl a0_1 ++ (e64.fl a0_2 ++ (e8.fl a0_3 ++ [v64 a0_4]))))] := hS
 refine lxE_v hS rfl rfl (fun w hF => OpV_fieldB (k := 0) Tryz.underlying198 rfl rfl nz45 rfl) rfl ?_
 refine lxE_v hS rfl rfl (fun w hF => OpV_ldB Tryz.underlying45 rfl rfl (hF.bxg 1 rfl (Up.get0 Up.here))) rfl ?_
 obtain ⟨x_82, hx_82, h⟩ := obind_some h
 refine lxE_call hS rfl rfl (by kernel_rfl) rfl (c_sha_Size _ x_39.1    _ hx_82) rfl ?_
 rintro _ w ⟨rfl, hS1⟩
 have hS := hS.call hS1
 simp only [List.cons_append, List.nil_append] at hS
 replace hS : St _ w0 w [own e8 v_59 x_58, OE.bx b_2 ([vI x_39.1] ++ (e32.fl x_39.2.1 ++ (e64.fl x_39.2.2.1 ++ (e8.fl x_39.2.2.2.1 ++ [v64 x_39.2.2.2.2])))), OE.bx ba0 ([vI a0_0] ++ (e32.fl a0_1 ++ (e64.fl a0_2 ++ (e8.fl a0_3 ++ [v64 a0_4]))))] := hS
 obtain ⟨hg_83, h⟩ := grd_some h
 refine lxE_v hS rfl rfl (fun w hF => G_slh3 Tryz.underlying25 ti5 rfl rfl rfl (hF.ro 0 rfl) hg_83) rfl ?_
 refine lxE_v hS rfl rfl (fun w hF => OpV_assign rfl) rfl ?_
 refine lxE_nil hS ?_
 refine QE_then_n (wpC_ret ?_)
 cases h
 replace hS := hS.trunc3 (i := 0) rfl hg_83.2.1
 exact QE_ret1 rfl rfl ⟨slV3 v_59 e8.sz 0 ((x_81 : Int).toNat) ((x_81 : Int).toNat), rfl, ha0_1, ha0_2, ha0_3, hS.pick [0, 2] (by decide) rfl⟩
theorem c_sha_Sum (w0 : World) (a0 : Int) (a1 : List (List UInt8)) (va1 : Value) (s1 : List SV) (hT : TB [] w0) (ha1 : RP [] w0 eV va1 s1) (hl1 : AllRP [] w0 e8 s1 a1) (r : List UInt8)
  (h : F.sha_Sum a0 a1 = some r) : Calls Tryz.prog 57 #[vI a0, va1] w0 (Ret fun v w => St [] w0 w [own e8 v r]) := by
 refine calls_at 24 Tryz.func57 rfl rfl rfl ?_
 have hS := St.start w0
 refine wpC_le [(0, vI a0), (1, va1)] ⟨rfl, rfl, trivial⟩ ?_
 unfold F.sha_Sum at h
 refine wpC_seq (wpC_region (wpR_run 1 rfl ?_))
 refine wpR_nil (QE_then_n (wpC_seq (wpC_region (wpR_run 1 rfl ?_))))
 obtain ⟨x_1, hx_1, h⟩ := obind_some h
 refine wpR_call (by kernel_rfl) rfl (c_sha_New _ a0   (hT.now hS.fr) _ hx_1) rfl ?_
 rintro _ w ⟨u_2, rfl, hO_3, hL_4, hS1⟩
 cases hc_5 : x_1 with
 | none =>
  have h := ocase_n h hc_5
  rw [hc_5] at hO_3 hS1
  simp only [Option.map_none, oval] at hO_3
  subst hO_3
  simp only [Option.map_none, oent, List.nil_append] at hS1
  have hS := hS.call hS1
  simp only [List.cons_append, List.nil_append] at hS
  refine wpR_run 1 rfl ?_
  refine wpR_nil (QE_then_n (wpC_seq (wpC_seq (wpC_region (wpR_run 1 rfl ?_)))))
  refine wpR_v (OpV_bin rfl rfl (b_penN Tryz.underlying144)) rfl ?_
  refine wpR_nil (QE_then_n (wpC_condT rfl ?_))
  refine wpC_seq (wpC_region (wpR_run 1 rfl ?_))
  refine wpR_nil (QE_then_n (wpC_ret (QE_then_r ?_)))
  cases h
  exact QE_ret1 rfl rfl ((hS.nil e8).pick [0] (by decide) rfl)
 | some x_6 =>
  have h := ocase_s h hc_5
  rw [hc_5] at hO_3 hS1
  simp only [Option.map_some, oval] at hO_3
  obtain ⟨b_7, rfl⟩ := hO_3
  simp only [Option.map_some, oent, List.singleton_append, List.cons_append, List.nil_append] at hS1
  have hS := hS.call hS1
  simp only [List.cons_append, List.nil_append] at hS
  obtain ⟨hL_8, hL_9, hL_10⟩ := hL_4 x_6 hc_5
  replace hS : St _ w0 w [OE.bx b_7 ([vI x_6.1] ++ (e32.fl x_6.2.1 ++ (e64.fl x_6.2.2.1 ++ (e8.fl x_6.2.2.2.1 ++ [v64 x_6.2.2.2.2]))))] := hS
  refine wpR_run 1 rfl ?_
  refine wpR_nil (QE_then_n (wpC_seq (wpC_seq (wpC_region (wpR_run 1 rfl ?_)))))
  refine wpR_v (OpV_bin rfl rfl (b_peqN Tryz.underlying144 b_7 0)) rfl ?_
  refine wpR_nil (QE_then_n (wpC_condF rfl ?_))
  refine wpC_skip (QE_then_n (wpC_seq (wpC_seq (wpC_region (wpR_run 1 rfl ?_)))))
  refine wpR_v (L_len Tryz.underlying56 rfl (ha1.now hS.fr) hl1.len) rfl ?_
  refine wpR_run 1 rfl ?_
  refine wpR_nil (QE_then_n (wpC_block ?_))
  refine wpC_le [(5, pB b_7 0), (12, va1), (13, vI (a1.length : Int)), (14, vI 0)] ⟨rfl, rfl, rfl, rfl, trivial⟩ ?_
  refine loop_ind (F.sha_Sum_L1 a1) (fun (s : Int × Int × List UInt32 × List UInt64 × List UInt8 × UInt64) L w => L = [(5, pB b_7 0), (12, va1), (13, vI (a1.length : Int)), (14, vI s.1)] ∧ s.2.2.1.length = 8 ∧ s.2.2.2.1.length = 8 ∧ s.2.2.2.2.1.length = 128 ∧ St [] w0 w [OE.bx b_7 ([vI s.2.1] ++ (e32.fl s.2.2.1 ++ (e64.fl s.2.2.2.1 ++ (e8.fl s.2.2.2.2.1 ++ [v64 s.2.2.2.2.2]))))]) ?_ (0, x_6.1, x_6.2.1, x_6.2.2.1, x_6.2.2.2.1, x_6.2.2.2.2) ⟨rfl, hL_8, hL_9, hL_10, hS⟩ h
  rintro k_37 ⟨x_12, x_13, x_14, x_16, x_18, x_20⟩ L w q_23 hI ih_22 h hk_21
  try dsimp only at hI
  obtain ⟨rfl, hL_15, hL_17, hL_19, hS⟩ := hI
  unfold F.sha_Sum_L1 at h
  refine wpC_seq (wpC_region (wpR_run 1 rfl ?_))
  refine wpR_nil (QE_then_n (wpC_seq ?_))
  refine wpC_cond rfl (fun hb_36 => ?_) (fun hb_36 => ?_)
  ·have h := if_t h hb_36
   refine wpC_skip (QE_then_n (wpC_seq (wpC_block ?_)))
   refine wpC_seq (wpC_region ?_)
   obtain ⟨x_24, hx_24, h⟩ := obind_some h
   obtain ⟨sv_25, hsv_25, hRsv_25⟩ := hl1.get hx_24
   refine wpR_v (G_ix Tryz.underlying56 ti25 rfl rfl (ha1.now hS.fr) hsv_25) rfl ?_
   refine wpR_v (G_load Tryz.underlying25 rfl rfl (ha1.now hS.fr) hsv_25 rfl) rfl ?_
   refine wpR_run 1 rfl ?_
   refine wpR_nil (QE_then_n (wpC_region (wpR_run 2 rfl ?_)))
   have hG := hS.pick (os' := [OE.bx b_7 ([vI x_13] ++ (e32.fl x_14 ++ (e64.fl x_16 ++ (e8.fl x_18 ++ [v64 x_20]))))] ++ []) [0] (by decide) rfl
   obtain ⟨x_26, hx_26, h⟩ := obind_some h
   refine wpR_call (by kernel_rfl) rfl (c_sha_State_Write _ x_13 x_14 x_16 x_18 x_20 x_24 sv_25.v b_7 _ hG.give (hT.give hG) hL_15 hL_17 hL_19 (hRsv_25.give (Nat.le_of_ble_eq_true rfl) hG) _ hx_26) rfl ?_
   rintro _ w ⟨rfl, hL_27, hL_28, hL_29, hS1⟩
   have hS := hG.back hS1
   simp only [List.cons_append, List.nil_append] at hS
   replace hS : St _ w0 w [OE.bx b_7 ([vI x_26.1] ++ (e32.fl x_26.2.1 ++ (e64.fl x_26.2.2.1 ++ (e8.fl x_26.2.2.2.1 ++ [v64 x_26.2.2.2.2]))))] := hS
   refine wpR_nil (QE_blk_n ?_)
   refine QE_then_n (wpC_region (wpR_run 2 rfl ?_))
   refine wpR_nil ?_
   exact QE_rnd (wpN_le _ (by exact ⟨rfl, rfl, rfl, rfl, trivial⟩) (ih_22 (wI (x_12 + 1), x_26.1, x_26.2.1, x_26.2.2.1, x_26.2.2.2.1, x_26.2.2.2.2) _ _ ⟨rfl, hL_27, hL_28, hL_29, hS⟩ (oinl_some h hk_21)))
  have h := if_f h hb_36
  refine wpC_exit ?_
  refine QE_then_x (QE_then_x ?_)
  have h := oinr_some h hk_21
  refine QE_blk_x ?_
  refine QE_then_n (wpC_seq (wpC_region (wpR_run 1 rfl ?_)))
  have hG := hS.pick (os' := [OE.bx b_7 ([vI x_13] ++ (e32.fl x_14 ++ (e64.fl x_16 ++ (e8.fl x_18 ++ [v64 x_20]))))] ++ []) [0] (by decide) rfl
  obtain ⟨x_30, hx_30, h⟩ := obind_some h
  refine wpR_call (by kernel_rfl) rfl (c_sha_State_Sum _ x_13 x_14 x_16 x_18 x_20  b_7 _ hG.give (hT.give hG) hL_15 hL_17 hL_19 _ hx_30) rfl ?_
  rintro v_31 w ⟨v_31q, hqv_31, hL_33, hL_34, hL_35, hS1⟩
  rw [← hqv_31] at hS1
  have hS := hG.back hS1
  simp only [List.cons_append, List.nil_append] at hS
  replace hS : St _ w0 w [own e8 v_31 x_30.1, OE.bx b_7 ([vI x_30.2.1] ++ (e32.fl x_30.2.2.1 ++ (e64.fl x_30.2.2.2.1 ++ (e8.fl x_30.2.2.2.2.1 ++ [v64 x_30.2.2.2.2.2]))))] := hS
  refine wpR_run 1 rfl ?_
  refine wpR_nil (QE_then_n (wpC_ret ?_))
  cases h
  exact QE_ret1 rfl rfl (hS.pick [0] (by decide) rfl)
end Go.Proofs
