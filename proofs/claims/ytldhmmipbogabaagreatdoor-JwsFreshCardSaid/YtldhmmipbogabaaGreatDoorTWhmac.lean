import Derived.Test.YtldhmmipbogabaaGreatDoorTW0
import Derived.Test.YtldhmmipbogabaaGreatDoorGkFhmac
import Derived.Test.YtldhmmipbogabaaGreatDoorTWshab
set_option linter.unusedVariables false
set_option linter.unusedSimpArgs false
set_option linter.unusedVariables false
set_option maxRecDepth 4000
namespace Go.Proofs
open Go Go.RowKit Go.Gk
theorem c_hmac_filled (w0 : World) (a0 : Int) (a1 : List UInt8) (a2 : UInt8) (va1 : Value) (hT : TB [] w0) (ha1 : RP [] w0 e8 va1 a1) (r : List UInt8)
  (h : F.hmac_filled a0 a1 a2 = some r) : Calls Tryz.prog 120 #[vI a0, va1, v8 a2] w0 (Ret fun v w => St [] w0 w [own e8 v r]) := by
 refine calls_at 38 Tryz.func120 rfl rfl rfl ?_
 have hS := St.start w0
 refine wpC_le [(0, vI a0), (1, va1), (2, v8 a2)] ⟨rfl, rfl, rfl, trivial⟩ ?_
 unfold F.hmac_filled at h
 refine wpC_seq (wpC_region (wpR_run 1 rfl ?_))
 refine wpR_nil (QE_then_n (wpC_seq (wpC_seq (wpC_region (wpR_run 1 rfl ?_)))))
 refine wpR_v (OpV_len Tryz.underlying25 rfl (ha1.now hS.fr)) rfl ?_
 refine wpR_run 1 rfl ?_
 obtain ⟨x_8, hx_8, h⟩ := obind_some h
 refine wpR_call (by kernel_rfl) rfl (c_sha_Block _ a0    _ hx_8) rfl ?_
 rintro _ w ⟨rfl, hS1⟩
 have hS := hS.call hS1
 simp only [List.cons_append, List.nil_append] at hS
 refine wpR_run 1 rfl ?_
 refine wpR_nil (QE_then_n ?_)
 refine wpC_cond rfl (fun hb_46 => ?_) (fun hb_46 => ?_)
 ·have h := if_t h hb_46
  refine wpC_region (wpR_run 2 rfl ?_)
  refine wpR_x (OpX_lit (e := eV) (l := ([SV.of va1] : List SV)) (vs := [va1]) Tryz.underlying56 ti25 rfl rfl rfl (fl_eVc (ha1.now hS.fr).sv rfl) (by decide) (by decide) hS) rfl ?_
  rintro v_9 w hS
  obtain ⟨x_11, hx_11, h⟩ := obind_some h
  refine wpR_call (by kernel_rfl) rfl (c_sha_Sum _ a0 [a1] v_9 [SV.of va1] (hT.now hS.fr) (hS.ro 0 rfl).rp ⟨(ha1.now hS.fr).svrp, trivial⟩ _ hx_11) rfl ?_
  rintro v_12 w hS1
  have hS := hS.call hS1
  simp only [List.cons_append, List.nil_append] at hS
  refine wpR_run 1 rfl ?_
  refine wpR_nil (QE_then_n (wpC_seq (wpC_region (wpR_run 1 rfl ?_))))
  obtain ⟨x_14, hx_14, h⟩ := obind_some h
  refine wpR_call (by kernel_rfl) rfl (c_sha_Block _ a0    _ hx_14) rfl ?_
  rintro _ w ⟨rfl, hS1⟩
  have hS := hS.call hS1
  simp only [List.cons_append, List.nil_append] at hS
  obtain ⟨x_15, hx_15, h⟩ := obind_some h
  refine wpR_x (G_make (e := e8) Tryz.underlying25 ti5 rfl rfl rfl hS hx_15) rfl ?_
  rintro v_16 w hS
  refine wpR_run 1 rfl ?_
  refine wpR_nil (QE_then_n (wpC_seq (wpC_region (wpR_run 2 rfl ?_))))
  refine wpR_x (G_copy (e := e8) Tryz.underlying25 ti5 rfl rfl rfl hS (i := 0) rfl (hS.ro 1 rfl)) rfl ?_
  rintro v_q w ⟨hv_q, hS⟩
  subst v_q
  obtain ⟨x_18, hx_18, h⟩ := olet_some h
  rw [hx_18] at hS
  refine wpR_nil (QE_then_n (wpC_seq (wpC_seq (wpC_region (wpR_run 1 rfl ?_)))))
  obtain ⟨x_19, hx_19, h⟩ := obind_some h
  refine wpR_call (by kernel_rfl) rfl (c_sha_Block _ a0    _ hx_19) rfl ?_
  rintro _ w ⟨rfl, hS1⟩
  have hS := hS.call hS1
  simp only [List.cons_append, List.nil_append] at hS
  refine wpR_run 1 rfl ?_
  refine wpR_nil (QE_then_n (wpC_block ?_))
  refine wpC_le [(2, v8 a2), (7, v_16), (25, vI x_19), (26, vI 0)] ⟨rfl, rfl, rfl, rfl, trivial⟩ ?_
  refine loop_ind (F.hmac_filled_L1 a2 x_19) (fun (s : Int × List UInt8) L w => L = [(2, v8 a2), (7, v_16), (25, vI x_19), (26, vI s.1)] ∧ St [] w0 w [own e8 v_16 s.2]) ?_ (0, x_18) ⟨rfl, (hS.pick [0] (by decide) rfl)⟩ h
  rintro k_29 ⟨x_20, x_21⟩ L w q_24 hI ih_23 h hk_22
  try dsimp only at hI
  obtain ⟨rfl, hS⟩ := hI
  unfold F.hmac_filled_L1 at h
  refine wpC_seq (wpC_region (wpR_run 1 rfl ?_))
  refine wpR_nil (QE_then_n (wpC_seq ?_))
  refine wpC_cond rfl (fun hb_28 => ?_) (fun hb_28 => ?_)
  ·have h := if_t h hb_28
   refine wpC_skip (QE_then_n (wpC_seq (wpC_block ?_)))
   refine wpC_seq (wpC_region (wpR_run 2 rfl ?_))
   refine wpR_nil (QE_then_n (wpC_region (wpR_run 2 rfl ?_)))
   obtain ⟨x_25, hx_25, h⟩ := obind_some h
   refine wpR_v (G_ix Tryz.underlying25 ti5 rfl rfl (hS.ro 0 rfl) hx_25) rfl ?_
   refine wpR_v (G_load Tryz.underlying5 rfl rfl (hS.ro 0 rfl) hx_25 rfl) rfl ?_
   refine wpR_run 1 rfl ?_
   refine wpR_v (OpV_bin rfl rfl (b_xor8 _ x_25 a2)) rfl ?_
   obtain ⟨x_26, hx_26, h⟩ := obind_some h
   refine wpR_v (G_ix Tryz.underlying25 ti5 rfl rfl (hS.ro 0 rfl) hx_26) rfl ?_
   refine wpR_y (G_storeE (t := (x_25 ^^^ a2)) ti5 rfl rfl hS (i := 0) rfl hx_26 rfl) ?_
   intro w hS
   obtain ⟨x_27, hx_27, h⟩ := olet_some h
   rw [hx_27] at hS
   refine wpR_nil (QE_blk_n ?_)
   refine QE_then_n (wpC_region (wpR_run 2 rfl ?_))
   refine wpR_nil ?_
   exact QE_rnd (wpN_le _ (by exact ⟨rfl, rfl, rfl, rfl, trivial⟩) (ih_23 (wI (x_20 + 1), x_27) _ _ ⟨rfl, hS⟩ (oinl_some h hk_22)))
  have h := if_f h hb_28
  refine wpC_exit ?_
  refine QE_then_x (QE_then_x ?_)
  have h := oinr_some h hk_22
  refine QE_blk_x ?_
  refine QE_then_n (wpC_seq (wpC_region (wpR_run 2 rfl ?_)))
  refine wpR_nil (QE_then_n (wpC_ret ?_))
  cases h
  exact QE_ret1 rfl rfl (hS.pick [0] (by decide) rfl)
 have h := if_f h hb_46
 refine wpC_skip (QE_then_n (wpC_seq (wpC_region (wpR_run 1 rfl ?_))))
 obtain ⟨x_30, hx_30, h⟩ := obind_some h
 refine wpR_call (by kernel_rfl) rfl (c_sha_Block _ a0    _ hx_30) rfl ?_
 rintro _ w ⟨rfl, hS1⟩
 have hS := hS.call hS1
 simp only [List.cons_append, List.nil_append] at hS
 obtain ⟨x_31, hx_31, h⟩ := obind_some h
 refine wpR_x (G_make (e := e8) Tryz.underlying25 ti5 rfl rfl rfl hS hx_31) rfl ?_
 rintro v_32 w hS
 refine wpR_run 1 rfl ?_
 refine wpR_nil (QE_then_n (wpC_seq (wpC_region (wpR_run 2 rfl ?_))))
 refine wpR_x (G_copy (e := e8) Tryz.underlying25 ti5 rfl rfl rfl hS (i := 0) rfl (ha1.now hS.fr)) rfl ?_
 rintro v_q w ⟨hv_q, hS⟩
 subst v_q
 obtain ⟨x_34, hx_34, h⟩ := olet_some h
 rw [hx_34] at hS
 refine wpR_nil (QE_then_n (wpC_seq (wpC_seq (wpC_region (wpR_run 1 rfl ?_)))))
 obtain ⟨x_35, hx_35, h⟩ := obind_some h
 refine wpR_call (by kernel_rfl) rfl (c_sha_Block _ a0    _ hx_35) rfl ?_
 rintro _ w ⟨rfl, hS1⟩
 have hS := hS.call hS1
 simp only [List.cons_append, List.nil_append] at hS
 refine wpR_run 1 rfl ?_
 refine wpR_nil (QE_then_n (wpC_block ?_))
 refine wpC_le [(2, v8 a2), (7, v_32), (25, vI x_35), (26, vI 0)] ⟨rfl, rfl, rfl, rfl, trivial⟩ ?_
 refine loop_ind (F.hmac_filled_L2 a2 x_35) (fun (s : Int × List UInt8) L w => L = [(2, v8 a2), (7, v_32), (25, vI x_35), (26, vI s.1)] ∧ St [] w0 w [own e8 v_32 s.2]) ?_ (0, x_34) ⟨rfl, hS⟩ h
 rintro k_45 ⟨x_36, x_37⟩ L w q_40 hI ih_39 h hk_38
 try dsimp only at hI
 obtain ⟨rfl, hS⟩ := hI
 unfold F.hmac_filled_L2 at h
 refine wpC_seq (wpC_region (wpR_run 1 rfl ?_))
 refine wpR_nil (QE_then_n (wpC_seq ?_))
 refine wpC_cond rfl (fun hb_44 => ?_) (fun hb_44 => ?_)
 ·have h := if_t h hb_44
  refine wpC_skip (QE_then_n (wpC_seq (wpC_block ?_)))
  refine wpC_seq (wpC_region (wpR_run 2 rfl ?_))
  refine wpR_nil (QE_then_n (wpC_region (wpR_run 2 rfl ?_)))
  obtain ⟨x_41, hx_41, h⟩ := obind_some h
  refine wpR_v (G_ix Tryz.underlying25 ti5 rfl rfl (hS.ro 0 rfl) hx_41) rfl ?_
  refine wpR_v (G_load Tryz.underlying5 rfl rfl (hS.ro 0 rfl) hx_41 rfl) rfl ?_
  refine wpR_run 1 rfl ?_
  refine wpR_v (OpV_bin rfl rfl (b_xor8 _ x_41 a2)) rfl ?_
  obtain ⟨x_42, hx_42, h⟩ := obind_some h
  refine wpR_v (G_ix Tryz.underlying25 ti5 rfl rfl (hS.ro 0 rfl) hx_42) rfl ?_
  refine wpR_y (G_storeE (t := (x_41 ^^^ a2)) ti5 rfl rfl hS (i := 0) rfl hx_42 rfl) ?_
  intro w hS
  obtain ⟨x_43, hx_43, h⟩ := olet_some h
  rw [hx_43] at hS
  refine wpR_nil (QE_blk_n ?_)
  refine QE_then_n (wpC_region (wpR_run 2 rfl ?_))
  refine wpR_nil ?_
  exact QE_rnd (wpN_le _ (by exact ⟨rfl, rfl, rfl, rfl, trivial⟩) (ih_39 (wI (x_36 + 1), x_43) _ _ ⟨rfl, hS⟩ (oinl_some h hk_38)))
 have h := if_f h hb_44
 refine wpC_exit ?_
 refine QE_then_x (QE_then_x ?_)
 have h := oinr_some h hk_38
 refine QE_blk_x ?_
 refine QE_then_n (wpC_seq (wpC_region (wpR_run 2 rfl ?_)))
 refine wpR_nil (QE_then_n (wpC_ret ?_))
 cases h
 exact QE_ret1 rfl rfl (hS.pick [0] (by decide) rfl)
theorem c_hmac_Sum (w0 : World) (a0 : Int) (a1 : List UInt8) (a2 : List UInt8) (va1 : Value) (va2 : Value) (hT : TB [] w0) (ha1 : RP [] w0 e8 va1 a1) (ha2 : RP [] w0 e8 va2 a2) (r : List UInt8)
  (h : F.hmac_Sum a0 a1 a2 = some r) : Calls Tryz.prog 46 #[vI a0, va1, va2] w0 (Ret fun v w => St [] w0 w [own e8 v r]) := by
 refine calls_at 23 Tryz.func46 rfl rfl rfl ?_
 have hS := St.start w0
 refine wpC_le [(0, vI a0), (1, va1), (2, va2)] ⟨rfl, rfl, rfl, trivial⟩ ?_
 unfold F.hmac_Sum at h
 refine wpC_seq (wpC_region (wpR_run 1 rfl ?_))
 refine wpR_nil (QE_then_n (wpC_seq (wpC_seq (wpC_region (wpR_run 1 rfl ?_)))))
 obtain ⟨x_1, hx_1, h⟩ := obind_some h
 refine wpR_call (by kernel_rfl) rfl (c_sha_Size _ a0    _ hx_1) rfl ?_
 rintro _ w ⟨rfl, hS1⟩
 have hS := hS.call hS1
 simp only [List.cons_append, List.nil_append] at hS
 refine wpR_run 1 rfl ?_
 refine wpR_nil (QE_then_n ?_)
 refine wpC_cond rfl (fun hb_18 => ?_) (fun hb_18 => ?_)
 ·have h := if_t h hb_18
  refine wpC_seq (wpC_region (wpR_run 1 rfl ?_))
  refine wpR_nil (QE_then_n (wpC_ret (QE_then_r ?_)))
  cases h
  exact QE_ret1 rfl rfl ((hS.nil e8).pick [0] (by decide) rfl)
 have h := if_f h hb_18
 refine wpC_skip (QE_then_n (wpC_seq (wpC_region (wpR_run 3 rfl ?_))))
 obtain ⟨x_2, hx_2, h⟩ := obind_some h
 refine wpR_call (by kernel_rfl) rfl (c_hmac_filled _ a0 a1 92 va1  (hT.now hS.fr) (ha1.now hS.fr).rp _ hx_2) rfl ?_
 rintro v_3 w hS1
 have hS := hS.call hS1
 simp only [List.cons_append, List.nil_append] at hS
 refine wpR_run 3 rfl ?_
 obtain ⟨x_5, hx_5, h⟩ := obind_some h
 refine wpR_call (by kernel_rfl) rfl (c_hmac_filled _ a0 a1 54 va1  (hT.now hS.fr) (ha1.now hS.fr).rp _ hx_5) rfl ?_
 rintro v_6 w hS1
 have hS := hS.call hS1
 simp only [List.cons_append, List.nil_append] at hS
 refine wpR_run 1 rfl ?_
 refine wpR_x (OpX_lit (e := eV) (l := ([SV.of v_6, SV.of va2] : List SV)) (vs := [v_6, va2]) Tryz.underlying56 ti25 rfl rfl rfl (fl_eVc (hS.ro 0 rfl).sv (fl_eVc (ha2.now hS.fr).sv rfl)) (by decide) (by decide) hS) rfl ?_
 rintro v_8 w hS
 obtain ⟨x_10, hx_10, h⟩ := obind_some h
 refine wpR_call (by kernel_rfl) rfl (c_sha_Sum _ a0 [x_5, a2] v_8 [SV.of v_6, SV.of va2] (hT.now hS.fr) (hS.ro 0 rfl).rp ⟨(hS.ro 1 rfl).svrp, (ha2.now hS.fr).svrp, trivial⟩ _ hx_10) rfl ?_
 rintro v_11 w hS1
 have hS := hS.call hS1
 simp only [List.cons_append, List.nil_append] at hS
 refine wpR_x (OpX_lit (e := eV) (l := ([SV.of v_3, SV.of v_11] : List SV)) (vs := [v_3, v_11]) Tryz.underlying56 ti25 rfl rfl rfl (fl_eVc (hS.ro 3 rfl).sv (fl_eVc (hS.ro 0 rfl).sv rfl)) (by decide) (by decide) hS) rfl ?_
 rintro v_13 w hS
 obtain ⟨x_15, hx_15, h⟩ := obind_some h
 refine wpR_call (by kernel_rfl) rfl (c_sha_Sum _ a0 [x_2, x_10] v_13 [SV.of v_3, SV.of v_11] (hT.now hS.fr) (hS.ro 0 rfl).rp ⟨(hS.ro 4 rfl).svrp, (hS.ro 1 rfl).svrp, trivial⟩ _ hx_15) rfl ?_
 rintro v_16 w hS1
 have hS := hS.call hS1
 simp only [List.cons_append, List.nil_append] at hS
 refine wpR_run 1 rfl ?_
 refine wpR_nil (QE_then_n (wpC_ret ?_))
 cases h
 exact QE_ret1 rfl rfl (hS.pick [0] (by decide) rfl)
theorem c_hmac_Equal (w0 : World) (a0 : List UInt8) (a1 : List UInt8) (va0 : Value) (va1 : Value) (ha0 : RP [] w0 e8 va0 a0) (ha1 : RP [] w0 e8 va1 a1) (r : Bool)
  (h : F.hmac_Equal a0 a1 = some r) : Calls Tryz.prog 45 #[va0, va1] w0 (Ret fun v w => v = vB r ∧ St [] w0 w []) := by
 refine calls_at 31 Tryz.func45 rfl rfl rfl ?_
 have hS := St.start w0
 refine wpC_le [(0, va0), (1, va1)] ⟨rfl, rfl, trivial⟩ ?_
 unfold F.hmac_Equal at h
 refine wpC_seq (wpC_region (wpR_run 1 rfl ?_))
 refine wpR_nil (QE_then_n (wpC_seq (wpC_seq (wpC_region (wpR_run 1 rfl ?_)))))
 refine wpR_v (OpV_len Tryz.underlying25 rfl (ha0.now hS.fr)) rfl ?_
 refine wpR_run 1 rfl ?_
 refine wpR_v (OpV_len Tryz.underlying25 rfl (ha1.now hS.fr)) rfl ?_
 refine wpR_run 1 rfl ?_
 refine wpR_nil (QE_then_n ?_)
 refine wpC_cond rfl (fun hb_10 => ?_) (fun hb_10 => ?_)
 ·have h := if_t h hb_10
  refine wpC_seq (wpC_region (wpR_run 1 rfl ?_))
  refine wpR_nil (QE_then_n (wpC_ret (QE_then_r ?_)))
  cases h
  exact QE_ret1 rfl rfl ⟨rfl, hS⟩
 have h := if_f h hb_10
 refine wpC_skip (QE_then_n (wpC_seq (wpC_region (wpR_run 1 rfl ?_))))
 refine wpR_nil (QE_then_n (wpC_seq (wpC_seq (wpC_region (wpR_run 1 rfl ?_)))))
 refine wpR_v (OpV_len Tryz.underlying25 rfl (ha0.now hS.fr)) rfl ?_
 refine wpR_run 1 rfl ?_
 refine wpR_nil (QE_then_n (wpC_block ?_))
 refine wpC_le [(0, va0), (1, va1), (5, v8 0), (13, vI (a0.length : Int)), (14, vI 0)] ⟨rfl, rfl, rfl, rfl, rfl, trivial⟩ ?_
 refine loop_ind (F.hmac_Equal_L1 a0 a1) (fun (s : UInt8 × Int) L w => L = [(0, va0), (1, va1), (5, v8 s.1), (13, vI (a0.length : Int)), (14, vI s.2)] ∧ St [] w0 w []) ?_ (0, 0) ⟨rfl, hS⟩ h
 rintro k_9 ⟨x_1, x_2⟩ L w q_5 hI ih_4 h hk_3
 try dsimp only at hI
 obtain ⟨rfl, hS⟩ := hI
 unfold F.hmac_Equal_L1 at h
 refine wpC_seq (wpC_region (wpR_run 1 rfl ?_))
 refine wpR_nil (QE_then_n (wpC_seq ?_))
 refine wpC_cond rfl (fun hb_8 => ?_) (fun hb_8 => ?_)
 ·have h := if_t h hb_8
  refine wpC_skip (QE_then_n (wpC_seq (wpC_block ?_)))
  refine wpC_seq (wpC_region (wpR_run 2 rfl ?_))
  refine wpR_nil (QE_then_n ?_)
  refine wpC_regionT (fun w' => St [] w0 w' []) (fun _ => true) hmix (fun _ _ _ hf => hf.2) (fun _ _ hf => hf) (by kernel_rfl) ?_
  have hS := hS.drew
  show lxE _ _ _ _ _ _ _ [0, 1, 2, 3, 4, 5, 6, 7, 8, 9, 10, 11] _ _
  refine lxE_v hS rfl rfl (fun w hF => OpV_move rfl) rfl ?_
  refine lxE_v hS rfl rfl (fun w hF => OpV_move rfl) rfl ?_
  refine lxE_v hS rfl rfl (fun w hF => OpV_move rfl) rfl ?_
  obtain ⟨x_6, hx_6, h⟩ := obind_some h
  refine lxE_v hS rfl rfl (fun w hF => G_ix Tryz.underlying25 ti5 rfl rfl (ha0.now hF.fr) hx_6) rfl ?_
  refine lxE_v hS rfl rfl (fun w hF => G_load Tryz.underlying5 rfl rfl (ha0.now hF.fr) hx_6 rfl) rfl ?_
  refine lxE_v hS rfl rfl (fun w hF => OpV_move rfl) rfl ?_
  refine lxE_v hS rfl rfl (fun w hF => OpV_move rfl) rfl ?_
  obtain ⟨x_7, hx_7, h⟩ := obind_some h
  refine lxE_v hS rfl rfl (fun w hF => G_ix Tryz.underlying25 ti5 rfl rfl (ha1.now hF.fr) hx_7) rfl ?_
  refine lxE_v hS rfl rfl (fun w hF => G_load Tryz.underlying5 rfl rfl (ha1.now hF.fr) hx_7 rfl) rfl ?_
  refine lxE_v hS rfl rfl (fun w hF => OpV_bin rfl rfl (b_xor8 _ x_6 x_7)) rfl ?_
  refine lxE_v hS rfl rfl (fun w hF => OpV_bin rfl rfl (b_or8 _ x_1 (x_6 ^^^ x_7))) rfl ?_
  refine lxE_v hS rfl rfl (fun w hF => OpV_assign rfl) rfl ?_
  refine lxE_nil hS ?_
  refine QE_blk_n ?_
  refine QE_then_n (wpC_region (wpR_run 2 rfl ?_))
  refine wpR_nil ?_
  exact QE_rnd (wpN_le _ (by exact ⟨rfl, rfl, rfl, rfl, rfl, trivial⟩) (ih_4 (x_1 ||| (x_6 ^^^ x_7), wI (x_2 + 1)) _ _ ⟨rfl, hS⟩ (oinl_some h hk_3)))
 have h := if_f h hb_8
 refine wpC_exit ?_
 refine QE_then_x (QE_then_x ?_)
 have h := oinr_some h hk_3
 refine QE_blk_x ?_
 refine QE_then_n (wpC_seq (wpC_region (wpR_run 1 rfl ?_)))
 refine wpR_v (OpV_bin rfl rfl (b_eql8 _ x_1 0)) rfl ?_
 refine wpR_run 1 rfl ?_
 refine wpR_nil (QE_then_n (wpC_ret ?_))
 cases h
 exact QE_ret1 rfl rfl ⟨rfl, hS⟩
theorem c_hmac_Check (w0 : World) (a0 : Int) (a1 : List UInt8) (a2 : List UInt8) (a3 : List UInt8) (va1 : Value) (va2 : Value) (va3 : Value) (hT : TB [] w0) (ha1 : RP [] w0 e8 va1 a1) (ha2 : RP [] w0 e8 va2 a2) (ha3 : RP [] w0 e8 va3 a3) (r : Bool)
  (h : F.hmac_Check a0 a1 a2 a3 = some r) : Calls Tryz.prog 24 #[vI a0, va1, va2, va3] w0 (Ret fun v w => v = vB r ∧ St [] w0 w []) := by
 refine calls_at 20 Tryz.func24 rfl rfl rfl ?_
 have hS := St.start w0
 refine wpC_le [(0, vI a0), (1, va1), (2, va2), (3, va3)] ⟨rfl, rfl, rfl, rfl, trivial⟩ ?_
 unfold F.hmac_Check at h
 refine wpC_seq (wpC_region (wpR_run 1 rfl ?_))
 refine wpR_nil (QE_then_n (wpC_seq (wpC_region (wpR_run 1 rfl ?_))))
 obtain ⟨x_1, hx_1, h⟩ := obind_some h
 refine wpR_call (by kernel_rfl) rfl (c_sha_Size _ a0    _ hx_1) rfl ?_
 rintro _ w ⟨rfl, hS1⟩
 have hS := hS.call hS1
 simp only [List.cons_append, List.nil_append] at hS
 refine wpR_run 2 rfl ?_
 cases hb_2 : (decide ((0 : Int) < x_1))
 case true =>
  have h := if_t h hb_2
  try simp only [hb_2]
  refine wpR_run 3 rfl ?_
  obtain ⟨x_3, hx_3, h⟩ := obind_some h
  refine wpR_gcall (t := 12) rfl rfl (by kernel_rfl) rfl (c_hmac_Sum _ a0 a1 a2 va1 va2  (hT.now hS.fr) (ha1.now hS.fr).rp (ha2.now hS.fr).rp _ hx_3) rfl ?_
  rintro v_4 w hS1
  have hS := hS.call hS1
  simp only [List.cons_append, List.nil_append] at hS
  refine wpR_run 1 rfl ?_
  obtain ⟨x_6, hx_6, h⟩ := obind_some h
  refine wpR_gcall (t := 12) rfl rfl (by kernel_rfl) rfl (c_hmac_Equal _ x_3 a3 v_4 va3  (hS.ro 0 rfl).rp (ha3.now hS.fr).rp _ hx_6) rfl ?_
  rintro _ w ⟨rfl, hS1⟩
  have hS := hS.call hS1
  simp only [List.cons_append, List.nil_append] at hS
  refine wpR_run 2 rfl ?_
  refine wpR_nil (QE_then_n (wpC_ret ?_))
  cases h
  exact QE_ret1 rfl rfl ⟨rfl, hS.pick [] (by decide) rfl⟩
 case false =>
  have h := if_f h hb_2
  try simp only [hb_2]
  refine wpR_run 8 rfl ?_
  refine wpR_nil (QE_then_n (wpC_ret ?_))
  cases h
  exact QE_ret1 rfl rfl ⟨rfl, hS⟩
end Go.Proofs
