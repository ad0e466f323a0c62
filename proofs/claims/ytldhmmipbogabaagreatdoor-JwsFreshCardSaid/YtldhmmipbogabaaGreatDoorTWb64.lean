import Derived.Test.YtldhmmipbogabaaGreatDoorTW0
import Derived.Test.YtldhmmipbogabaaGreatDoorGkFb64
import Derived.Test.YtldhmmipbogabaaGreatDoorTWlib
set_option linter.unusedVariables false
set_option linter.unusedSimpArgs false
set_option linter.unusedVariables false
set_option maxRecDepth 4000
namespace Go.Proofs
open Go Go.RowKit Go.Gk
theorem c_b64_number (w0 : World) (a0 : UInt8) (a1 : List UInt8)   (r : UInt64)
  (h : F.b64_number a0 a1 = some r) : Calls Tryz.prog 203 #[v8 a0, vS a1] w0 (Ret fun v w => v = v64 r ∧ St [] w0 w []) := by
 refine calls_at 9 Tryz.func203 rfl rfl rfl ?_
 have hS := St.start w0
 refine wpC_le [(0, v8 a0), (1, vS a1)] ⟨rfl, rfl, trivial⟩ ?_
 unfold F.b64_number at h
 refine wpC_seq (wpC_region (wpR_run 1 rfl ?_))
 refine wpR_nil (QE_then_n (wpC_seq (wpC_region (wpR_run 2 rfl ?_))))
 obtain ⟨x_1, hx_1, h⟩ := obind_some h
 refine wpR_call (by kernel_rfl) rfl (c_strings_IndexByte _ a1 a0    _ hx_1) rfl ?_
 rintro _ w ⟨rfl, hS1⟩
 have hS := hS.call hS1
 simp only [List.cons_append, List.nil_append] at hS
 refine wpR_v (OpV_conv rfl (cv_i_64 Tryz.underlying3 Tryz.underlying86 x_1)) rfl ?_
 refine wpR_run 1 rfl ?_
 refine wpR_nil (QE_then_n (wpC_ret ?_))
 cases h
 exact QE_ret1 rfl rfl ⟨rfl, hS⟩
theorem c_b64_read (w0 : World) (a0 : List UInt8) (a1 : List UInt8)   (r : List UInt8 × Bool)
  (h : F.b64_read a0 a1 = some r) : Calls Tryz.prog 114 #[vS a0, vS a1] w0 (Ret fun v w => ∃ u0 : Value, v = .tuple #[u0, vB r.2] ∧ St [] w0 w [own e8 u0 r.1]) := by
 refine calls_at 101 Tryz.func114 rfl rfl rfl ?_
 have hS := St.start w0
 refine wpC_le [(0, vS a0), (1, vS a1)] ⟨rfl, rfl, trivial⟩ ?_
 unfold F.b64_read at h
 refine wpC_seq (wpC_region (wpR_run 2 rfl ?_))
 refine wpR_nil (QE_then_n (wpC_seq (wpC_region (wpR_run 1 rfl ?_))))
 refine wpR_v (OpV_lenS Tryz.underlying9 rfl) rfl ?_
 refine wpR_v (OpV_bin rfl rfl (b_iquo _ (a0.length : Int) 4 (by decide))) rfl ?_
 refine wpR_v (OpV_bin rfl rfl (b_imul _ (wI (Int.tdiv (a0.length : Int) 4)) 3)) rfl ?_
 refine wpR_run 1 rfl ?_
 obtain ⟨x_1, hx_1, h⟩ := obind_some h
 refine wpR_x (G_make (e := e8) Tryz.underlying25 ti5 rfl rfl rfl hS hx_1) rfl ?_
 rintro v_2 w hS
 refine wpR_run 1 rfl ?_
 refine wpR_nil (QE_then_n (wpC_seq (wpC_block ?_)))
 refine wpC_le [(0, vS a0), (1, vS a1), (6, v_2)] ⟨rfl, rfl, rfl, trivial⟩ ?_
 refine loop_ind (F.b64_read_L1 a1) (fun (s : List UInt8 × List UInt8) L w => ∃ (v_6 : Value), L = [(0, vS s.1), (1, vS a1), (6, v_6)] ∧ St [] w0 w [own e8 v_6 s.2]) ?_ (a0, x_1) ⟨v_2, rfl, hS⟩ h
 rintro k_47 ⟨x_4, x_5⟩ L w q_10 hI ih_9 h hk_8
 try dsimp only at hI
 obtain ⟨v_6, rfl, hS⟩ := hI
 unfold F.b64_read_L1 at h
 refine wpC_seq (wpC_seq (wpC_region (wpR_run 1 rfl ?_)))
 refine wpR_v (OpV_lenS Tryz.underlying9 rfl) rfl ?_
 refine wpR_run 1 rfl ?_
 refine wpR_nil (QE_then_n ?_)
 refine wpC_cond rfl (fun hb_46 => ?_) (fun hb_46 => ?_)
 ·have h := if_t h hb_46
  refine wpC_skip (QE_then_n (wpC_block ?_))
  refine wpC_seq ?_
  refine wpC_regionT (fun w' => St [] w0 w' [own e8 v_6 x_5]) (fun i => !([3, 8, 14, 20].contains i)) hmix (fun _ _ _ hf => hf.2) (fun _ _ hf => hf) (by kernel_rfl) ?_
  have hS := hS.drew
  show lxE _ _ _ _ _ _ _ [0, 1, 2, 3, 4, 5, 6, 7, 8, 9, 10, 11, 12, 13, 14, 15, 16, 17, 18, 19, 20, 21, 22] _ _
  refine lxE_v hS rfl rfl (fun w hF => OpV_move rfl) rfl ?_
  obtain ⟨x_11, hx_11, h⟩ := obind_some h
  refine lxE_v hS rfl rfl (fun w hF => G_ixS Tryz.underlying9 rfl rfl hx_11) rfl ?_
  refine lxE_v hS rfl rfl (fun w hF => OpV_move rfl) rfl ?_
  obtain ⟨x_12, hx_12, h⟩ := obind_some h
  refine lxE_call hS rfl rfl (by kernel_rfl) rfl (c_b64_number _ x_11 a1    _ hx_12) rfl ?_
  rintro _ w ⟨rfl, hS1⟩
  have hS := hS.call hS1
  simp only [List.cons_append, List.nil_append] at hS
  refine lxE_v hS rfl rfl (fun w hF => OpV_bin rfl rfl (b_shl64_64 _ x_12 18)) rfl ?_
  refine lxE_v hS rfl rfl (fun w hF => OpV_move rfl) rfl ?_
  obtain ⟨x_13, hx_13, h⟩ := obind_some h
  refine lxE_v hS rfl rfl (fun w hF => G_ixS Tryz.underlying9 rfl rfl hx_13) rfl ?_
  refine lxE_v hS rfl rfl (fun w hF => OpV_move rfl) rfl ?_
  obtain ⟨x_14, hx_14, h⟩ := obind_some h
  refine lxE_call hS rfl rfl (by kernel_rfl) rfl (c_b64_number _ x_13 a1    _ hx_14) rfl ?_
  rintro _ w ⟨rfl, hS1⟩
  have hS := hS.call hS1
  simp only [List.cons_append, List.nil_append] at hS
  refine lxE_v hS rfl rfl (fun w hF => OpV_bin rfl rfl (b_shl64_64 _ x_14 12)) rfl ?_
  refine lxE_v hS rfl rfl (fun w hF => OpV_bin rfl rfl (b_or64 _ (shl64 x_12 18) (shl64 x_14 12))) rfl ?_
  refine lxE_v hS rfl rfl (fun w hF => OpV_move rfl) rfl ?_
  obtain ⟨x_15, hx_15, h⟩ := obind_some h
  refine lxE_v hS rfl rfl (fun w hF => G_ixS Tryz.underlying9 rfl rfl hx_15) rfl ?_
  refine lxE_v hS rfl rfl (fun w hF => OpV_move rfl) rfl ?_
  obtain ⟨x_16, hx_16, h⟩ := obind_some h
  refine lxE_call hS rfl rfl (by kernel_rfl) rfl (c_b64_number _ x_15 a1    _ hx_16) rfl ?_
  rintro _ w ⟨rfl, hS1⟩
  have hS := hS.call hS1
  simp only [List.cons_append, List.nil_append] at hS
  refine lxE_v hS rfl rfl (fun w hF => OpV_bin rfl rfl (b_shl64_64 _ x_16 6)) rfl ?_
  refine lxE_v hS rfl rfl (fun w hF => OpV_bin rfl rfl (b_or64 _ ((shl64 x_12 18) ||| (shl64 x_14 12)) (shl64 x_16 6))) rfl ?_
  refine lxE_v hS rfl rfl (fun w hF => OpV_move rfl) rfl ?_
  obtain ⟨x_17, hx_17, h⟩ := obind_some h
  refine lxE_v hS rfl rfl (fun w hF => G_ixS Tryz.underlying9 rfl rfl hx_17) rfl ?_
  refine lxE_v hS rfl rfl (fun w hF => OpV_move rfl) rfl ?_
  obtain ⟨x_18, hx_18, h⟩ := obind_some h
  refine lxE_call hS rfl rfl (by kernel_rfl) rfl (c_b64_number _ x_17 a1    _ hx_18) rfl ?_
  rintro _ w ⟨rfl, hS1⟩
  have hS := hS.call hS1
  simp only [List.cons_append, List.nil_append] at hS
  refine lxE_v hS rfl rfl (fun w hF => OpV_bin rfl rfl (b_or64 _ (((shl64 x_12 18) ||| (shl64 x_14 12)) ||| (shl64 x_16 6)) x_18)) rfl ?_
  refine lxE_v hS rfl rfl (fun w hF => OpV_assign rfl) rfl ?_
  refine lxE_nil hS ?_
  refine QE_then_n (wpC_seq (wpC_region (wpR_run 2 rfl ?_)))
  refine wpR_v (OpV_bin rfl rfl (b_shr64_64 _ ((((shl64 x_12 18) ||| (shl64 x_14 12)) ||| (shl64 x_16 6)) ||| x_18) 16)) rfl ?_
  refine wpR_v (OpV_conv rfl (cv_64_8 Tryz.underlying86 Tryz.underlying5 (shr64 ((((shl64 x_12 18) ||| (shl64 x_14 12)) ||| (shl64 x_16 6)) ||| x_18) 16))) rfl ?_
  refine wpR_run 1 rfl ?_
  refine wpR_v (OpV_bin rfl rfl (b_shr64_64 _ ((((shl64 x_12 18) ||| (shl64 x_14 12)) ||| (shl64 x_16 6)) ||| x_18) 8)) rfl ?_
  refine wpR_v (OpV_conv rfl (cv_64_8 Tryz.underlying86 Tryz.underlying5 (shr64 ((((shl64 x_12 18) ||| (shl64 x_14 12)) ||| (shl64 x_16 6)) ||| x_18) 8))) rfl ?_
  refine wpR_run 1 rfl ?_
  refine wpR_v (OpV_conv rfl (cv_64_8 Tryz.underlying86 Tryz.underlying5 ((((shl64 x_12 18) ||| (shl64 x_14 12)) ||| (shl64 x_16 6)) ||| x_18))) rfl ?_
  refine wpR_x (OpX_lit (e := e8) (l := [(shr64 ((((shl64 x_12 18) ||| (shl64 x_14 12)) ||| (shl64 x_16 6)) ||| x_18) 16).toUInt8, (shr64 ((((shl64 x_12 18) ||| (shl64 x_14 12)) ||| (shl64 x_16 6)) ||| x_18) 8).toUInt8, ((((shl64 x_12 18) ||| (shl64 x_14 12)) ||| (shl64 x_16 6)) ||| x_18).toUInt8]) (vs := [v8 ((shr64 ((((shl64 x_12 18) ||| (shl64 x_14 12)) ||| (shl64 x_16 6)) ||| x_18) 16).toUInt8), v8 ((shr64 ((((shl64 x_12 18) ||| (shl64 x_14 12)) ||| (shl64 x_16 6)) ||| x_18) 8).toUInt8), v8 (((((shl64 x_12 18) ||| (shl64 x_14 12)) ||| (shl64 x_16 6)) ||| x_18).toUInt8)]) Tryz.underlying25 ti5 rfl rfl rfl rfl (by decide) (by decide) hS) rfl ?_
  rintro v_19 w hS
  obtain ⟨x_21, hx_21, h⟩ := obind_some h
  refine wpR_x (G_append Tryz.underlying25 ti5 rfl rfl rfl hS (i := 1) rfl (hS.ro 0 rfl) hx_21) rfl ?_
  rintro v_22 w hS
  refine wpR_run 1 rfl ?_
  refine wpR_nil (QE_then_n (wpC_region (wpR_run 1 rfl ?_)))
  obtain ⟨x_24, hx_24, h⟩ := obind_some h
  refine wpR_v (G_slSl Tryz.underlying9 rfl rfl hx_24) rfl ?_
  refine wpR_run 1 rfl ?_
  refine wpR_nil (QE_blk_n ?_)
  exact QE_rnd (wpN_le _ (by exact ⟨rfl, rfl, rfl, trivial⟩) (ih_9 (x_24, x_21) _ _ ⟨v_22, rfl, (hS.pick [1] (by decide) rfl)⟩ (oinl_some h hk_8)))
 have h := if_f h hb_46
 refine wpC_exit ?_
 refine QE_then_x (QE_then_x ?_)
 have h := oinr_some h hk_8
 refine QE_blk_x ?_
 refine QE_then_n (wpC_seq (wpC_region (wpR_run 1 rfl ?_)))
 refine wpR_nil (QE_then_n (wpC_seq (wpC_seq (wpC_region (wpR_run 1 rfl ?_)))))
 refine wpR_v (OpV_lenS Tryz.underlying9 rfl) rfl ?_
 refine wpR_nil (QE_then_n (wpC_block ?_))
 refine seq_join (r := r) (fun (g : UInt64) L w => L = [(0, vS x_4), (1, vS a1), (6, v_6), (8, v64 g)] ∧ St [] w0 w [own e8 v_6 x_5]) (F.b64_read_K1 a1 x_4 x_5) ?_ ?_
 rotate_left
 ·intro hK_30
  refine wpC_block ?_
  refine wpC_seq (wpC_block ?_)
  refine wpC_seq (wpC_seq (wpC_seq (wpC_region (wpR_run 2 rfl ?_))))
  refine wpR_nil (QE_then_n ?_)
  refine wpC_cond rfl (fun hb_28 => ?_) (fun hb_28 => ?_)
  ·have h := if_t h hb_28
   refine wpC_exit ?_
   refine QE_then_x (QE_then_x (QE_blk_x ?_))
   refine QE_then_n (wpC_region (wpR_run 1 rfl ?_))
   obtain ⟨x_25, hx_25, h⟩ := obind_some h
   refine wpR_v (G_ixS Tryz.underlying9 rfl rfl hx_25) rfl ?_
   refine wpR_run 1 rfl ?_
   obtain ⟨x_26, hx_26, h⟩ := obind_some h
   refine wpR_call (by kernel_rfl) rfl (c_b64_number _ x_25 a1    _ hx_26) rfl ?_
   rintro _ w ⟨rfl, hS1⟩
   have hS := hS.call hS1
   simp only [List.cons_append, List.nil_append] at hS
   refine wpR_v (OpV_bin rfl rfl (b_shl64_64 _ x_26 6)) rfl ?_
   refine wpR_run 1 rfl ?_
   refine wpR_nil (QE_blk_n ?_)
   refine QE_then_n ?_
   exact wpC_le _ (by exact ⟨rfl, rfl, rfl, rfl, trivial⟩) (hK_30 (shl64 x_26 6) _ _ ⟨rfl, hS⟩ h)
  have h := if_f h hb_28
  refine wpC_skip (QE_then_n (wpC_seq (wpC_region (wpR_run 2 rfl ?_))))
  refine wpR_nil (QE_then_n ?_)
  refine wpC_cond rfl (fun hb_27 => ?_) (fun hb_27 => ?_)
  ·have h := if_t h hb_27
   refine wpC_exit ?_
   refine QE_then_x (QE_blk_o rfl ?_)
   refine QE_then_x (QE_blk_x ?_)
   refine QE_then_n ?_
   exact wpC_le _ (by exact ⟨rfl, rfl, rfl, rfl, trivial⟩) (hK_30 0 _ _ ⟨rfl, hS⟩ h)
  have h := if_f h hb_27
  refine wpC_skip (QE_then_n (wpC_exit ?_))
  refine QE_blk_o rfl ?_
  refine QE_then_x (QE_blk_o rfl ?_)
  refine QE_then_x (QE_blk_x ?_)
  refine QE_then_n (wpC_seq (wpC_region (wpR_run 3 rfl ?_)))
  refine wpR_nil (QE_then_n (wpC_ret ?_))
  cases h
  exact QE_ret2 rfl rfl rfl ⟨v_6, rfl, hS.pick [0] (by decide) rfl⟩
 rintro x_29 L w hJ h
 try dsimp only at hJ
 obtain ⟨rfl, hS⟩ := hJ
 unfold F.b64_read_K1 at h
 refine wpC_seq (wpC_seq ?_)
 refine wpC_regionT (fun w' => St [] w0 w' [own e8 v_6 x_5]) (fun i => !([4, 9].contains i)) hmix (fun _ _ _ hf => hf.2) (fun _ _ hf => hf) (by kernel_rfl) ?_
 have hS := hS.drew
 show lxE _ _ _ _ _ _ _ [0, 1, 2, 3, 4, 5, 6, 7, 8, 9, 10, 11, 12, 13] _ _
 refine lxE_v hS rfl rfl (fun w hF => OpV_move rfl) rfl ?_
 refine lxE_v hS rfl rfl (fun w hF => OpV_move rfl) rfl ?_
 obtain ⟨x_31, hx_31, h⟩ := obind_some h
 refine lxE_v hS rfl rfl (fun w hF => G_ixS Tryz.underlying9 rfl rfl hx_31) rfl ?_
 refine lxE_v hS rfl rfl (fun w hF => OpV_move rfl) rfl ?_
 obtain ⟨x_32, hx_32, h⟩ := obind_some h
 refine lxE_call hS rfl rfl (by kernel_rfl) rfl (c_b64_number _ x_31 a1    _ hx_32) rfl ?_
 rintro _ w ⟨rfl, hS1⟩
 have hS := hS.call hS1
 simp only [List.cons_append, List.nil_append] at hS
 refine lxE_v hS rfl rfl (fun w hF => OpV_bin rfl rfl (b_shl64_64 _ x_32 18)) rfl ?_
 refine lxE_v hS rfl rfl (fun w hF => OpV_move rfl) rfl ?_
 obtain ⟨x_33, hx_33, h⟩ := obind_some h
 refine lxE_v hS rfl rfl (fun w hF => G_ixS Tryz.underlying9 rfl rfl hx_33) rfl ?_
 refine lxE_v hS rfl rfl (fun w hF => OpV_move rfl) rfl ?_
 obtain ⟨x_34, hx_34, h⟩ := obind_some h
 refine lxE_call hS rfl rfl (by kernel_rfl) rfl (c_b64_number _ x_33 a1    _ hx_34) rfl ?_
 rintro _ w ⟨rfl, hS1⟩
 have hS := hS.call hS1
 simp only [List.cons_append, List.nil_append] at hS
 refine lxE_v hS rfl rfl (fun w hF => OpV_bin rfl rfl (b_shl64_64 _ x_34 12)) rfl ?_
 refine lxE_v hS rfl rfl (fun w hF => OpV_bin rfl rfl (b_or64 _ (shl64 x_32 18) (shl64 x_34 12))) rfl ?_
 refine lxE_v hS rfl rfl (fun w hF => OpV_bin rfl rfl (b_or64 _ x_29 ((shl64 x_32 18) ||| (shl64 x_34 12)))) rfl ?_
 refine lxE_v hS rfl rfl (fun w hF => OpV_assign rfl) rfl ?_
 refine lxE_nil hS ?_
 refine QE_then_n (wpC_seq (wpC_region (wpR_run 2 rfl ?_)))
 refine wpR_v (OpV_bin rfl rfl (b_shr64_64 _ (x_29 ||| ((shl64 x_32 18) ||| (shl64 x_34 12))) 16)) rfl ?_
 refine wpR_v (OpV_conv rfl (cv_64_8 Tryz.underlying86 Tryz.underlying5 (shr64 (x_29 ||| ((shl64 x_32 18) ||| (shl64 x_34 12))) 16))) rfl ?_
 refine wpR_x (OpX_lit (e := e8) (l := [(shr64 (x_29 ||| ((shl64 x_32 18) ||| (shl64 x_34 12))) 16).toUInt8]) (vs := [v8 ((shr64 (x_29 ||| ((shl64 x_32 18) ||| (shl64 x_34 12))) 16).toUInt8)]) Tryz.underlying25 ti5 rfl rfl rfl rfl (by decide) (by decide) hS) rfl ?_
 rintro v_35 w hS
 obtain ⟨x_37, hx_37, h⟩ := obind_some h
 refine wpR_x (G_append Tryz.underlying25 ti5 rfl rfl rfl hS (i := 1) rfl (hS.ro 0 rfl) hx_37) rfl ?_
 rintro v_38 w hS
 refine wpR_run 1 rfl ?_
 refine wpR_nil (QE_then_n (wpC_seq (wpC_seq (wpC_region (wpR_run 1 rfl ?_)))))
 refine wpR_v (OpV_lenS Tryz.underlying9 rfl) rfl ?_
 refine wpR_run 1 rfl ?_
 refine wpR_nil (QE_then_n ?_)
 refine wpC_cond rfl (fun hb_45 => ?_) (fun hb_45 => ?_)
 ·have h := if_t h hb_45
  refine wpC_seq (wpC_region (wpR_run 2 rfl ?_))
  refine wpR_v (OpV_bin rfl rfl (b_shr64_64 _ (x_29 ||| ((shl64 x_32 18) ||| (shl64 x_34 12))) 8)) rfl ?_
  refine wpR_v (OpV_conv rfl (cv_64_8 Tryz.underlying86 Tryz.underlying5 (shr64 (x_29 ||| ((shl64 x_32 18) ||| (shl64 x_34 12))) 8))) rfl ?_
  refine wpR_x (OpX_lit (e := e8) (l := [(shr64 (x_29 ||| ((shl64 x_32 18) ||| (shl64 x_34 12))) 8).toUInt8]) (vs := [v8 ((shr64 (x_29 ||| ((shl64 x_32 18) ||| (shl64 x_34 12))) 8).toUInt8)]) Tryz.underlying25 ti5 rfl rfl rfl rfl (by decide) (by decide) hS) rfl ?_
  rintro v_40 w hS
  obtain ⟨x_42, hx_42, h⟩ := obind_some h
  refine wpR_x (G_append Tryz.underlying25 ti5 rfl rfl rfl hS (i := 2) rfl (hS.ro 0 rfl) hx_42) rfl ?_
  rintro v_43 w hS
  refine wpR_run 1 rfl ?_
  refine wpR_nil (QE_then_n (wpC_seq (wpC_region (wpR_run 2 rfl ?_))))
  refine wpR_v (OpV_bin rfl rfl (b_and64 _ (x_29 ||| ((shl64 x_32 18) ||| (shl64 x_34 12))) 255)) rfl ?_
  refine wpR_v (OpV_bin rfl rfl (b_eql64 _ ((x_29 ||| ((shl64 x_32 18) ||| (shl64 x_34 12))) &&& 255) 0)) rfl ?_
  refine wpR_run 2 rfl ?_
  refine wpR_nil (QE_then_n (wpC_ret (QE_then_r (QE_then_r (QE_blk_r ?_)))))
  refine QE_then_r ?_
  cases h
  exact QE_ret2 rfl rfl rfl ⟨v_43, rfl, hS.pick [2] (by decide) rfl⟩
 have h := if_f h hb_45
 refine wpC_skip (QE_then_n (wpC_seq (wpC_region (wpR_run 2 rfl ?_))))
 refine wpR_v (OpV_bin rfl rfl (b_and64 _ (x_29 ||| ((shl64 x_32 18) ||| (shl64 x_34 12))) 65535)) rfl ?_
 refine wpR_v (OpV_bin rfl rfl (b_eql64 _ ((x_29 ||| ((shl64 x_32 18) ||| (shl64 x_34 12))) &&& 65535) 0)) rfl ?_
 refine wpR_run 2 rfl ?_
 refine wpR_nil (QE_then_n (wpC_ret (QE_then_r (QE_blk_r ?_))))
 refine QE_then_r ?_
 cases h
 exact QE_ret2 rfl rfl rfl ⟨v_38, rfl, hS.pick [1] (by decide) rfl⟩
theorem c_b64_Decode (w0 : World) (a0 : List UInt8)   (r : List UInt8 × Int × Int)
  (h : F.b64_Decode a0 = some r) : Calls Tryz.prog 41 #[vS a0] w0 (Ret fun v w => ∃ u0 : Value, v = .tuple #[u0, vI r.2.1, vI r.2.2] ∧ St [] w0 w [own e8 u0 r.1]) := by
 refine calls_at 37 Tryz.func41 rfl rfl rfl ?_
 have hS := St.start w0
 refine wpC_le [(0, vS a0)] ⟨rfl, trivial⟩ ?_
 unfold F.b64_Decode at h
 refine wpC_seq (wpC_region (wpR_run 3 rfl ?_))
 refine wpR_nil (QE_then_n (wpC_seq (wpC_seq (wpC_region (wpR_run 1 rfl ?_)))))
 refine wpR_v (OpV_lenS Tryz.underlying9 rfl) rfl ?_
 refine wpR_run 1 rfl ?_
 refine wpR_nil (QE_then_n (wpC_block ?_))
 refine wpC_le [(0, vS a0), (9, vI (a0.length : Int)), (10, vI 0)] ⟨rfl, rfl, rfl, trivial⟩ ?_
 refine loop_ind (F.b64_Decode_L1 a0) (fun (s : Int) L w => L = [(0, vS a0), (9, vI (a0.length : Int)), (10, vI s)] ∧ St [] w0 w []) ?_ 0 ⟨rfl, hS⟩ h
 rintro k_14 x_1 L w q_4 hI ih_3 h hk_2
 try dsimp only at hI
 obtain ⟨rfl, hS⟩ := hI
 unfold F.b64_Decode_L1 at h
 refine wpC_seq (wpC_region (wpR_run 1 rfl ?_))
 refine wpR_nil (QE_then_n (wpC_seq ?_))
 refine wpC_cond rfl (fun hb_13 => ?_) (fun hb_13 => ?_)
 ·have h := if_t h hb_13
  refine wpC_skip (QE_then_n (wpC_seq (wpC_block ?_)))
  refine wpC_seq (wpC_region (wpR_run 2 rfl ?_))
  refine wpR_nil (QE_then_n (wpC_seq (wpC_region (wpR_run 2 rfl ?_))))
  obtain ⟨x_5, hx_5, h⟩ := obind_some h
  refine wpR_v (G_ixS Tryz.underlying9 rfl rfl hx_5) rfl ?_
  obtain ⟨x_6, hx_6, h⟩ := obind_some h
  refine wpR_call (by kernel_rfl) rfl (c_strings_IndexByte _ [65, 66, 67, 68, 69, 70, 71, 72, 73, 74, 75, 76, 77, 78, 79, 80, 81, 82, 83, 84, 85, 86, 87, 88, 89, 90, 97, 98, 99, 100, 101, 102, 103, 104, 105, 106, 107, 108, 109, 110, 111, 112, 113, 114, 115, 116, 117, 118, 119, 120, 121, 122, 48, 49, 50, 51, 52, 53, 54, 55, 56, 57, 45, 95] x_5    _ hx_6) rfl ?_
  rintro _ w ⟨rfl, hS1⟩
  have hS := hS.call hS1
  simp only [List.cons_append, List.nil_append] at hS
  refine wpR_run 1 rfl ?_
  refine wpR_nil (QE_then_n ?_)
  refine wpC_cond rfl (fun hb_7 => ?_) (fun hb_7 => ?_)
  ·have h := if_t h hb_7
   refine wpC_seq (wpC_region (wpR_run 4 rfl ?_))
   refine wpR_nil (QE_then_n (wpC_ret (QE_blk_r ?_)))
   refine QE_then_r (QE_then_r ?_)
   have h := oinr_some h hk_2
   refine QE_blk_r ?_
   refine QE_then_r ?_
   cases h
   exact QE_ret3 rfl rfl rfl rfl ⟨.slice none 0 0, rfl, (hS.nil e8).pick [0] (by decide) rfl⟩
  have h := if_f h hb_7
  refine wpC_skip (QE_blk_n ?_)
  refine QE_then_n (wpC_region (wpR_run 2 rfl ?_))
  refine wpR_nil ?_
  exact QE_rnd (wpN_le _ (by exact ⟨rfl, rfl, rfl, trivial⟩) (ih_3 (wI (x_1 + 1)) _ _ ⟨rfl, hS⟩ (oinl_some h hk_2)))
 have h := if_f h hb_13
 refine wpC_exit ?_
 refine QE_then_x (QE_then_x ?_)
 have h := oinr_some h hk_2
 refine QE_blk_x ?_
 refine QE_then_n (wpC_seq (wpC_seq (wpC_region (wpR_run 1 rfl ?_))))
 refine wpR_v (OpV_lenS Tryz.underlying9 rfl) rfl ?_
 refine wpR_v (OpV_bin rfl rfl (b_irem _ (a0.length : Int) 4 (by decide))) rfl ?_
 refine wpR_run 1 rfl ?_
 refine wpR_nil (QE_then_n ?_)
 refine wpC_cond rfl (fun hb_12 => ?_) (fun hb_12 => ?_)
 ·have h := if_t h hb_12
  refine wpC_seq (wpC_region (wpR_run 1 rfl ?_))
  refine wpR_v (OpV_lenS Tryz.underlying9 rfl) rfl ?_
  refine wpR_run 3 rfl ?_
  refine wpR_nil (QE_then_n (wpC_ret (QE_then_r ?_)))
  cases h
  exact QE_ret3 rfl rfl rfl rfl ⟨.slice none 0 0, rfl, (hS.nil e8).pick [0] (by decide) rfl⟩
 have h := if_f h hb_12
 refine wpC_skip (QE_then_n (wpC_seq (wpC_region (wpR_run 1 rfl ?_))))
 obtain ⟨x_8, hx_8, h⟩ := obind_some h
 refine wpR_call (by kernel_rfl) rfl (c_b64_read _ a0 [65, 66, 67, 68, 69, 70, 71, 72, 73, 74, 75, 76, 77, 78, 79, 80, 81, 82, 83, 84, 85, 86, 87, 88, 89, 90, 97, 98, 99, 100, 101, 102, 103, 104, 105, 106, 107, 108, 109, 110, 111, 112, 113, 114, 115, 116, 117, 118, 119, 120, 121, 122, 48, 49, 50, 51, 52, 53, 54, 55, 56, 57, 45, 95]    _ hx_8) rfl ?_
 rintro _ w ⟨v_9, rfl, hS1⟩
 have hS := hS.call hS1
 simp only [List.cons_append, List.nil_append] at hS
 refine wpR_run 5 rfl ?_
 refine wpR_nil (QE_then_n (wpC_seq (wpC_seq (wpC_region (wpR_run 2 rfl ?_)))))
 refine wpR_nil (QE_then_n ?_)
 refine wpC_cond rfl (fun hb_11 => ?_) (fun hb_11 => ?_)
 ·have h := if_t h hb_11
  refine wpC_seq (wpC_region (wpR_run 1 rfl ?_))
  refine wpR_v (OpV_lenS Tryz.underlying9 rfl) rfl ?_
  refine wpR_run 4 rfl ?_
  refine wpR_nil (QE_then_n (wpC_ret (QE_then_r ?_)))
  cases h
  exact QE_ret3 rfl rfl rfl rfl ⟨.slice none 0 0, rfl, (hS.nil e8).pick [0] (by decide) rfl⟩
 have h := if_f h hb_11
 refine wpC_skip (QE_then_n (wpC_seq (wpC_region (wpR_run 4 rfl ?_))))
 refine wpR_nil (QE_then_n (wpC_ret ?_))
 cases h
 exact QE_ret3 rfl rfl rfl rfl ⟨v_9, rfl, hS.pick [0] (by decide) rfl⟩
theorem c_b64_spell (w0 : World) (a0 : List UInt8) (a1 : List UInt8) (va0 : Value) (ha0 : RP [] w0 e8 va0 a0) (r : List UInt8)
  (h : F.b64_spell a0 a1 = some r) : Calls Tryz.prog 115 #[va0, vS a1] w0 (Ret fun v w => St [] w0 w [own e8 v r]) := by
 refine calls_at 106 Tryz.func115 rfl rfl rfl ?_
 have hS := St.start w0
 refine wpC_le [(0, va0), (1, vS a1)] ⟨rfl, rfl, trivial⟩ ?_
 unfold F.b64_spell at h
 refine wpC_seq (wpC_region (wpR_run 1 rfl ?_))
 refine wpR_nil (QE_then_n (wpC_seq (wpC_region (wpR_run 1 rfl ?_))))
 refine wpR_v (OpV_len Tryz.underlying25 rfl (ha0.now hS.fr)) rfl ?_
 refine wpR_run 1 rfl ?_
 refine wpR_v (OpV_bin rfl rfl (b_iquo _ (wI ((a0.length : Int) + 2)) 3 (by decide))) rfl ?_
 refine wpR_v (OpV_bin rfl rfl (b_imul _ (wI (Int.tdiv (wI ((a0.length : Int) + 2)) 3)) 4)) rfl ?_
 obtain ⟨x_1, hx_1, h⟩ := obind_some h
 refine wpR_x (G_make (e := e8) Tryz.underlying25 ti5 rfl rfl rfl hS hx_1) rfl ?_
 rintro v_2 w hS
 refine wpR_run 1 rfl ?_
 refine wpR_nil (QE_then_n (wpC_seq (wpC_block ?_)))
 refine wpC_le [(0, va0), (1, vS a1), (5, v_2)] ⟨rfl, rfl, rfl, trivial⟩ ?_
 refine loop_ind (F.b64_spell_L1 a1) (fun (s : List UInt8 × List UInt8) L w => ∃ (v_5 : Value) (v_8 : Value), L = [(0, v_5), (1, vS a1), (5, v_8)] ∧ RP [] w0 e8 v_5 s.1 ∧ St [] w0 w [own e8 v_8 s.2]) ?_ (a0, x_1) ⟨va0, v_2, rfl, ha0, hS⟩ h
 rintro k_54 ⟨x_4, x_7⟩ L w q_12 hI ih_11 h hk_10
 try dsimp only at hI
 obtain ⟨v_5, v_8, rfl, hR_6, hS⟩ := hI
 unfold F.b64_spell_L1 at h
 refine wpC_seq (wpC_seq (wpC_region (wpR_run 1 rfl ?_)))
 refine wpR_v (OpV_len Tryz.underlying25 rfl (hR_6.now hS.fr)) rfl ?_
 refine wpR_run 1 rfl ?_
 refine wpR_nil (QE_then_n ?_)
 refine wpC_cond rfl (fun hb_53 => ?_) (fun hb_53 => ?_)
 ·have h := if_t h hb_53
  refine wpC_skip (QE_then_n (wpC_block ?_))
  refine wpC_seq ?_
  refine wpC_regionT (fun w' => St [] w0 w' [own e8 v_8 x_7]) (fun _ => true) hmix (fun _ _ _ hf => hf.2) (fun _ _ hf => hf) (by kernel_rfl) ?_
  have hS := hS.drew
  show lxE _ _ _ _ _ _ _ [0, 1, 2, 3, 4, 5, 6, 7, 8, 9, 10, 11, 12, 13, 14, 15, 16] _ _
  refine lxE_v hS rfl rfl (fun w hF => OpV_move rfl) rfl ?_
  obtain ⟨x_13, hx_13, h⟩ := obind_some h
  refine lxE_v hS rfl rfl (fun w hF => G_ix Tryz.underlying25 ti5 rfl rfl (hR_6.now hF.fr) hx_13) rfl ?_
  refine lxE_v hS rfl rfl (fun w hF => G_load Tryz.underlying5 rfl rfl (hR_6.now hF.fr) hx_13 rfl) rfl ?_
  refine lxE_v hS rfl rfl (fun w hF => OpV_conv rfl (cv_8_64 Tryz.underlying5 Tryz.underlying86 x_13)) rfl ?_
  refine lxE_v hS rfl rfl (fun w hF => OpV_bin rfl rfl (b_shl64_64 _ x_13.toUInt64 16)) rfl ?_
  refine lxE_v hS rfl rfl (fun w hF => OpV_move rfl) rfl ?_
  obtain ⟨x_14, hx_14, h⟩ := obind_some h
  refine lxE_v hS rfl rfl (fun w hF => G_ix Tryz.underlying25 ti5 rfl rfl (hR_6.now hF.fr) hx_14) rfl ?_
  refine lxE_v hS rfl rfl (fun w hF => G_load Tryz.underlying5 rfl rfl (hR_6.now hF.fr) hx_14 rfl) rfl ?_
  refine lxE_v hS rfl rfl (fun w hF => OpV_conv rfl (cv_8_64 Tryz.underlying5 Tryz.underlying86 x_14)) rfl ?_
  refine lxE_v hS rfl rfl (fun w hF => OpV_bin rfl rfl (b_shl64_64 _ x_14.toUInt64 8)) rfl ?_
  refine lxE_v hS rfl rfl (fun w hF => OpV_bin rfl rfl (b_or64 _ (shl64 x_13.toUInt64 16) (shl64 x_14.toUInt64 8))) rfl ?_
  refine lxE_v hS rfl rfl (fun w hF => OpV_move rfl) rfl ?_
  obtain ⟨x_15, hx_15, h⟩ := obind_some h
  refine lxE_v hS rfl rfl (fun w hF => G_ix Tryz.underlying25 ti5 rfl rfl (hR_6.now hF.fr) hx_15) rfl ?_
  refine lxE_v hS rfl rfl (fun w hF => G_load Tryz.underlying5 rfl rfl (hR_6.now hF.fr) hx_15 rfl) rfl ?_
  refine lxE_v hS rfl rfl (fun w hF => OpV_conv rfl (cv_8_64 Tryz.underlying5 Tryz.underlying86 x_15)) rfl ?_
  refine lxE_v hS rfl rfl (fun w hF => OpV_bin rfl rfl (b_or64 _ ((shl64 x_13.toUInt64 16) ||| (shl64 x_14.toUInt64 8)) x_15.toUInt64)) rfl ?_
  refine lxE_v hS rfl rfl (fun w hF => OpV_assign rfl) rfl ?_
  refine lxE_nil hS ?_
  refine QE_then_n (wpC_seq ?_)
  have hsh0 := (hS.ro 0 rfl).shp
  refine wpC_regionT (fun w' => St [] w0 w' []) (fun i => !([19, 20].contains i)) hmix (fun _ _ _ hf => hf.2) (fun _ _ hf => hf) (by kernel_rfl) ?_
  have hS := hS.drew
  show lxE _ _ _ _ _ _ _ [0, 1, 2, 3, 4, 5, 6, 7, 8, 9, 10, 11, 12, 13, 14, 15, 16, 17, 18, 19, 20, 21] _ _
  refine lxE_v (hS.pick [] (by decide) rfl) rfl rfl (fun w hF => OpV_move rfl) rfl ?_
  refine lxE_v (hS.pick [] (by decide) rfl) rfl rfl (fun w hF => OpV_move rfl) rfl ?_
  refine lxE_v (hS.pick [] (by decide) rfl) rfl rfl (fun w hF => OpV_move rfl) rfl ?_
  refine lxE_v (hS.pick [] (by decide) rfl) rfl rfl (fun w hF => OpV_bin rfl rfl (b_shr64_64 _ (((shl64 x_13.toUInt64 16) ||| (shl64 x_14.toUInt64 8)) ||| x_15.toUInt64) 18)) rfl ?_
  obtain ⟨x_16, hx_16, h⟩ := obind_some h
  refine lxE_v (hS.pick [] (by decide) rfl) rfl rfl (fun w hF => G_ixS Tryz.underlying9 rfl rfl hx_16) rfl ?_
  refine lxE_v (hS.pick [] (by decide) rfl) rfl rfl (fun w hF => OpV_move rfl) rfl ?_
  refine lxE_v (hS.pick [] (by decide) rfl) rfl rfl (fun w hF => OpV_move rfl) rfl ?_
  refine lxE_v (hS.pick [] (by decide) rfl) rfl rfl (fun w hF => OpV_bin rfl rfl (b_shr64_64 _ (((shl64 x_13.toUInt64 16) ||| (shl64 x_14.toUInt64 8)) ||| x_15.toUInt64) 12)) rfl ?_
  refine lxE_v (hS.pick [] (by decide) rfl) rfl rfl (fun w hF => OpV_bin rfl rfl (b_and64 _ (shr64 (((shl64 x_13.toUInt64 16) ||| (shl64 x_14.toUInt64 8)) ||| x_15.toUInt64) 12) 63)) rfl ?_
  obtain ⟨x_17, hx_17, h⟩ := obind_some h
  refine lxE_v (hS.pick [] (by decide) rfl) rfl rfl (fun w hF => G_ixS Tryz.underlying9 rfl rfl hx_17) rfl ?_
  refine lxE_v (hS.pick [] (by decide) rfl) rfl rfl (fun w hF => OpV_move rfl) rfl ?_
  refine lxE_v (hS.pick [] (by decide) rfl) rfl rfl (fun w hF => OpV_move rfl) rfl ?_
  refine lxE_v (hS.pick [] (by decide) rfl) rfl rfl (fun w hF => OpV_bin rfl rfl (b_shr64_64 _ (((shl64 x_13.toUInt64 16) ||| (shl64 x_14.toUInt64 8)) ||| x_15.toUInt64) 6)) rfl ?_
  refine lxE_v (hS.pick [] (by decide) rfl) rfl rfl (fun w hF => OpV_bin rfl rfl (b_and64 _ (shr64 (((shl64 x_13.toUInt64 16) ||| (shl64 x_14.toUInt64 8)) ||| x_15.toUInt64) 6) 63)) rfl ?_
  obtain ⟨x_18, hx_18, h⟩ := obind_some h
  refine lxE_v (hS.pick [] (by decide) rfl) rfl rfl (fun w hF => G_ixS Tryz.underlying9 rfl rfl hx_18) rfl ?_
  refine lxE_v (hS.pick [] (by decide) rfl) rfl rfl (fun w hF => OpV_move rfl) rfl ?_
  refine lxE_v (hS.pick [] (by decide) rfl) rfl rfl (fun w hF => OpV_move rfl) rfl ?_
  refine lxE_v (hS.pick [] (by decide) rfl) rfl rfl (fun w hF => OpV_bin rfl rfl (b_and64 _ (((shl64 x_13.toUInt64 16) ||| (shl64 x_14.toUInt64 8)) ||| x_15.toUInt64) 63)) rfl ?_
  obtain ⟨x_19, hx_19, h⟩ := obind_some h
  refine lxE_v (hS.pick [] (by decide) rfl) rfl rfl (fun w hF => G_ixS Tryz.underlying9 rfl rfl hx_19) rfl ?_
  refine lxE_x (hS.pick [] (by decide) rfl) rfl rfl (OpX_lit (e := e8) (l := [x_16, x_17, x_18, x_19]) (vs := [v8 x_16, v8 x_17, v8 x_18, v8 x_19]) Tryz.underlying25 ti5 rfl rfl rfl rfl (by decide) (by decide) hS) rfl ?_
  rintro v_20 w hS
  obtain ⟨x_22, hx_22, h⟩ := obind_some h
  refine lxE_x (hS.pick [] (by decide) rfl) rfl rfl (G_append Tryz.underlying25 ti5 rfl rfl rfl hS (i := 1) rfl (hS.ro 0 rfl) hx_22) rfl ?_
  rintro v_23 w hS
  refine lxE_v (hS.pick [] (by decide) rfl) rfl rfl (fun w hF => OpV_assign rfl) rfl ?_
  refine lxE_nil (hS.pick [] (by decide) rfl) ?_
  refine QE_then_n (wpC_region (wpR_run 1 rfl ?_))
  obtain ⟨x_25, hx_25, h⟩ := obind_some h
  refine wpR_v (G_sll Tryz.underlying25 ti5 rfl rfl (hR_6.now hS.fr) hx_25) rfl ?_
  refine wpR_run 1 rfl ?_
  refine wpR_nil (QE_blk_n ?_)
  exact QE_rnd (wpN_le _ (by exact ⟨rfl, rfl, rfl, trivial⟩) (ih_11 (x_25, x_22) _ _ ⟨slV v_5 e8.sz ((3 : Int).toNat) x_4.length, v_23, rfl, (hR_6.g_sll hx_25), (hS.pick [1] (by decide) rfl)⟩ (oinl_some h hk_10)))
 have h := if_f h hb_53
 refine wpC_exit ?_
 refine QE_then_x (QE_then_x ?_)
 have h := oinr_some h hk_10
 refine QE_blk_x ?_
 refine QE_then_n ?_
 refine seq_join (r := r) (fun (g : List UInt8) L w => ∃ (v_50 : Value), L = [(5, v_50)] ∧ St [] w0 w [own e8 v_50 g]) (F.b64_spell_K1) ?_ ?_
 rotate_left
 ·intro hK_52
  refine wpC_seq (wpC_region (wpR_run 1 rfl ?_))
  refine wpR_v (OpV_len Tryz.underlying25 rfl (hR_6.now hS.fr)) rfl ?_
  refine wpR_nil (QE_then_n (wpC_block ?_))
  refine wpC_seq (wpC_region (wpR_run 2 rfl ?_))
  refine wpR_nil (QE_then_n ?_)
  refine wpC_cond rfl (fun hb_48 => ?_) (fun hb_48 => ?_)
  ·have h := if_t h hb_48
   have hsh0 := (hS.ro 0 rfl).shp
   refine wpC_regionT (fun w' => St [] w0 w' []) (fun i => !([26, 27].contains i)) hmix (fun _ _ _ hf => hf.2) (fun _ _ hf => hf) (by kernel_rfl) ?_
   have hS := hS.drew
   show lxE _ _ _ _ _ _ _ [0, 1, 2, 3, 4, 5, 6, 7, 8, 9, 10, 11, 12, 13, 14, 15, 16, 17, 18, 19, 20, 21, 22, 23, 24, 25, 26, 27, 28] _ _
   refine lxE_v (hS.pick [] (by decide) rfl) rfl rfl (fun w hF => OpV_move rfl) rfl ?_
   refine lxE_v (hS.pick [] (by decide) rfl) rfl rfl (fun w hF => OpV_move rfl) rfl ?_
   refine lxE_v (hS.pick [] (by decide) rfl) rfl rfl (fun w hF => OpV_move rfl) rfl ?_
   obtain ⟨x_26, hx_26, h⟩ := obind_some h
   refine lxE_v (hS.pick [] (by decide) rfl) rfl rfl (fun w hF => G_ix Tryz.underlying25 ti5 rfl rfl (hR_6.now hF.fr) hx_26) rfl ?_
   refine lxE_v (hS.pick [] (by decide) rfl) rfl rfl (fun w hF => G_load Tryz.underlying5 rfl rfl (hR_6.now hF.fr) hx_26 rfl) rfl ?_
   refine lxE_v (hS.pick [] (by decide) rfl) rfl rfl (fun w hF => OpV_bin rfl rfl (b_shr8_64 _ x_26 2)) rfl ?_
   obtain ⟨x_27, hx_27, h⟩ := obind_some h
   refine lxE_v (hS.pick [] (by decide) rfl) rfl rfl (fun w hF => G_ixS Tryz.underlying9 rfl rfl hx_27) rfl ?_
   refine lxE_v (hS.pick [] (by decide) rfl) rfl rfl (fun w hF => OpV_move rfl) rfl ?_
   refine lxE_v (hS.pick [] (by decide) rfl) rfl rfl (fun w hF => OpV_move rfl) rfl ?_
   obtain ⟨x_28, hx_28, h⟩ := obind_some h
   refine lxE_v (hS.pick [] (by decide) rfl) rfl rfl (fun w hF => G_ix Tryz.underlying25 ti5 rfl rfl (hR_6.now hF.fr) hx_28) rfl ?_
   refine lxE_v (hS.pick [] (by decide) rfl) rfl rfl (fun w hF => G_load Tryz.underlying5 rfl rfl (hR_6.now hF.fr) hx_28 rfl) rfl ?_
   refine lxE_v (hS.pick [] (by decide) rfl) rfl rfl (fun w hF => OpV_bin rfl rfl (b_and8 _ x_28 3)) rfl ?_
   refine lxE_v (hS.pick [] (by decide) rfl) rfl rfl (fun w hF => OpV_bin rfl rfl (b_shl8_64 _ (x_28 &&& 3) 4)) rfl ?_
   refine lxE_v (hS.pick [] (by decide) rfl) rfl rfl (fun w hF => OpV_move rfl) rfl ?_
   obtain ⟨x_29, hx_29, h⟩ := obind_some h
   refine lxE_v (hS.pick [] (by decide) rfl) rfl rfl (fun w hF => G_ix Tryz.underlying25 ti5 rfl rfl (hR_6.now hF.fr) hx_29) rfl ?_
   refine lxE_v (hS.pick [] (by decide) rfl) rfl rfl (fun w hF => G_load Tryz.underlying5 rfl rfl (hR_6.now hF.fr) hx_29 rfl) rfl ?_
   refine lxE_v (hS.pick [] (by decide) rfl) rfl rfl (fun w hF => OpV_bin rfl rfl (b_shr8_64 _ x_29 4)) rfl ?_
   refine lxE_v (hS.pick [] (by decide) rfl) rfl rfl (fun w hF => OpV_bin rfl rfl (b_or8 _ (shl8 (x_28 &&& 3) 4) (shr8 x_29 4))) rfl ?_
   obtain ⟨x_30, hx_30, h⟩ := obind_some h
   refine lxE_v (hS.pick [] (by decide) rfl) rfl rfl (fun w hF => G_ixS Tryz.underlying9 rfl rfl hx_30) rfl ?_
   refine lxE_v (hS.pick [] (by decide) rfl) rfl rfl (fun w hF => OpV_move rfl) rfl ?_
   refine lxE_v (hS.pick [] (by decide) rfl) rfl rfl (fun w hF => OpV_move rfl) rfl ?_
   obtain ⟨x_31, hx_31, h⟩ := obind_some h
   refine lxE_v (hS.pick [] (by decide) rfl) rfl rfl (fun w hF => G_ix Tryz.underlying25 ti5 rfl rfl (hR_6.now hF.fr) hx_31) rfl ?_
   refine lxE_v (hS.pick [] (by decide) rfl) rfl rfl (fun w hF => G_load Tryz.underlying5 rfl rfl (hR_6.now hF.fr) hx_31 rfl) rfl ?_
   refine lxE_v (hS.pick [] (by decide) rfl) rfl rfl (fun w hF => OpV_bin rfl rfl (b_and8 _ x_31 15)) rfl ?_
   refine lxE_v (hS.pick [] (by decide) rfl) rfl rfl (fun w hF => OpV_bin rfl rfl (b_shl8_64 _ (x_31 &&& 15) 2)) rfl ?_
   obtain ⟨x_32, hx_32, h⟩ := obind_some h
   refine lxE_v (hS.pick [] (by decide) rfl) rfl rfl (fun w hF => G_ixS Tryz.underlying9 rfl rfl hx_32) rfl ?_
   refine lxE_x (hS.pick [] (by decide) rfl) rfl rfl (OpX_lit (e := e8) (l := [x_27, x_30, x_32]) (vs := [v8 x_27, v8 x_30, v8 x_32]) Tryz.underlying25 ti5 rfl rfl rfl rfl (by decide) (by decide) hS) rfl ?_
   rintro v_33 w hS
   obtain ⟨x_35, hx_35, h⟩ := obind_some h
   refine lxE_x (hS.pick [] (by decide) rfl) rfl rfl (G_append Tryz.underlying25 ti5 rfl rfl rfl hS (i := 1) rfl (hS.ro 0 rfl) hx_35) rfl ?_
   rintro v_36 w hS
   refine lxE_v (hS.pick [] (by decide) rfl) rfl rfl (fun w hF => OpV_assign rfl) rfl ?_
   refine lxE_nil (hS.pick [] (by decide) rfl) ?_
   refine QE_blk_n ?_
   refine QE_then_n ?_
   exact wpC_le _ (by exact ⟨rfl, trivial⟩) (hK_52 x_35 _ _ ⟨v_36, rfl, (hS.pick [1] (by decide) rfl)⟩ h)
  have h := if_f h hb_48
  refine wpC_seq (wpC_region (wpR_run 2 rfl ?_))
  refine wpR_nil (QE_then_n ?_)
  refine wpC_cond rfl (fun hb_47 => ?_) (fun hb_47 => ?_)
  ·have h := if_t h hb_47
   have hsh0 := (hS.ro 0 rfl).shp
   refine wpC_regionT (fun w' => St [] w0 w' []) (fun i => !([14, 15].contains i)) hmix (fun _ _ _ hf => hf.2) (fun _ _ hf => hf) (by kernel_rfl) ?_
   have hS := hS.drew
   show lxE _ _ _ _ _ _ _ [0, 1, 2, 3, 4, 5, 6, 7, 8, 9, 10, 11, 12, 13, 14, 15, 16] _ _
   refine lxE_v (hS.pick [] (by decide) rfl) rfl rfl (fun w hF => OpV_move rfl) rfl ?_
   refine lxE_v (hS.pick [] (by decide) rfl) rfl rfl (fun w hF => OpV_move rfl) rfl ?_
   refine lxE_v (hS.pick [] (by decide) rfl) rfl rfl (fun w hF => OpV_move rfl) rfl ?_
   obtain ⟨x_38, hx_38, h⟩ := obind_some h
   refine lxE_v (hS.pick [] (by decide) rfl) rfl rfl (fun w hF => G_ix Tryz.underlying25 ti5 rfl rfl (hR_6.now hF.fr) hx_38) rfl ?_
   refine lxE_v (hS.pick [] (by decide) rfl) rfl rfl (fun w hF => G_load Tryz.underlying5 rfl rfl (hR_6.now hF.fr) hx_38 rfl) rfl ?_
   refine lxE_v (hS.pick [] (by decide) rfl) rfl rfl (fun w hF => OpV_bin rfl rfl (b_shr8_64 _ x_38 2)) rfl ?_
   obtain ⟨x_39, hx_39, h⟩ := obind_some h
   refine lxE_v (hS.pick [] (by decide) rfl) rfl rfl (fun w hF => G_ixS Tryz.underlying9 rfl rfl hx_39) rfl ?_
   refine lxE_v (hS.pick [] (by decide) rfl) rfl rfl (fun w hF => OpV_move rfl) rfl ?_
   refine lxE_v (hS.pick [] (by decide) rfl) rfl rfl (fun w hF => OpV_move rfl) rfl ?_
   obtain ⟨x_40, hx_40, h⟩ := obind_some h
   refine lxE_v (hS.pick [] (by decide) rfl) rfl rfl (fun w hF => G_ix Tryz.underlying25 ti5 rfl rfl (hR_6.now hF.fr) hx_40) rfl ?_
   refine lxE_v (hS.pick [] (by decide) rfl) rfl rfl (fun w hF => G_load Tryz.underlying5 rfl rfl (hR_6.now hF.fr) hx_40 rfl) rfl ?_
   refine lxE_v (hS.pick [] (by decide) rfl) rfl rfl (fun w hF => OpV_bin rfl rfl (b_and8 _ x_40 3)) rfl ?_
   refine lxE_v (hS.pick [] (by decide) rfl) rfl rfl (fun w hF => OpV_bin rfl rfl (b_shl8_64 _ (x_40 &&& 3) 4)) rfl ?_
   obtain ⟨x_41, hx_41, h⟩ := obind_some h
   refine lxE_v (hS.pick [] (by decide) rfl) rfl rfl (fun w hF => G_ixS Tryz.underlying9 rfl rfl hx_41) rfl ?_
   refine lxE_x (hS.pick [] (by decide) rfl) rfl rfl (OpX_lit (e := e8) (l := [x_39, x_41]) (vs := [v8 x_39, v8 x_41]) Tryz.underlying25 ti5 rfl rfl rfl rfl (by decide) (by decide) hS) rfl ?_
   rintro v_42 w hS
   obtain ⟨x_44, hx_44, h⟩ := obind_some h
   refine lxE_x (hS.pick [] (by decide) rfl) rfl rfl (G_append Tryz.underlying25 ti5 rfl rfl rfl hS (i := 1) rfl (hS.ro 0 rfl) hx_44) rfl ?_
   rintro v_45 w hS
   refine lxE_v (hS.pick [] (by decide) rfl) rfl rfl (fun w hF => OpV_assign rfl) rfl ?_
   refine lxE_nil (hS.pick [] (by decide) rfl) ?_
   refine QE_blk_n ?_
   refine QE_then_n ?_
   exact wpC_le _ (by exact ⟨rfl, trivial⟩) (hK_52 x_44 _ _ ⟨v_45, rfl, (hS.pick [1] (by decide) rfl)⟩ h)
  have h := if_f h hb_47
  refine wpC_skip (QE_blk_n ?_)
  refine QE_then_n ?_
  exact wpC_le _ (by exact ⟨rfl, trivial⟩) (hK_52 x_7 _ _ ⟨v_8, rfl, hS⟩ h)
 rintro x_49 L w hJ h
 try dsimp only at hJ
 obtain ⟨v_50, rfl, hS⟩ := hJ
 unfold F.b64_spell_K1 at h
 refine wpC_seq (wpC_region (wpR_run 2 rfl ?_))
 refine wpR_nil (QE_then_n (wpC_ret ?_))
 cases h
 exact QE_ret1 rfl rfl (hS.pick [0] (by decide) rfl)
theorem c_b64_Encode (w0 : World) (a0 : List UInt8) (va0 : Value) (ha0 : RP [] w0 e8 va0 a0) (r : List UInt8)
  (h : F.b64_Encode a0 = some r) : Calls Tryz.prog 42 #[va0] w0 (Ret fun v w => v = vS r ∧ St [] w0 w []) := by
 refine calls_at 6 Tryz.func42 rfl rfl rfl ?_
 have hS := St.start w0
 refine wpC_le [(0, va0)] ⟨rfl, trivial⟩ ?_
 unfold F.b64_Encode at h
 refine wpC_seq (wpC_region (wpR_run 1 rfl ?_))
 refine wpR_nil (QE_then_n (wpC_seq (wpC_region (wpR_run 1 rfl ?_))))
 obtain ⟨x_1, hx_1, h⟩ := obind_some h
 refine wpR_call (by kernel_rfl) rfl (c_b64_spell _ a0 [65, 66, 67, 68, 69, 70, 71, 72, 73, 74, 75, 76, 77, 78, 79, 80, 81, 82, 83, 84, 85, 86, 87, 88, 89, 90, 97, 98, 99, 100, 101, 102, 103, 104, 105, 106, 107, 108, 109, 110, 111, 112, 113, 114, 115, 116, 117, 118, 119, 120, 121, 122, 48, 49, 50, 51, 52, 53, 54, 55, 56, 57, 45, 95] va0  (ha0.now hS.fr).rp _ hx_1) rfl ?_
 rintro v_2 w hS1
 have hS := hS.call hS1
 simp only [List.cons_append, List.nil_append] at hS
 refine wpR_v (OpV_str Tryz.underlying25 Tryz.underlying5 Tryz.underlying9 rfl (hS.ro 0 rfl)) rfl ?_
 refine wpR_run 1 rfl ?_
 refine wpR_nil (QE_then_n (wpC_ret ?_))
 cases h
 exact QE_ret1 rfl rfl ⟨rfl, hS.pick [] (by decide) rfl⟩
end Go.Proofs
