import Derived.Test.YtmpcjpcipmdgeaaDoorTW0
import Derived.Test.YtmpcjpcipmdgeaaDoorGkFref4
set_option linter.unusedVariables false
set_option linter.unusedSimpArgs false
set_option linter.unusedVariables false
set_option maxRecDepth 4000
namespace Go.Proofs
open Go Go.RowKit Go.Gk
theorem c_ref4_Size (w0 : World) (a0 : Int)   (r : Int)
  (h : F.ref4_Size a0 = some r) : Calls Tryd.prog 14 #[vI a0] w0 (Ret fun v w => v = vI r ∧ St [] w0 w []) := by
 refine calls_at 10 Tryd.func14 rfl rfl rfl ?_
 have hS := St.start w0
 refine wpC_le [(0, vI a0)] ⟨rfl, trivial⟩ ?_
 unfold F.ref4_Size at h
 refine wpC_seq (wpC_region (wpR_run 1 rfl ?_))
 refine wpR_nil (QE_then_n (wpC_seq (wpC_seq (wpC_region (wpR_run 1 rfl ?_)))))
 refine wpR_nil (QE_then_n (wpC_block ?_))
 refine wpC_seq (wpC_region (wpR_run 2 rfl ?_))
 refine wpR_nil (QE_then_n ?_)
 refine wpC_cond rfl (fun hb_3 => ?_) (fun hb_3 => ?_)
 ·have h := if_t h hb_3
  refine wpC_seq (wpC_region (wpR_run 1 rfl ?_))
  refine wpR_nil (QE_then_n (wpC_ret (QE_blk_r ?_)))
  refine QE_then_r ?_
  cases h
  exact QE_ret1 rfl rfl ⟨rfl, hS⟩
 have h := if_f h hb_3
 refine wpC_seq (wpC_region (wpR_run 2 rfl ?_))
 refine wpR_nil (QE_then_n ?_)
 refine wpC_cond rfl (fun hb_2 => ?_) (fun hb_2 => ?_)
 ·have h := if_t h hb_2
  refine wpC_seq (wpC_region (wpR_run 1 rfl ?_))
  refine wpR_nil (QE_then_n (wpC_ret (QE_blk_r ?_)))
  refine QE_then_r ?_
  cases h
  exact QE_ret1 rfl rfl ⟨rfl, hS⟩
 have h := if_f h hb_2
 refine wpC_seq (wpC_region (wpR_run 2 rfl ?_))
 refine wpR_nil (QE_then_n ?_)
 refine wpC_cond rfl (fun hb_1 => ?_) (fun hb_1 => ?_)
 ·have h := if_t h hb_1
  refine wpC_seq (wpC_region (wpR_run 1 rfl ?_))
  refine wpR_nil (QE_then_n (wpC_ret (QE_blk_r ?_)))
  refine QE_then_r ?_
  cases h
  exact QE_ret1 rfl rfl ⟨rfl, hS⟩
 have h := if_f h hb_1
 refine wpC_skip (QE_blk_n ?_)
 refine QE_then_n (wpC_seq (wpC_region (wpR_run 1 rfl ?_)))
 refine wpR_nil (QE_then_n (wpC_ret ?_))
 cases h
 exact QE_ret1 rfl rfl ⟨rfl, hS⟩
theorem c_ref4_filled (w0 : World) (a0 : List UInt8) (a1 : Int) (va0 : Value) (ha0 : RP [] w0 e8 va0 a0) (r : List UInt8)
  (h : F.ref4_filled a0 a1 = some r) : Calls Tryd.prog 29 #[va0, vI a1] w0 (Ret fun v w => St [] w0 w [own e8 v r]) := by
 refine calls_at 43 Tryd.func29 rfl rfl rfl ?_
 have hS := St.start w0
 refine wpC_le [(0, va0), (1, vI a1)] ⟨rfl, rfl, trivial⟩ ?_
 unfold F.ref4_filled at h
 refine wpC_seq (wpC_region (wpR_run 1 rfl ?_))
 refine wpR_nil (QE_then_n (wpC_seq (wpC_region (wpR_run 1 rfl ?_))))
 refine wpR_nil (QE_then_n (wpC_seq (wpC_region (wpR_run 2 rfl ?_))))
 obtain ⟨x_1, hx_1, h⟩ := obind_some h
 refine wpR_x (G_append0 Tryd.underlying23 ti5 rfl rfl rfl hS (ha0.now hS.fr) hx_1) rfl ?_
 rintro v_2 w hS
 refine wpR_run 1 rfl ?_
 refine wpR_nil (QE_then_n (wpC_seq (wpC_region (wpR_run 1 rfl ?_))))
 refine wpR_x (OpX_lit (e := e8) (l := [128]) (vs := [v8 128]) Tryd.underlying23 ti5 rfl rfl rfl rfl (by decide) (by decide) hS) rfl ?_
 rintro v_4 w hS
 obtain ⟨x_6, hx_6, h⟩ := obind_some h
 refine wpR_x (G_append Tryd.underlying23 ti5 rfl rfl rfl hS (i := 1) rfl (hS.ro 0 rfl) hx_6) rfl ?_
 rintro v_7 w hS
 refine wpR_run 1 rfl ?_
 refine wpR_nil (QE_then_n (wpC_seq (wpC_block ?_)))
 refine wpC_le [(0, va0), (1, vI a1), (5, v_7)] ⟨rfl, rfl, rfl, trivial⟩ ?_
 refine loop_ind (F.ref4_filled_L1 a0 a1) (fun (s : List UInt8) L w => ∃ (v_10 : Value), L = [(0, va0), (1, vI a1), (5, v_10)] ∧ St [] w0 w [own e8 v_10 s]) ?_ x_6 ⟨v_7, rfl, (hS.pick [1] (by decide) rfl)⟩ h
 rintro k_37 x_9 L w q_14 hI ih_13 h hk_12
 try dsimp only at hI
 obtain ⟨v_10, rfl, hS⟩ := hI
 unfold F.ref4_filled_L1 at h
 refine wpC_seq (wpC_seq (wpC_region (wpR_run 1 rfl ?_)))
 refine wpR_v (OpV_len Tryd.underlying23 rfl (hS.ro 0 rfl)) rfl ?_
 refine wpR_run 1 rfl ?_
 obtain ⟨hg_15, h⟩ := grd_some h
 refine wpR_v (OpV_bin rfl rfl (b_irem _ (x_9.length : Int) a1 hg_15)) rfl ?_
 refine wpR_run 3 rfl ?_
 refine wpR_nil (QE_then_n ?_)
 refine wpC_cond rfl (fun hb_36 => ?_) (fun hb_36 => ?_)
 ·have h := if_t h hb_36
  refine wpC_skip (QE_then_n (wpC_block ?_))
  refine wpC_region (wpR_run 1 rfl ?_)
  refine wpR_x (OpX_lit (e := e8) (l := [0]) (vs := [v8 0]) Tryd.underlying23 ti5 rfl rfl rfl rfl (by decide) (by decide) hS) rfl ?_
  rintro v_16 w hS
  obtain ⟨x_18, hx_18, h⟩ := obind_some h
  refine wpR_x (G_append Tryd.underlying23 ti5 rfl rfl rfl hS (i := 1) rfl (hS.ro 0 rfl) hx_18) rfl ?_
  rintro v_19 w hS
  refine wpR_run 1 rfl ?_
  refine wpR_nil (QE_blk_n ?_)
  exact QE_rnd (wpN_le _ (by exact ⟨rfl, rfl, rfl, trivial⟩) (ih_13 x_18 _ _ ⟨v_19, rfl, (hS.pick [1] (by decide) rfl)⟩ (oinl_some h hk_12)))
 have h := if_f h hb_36
 refine wpC_exit ?_
 refine QE_then_x (QE_then_x ?_)
 have h := oinr_some h hk_12
 refine QE_blk_x ?_
 refine QE_then_n (wpC_seq (wpC_region (wpR_run 1 rfl ?_)))
 refine wpR_v (OpV_len Tryd.underlying23 rfl (ha0.now hS.fr)) rfl ?_
 refine wpR_v (OpV_conv rfl (cv_i_64 Tryd.underlying3 Tryd.underlying53 (a0.length : Int))) rfl ?_
 refine wpR_v (OpV_bin rfl rfl (b_mul64 _ (UInt64.ofInt (a0.length : Int)) 8)) rfl ?_
 obtain ⟨x_21, hx_21, h⟩ := olet_some h
 refine wpR_v (OpV_assign (v := v64 x_21) (by rw [← hx_21]; rfl)) rfl ?_
 refine wpR_nil (QE_then_n (wpC_seq (wpC_seq (wpC_region (wpR_run 1 rfl ?_)))))
 refine wpR_nil (QE_then_n (wpC_block ?_))
 refine wpC_le [(5, v_10), (6, v64 x_21), (7, vI 7)] ⟨rfl, rfl, rfl, trivial⟩ ?_
 refine loop_ind (F.ref4_filled_L2 x_21) (fun (s : List UInt8 × Int) L w => ∃ (v_23 : Value), L = [(5, v_23), (6, v64 x_21), (7, vI s.2)] ∧ St [] w0 w [own e8 v_23 s.1]) ?_ (x_9, 7) ⟨v_10, rfl, hS⟩ h
 rintro k_35 ⟨x_22, x_25⟩ L w q_28 hI ih_27 h hk_26
 try dsimp only at hI
 obtain ⟨v_23, rfl, hS⟩ := hI
 unfold F.ref4_filled_L2 at h
 refine wpC_seq (wpC_seq (wpC_region (wpR_run 2 rfl ?_)))
 refine wpR_nil (QE_then_n ?_)
 refine wpC_cond rfl (fun hb_34 => ?_) (fun hb_34 => ?_)
 ·have h := if_t h hb_34
  refine wpC_skip (QE_then_n (wpC_seq (wpC_block ?_)))
  refine wpC_region (wpR_run 3 rfl ?_)
  refine wpR_v (OpV_bin rfl rfl (b_imul _ 8 x_25)) rfl ?_
  refine wpR_v (OpV_conv rfl (cv_i_64 Tryd.underlying3 Tryd.underlying60 (wI (8 * x_25)))) rfl ?_
  refine wpR_v (OpV_bin rfl rfl (b_shr64_64 _ x_21 (UInt64.ofInt (wI (8 * x_25))))) rfl ?_
  refine wpR_v (OpV_bin rfl rfl (b_and64 _ (shr64 x_21 ((UInt64.ofInt (wI (8 * x_25))).toNat)) 255)) rfl ?_
  refine wpR_v (OpV_conv rfl (cv_64_8 Tryd.underlying53 Tryd.underlying5 ((shr64 x_21 ((UInt64.ofInt (wI (8 * x_25))).toNat)) &&& 255))) rfl ?_
  refine wpR_x (OpX_lit (e := e8) (l := [((shr64 x_21 ((UInt64.ofInt (wI (8 * x_25))).toNat)) &&& 255).toUInt8]) (vs := [v8 (((shr64 x_21 ((UInt64.ofInt (wI (8 * x_25))).toNat)) &&& 255).toUInt8)]) Tryd.underlying23 ti5 rfl rfl rfl rfl (by decide) (by decide) hS) rfl ?_
  rintro v_29 w hS
  obtain ⟨x_31, hx_31, h⟩ := obind_some h
  refine wpR_x (G_append Tryd.underlying23 ti5 rfl rfl rfl hS (i := 1) rfl (hS.ro 0 rfl) hx_31) rfl ?_
  rintro v_32 w hS
  refine wpR_run 1 rfl ?_
  refine wpR_nil (QE_blk_n ?_)
  refine QE_then_n (wpC_region (wpR_run 3 rfl ?_))
  refine wpR_nil ?_
  exact QE_rnd (wpN_le _ (by exact ⟨rfl, rfl, rfl, trivial⟩) (ih_27 (x_31, wI (x_25 - 1)) _ _ ⟨v_32, rfl, (hS.pick [1] (by decide) rfl)⟩ (oinl_some h hk_26)))
 have h := if_f h hb_34
 refine wpC_exit ?_
 refine QE_then_x (QE_then_x ?_)
 have h := oinr_some h hk_26
 refine QE_blk_x ?_
 refine QE_then_n (wpC_seq (wpC_region (wpR_run 2 rfl ?_)))
 refine wpR_nil (QE_then_n (wpC_ret ?_))
 cases h
 exact QE_ret1 rfl rfl (hS.pick [0] (by decide) rfl)
theorem c_ref4_turn32 (w0 : World) (a0 : UInt32) (a1 : Int)   (r : UInt32)
  (h : F.ref4_turn32 a0 a1 = some r) : Calls Tryd.prog 30 #[v32 a0, vI a1] w0 (Ret fun v w => v = v32 r ∧ St [] w0 w []) := by
 refine calls_at 15 Tryd.func30 rfl rfl rfl ?_
 have hS := St.start w0
 refine wpC_le [(0, v32 a0), (1, vI a1)] ⟨rfl, rfl, trivial⟩ ?_
 unfold F.ref4_turn32 at h
 refine wpC_seq (wpC_region (wpR_run 1 rfl ?_))
 refine wpR_nil (QE_then_n (wpC_seq (wpC_region (wpR_run 2 rfl ?_))))
 refine wpR_v (OpV_conv rfl (cv_i_64 Tryd.underlying3 Tryd.underlying60 a1)) rfl ?_
 refine wpR_v (OpV_bin rfl rfl (b_shr32_64 _ a0 (UInt64.ofInt a1))) rfl ?_
 refine wpR_run 3 rfl ?_
 refine wpR_v (OpV_conv rfl (cv_i_64 Tryd.underlying3 Tryd.underlying60 (wI (32 - a1)))) rfl ?_
 refine wpR_v (OpV_bin rfl rfl (b_shl32_64 _ a0 (UInt64.ofInt (wI (32 - a1))))) rfl ?_
 refine wpR_v (OpV_bin rfl rfl (b_or32 _ (shr32 a0 ((UInt64.ofInt a1).toNat)) (shl32 a0 ((UInt64.ofInt (wI (32 - a1))).toNat)))) rfl ?_
 refine wpR_run 1 rfl ?_
 refine wpR_nil (QE_then_n (wpC_ret ?_))
 cases h
 exact QE_ret1 rfl rfl ⟨rfl, hS⟩
theorem c_ref4_short (w0 : World) (a0 : List UInt8) (va0 : Value) (hT : TB [] w0) (ha0 : RP [] w0 e8 va0 a0) (r : List UInt8)
  (h : F.ref4_short a0 = some r) : Calls Tryd.prog 26 #[va0] w0 (Ret fun v w => St [] w0 w [own e8 v r]) := by
 refine calls_at 231 Tryd.func26 rfl rfl rfl ?_
 have hS := St.start w0
 refine wpC_le [(0, va0)] ⟨rfl, trivial⟩ ?_
 unfold F.ref4_short at h
 refine wpC_seq (wpC_region (wpR_run 1 rfl ?_))
 refine wpR_nil (QE_then_n (wpC_seq (wpC_region (wpR_v (OpV_ldA (us := e32.fl F.tab_ref4_start256) Tryd.underlying56 rfl sz56 (fl_len1 (show F.tab_ref4_start256.length = 8 from rfl) rfl) rfl (hT.ref4_start256.cells hS.fr)) rfl ?_))))
 refine wpR_x (OpX_alloc (cs := e32.fl (List.replicate 8 0)) tz56 (by kernel_rfl) hS) rfl ?_
 rintro _ w ⟨b_1, rfl, hS⟩
 refine wpR_y (OpY_stU (m := 8) (xs := e32.fl (List.replicate 8 0)) (xs' := e32.fl F.tab_ref4_start256) (i := 0) rfl sz56 rfl rfl rfl Up.last (fl_len1 List.length_replicate rfl) (fl_len1 (show F.tab_ref4_start256.length = 8 from rfl) rfl) one_fl hS) ?_
 intro w hS
 replace hS : St _ w0 w [OE.bx b_1 (e32.fl F.tab_ref4_start256)] := hS
 refine wpR_nil (QE_then_n (wpC_seq (wpC_region (wpR_run 1 rfl ?_))))
 obtain ⟨x_3, hx_3, h⟩ := obind_some h
 refine wpR_call (by kernel_rfl) rfl (c_ref4_filled _ a0 64 va0  (ha0.now hS.fr).rp _ hx_3) rfl ?_
 rintro v_4 w hS1
 have hS := hS.call hS1
 simp only [List.cons_append, List.nil_append] at hS
 replace hS : St _ w0 w [own e8 v_4 x_3, OE.bx b_1 (e32.fl F.tab_ref4_start256)] := hS
 refine wpR_run 1 rfl ?_
 refine wpR_nil (QE_then_n (wpC_seq (wpC_seq (wpC_region (wpR_run 1 rfl ?_)))))
 refine wpR_nil (QE_then_n (wpC_block ?_))
 refine wpC_le [(3, pB b_1 0), (4, v_4), (5, vI 0)] ⟨rfl, rfl, rfl, trivial⟩ ?_
 refine loop_ind (F.ref4_short_L1 x_3) (fun (s : Int × List UInt32) L w => L = [(3, pB b_1 0), (4, v_4), (5, vI s.1)] ∧ s.2.length = 8 ∧ St [] w0 w [OE.bx b_1 (e32.fl s.2), own e8 v_4 x_3]) ?_ (0, F.tab_ref4_start256) ⟨rfl, (show F.tab_ref4_start256.length = 8 from rfl), (hS.pick [1, 0] (by decide) rfl)⟩ h
 rintro k_108 ⟨x_6, x_7⟩ L w q_11 hI ih_10 h hk_9
 try dsimp only at hI
 obtain ⟨rfl, hL_8, hS⟩ := hI
 unfold F.ref4_short_L1 at h
 refine wpC_seq (wpC_seq (wpC_region (wpR_run 2 rfl ?_)))
 refine wpR_v (OpV_len Tryd.underlying23 rfl (hS.ro 1 rfl)) rfl ?_
 refine wpR_run 1 rfl ?_
 refine wpR_nil (QE_then_n ?_)
 refine wpC_cond rfl (fun hb_107 => ?_) (fun hb_107 => ?_)
 ·have h := if_t h hb_107
  refine wpC_skip (QE_then_n (wpC_seq (wpC_block ?_)))
  refine wpC_seq (wpC_region ?_)
  refine wpR_x (OpX_alloc (cs := e32.fl (List.replicate 64 0)) tz62 (by kernel_rfl) hS) rfl ?_
  rintro _ w ⟨b_12, rfl, hS⟩
  refine wpR_nil (QE_then_n (wpC_seq (wpC_seq (wpC_region (wpR_run 1 rfl ?_)))))
  refine wpR_nil (QE_then_n (wpC_block ?_))
  refine wpC_le [(3, pB b_1 0), (4, v_4), (5, vI x_6), (6, pB b_12 0), (7, vI 0)] ⟨rfl, rfl, rfl, rfl, rfl, trivial⟩ ?_
  refine loop_ind (F.ref4_short_L2 x_3 x_6 x_7) (fun (s : Int × List UInt32) L w => L = [(3, pB b_1 0), (4, v_4), (5, vI x_6), (6, pB b_12 0), (7, vI s.1)] ∧ s.2.length = 64 ∧ St [] w0 w [OE.bx b_1 (e32.fl x_7), own e8 v_4 x_3, OE.bx b_12 (e32.fl s.2)]) ?_ (0, (List.replicate 64 0)) ⟨rfl, List.length_replicate, (hS.pick [1, 2, 0] (by decide) rfl)⟩ h
  rintro k_88 ⟨x_14, x_15⟩ L w q_19 hI ih_18 h hk_17
  try dsimp only at hI
  obtain ⟨rfl, hL_16, hS⟩ := hI
  unfold F.ref4_short_L2 at h
  refine wpC_seq (wpC_seq (wpC_region (wpR_run 2 rfl ?_)))
  refine wpR_nil (QE_then_n ?_)
  refine wpC_cond rfl (fun hb_87 => ?_) (fun hb_87 => ?_)
  ·have h := if_t h hb_87
   refine wpC_skip (QE_then_n ?_)
   refine seq_join (r := q_19) (fun (g : List UInt32) L w => L = [(3, pB b_1 0), (4, v_4), (5, vI x_6), (6, pB b_12 0), (7, vI x_14)] ∧ g.length = 64 ∧ St [] w0 w [OE.bx b_1 (e32.fl x_7), own e8 v_4 x_3, OE.bx b_12 (e32.fl g)]) (F.ref4_short_K1 x_14) ?_ ?_
   rotate_left
   ·intro hK_40
    refine wpC_block ?_
    refine wpC_seq (wpC_seq (wpC_region (wpR_run 2 rfl ?_)))
    refine wpR_nil (QE_then_n ?_)
    refine wpC_cond rfl (fun hb_37 => ?_) (fun hb_37 => ?_)
    ·have h := if_t h hb_37
     refine wpC_seq (wpC_region (wpR_run 2 rfl ?_))
     refine wpR_v (OpV_bin rfl rfl (b_imul _ 4 x_14)) rfl ?_
     refine wpR_run 1 rfl ?_
     obtain ⟨x_20, hx_20, h⟩ := olet_some h
     refine wpR_v (OpV_assign (v := vI x_20) (by rw [← hx_20]; rfl)) rfl ?_
     refine wpR_nil (QE_then_n (wpC_seq ?_))
     refine wpC_regionS (fun w' => St [] w0 w' [OE.bx b_1 (e32.fl x_7), own e8 v_4 x_3, OE.bx b_12 (e32.fl x_15)]) (fun i => !([31].contains i)) hmix (fun _ _ _ hf => hf.2) (fun _ _ hf => hf) (by kernel_rfl) ?_
     have hS := hS.drew
     show lxE _ _ _ _ _ _ _ [0, 1, 2, 3, 4, 5, 6, 7, 8, 9, 10, 11, 12, 13, 14, 15, 16, 17, 18, 19, 20, 21, 22, 23, 24, 25, 26, 27, 28, 29, 30, 31] _ _
     refine lxE_v hS rfl rfl (fun w hF => OpV_move rfl) rfl ?_
     refine lxE_v hS rfl rfl (fun w hF => OpV_move rfl) rfl ?_
     refine lxE_v hS rfl rfl (fun w hF => OpV_move rfl) rfl ?_
     obtain ⟨x_21, hx_21, h⟩ := obind_some h
     refine lxE_v hS rfl rfl (fun w hF => G_ix Tryd.underlying23 ti5 rfl rfl (hF.ro 1 rfl) hx_21) rfl ?_
     refine lxE_v hS rfl rfl (fun w hF => G_load Tryd.underlying5 rfl rfl (hF.ro 1 rfl) hx_21 rfl) rfl ?_
     refine lxE_v hS rfl rfl (fun w hF => OpV_conv rfl (cv_8_32 Tryd.underlying5 Tryd.underlying55 x_21)) rfl ?_
     refine lxE_v hS rfl rfl (fun w hF => OpV_bin rfl rfl (b_shl32_64 _ x_21.toUInt32 24)) rfl ?_
     refine lxE_v hS rfl rfl (fun w hF => OpV_move rfl) rfl ?_
     refine lxE_v hS rfl rfl (fun w hF => OpV_move rfl) rfl ?_
     refine lxE_v hS rfl rfl (fun w hF => OpV_bin rfl rfl (b_iadd _ x_20 1)) rfl ?_
     obtain ⟨x_22, hx_22, h⟩ := obind_some h
     refine lxE_v hS rfl rfl (fun w hF => G_ix Tryd.underlying23 ti5 rfl rfl (hF.ro 1 rfl) hx_22) rfl ?_
     refine lxE_v hS rfl rfl (fun w hF => G_load Tryd.underlying5 rfl rfl (hF.ro 1 rfl) hx_22 rfl) rfl ?_
     refine lxE_v hS rfl rfl (fun w hF => OpV_conv rfl (cv_8_32 Tryd.underlying5 Tryd.underlying55 x_22)) rfl ?_
     refine lxE_v hS rfl rfl (fun w hF => OpV_bin rfl rfl (b_shl32_64 _ x_22.toUInt32 16)) rfl ?_
     refine lxE_v hS rfl rfl (fun w hF => OpV_bin rfl rfl (b_or32 _ (shl32 x_21.toUInt32 24) (shl32 x_22.toUInt32 16))) rfl ?_
     refine lxE_v hS rfl rfl (fun w hF => OpV_move rfl) rfl ?_
     refine lxE_v hS rfl rfl (fun w hF => OpV_move rfl) rfl ?_
     refine lxE_v hS rfl rfl (fun w hF => OpV_bin rfl rfl (b_iadd _ x_20 2)) rfl ?_
     obtain ⟨x_23, hx_23, h⟩ := obind_some h
     refine lxE_v hS rfl rfl (fun w hF => G_ix Tryd.underlying23 ti5 rfl rfl (hF.ro 1 rfl) hx_23) rfl ?_
     refine lxE_v hS rfl rfl (fun w hF => G_load Tryd.underlying5 rfl rfl (hF.ro 1 rfl) hx_23 rfl) rfl ?_
     refine lxE_v hS rfl rfl (fun w hF => OpV_conv rfl (cv_8_32 Tryd.underlying5 Tryd.underlying55 x_23)) rfl ?_
     refine lxE_v hS rfl rfl (fun w hF => OpV_bin rfl rfl (b_shl32_64 _ x_23.toUInt32 8)) rfl ?_
     refine lxE_v hS rfl rfl (fun w hF => OpV_bin rfl rfl (b_or32 _ ((shl32 x_21.toUInt32 24) ||| (shl32 x_22.toUInt32 16)) (shl32 x_23.toUInt32 8))) rfl ?_
     refine lxE_v hS rfl rfl (fun w hF => OpV_move rfl) rfl ?_
     refine lxE_v hS rfl rfl (fun w hF => OpV_move rfl) rfl ?_
     refine lxE_v hS rfl rfl (fun w hF => OpV_bin rfl rfl (b_iadd _ x_20 3)) rfl ?_
     obtain ⟨x_24, hx_24, h⟩ := obind_some h
     refine lxE_v hS rfl rfl (fun w hF => G_ix Tryd.underlying23 ti5 rfl rfl (hF.ro 1 rfl) hx_24) rfl ?_
     refine lxE_v hS rfl rfl (fun w hF => G_load Tryd.underlying5 rfl rfl (hF.ro 1 rfl) hx_24 rfl) rfl ?_
     refine lxE_v hS rfl rfl (fun w hF => OpV_conv rfl (cv_8_32 Tryd.underlying5 Tryd.underlying55 x_24)) rfl ?_
     refine lxE_v hS rfl rfl (fun w hF => OpV_bin rfl rfl (b_or32 _ (((shl32 x_21.toUInt32 24) ||| (shl32 x_22.toUInt32 16)) ||| (shl32 x_23.toUInt32 8)) x_24.toUInt32)) rfl ?_
     obtain ⟨x_25, hx_25, h⟩ := obind_some h
     refine lxE_v hS rfl rfl (fun w hF => OpV_ixO Tryd.underlying62 sz55 rfl rfl (getO_bd hx_25 hL_16)) rfl ?_
     refine lxE_y hS rfl rfl (OpY_stU (m := 1) rfl sz55 rfl rfl rfl (Up.elt (t' := ((((shl32 x_21.toUInt32 24) ||| (shl32 x_22.toUInt32 16)) ||| (shl32 x_23.toUInt32 8)) ||| x_24.toUInt32)) Up.last hx_25 rfl rfl) rfl rfl (one_one rfl) hS (i := 2)) ?_
     intro w hS
     replace hS : St _ w0 w [OE.bx b_1 (e32.fl x_7), own e8 v_4 x_3, OE.bx b_12 (e32.fl (x_15.set (x_14 : Int).toNat ((((shl32 x_21.toUInt32 24) ||| (shl32 x_22.toUInt32 16)) ||| (shl32 x_23.toUInt32 8)) ||| x_24.toUInt32)))] := hS
     obtain ⟨x_26, hx_26, h⟩ := olet_some h
     rw [hx_26] at hS
     refine lxE_nil trivial ?_
     refine QE_then_n (wpC_exit ?_)
     refine QE_then_x (QE_blk_x ?_)
     refine QE_then_n ?_
     exact wpC_le _ (by exact ⟨rfl, rfl, rfl, rfl, rfl, trivial⟩) (hK_40 x_26 _ _ ⟨rfl, (by rw [← hx_26, List.length_set]; exact hL_16), hS⟩ h)
    have h := if_f h hb_37
    refine wpC_skip (QE_then_n (wpC_seq (wpC_region (wpR_run 2 rfl ?_))))
    obtain ⟨x_27, hx_27, h⟩ := obind_some h
    refine wpR_v (OpV_ixO Tryd.underlying62 sz55 rfl rfl (getO_bd hx_27 hL_16)) rfl ?_
    refine wpR_v (OpV_ldB Tryd.underlying55 rfl rfl (hS.bxg 2 rfl (Up.elr Up.last hx_27 rfl))) rfl ?_
    refine wpR_run 1 rfl ?_
    refine wpR_nil (QE_then_n (wpC_seq (wpC_region (wpR_run 2 rfl ?_))))
    obtain ⟨x_28, hx_28, h⟩ := obind_some h
    refine wpR_v (OpV_ixO Tryd.underlying62 sz55 rfl rfl (getO_bd hx_28 hL_16)) rfl ?_
    refine wpR_v (OpV_ldB Tryd.underlying55 rfl rfl (hS.bxg 2 rfl (Up.elr Up.last hx_28 rfl))) rfl ?_
    refine wpR_run 1 rfl ?_
    refine wpR_nil (QE_then_n ?_)
    refine wpC_regionS (fun w' => St [] w0 w' [OE.bx b_1 (e32.fl x_7), own e8 v_4 x_3, OE.bx b_12 (e32.fl x_15)]) (fun i => !([6, 8, 20, 22, 29].contains i)) hmix (fun _ _ _ hf => hf.2) (fun _ _ hf => hf) (by kernel_rfl) ?_
    have hS := hS.drew
    show lxE _ _ _ _ _ _ _ [0, 1, 2, 3, 4, 5, 6, 7, 8, 9, 10, 11, 12, 13, 14, 15, 16, 17, 18, 19, 20, 21, 22, 23, 24, 25, 26, 27, 28, 29] _ _
    refine lxE_v hS rfl rfl (fun w hF => OpV_move rfl) rfl ?_
    refine lxE_v hS rfl rfl (fun w hF => OpV_move rfl) rfl ?_
    refine lxE_v hS rfl rfl (fun w hF => OpV_bin rfl rfl (b_isub _ x_14 16)) rfl ?_
    obtain ⟨x_29, hx_29, h⟩ := obind_some h
    refine lxE_v hS rfl rfl (fun w hF => OpV_ixO Tryd.underlying62 sz55 rfl rfl (getO_bd hx_29 hL_16)) rfl ?_
    refine lxE_v hS rfl rfl (fun w hF => OpV_ldB Tryd.underlying55 rfl rfl (hF.bxg 2 rfl (Up.elr Up.last hx_29 rfl))) rfl ?_
    refine lxE_v hS rfl rfl (fun w hF => OpV_move rfl) rfl ?_
    obtain ⟨x_30, hx_30, h⟩ := obind_some h
    refine lxE_call hS rfl rfl (by kernel_rfl) rfl (c_ref4_turn32 _ x_27 7    _ hx_30) rfl ?_
    rintro _ w ⟨rfl, hS1⟩
    have hS := hS.call hS1
    simp only [List.cons_append, List.nil_append] at hS
    replace hS : St _ w0 w [OE.bx b_1 (e32.fl x_7), own e8 v_4 x_3, OE.bx b_12 (e32.fl x_15)] := hS
    refine lxE_v hS rfl rfl (fun w hF => OpV_move rfl) rfl ?_
    obtain ⟨x_31, hx_31, h⟩ := obind_some h
    refine lxE_call hS rfl rfl (by kernel_rfl) rfl (c_ref4_turn32 _ x_27 18    _ hx_31) rfl ?_
    rintro _ w ⟨rfl, hS1⟩
    have hS := hS.call hS1
    simp only [List.cons_append, List.nil_append] at hS
    replace hS : St _ w0 w [OE.bx b_1 (e32.fl x_7), own e8 v_4 x_3, OE.bx b_12 (e32.fl x_15)] := hS
    refine lxE_v hS rfl rfl (fun w hF => OpV_bin rfl rfl (b_xor32 _ x_30 x_31)) rfl ?_
    refine lxE_v hS rfl rfl (fun w hF => OpV_move rfl) rfl ?_
    refine lxE_v hS rfl rfl (fun w hF => OpV_bin rfl rfl (b_shr32_64 _ x_27 3)) rfl ?_
    refine lxE_v hS rfl rfl (fun w hF => OpV_bin rfl rfl (b_xor32 _ (x_30 ^^^ x_31) (shr32 x_27 3))) rfl ?_
    refine lxE_v hS rfl rfl (fun w hF => OpV_bin rfl rfl (b_add32 _ x_29 ((x_30 ^^^ x_31) ^^^ (shr32 x_27 3)))) rfl ?_
    refine lxE_v hS rfl rfl (fun w hF => OpV_move rfl) rfl ?_
    refine lxE_v hS rfl rfl (fun w hF => OpV_bin rfl rfl (b_isub _ x_14 7)) rfl ?_
    obtain ⟨x_32, hx_32, h⟩ := obind_some h
    refine lxE_v hS rfl rfl (fun w hF => OpV_ixO Tryd.underlying62 sz55 rfl rfl (getO_bd hx_32 hL_16)) rfl ?_
    refine lxE_v hS rfl rfl (fun w hF => OpV_ldB Tryd.underlying55 rfl rfl (hF.bxg 2 rfl (Up.elr Up.last hx_32 rfl))) rfl ?_
    refine lxE_v hS rfl rfl (fun w hF => OpV_bin rfl rfl (b_add32 _ (x_29 + ((x_30 ^^^ x_31) ^^^ (shr32 x_27 3))) x_32)) rfl ?_
    refine lxE_v hS rfl rfl (fun w hF => OpV_move rfl) rfl ?_
    obtain ⟨x_33, hx_33, h⟩ := obind_some h
    refine lxE_call hS rfl rfl (by kernel_rfl) rfl (c_ref4_turn32 _ x_28 17    _ hx_33) rfl ?_
    rintro _ w ⟨rfl, hS1⟩
    have hS := hS.call hS1
    simp only [List.cons_append, List.nil_append] at hS
    replace hS : St _ w0 w [OE.bx b_1 (e32.fl x_7), own e8 v_4 x_3, OE.bx b_12 (e32.fl x_15)] := hS
    refine lxE_v hS rfl rfl (fun w hF => OpV_move rfl) rfl ?_
    obtain ⟨x_34, hx_34, h⟩ := obind_some h
    refine lxE_call hS rfl rfl (by kernel_rfl) rfl (c_ref4_turn32 _ x_28 19    _ hx_34) rfl ?_
    rintro _ w ⟨rfl, hS1⟩
    have hS := hS.call hS1
    simp only [List.cons_append, List.nil_append] at hS
    replace hS : St _ w0 w [OE.bx b_1 (e32.fl x_7), own e8 v_4 x_3, OE.bx b_12 (e32.fl x_15)] := hS
    refine lxE_v hS rfl rfl (fun w hF => OpV_bin rfl rfl (b_xor32 _ x_33 x_34)) rfl ?_
    refine lxE_v hS rfl rfl (fun w hF => OpV_move rfl) rfl ?_
    refine lxE_v hS rfl rfl (fun w hF => OpV_bin rfl rfl (b_shr32_64 _ x_28 10)) rfl ?_
    refine lxE_v hS rfl rfl (fun w hF => OpV_bin rfl rfl (b_xor32 _ (x_33 ^^^ x_34) (shr32 x_28 10))) rfl ?_
    refine lxE_v hS rfl rfl (fun w hF => OpV_bin rfl rfl (b_add32 _ ((x_29 + ((x_30 ^^^ x_31) ^^^ (shr32 x_27 3))) + x_32) ((x_33 ^^^ x_34) ^^^ (shr32 x_28 10)))) rfl ?_
    obtain ⟨x_35, hx_35, h⟩ := obind_some h
    refine lxE_v hS rfl rfl (fun w hF => OpV_ixO Tryd.underlying62 sz55 rfl rfl (getO_bd hx_35 hL_16)) rfl ?_
    refine lxE_y hS rfl rfl (OpY_stU (m := 1) rfl sz55 rfl rfl rfl (Up.elt (t' := (((x_29 + ((x_30 ^^^ x_31) ^^^ (shr32 x_27 3))) + x_32) + ((x_33 ^^^ x_34) ^^^ (shr32 x_28 10)))) Up.last hx_35 rfl rfl) rfl rfl (one_one rfl) hS (i := 2)) ?_
    intro w hS
    replace hS : St _ w0 w [OE.bx b_1 (e32.fl x_7), own e8 v_4 x_3, OE.bx b_12 (e32.fl (x_15.set (x_14 : Int).toNat (((x_29 + ((x_30 ^^^ x_31) ^^^ (shr32 x_27 3))) + x_32) + ((x_33 ^^^ x_34) ^^^ (shr32 x_28 10)))))] := hS
    obtain ⟨x_36, hx_36, h⟩ := olet_some h
    rw [hx_36] at hS
    refine lxE_nil trivial ?_
    refine QE_blk_n ?_
    refine QE_then_n ?_
    exact wpC_le _ (by exact ⟨rfl, rfl, rfl, rfl, rfl, trivial⟩) (hK_40 x_36 _ _ ⟨rfl, (by rw [← hx_36, List.length_set]; exact hL_16), hS⟩ h)
   rintro x_38 L w hJ h
   try dsimp only at hJ
   obtain ⟨rfl, hL_39, hS⟩ := hJ
   unfold F.ref4_short_K1 at h
   refine wpC_region (wpR_run 3 rfl ?_)
   refine wpR_nil ?_
   exact QE_rnd (wpN_le _ (by exact ⟨rfl, rfl, rfl, rfl, rfl, trivial⟩) (ih_18 (wI (x_14 + 1), x_38) _ _ ⟨rfl, hL_39, hS⟩ (oinl_some h hk_17)))
  have h := if_f h hb_87
  refine wpC_exit ?_
  refine QE_then_x (QE_then_x ?_)
  have h := oinr_some h hk_17
  refine QE_blk_x ?_
  refine QE_then_n (wpC_seq (wpC_region (wpR_v (OpV_ldA (us := e32.fl x_7) Tryd.underlying56 rfl sz56 (fl_len1 hL_8 rfl) rfl (hS.bxgs0 0 rfl Up.last)) rfl ?_)))
  refine wpR_x (OpX_alloc (cs := e32.fl (List.replicate 8 0)) tz56 (by kernel_rfl) hS) rfl ?_
  rintro _ w ⟨b_41, rfl, hS⟩
  refine wpR_y (OpY_stU (m := 8) (xs := e32.fl (List.replicate 8 0)) (xs' := e32.fl x_7) (i := 0) rfl sz56 rfl rfl rfl Up.last (fl_len1 List.length_replicate rfl) (fl_len1 hL_8 rfl) one_fl hS) ?_
  intro w hS
  replace hS : St _ w0 w [OE.bx b_41 (e32.fl x_7), OE.bx b_1 (e32.fl x_7), own e8 v_4 x_3, OE.bx b_12 (e32.fl x_15)] := hS
  refine wpR_nil (QE_then_n (wpC_seq (wpC_seq (wpC_region (wpR_run 1 rfl ?_)))))
  refine wpR_nil (QE_then_n (wpC_block ?_))
  refine wpC_le [(3, pB b_1 0), (4, v_4), (5, vI x_6), (6, pB b_12 0), (11, pB b_41 0), (12, vI 0)] ⟨rfl, rfl, rfl, rfl, rfl, rfl, trivial⟩ ?_
  refine loop_ind (F.ref4_short_L3 x_7 x_15 x_6) (fun (s : Int × List UInt32) L w => L = [(3, pB b_1 0), (4, v_4), (5, vI x_6), (6, pB b_12 0), (11, pB b_41 0), (12, vI s.1)] ∧ s.2.length = 8 ∧ St [] w0 w [OE.bx b_1 (e32.fl x_7), own e8 v_4 x_3, OE.bx b_12 (e32.fl x_15), OE.bx b_41 (e32.fl s.2)]) ?_ (0, x_7) ⟨rfl, hL_8, (hS.pick [1, 2, 3, 0] (by decide) rfl)⟩ h
  rintro k_86 ⟨x_43, x_44⟩ L w q_48 hI ih_47 h hk_46
  try dsimp only at hI
  obtain ⟨rfl, hL_45, hS⟩ := hI
  unfold F.ref4_short_L3 at h
  refine wpC_seq (wpC_seq (wpC_region (wpR_run 2 rfl ?_)))
  refine wpR_nil (QE_then_n ?_)
  refine wpC_cond rfl (fun hb_85 => ?_) (fun hb_85 => ?_)
  ·have h := if_t h hb_85
   refine wpC_skip (QE_then_n (wpC_seq (wpC_block ?_)))
   refine wpC_seq (wpC_region ?_)
   obtain ⟨x_49, hx_49, h⟩ := obind_some h
   refine wpR_v (OpV_ixO Tryd.underlying56 sz55 rfl rfl (getO_bd hx_49 hL_45)) rfl ?_
   refine wpR_v (OpV_ldB Tryd.underlying55 rfl rfl (hS.bxg 3 rfl (Up.elr Up.last hx_49 rfl))) rfl ?_
   refine wpR_run 1 rfl ?_
   refine wpR_nil (QE_then_n (wpC_seq (wpC_region ?_)))
   obtain ⟨x_50, hx_50, h⟩ := obind_some h
   refine wpR_v (OpV_ixO Tryd.underlying56 sz55 rfl rfl (getO_bd hx_50 hL_45)) rfl ?_
   refine wpR_v (OpV_ldB Tryd.underlying55 rfl rfl (hS.bxg 3 rfl (Up.elr Up.last hx_50 rfl))) rfl ?_
   refine wpR_run 1 rfl ?_
   refine wpR_nil (QE_then_n (wpC_seq ?_))
   refine wpC_regionT (fun w' => St [] w0 w' [OE.bx b_1 (e32.fl x_7), own e8 v_4 x_3, OE.bx b_12 (e32.fl x_15), OE.bx b_41 (e32.fl x_44)]) (fun i => !([3, 5, 8].contains i)) hmix (fun _ _ _ hf => hf.2) (fun _ _ hf => hf) (by kernel_rfl) ?_
   have hS := hS.drew
   show lxE _ _ _ _ _ _ _ [0, 1, 2, 3, 4, 5, 6, 7, 8, 9, 10, 11, 12, 13, 14, 15, 16, 17, 18, 19, 20, 21, 22, 23, 24, 25, 26, 27, 28, 29, 30] _ _
   obtain ⟨x_51, hx_51, h⟩ := obind_some h
   refine lxE_v hS rfl rfl (fun w hF => OpV_ixO Tryd.underlying56 sz55 rfl rfl (getO_bd hx_51 hL_45)) rfl ?_
   refine lxE_v hS rfl rfl (fun w hF => OpV_ldB Tryd.underlying55 rfl rfl (hF.bxg 3 rfl (Up.elr Up.last hx_51 rfl))) rfl ?_
   refine lxE_v hS rfl rfl (fun w hF => OpV_move rfl) rfl ?_
   obtain ⟨x_52, hx_52, h⟩ := obind_some h
   refine lxE_call hS rfl rfl (by kernel_rfl) rfl (c_ref4_turn32 _ x_50 6    _ hx_52) rfl ?_
   rintro _ w ⟨rfl, hS1⟩
   have hS := hS.call hS1
   simp only [List.cons_append, List.nil_append] at hS
   replace hS : St _ w0 w [OE.bx b_1 (e32.fl x_7), own e8 v_4 x_3, OE.bx b_12 (e32.fl x_15), OE.bx b_41 (e32.fl x_44)] := hS
   refine lxE_v hS rfl rfl (fun w hF => OpV_move rfl) rfl ?_
   obtain ⟨x_53, hx_53, h⟩ := obind_some h
   refine lxE_call hS rfl rfl (by kernel_rfl) rfl (c_ref4_turn32 _ x_50 11    _ hx_53) rfl ?_
   rintro _ w ⟨rfl, hS1⟩
   have hS := hS.call hS1
   simp only [List.cons_append, List.nil_append] at hS
   replace hS : St _ w0 w [OE.bx b_1 (e32.fl x_7), own e8 v_4 x_3, OE.bx b_12 (e32.fl x_15), OE.bx b_41 (e32.fl x_44)] := hS
   refine lxE_v hS rfl rfl (fun w hF => OpV_bin rfl rfl (b_xor32 _ x_52 x_53)) rfl ?_
   refine lxE_v hS rfl rfl (fun w hF => OpV_move rfl) rfl ?_
   obtain ⟨x_54, hx_54, h⟩ := obind_some h
   refine lxE_call hS rfl rfl (by kernel_rfl) rfl (c_ref4_turn32 _ x_50 25    _ hx_54) rfl ?_
   rintro _ w ⟨rfl, hS1⟩
   have hS := hS.call hS1
   simp only [List.cons_append, List.nil_append] at hS
   replace hS : St _ w0 w [OE.bx b_1 (e32.fl x_7), own e8 v_4 x_3, OE.bx b_12 (e32.fl x_15), OE.bx b_41 (e32.fl x_44)] := hS
   refine lxE_v hS rfl rfl (fun w hF => OpV_bin rfl rfl (b_xor32 _ (x_52 ^^^ x_53) x_54)) rfl ?_
   refine lxE_v hS rfl rfl (fun w hF => OpV_bin rfl rfl (b_add32 _ x_51 ((x_52 ^^^ x_53) ^^^ x_54))) rfl ?_
   refine lxE_v hS rfl rfl (fun w hF => OpV_move rfl) rfl ?_
   obtain ⟨x_55, hx_55, h⟩ := obind_some h
   refine lxE_v hS rfl rfl (fun w hF => OpV_ixO Tryd.underlying56 sz55 rfl rfl (getO_bd hx_55 hL_45)) rfl ?_
   refine lxE_v hS rfl rfl (fun w hF => OpV_ldB Tryd.underlying55 rfl rfl (hF.bxg 3 rfl (Up.elr Up.last hx_55 rfl))) rfl ?_
   refine lxE_v hS rfl rfl (fun w hF => OpV_bin rfl rfl (b_and32 _ x_50 x_55)) rfl ?_
   refine lxE_v hS rfl rfl (fun w hF => OpV_move rfl) rfl ?_
   refine lxE_v hS rfl rfl (fun w hF => OpV_un rfl (u_xor32 x_50)) rfl ?_
   obtain ⟨x_56, hx_56, h⟩ := obind_some h
   refine lxE_v hS rfl rfl (fun w hF => OpV_ixO Tryd.underlying56 sz55 rfl rfl (getO_bd hx_56 hL_45)) rfl ?_
   refine lxE_v hS rfl rfl (fun w hF => OpV_ldB Tryd.underlying55 rfl rfl (hF.bxg 3 rfl (Up.elr Up.last hx_56 rfl))) rfl ?_
   refine lxE_v hS rfl rfl (fun w hF => OpV_bin rfl rfl (b_and32 _ (~~~ x_50) x_56)) rfl ?_
   refine lxE_v hS rfl rfl (fun w hF => OpV_bin rfl rfl (b_xor32 _ (x_50 &&& x_55) ((~~~ x_50) &&& x_56))) rfl ?_
   refine lxE_v hS rfl rfl (fun w hF => OpV_bin rfl rfl (b_add32 _ (x_51 + ((x_52 ^^^ x_53) ^^^ x_54)) ((x_50 &&& x_55) ^^^ ((~~~ x_50) &&& x_56)))) rfl ?_
   refine lxE_v hS rfl rfl (fun w hF => OpV_move rfl) rfl ?_
   obtain ⟨x_57, hx_57, h⟩ := obind_some h
   refine lxE_v hS rfl rfl (fun w hF => OpV_ixO Tryd.underlying62 sz55 rfl rfl (getO_bd hx_57 (show F.tab_ref4_k256.length = 64 from rfl))) rfl ?_
   refine lxE_v hS rfl rfl (fun w hF => OpV_ldB Tryd.underlying55 rfl rfl (hT.ref4_k256.cell hF.fr hx_57 rfl)) rfl ?_
   refine lxE_v hS rfl rfl (fun w hF => OpV_bin rfl rfl (b_add32 _ ((x_51 + ((x_52 ^^^ x_53) ^^^ x_54)) + ((x_50 &&& x_55) ^^^ ((~~~ x_50) &&& x_56))) x_57)) rfl ?_
   refine lxE_v hS rfl rfl (fun w hF => OpV_move rfl) rfl ?_
   obtain ⟨x_58, hx_58, h⟩ := obind_some h
   refine lxE_v hS rfl rfl (fun w hF => OpV_ixO Tryd.underlying62 sz55 rfl rfl (getO_bd hx_58 hL_16)) rfl ?_
   refine lxE_v hS rfl rfl (fun w hF => OpV_ldB Tryd.underlying55 rfl rfl (hF.bxg 2 rfl (Up.elr Up.last hx_58 rfl))) rfl ?_
   refine lxE_v hS rfl rfl (fun w hF => OpV_bin rfl rfl (b_add32 _ (((x_51 + ((x_52 ^^^ x_53) ^^^ x_54)) + ((x_50 &&& x_55) ^^^ ((~~~ x_50) &&& x_56))) + x_57) x_58)) rfl ?_
   obtain ⟨x_59, hx_59, h⟩ := olet_some h
   refine lxE_v hS rfl rfl (fun w hF => OpV_assign (v := v32 x_59) (by rw [← hx_59]; rfl)) rfl ?_
   refine lxE_nil hS ?_
   refine QE_then_n (wpC_seq ?_)
   refine wpC_regionT (fun w' => St [] w0 w' [OE.bx b_1 (e32.fl x_7), own e8 v_4 x_3, OE.bx b_12 (e32.fl x_15), OE.bx b_41 (e32.fl x_44)]) (fun i => !([1, 3, 6].contains i)) hmix (fun _ _ _ hf => hf.2) (fun _ _ hf => hf) (by kernel_rfl) ?_
   have hS := hS.drew
   show lxE _ _ _ _ _ _ _ [0, 1, 2, 3, 4, 5, 6, 7, 8, 9, 10, 11, 12, 13, 14, 15, 16, 17, 18, 19, 20, 21, 22, 23, 24] _ _
   refine lxE_v hS rfl rfl (fun w hF => OpV_move rfl) rfl ?_
   obtain ⟨x_60, hx_60, h⟩ := obind_some h
   refine lxE_call hS rfl rfl (by kernel_rfl) rfl (c_ref4_turn32 _ x_49 2    _ hx_60) rfl ?_
   rintro _ w ⟨rfl, hS1⟩
   have hS := hS.call hS1
   simp only [List.cons_append, List.nil_append] at hS
   replace hS : St _ w0 w [OE.bx b_1 (e32.fl x_7), own e8 v_4 x_3, OE.bx b_12 (e32.fl x_15), OE.bx b_41 (e32.fl x_44)] := hS
   refine lxE_v hS rfl rfl (fun w hF => OpV_move rfl) rfl ?_
   obtain ⟨x_61, hx_61, h⟩ := obind_some h
   refine lxE_call hS rfl rfl (by kernel_rfl) rfl (c_ref4_turn32 _ x_49 13    _ hx_61) rfl ?_
   rintro _ w ⟨rfl, hS1⟩
   have hS := hS.call hS1
   simp only [List.cons_append, List.nil_append] at hS
   replace hS : St _ w0 w [OE.bx b_1 (e32.fl x_7), own e8 v_4 x_3, OE.bx b_12 (e32.fl x_15), OE.bx b_41 (e32.fl x_44)] := hS
   refine lxE_v hS rfl rfl (fun w hF => OpV_bin rfl rfl (b_xor32 _ x_60 x_61)) rfl ?_
   refine lxE_v hS rfl rfl (fun w hF => OpV_move rfl) rfl ?_
   obtain ⟨x_62, hx_62, h⟩ := obind_some h
   refine lxE_call hS rfl rfl (by kernel_rfl) rfl (c_ref4_turn32 _ x_49 22    _ hx_62) rfl ?_
   rintro _ w ⟨rfl, hS1⟩
   have hS := hS.call hS1
   simp only [List.cons_append, List.nil_append] at hS
   replace hS : St _ w0 w [OE.bx b_1 (e32.fl x_7), own e8 v_4 x_3, OE.bx b_12 (e32.fl x_15), OE.bx b_41 (e32.fl x_44)] := hS
   refine lxE_v hS rfl rfl (fun w hF => OpV_bin rfl rfl (b_xor32 _ (x_60 ^^^ x_61) x_62)) rfl ?_
   refine lxE_v hS rfl rfl (fun w hF => OpV_move rfl) rfl ?_
   obtain ⟨x_63, hx_63, h⟩ := obind_some h
   refine lxE_v hS rfl rfl (fun w hF => OpV_ixO Tryd.underlying56 sz55 rfl rfl (getO_bd hx_63 hL_45)) rfl ?_
   refine lxE_v hS rfl rfl (fun w hF => OpV_ldB Tryd.underlying55 rfl rfl (hF.bxg 3 rfl (Up.elr Up.last hx_63 rfl))) rfl ?_
   refine lxE_v hS rfl rfl (fun w hF => OpV_bin rfl rfl (b_and32 _ x_49 x_63)) rfl ?_
   refine lxE_v hS rfl rfl (fun w hF => OpV_move rfl) rfl ?_
   obtain ⟨x_64, hx_64, h⟩ := obind_some h
   refine lxE_v hS rfl rfl (fun w hF => OpV_ixO Tryd.underlying56 sz55 rfl rfl (getO_bd hx_64 hL_45)) rfl ?_
   refine lxE_v hS rfl rfl (fun w hF => OpV_ldB Tryd.underlying55 rfl rfl (hF.bxg 3 rfl (Up.elr Up.last hx_64 rfl))) rfl ?_
   refine lxE_v hS rfl rfl (fun w hF => OpV_bin rfl rfl (b_and32 _ x_49 x_64)) rfl ?_
   refine lxE_v hS rfl rfl (fun w hF => OpV_bin rfl rfl (b_xor32 _ (x_49 &&& x_63) (x_49 &&& x_64))) rfl ?_
   obtain ⟨x_65, hx_65, h⟩ := obind_some h
   refine lxE_v hS rfl rfl (fun w hF => OpV_ixO Tryd.underlying56 sz55 rfl rfl (getO_bd hx_65 hL_45)) rfl ?_
   refine lxE_v hS rfl rfl (fun w hF => OpV_ldB Tryd.underlying55 rfl rfl (hF.bxg 3 rfl (Up.elr Up.last hx_65 rfl))) rfl ?_
   obtain ⟨x_66, hx_66, h⟩ := obind_some h
   refine lxE_v hS rfl rfl (fun w hF => OpV_ixO Tryd.underlying56 sz55 rfl rfl (getO_bd hx_66 hL_45)) rfl ?_
   refine lxE_v hS rfl rfl (fun w hF => OpV_ldB Tryd.underlying55 rfl rfl (hF.bxg 3 rfl (Up.elr Up.last hx_66 rfl))) rfl ?_
   refine lxE_v hS rfl rfl (fun w hF => OpV_bin rfl rfl (b_and32 _ x_65 x_66)) rfl ?_
   refine lxE_v hS rfl rfl (fun w hF => OpV_bin rfl rfl (b_xor32 _ ((x_49 &&& x_63) ^^^ (x_49 &&& x_64)) (x_65 &&& x_66))) rfl ?_
   refine lxE_v hS rfl rfl (fun w hF => OpV_bin rfl rfl (b_add32 _ ((x_60 ^^^ x_61) ^^^ x_62) (((x_49 &&& x_63) ^^^ (x_49 &&& x_64)) ^^^ (x_65 &&& x_66)))) rfl ?_
   obtain ⟨x_67, hx_67, h⟩ := olet_some h
   refine lxE_v hS rfl rfl (fun w hF => OpV_assign (v := v32 x_67) (by rw [← hx_67]; rfl)) rfl ?_
   refine lxE_nil hS ?_
   refine QE_then_n (wpC_region (wpR_run 2 rfl ?_))
   refine wpR_v (OpV_bin rfl rfl (b_add32 _ x_59 x_67)) rfl ?_
   refine wpR_run 1 rfl ?_
   obtain ⟨x_68, hx_68, h⟩ := obind_some h
   refine wpR_v (OpV_ixO Tryd.underlying56 sz55 rfl rfl (getO_bd hx_68 hL_45)) rfl ?_
   refine wpR_v (OpV_ldB Tryd.underlying55 rfl rfl (hS.bxg 3 rfl (Up.elr Up.last hx_68 rfl))) rfl ?_
   obtain ⟨x_69, hx_69, h⟩ := obind_some h
   refine wpR_v (OpV_ixO Tryd.underlying56 sz55 rfl rfl (getO_bd hx_69 hL_45)) rfl ?_
   refine wpR_v (OpV_ldB Tryd.underlying55 rfl rfl (hS.bxg 3 rfl (Up.elr Up.last hx_69 rfl))) rfl ?_
   obtain ⟨x_70, hx_70, h⟩ := obind_some h
   refine wpR_v (OpV_ixO Tryd.underlying56 sz55 rfl rfl (getO_bd hx_70 hL_45)) rfl ?_
   refine wpR_v (OpV_ldB Tryd.underlying55 rfl rfl (hS.bxg 3 rfl (Up.elr Up.last hx_70 rfl))) rfl ?_
   refine wpR_run 1 rfl ?_
   refine wpR_v (OpV_bin rfl rfl (b_add32 _ x_70 x_59)) rfl ?_
   refine wpR_run 1 rfl ?_
   obtain ⟨x_71, hx_71, h⟩ := obind_some h
   refine wpR_v (OpV_ixO Tryd.underlying56 sz55 rfl rfl (getO_bd hx_71 hL_45)) rfl ?_
   refine wpR_v (OpV_ldB Tryd.underlying55 rfl rfl (hS.bxg 3 rfl (Up.elr Up.last hx_71 rfl))) rfl ?_
   obtain ⟨x_72, hx_72, h⟩ := obind_some h
   refine wpR_v (OpV_ixO Tryd.underlying56 sz55 rfl rfl (getO_bd hx_72 hL_45)) rfl ?_
   refine wpR_v (OpV_ldB Tryd.underlying55 rfl rfl (hS.bxg 3 rfl (Up.elr Up.last hx_72 rfl))) rfl ?_
   refine wpR_v (OpV_build (vs := [(0, v32 (x_59 + x_67), [v32 (x_59 + x_67)]), (1, v32 x_49, [v32 x_49]), (2, v32 x_68, [v32 x_68]), (3, v32 x_69, [v32 x_69]), (4, v32 (x_70 + x_59), [v32 (x_70 + x_59)]), (5, v32 x_50, [v32 x_50]), (6, v32 x_71, [v32 x_71]), (7, v32 x_72, [v32 x_72])]) (cells := [v32 (x_59 + x_67), v32 x_49, v32 x_68, v32 x_69, v32 (x_70 + x_59), v32 x_50, v32 x_71, v32 x_72]) rfl lay56 ⟨rfl, rfl, rfl, rfl, rfl, rfl, rfl, rfl, trivial⟩ (by kernel_rfl)) rfl ?_
   refine wpR_y (OpY_stU (m := 8) (xs := e32.fl x_44) (xs' := e32.fl ([x_59 + x_67, x_49, x_68, x_69, x_70 + x_59, x_50, x_71, x_72] : List UInt32)) (i := 3) rfl sz56 rfl rfl rfl Up.last (fl_len1 hL_45 rfl) (fl_len1 rfl rfl) one_fl hS) ?_
   intro w hS
   replace hS : St _ w0 w [OE.bx b_1 (e32.fl x_7), own e8 v_4 x_3, OE.bx b_12 (e32.fl x_15), OE.bx b_41 (e32.fl ([x_59 + x_67, x_49, x_68, x_69, x_70 + x_59, x_50, x_71, x_72] : List UInt32))] := hS
   refine wpR_nil (QE_blk_n ?_)
   refine QE_then_n (wpC_region (wpR_run 3 rfl ?_))
   refine wpR_nil ?_
   exact QE_rnd (wpN_le _ (by exact ⟨rfl, rfl, rfl, rfl, rfl, rfl, trivial⟩) (ih_47 (wI (x_43 + 1), ([x_59 + x_67, x_49, x_68, x_69, x_70 + x_59, x_50, x_71, x_72] : List UInt32)) _ _ ⟨rfl, rfl, hS⟩ (oinl_some h hk_46)))
  have h := if_f h hb_85
  refine wpC_exit ?_
  refine QE_then_x (QE_then_x ?_)
  have h := oinr_some h hk_46
  refine QE_blk_x ?_
  refine QE_then_n (wpC_seq (wpC_region (wpR_run 1 rfl ?_)))
  refine wpR_nil (QE_then_n (wpC_block ?_))
  refine wpC_le [(3, pB b_1 0), (4, v_4), (5, vI x_6), (11, pB b_41 0), (17, vI 0)] ⟨rfl, rfl, rfl, rfl, rfl, trivial⟩ ?_
  refine loop_ind (F.ref4_short_L4 x_6 x_44) (fun (s : Int × List UInt32) L w => L = [(3, pB b_1 0), (4, v_4), (5, vI x_6), (11, pB b_41 0), (17, vI s.1)] ∧ s.2.length = 8 ∧ St [] w0 w [OE.bx b_1 (e32.fl s.2), own e8 v_4 x_3, OE.bx b_41 (e32.fl x_44)]) ?_ (0, x_7) ⟨rfl, hL_8, (hS.pick [0, 1, 3] (by decide) rfl)⟩ h
  rintro k_84 ⟨x_73, x_74⟩ L w q_78 hI ih_77 h hk_76
  try dsimp only at hI
  obtain ⟨rfl, hL_75, hS⟩ := hI
  unfold F.ref4_short_L4 at h
  refine wpC_seq (wpC_seq (wpC_region (wpR_run 2 rfl ?_)))
  refine wpR_nil (QE_then_n ?_)
  refine wpC_cond rfl (fun hb_83 => ?_) (fun hb_83 => ?_)
  ·have h := if_t h hb_83
   refine wpC_skip (QE_then_n (wpC_seq (wpC_block ?_)))
   refine wpC_regionS (fun w' => St [] w0 w' [OE.bx b_1 (e32.fl x_74), own e8 v_4 x_3, OE.bx b_41 (e32.fl x_44)]) (fun i => !([9].contains i)) hmix (fun _ _ _ hf => hf.2) (fun _ _ hf => hf) (by kernel_rfl) ?_
   have hS := hS.drew
   show lxE _ _ _ _ _ _ _ [0, 1, 2, 3, 4, 5, 6, 7, 8, 9] _ _
   refine lxE_v hS rfl rfl (fun w hF => OpV_move rfl) rfl ?_
   refine lxE_v hS rfl rfl (fun w hF => OpV_move rfl) rfl ?_
   obtain ⟨x_79, hx_79, h⟩ := obind_some h
   refine lxE_v hS rfl rfl (fun w hF => OpV_ixO Tryd.underlying56 sz55 rfl rfl (getO_bd hx_79 hL_75)) rfl ?_
   refine lxE_v hS rfl rfl (fun w hF => OpV_ldB Tryd.underlying55 rfl rfl (hF.bxg 0 rfl (Up.elr Up.last hx_79 rfl))) rfl ?_
   refine lxE_v hS rfl rfl (fun w hF => OpV_move rfl) rfl ?_
   obtain ⟨x_80, hx_80, h⟩ := obind_some h
   refine lxE_v hS rfl rfl (fun w hF => OpV_ixO Tryd.underlying56 sz55 rfl rfl (getO_bd hx_80 hL_45)) rfl ?_
   refine lxE_v hS rfl rfl (fun w hF => OpV_ldB Tryd.underlying55 rfl rfl (hF.bxg 2 rfl (Up.elr Up.last hx_80 rfl))) rfl ?_
   refine lxE_v hS rfl rfl (fun w hF => OpV_bin rfl rfl (b_add32 _ x_79 x_80)) rfl ?_
   obtain ⟨x_81, hx_81, h⟩ := obind_some h
   refine lxE_v hS rfl rfl (fun w hF => OpV_ixO Tryd.underlying56 sz55 rfl rfl (getO_bd hx_81 hL_75)) rfl ?_
   refine lxE_y hS rfl rfl (OpY_stU (m := 1) rfl sz55 rfl rfl rfl (Up.elt (t' := (x_79 + x_80)) Up.last hx_81 rfl rfl) rfl rfl (one_one rfl) hS (i := 0)) ?_
   intro w hS
   replace hS : St _ w0 w [OE.bx b_1 (e32.fl (x_74.set (x_73 : Int).toNat (x_79 + x_80))), own e8 v_4 x_3, OE.bx b_41 (e32.fl x_44)] := hS
   obtain ⟨x_82, hx_82, h⟩ := olet_some h
   rw [hx_82] at hS
   refine lxE_nil trivial ?_
   refine QE_blk_n ?_
   refine QE_then_n (wpC_region (wpR_run 3 rfl ?_))
   refine wpR_nil ?_
   exact QE_rnd (wpN_le _ (by exact ⟨rfl, rfl, rfl, rfl, rfl, trivial⟩) (ih_77 (wI (x_73 + 1), x_82) _ _ ⟨rfl, (by rw [← hx_82, List.length_set]; exact hL_75), hS⟩ (oinl_some h hk_76)))
  have h := if_f h hb_83
  refine wpC_exit ?_
  refine QE_then_x (QE_then_x ?_)
  have h := oinr_some h hk_76
  refine QE_blk_x ?_
  refine QE_blk_n ?_
  refine QE_then_n (wpC_region (wpR_run 3 rfl ?_))
  refine wpR_nil ?_
  exact QE_rnd (wpN_le _ (by exact ⟨rfl, rfl, rfl, trivial⟩) (ih_10 (wI (x_6 + 64), x_74) _ _ ⟨rfl, hL_75, (hS.pick [0, 1] (by decide) rfl)⟩ (oinl_some h hk_9)))
 have h := if_f h hb_107
 refine wpC_exit ?_
 refine QE_then_x (QE_then_x ?_)
 have h := oinr_some h hk_9
 refine QE_blk_x ?_
 refine QE_then_n (wpC_seq (wpC_region (wpR_run 1 rfl ?_)))
 refine wpR_nil (QE_then_n (wpC_seq (wpC_seq (wpC_region (wpR_run 1 rfl ?_)))))
 refine wpR_nil (QE_then_n (wpC_block ?_))
 refine wpC_le [(3, pB b_1 0), (18, .slice none 0 0), (19, vI 0)] ⟨rfl, rfl, rfl, trivial⟩ ?_
 refine loop_ind (F.ref4_short_L5 x_7) (fun (s : List UInt8 × Int) L w => ∃ (v_90 : Value), L = [(3, pB b_1 0), (18, v_90), (19, vI s.2)] ∧ St [] w0 w [own e8 v_90 s.1, OE.bx b_1 (e32.fl x_7)]) ?_ ([], 0) ⟨.slice none 0 0, rfl, ((hS.nil e8).pick [0, 1] (by decide) rfl)⟩ h
 rintro k_106 ⟨x_89, x_92⟩ L w q_95 hI ih_94 h hk_93
 try dsimp only at hI
 obtain ⟨v_90, rfl, hS⟩ := hI
 unfold F.ref4_short_L5 at h
 refine wpC_seq (wpC_seq (wpC_region (wpR_run 2 rfl ?_)))
 refine wpR_nil (QE_then_n ?_)
 refine wpC_cond rfl (fun hb_105 => ?_) (fun hb_105 => ?_)
 ·have h := if_t h hb_105
  refine wpC_skip (QE_then_n (wpC_seq (wpC_block ?_)))
  have hsh0 := (hS.ro 0 rfl).shp
  refine wpC_regionT (fun w' => St [] w0 w' [OE.bx b_1 (e32.fl x_7)]) (fun i => !([23, 24].contains i)) hmix (fun _ _ _ hf => hf.2) (fun _ _ hf => hf) (by kernel_rfl) ?_
  have hS := hS.drew
  show lxE _ _ _ _ _ _ _ [0, 1, 2, 3, 4, 5, 6, 7, 8, 9, 10, 11, 12, 13, 14, 15, 16, 17, 18, 19, 20, 21, 22, 23, 24, 25] _ _
  refine lxE_v (hS.pick [1] (by decide) rfl) rfl rfl (fun w hF => OpV_move rfl) rfl ?_
  refine lxE_v (hS.pick [1] (by decide) rfl) rfl rfl (fun w hF => OpV_move rfl) rfl ?_
  obtain ⟨x_96, hx_96, h⟩ := obind_some h
  refine lxE_v (hS.pick [1] (by decide) rfl) rfl rfl (fun w hF => OpV_ixO Tryd.underlying56 sz55 rfl rfl (getO_bd hx_96 hL_8)) rfl ?_
  refine lxE_v (hS.pick [1] (by decide) rfl) rfl rfl (fun w hF => OpV_ldB Tryd.underlying55 rfl rfl (hF.bxg 0 rfl (Up.elr Up.last hx_96 rfl))) rfl ?_
  refine lxE_v (hS.pick [1] (by decide) rfl) rfl rfl (fun w hF => OpV_bin rfl rfl (b_shr32_64 _ x_96 24)) rfl ?_
  refine lxE_v (hS.pick [1] (by decide) rfl) rfl rfl (fun w hF => OpV_conv rfl (cv_32_8 Tryd.underlying55 Tryd.underlying5 (shr32 x_96 24))) rfl ?_
  refine lxE_v (hS.pick [1] (by decide) rfl) rfl rfl (fun w hF => OpV_move rfl) rfl ?_
  obtain ⟨x_97, hx_97, h⟩ := obind_some h
  refine lxE_v (hS.pick [1] (by decide) rfl) rfl rfl (fun w hF => OpV_ixO Tryd.underlying56 sz55 rfl rfl (getO_bd hx_97 hL_8)) rfl ?_
  refine lxE_v (hS.pick [1] (by decide) rfl) rfl rfl (fun w hF => OpV_ldB Tryd.underlying55 rfl rfl (hF.bxg 0 rfl (Up.elr Up.last hx_97 rfl))) rfl ?_
  refine lxE_v (hS.pick [1] (by decide) rfl) rfl rfl (fun w hF => OpV_bin rfl rfl (b_shr32_64 _ x_97 16)) rfl ?_
  refine lxE_v (hS.pick [1] (by decide) rfl) rfl rfl (fun w hF => OpV_bin rfl rfl (b_and32 _ (shr32 x_97 16) 255)) rfl ?_
  refine lxE_v (hS.pick [1] (by decide) rfl) rfl rfl (fun w hF => OpV_conv rfl (cv_32_8 Tryd.underlying55 Tryd.underlying5 ((shr32 x_97 16) &&& 255))) rfl ?_
  refine lxE_v (hS.pick [1] (by decide) rfl) rfl rfl (fun w hF => OpV_move rfl) rfl ?_
  obtain ⟨x_98, hx_98, h⟩ := obind_some h
  refine lxE_v (hS.pick [1] (by decide) rfl) rfl rfl (fun w hF => OpV_ixO Tryd.underlying56 sz55 rfl rfl (getO_bd hx_98 hL_8)) rfl ?_
  refine lxE_v (hS.pick [1] (by decide) rfl) rfl rfl (fun w hF => OpV_ldB Tryd.underlying55 rfl rfl (hF.bxg 0 rfl (Up.elr Up.last hx_98 rfl))) rfl ?_
  refine lxE_v (hS.pick [1] (by decide) rfl) rfl rfl (fun w hF => OpV_bin rfl rfl (b_shr32_64 _ x_98 8)) rfl ?_
  refine lxE_v (hS.pick [1] (by decide) rfl) rfl rfl (fun w hF => OpV_bin rfl rfl (b_and32 _ (shr32 x_98 8) 255)) rfl ?_
  refine lxE_v (hS.pick [1] (by decide) rfl) rfl rfl (fun w hF => OpV_conv rfl (cv_32_8 Tryd.underlying55 Tryd.underlying5 ((shr32 x_98 8) &&& 255))) rfl ?_
  refine lxE_v (hS.pick [1] (by decide) rfl) rfl rfl (fun w hF => OpV_move rfl) rfl ?_
  obtain ⟨x_99, hx_99, h⟩ := obind_some h
  refine lxE_v (hS.pick [1] (by decide) rfl) rfl rfl (fun w hF => OpV_ixO Tryd.underlying56 sz55 rfl rfl (getO_bd hx_99 hL_8)) rfl ?_
  refine lxE_v (hS.pick [1] (by decide) rfl) rfl rfl (fun w hF => OpV_ldB Tryd.underlying55 rfl rfl (hF.bxg 0 rfl (Up.elr Up.last hx_99 rfl))) rfl ?_
  refine lxE_v (hS.pick [1] (by decide) rfl) rfl rfl (fun w hF => OpV_bin rfl rfl (b_and32 _ x_99 255)) rfl ?_
  refine lxE_v (hS.pick [1] (by decide) rfl) rfl rfl (fun w hF => OpV_conv rfl (cv_32_8 Tryd.underlying55 Tryd.underlying5 (x_99 &&& 255))) rfl ?_
  refine lxE_x (hS.pick [1] (by decide) rfl) rfl rfl (OpX_lit (e := e8) (l := [(shr32 x_96 24).toUInt8, ((shr32 x_97 16) &&& 255).toUInt8, ((shr32 x_98 8) &&& 255).toUInt8, (x_99 &&& 255).toUInt8]) (vs := [v8 ((shr32 x_96 24).toUInt8), v8 (((shr32 x_97 16) &&& 255).toUInt8), v8 (((shr32 x_98 8) &&& 255).toUInt8), v8 ((x_99 &&& 255).toUInt8)]) Tryd.underlying23 ti5 rfl rfl rfl rfl (by decide) (by decide) hS) rfl ?_
  rintro v_100 w hS
  obtain ⟨x_102, hx_102, h⟩ := obind_some h
  refine lxE_x (hS.pick [2] (by decide) rfl) rfl rfl (G_append Tryd.underlying23 ti5 rfl rfl rfl hS (i := 1) rfl (hS.ro 0 rfl) hx_102) rfl ?_
  rintro v_103 w hS
  refine lxE_v (hS.pick [2] (by decide) rfl) rfl rfl (fun w hF => OpV_assign rfl) rfl ?_
  refine lxE_nil (hS.pick [2] (by decide) rfl) ?_
  refine QE_blk_n ?_
  refine QE_then_n (wpC_region (wpR_run 3 rfl ?_))
  refine wpR_nil ?_
  exact QE_rnd (wpN_le _ (by exact ⟨rfl, rfl, rfl, trivial⟩) (ih_94 (x_102, wI (x_92 + 1)) _ _ ⟨v_103, rfl, (hS.pick [1, 2] (by decide) rfl)⟩ (oinl_some h hk_93)))
 have h := if_f h hb_105
 refine wpC_exit ?_
 refine QE_then_x (QE_then_x ?_)
 have h := oinr_some h hk_93
 refine QE_blk_x ?_
 refine QE_then_n (wpC_seq (wpC_region (wpR_run 2 rfl ?_)))
 refine wpR_nil (QE_then_n (wpC_ret ?_))
 cases h
 exact QE_ret1 rfl rfl (hS.pick [0] (by decide) rfl)
theorem c_ref4_turn64 (w0 : World) (a0 : UInt64) (a1 : Int)   (r : UInt64)
  (h : F.ref4_turn64 a0 a1 = some r) : Calls Tryd.prog 31 #[v64 a0, vI a1] w0 (Ret fun v w => v = v64 r ∧ St [] w0 w []) := by
 refine calls_at 15 Tryd.func31 rfl rfl rfl ?_
 have hS := St.start w0
 refine wpC_le [(0, v64 a0), (1, vI a1)] ⟨rfl, rfl, trivial⟩ ?_
 unfold F.ref4_turn64 at h
 refine wpC_seq (wpC_region (wpR_run 1 rfl ?_))
 refine wpR_nil (QE_then_n (wpC_seq (wpC_region (wpR_run 2 rfl ?_))))
 refine wpR_v (OpV_conv rfl (cv_i_64 Tryd.underlying3 Tryd.underlying60 a1)) rfl ?_
 refine wpR_v (OpV_bin rfl rfl (b_shr64_64 _ a0 (UInt64.ofInt a1))) rfl ?_
 refine wpR_run 3 rfl ?_
 refine wpR_v (OpV_conv rfl (cv_i_64 Tryd.underlying3 Tryd.underlying60 (wI (64 - a1)))) rfl ?_
 refine wpR_v (OpV_bin rfl rfl (b_shl64_64 _ a0 (UInt64.ofInt (wI (64 - a1))))) rfl ?_
 refine wpR_v (OpV_bin rfl rfl (b_or64 _ (shr64 a0 ((UInt64.ofInt a1).toNat)) (shl64 a0 ((UInt64.ofInt (wI (64 - a1))).toNat)))) rfl ?_
 refine wpR_run 1 rfl ?_
 refine wpR_nil (QE_then_n (wpC_ret ?_))
 cases h
 exact QE_ret1 rfl rfl ⟨rfl, hS⟩
set_option maxHeartbeats 8000000 in
theorem c_ref4_long (w0 : World) (a0 : List UInt8) (a1_0 : List UInt64) (va0 : Value) (hT : TB [] w0) (ha0 : RP [] w0 e8 va0 a0) (ha1_0 : a1_0.length = 8) (r : List UInt8)
  (h : F.ref4_long a0 a1_0 = some r) : Calls Tryd.prog 27 #[va0, .agg (e64.fl a1_0).toArray] w0 (Ret fun v w => St [] w0 w [own e8 v r]) := by
 refine calls_at 242 Tryd.func27 rfl rfl rfl ?_
 have hS := St.start w0
 refine wpC_le [(0, va0), (1, .agg (e64.fl a1_0).toArray)] ⟨rfl, rfl, trivial⟩ ?_
 unfold F.ref4_long at h
 refine wpC_seq (wpC_region (wpR_x (OpX_box (cs := e64.fl a1_0) rfl rfl hS) rfl ?_))
 rintro _ w ⟨b_1, rfl, hS⟩
 refine wpR_run 1 rfl ?_
 refine wpR_nil (QE_then_n (wpC_seq (wpC_region (wpR_run 1 rfl ?_))))
 obtain ⟨x_3, hx_3, h⟩ := obind_some h
 refine wpR_call (by kernel_rfl) rfl (c_ref4_filled _ a0 128 va0  (ha0.now hS.fr).rp _ hx_3) rfl ?_
 rintro v_4 w hS1
 have hS := hS.call hS1
 simp only [List.cons_append, List.nil_append] at hS
 replace hS : St _ w0 w [own e8 v_4 x_3, OE.bx b_1 (e64.fl a1_0)] := hS
 refine wpR_run 1 rfl ?_
 refine wpR_nil (QE_then_n ?_)
 refine seq_join (r := r) (fun (g : List UInt8) L w => ∃ (v_33 : Value), L = [(3, pB b_1 0), (5, v_33)] ∧ St [] w0 w [own e8 v_33 g, OE.bx b_1 (e64.fl a1_0)]) (F.ref4_long_K1 a1_0) ?_ ?_
 rotate_left
 ·intro hK_35
  refine seq_join (r := r) (fun (g : Bool) L w => L = [(3, pB b_1 0), (5, v_4), (35, vB g)] ∧ St [] w0 w [OE.bx b_1 (e64.fl a1_0), own e8 v_4 x_3]) (F.ref4_long_K3 x_3 a1_0) ?_ ?_
  rotate_left
  ·intro hK_8
   refine wpC_region (wpR_run 1 rfl ?_)
   refine wpR_v (OpV_len Tryd.underlying23 rfl (ha0.now hS.fr)) rfl ?_
   refine wpR_v (OpV_bin rfl rfl (b_irem _ (a0.length : Int) 128 (by decide))) rfl ?_
   refine wpR_run 2 rfl ?_
   cases hb_6 : (decide ((112 : Int) ≤ (Int.tmod (a0.length : Int) 128)))
   case true =>
    have h := if_t h hb_6
    try simp only [hb_6]
    refine wpR_run 1 rfl ?_
    refine wpR_gv (t := 30) rfl rfl (OpV_len Tryd.underlying23 rfl (ha0.now hS.fr)) rfl ?_
    refine wpR_gv (t := 30) rfl rfl (OpV_bin rfl rfl (b_irem _ (a0.length : Int) 128 (by decide))) rfl ?_
    refine wpR_run 2 rfl ?_
    refine wpR_nil (QE_then_n ?_)
    exact wpC_le _ (by exact ⟨rfl, rfl, rfl, trivial⟩) (hK_8 (decide ((Int.tmod (a0.length : Int) 128) < 120)) _ _ ⟨rfl, (hS.pick [1, 0] (by decide) rfl)⟩ h)
   case false =>
    have h := if_f h hb_6
    try simp only [hb_6]
    refine wpR_run 5 rfl ?_
    refine wpR_nil (QE_then_n ?_)
    exact wpC_le _ (by exact ⟨rfl, rfl, rfl, trivial⟩) (hK_8 false _ _ ⟨rfl, (hS.pick [1, 0] (by decide) rfl)⟩ h)
  rintro x_7 L w hJ h
  try dsimp only at hJ
  obtain ⟨rfl, hS⟩ := hJ
  unfold F.ref4_long_K3 at h
  refine wpC_cond rfl (fun hb_31 => ?_) (fun hb_31 => ?_)
  ·have h := if_t h hb_31
   refine wpC_seq (wpC_region (wpR_run 1 rfl ?_))
   refine wpR_nil (QE_then_n (wpC_seq (wpC_region (wpR_run 3 rfl ?_))))
   refine wpR_v (OpV_len Tryd.underlying23 rfl (hS.ro 1 rfl)) rfl ?_
   refine wpR_run 1 rfl ?_
   obtain ⟨hg_9, h⟩ := grd_some h
   refine wpR_v (G_slh Tryd.underlying23 ti5 rfl rfl (hS.ro 1 rfl) (tkO_of hg_9)) rfl ?_
   obtain ⟨x_10, hx_10, h⟩ := obind_some h
   refine wpR_x (G_append0 Tryd.underlying23 ti5 rfl rfl rfl hS ((hS.ro 1 rfl).tk hg_9.2) hx_10) rfl ?_
   rintro v_11 w hS
   refine wpR_run 1 rfl ?_
   refine wpR_nil (QE_then_n (wpC_seq (wpC_seq (wpC_region (wpR_run 1 rfl ?_)))))
   refine wpR_nil (QE_then_n (wpC_block ?_))
   refine wpC_le [(3, pB b_1 0), (5, v_4), (6, v_11), (7, vI 0)] ⟨rfl, rfl, rfl, rfl, trivial⟩ ?_
   refine loop_ind (F.ref4_long_L8 x_3 a1_0) (fun (s : List UInt8 × Int) L w => ∃ (v_14 : Value), L = [(3, pB b_1 0), (5, v_4), (6, v_14), (7, vI s.2)] ∧ St [] w0 w [own e8 v_14 s.1, OE.bx b_1 (e64.fl a1_0), own e8 v_4 x_3]) ?_ (x_10, 0) ⟨v_11, rfl, hS⟩ h
   rintro k_30 ⟨x_13, x_16⟩ L w q_19 hI ih_18 h hk_17
   try dsimp only at hI
   obtain ⟨v_14, rfl, hS⟩ := hI
   unfold F.ref4_long_L8 at h
   refine wpC_seq (wpC_seq (wpC_region (wpR_run 2 rfl ?_)))
   refine wpR_nil (QE_then_n ?_)
   refine wpC_cond rfl (fun hb_29 => ?_) (fun hb_29 => ?_)
   ·have h := if_t h hb_29
    refine wpC_skip (QE_then_n (wpC_seq (wpC_block ?_)))
    refine wpC_region (wpR_run 1 rfl ?_)
    refine wpR_x (OpX_lit (e := e8) (l := [0]) (vs := [v8 0]) Tryd.underlying23 ti5 rfl rfl rfl rfl (by decide) (by decide) hS) rfl ?_
    rintro v_20 w hS
    obtain ⟨x_22, hx_22, h⟩ := obind_some h
    refine wpR_x (G_append Tryd.underlying23 ti5 rfl rfl rfl hS (i := 1) rfl (hS.ro 0 rfl) hx_22) rfl ?_
    rintro v_23 w hS
    refine wpR_run 1 rfl ?_
    refine wpR_nil (QE_blk_n ?_)
    refine QE_then_n (wpC_region (wpR_run 3 rfl ?_))
    refine wpR_nil ?_
    exact QE_rnd (wpN_le _ (by exact ⟨rfl, rfl, rfl, rfl, trivial⟩) (ih_18 (x_22, wI (x_16 + 1)) _ _ ⟨v_23, rfl, (hS.pick [1, 2, 3] (by decide) rfl)⟩ (oinl_some h hk_17)))
   have h := if_f h hb_29
   refine wpC_exit ?_
   refine QE_then_x (QE_then_x ?_)
   have h := oinr_some h hk_17
   refine QE_blk_x ?_
   refine QE_then_n (wpC_region (wpR_run 3 rfl ?_))
   refine wpR_v (OpV_len Tryd.underlying23 rfl (hS.ro 2 rfl)) rfl ?_
   refine wpR_run 1 rfl ?_
   obtain ⟨x_25, hx_25, h⟩ := obind_some h
   refine wpR_v (G_sll Tryd.underlying23 ti5 rfl rfl (hS.ro 2 rfl) hx_25) rfl ?_
   obtain ⟨x_26, hx_26, h⟩ := obind_some h
   refine wpR_x (G_append Tryd.underlying23 ti5 rfl rfl rfl hS (i := 0) rfl ((hS.ro 2 rfl).g_sll hx_25) hx_26) rfl ?_
   rintro v_27 w hS
   refine wpR_run 1 rfl ?_
   refine wpR_nil (QE_then_n ?_)
   exact wpC_le _ (by exact ⟨rfl, rfl, trivial⟩) (hK_35 x_26 _ _ ⟨v_27, rfl, (hS.pick [0, 1] (by decide) rfl)⟩ h)
  have h := if_f h hb_31
  refine wpC_skip (QE_then_n ?_)
  exact wpC_le _ (by exact ⟨rfl, rfl, trivial⟩) (hK_35 x_3 _ _ ⟨v_4, rfl, (hS.pick [1, 0] (by decide) rfl)⟩ h)
 rintro x_32 L w hJ h
 try dsimp only at hJ
 obtain ⟨v_33, rfl, hS⟩ := hJ
 unfold F.ref4_long_K1 at h
 refine wpC_seq (wpC_seq (wpC_region (wpR_run 1 rfl ?_)))
 refine wpR_nil (QE_then_n (wpC_block ?_))
 refine wpC_le [(3, pB b_1 0), (5, v_33), (8, vI 0)] ⟨rfl, rfl, rfl, trivial⟩ ?_
 refine loop_ind (F.ref4_long_L1 x_32) (fun (s : Int × List UInt64) L w => L = [(3, pB b_1 0), (5, v_33), (8, vI s.1)] ∧ s.2.length = 8 ∧ St [] w0 w [OE.bx b_1 (e64.fl s.2), own e8 v_33 x_32]) ?_ (0, a1_0) ⟨rfl, ha1_0, (hS.pick [1, 0] (by decide) rfl)⟩ h
 rintro k_149 ⟨x_36, x_37⟩ L w q_41 hI ih_40 h hk_39
 try dsimp only at hI
 obtain ⟨rfl, hL_38, hS⟩ := hI
 unfold F.ref4_long_L1 at h
 refine wpC_seq (wpC_seq (wpC_region (wpR_run 2 rfl ?_)))
 refine wpR_v (OpV_len Tryd.underlying23 rfl (hS.ro 1 rfl)) rfl ?_
 refine wpR_run 1 rfl ?_
 refine wpR_nil (QE_then_n ?_)
 refine wpC_cond rfl (fun hb_148 => ?_) (fun hb_148 => ?_)
 ·have h := if_t h hb_148
  refine wpC_skip (QE_then_n (wpC_seq (wpC_block ?_)))
  refine wpC_seq (wpC_region ?_)
  refine wpR_x (OpX_alloc (cs := e64.fl (List.replicate 80 0)) tz64 (by kernel_rfl) hS) rfl ?_
  rintro _ w ⟨b_42, rfl, hS⟩
  refine wpR_nil (QE_then_n (wpC_seq (wpC_seq (wpC_region (wpR_run 1 rfl ?_)))))
  refine wpR_nil (QE_then_n (wpC_block ?_))
  refine wpC_le [(3, pB b_1 0), (5, v_33), (8, vI x_36), (9, pB b_42 0), (10, vI 0)] ⟨rfl, rfl, rfl, rfl, rfl, trivial⟩ ?_
  refine loop_ind (F.ref4_long_L2 x_37 x_32 x_36) (fun (s : Int × List UInt64) L w => L = [(3, pB b_1 0), (5, v_33), (8, vI x_36), (9, pB b_42 0), (10, vI s.1)] ∧ s.2.length = 80 ∧ St [] w0 w [OE.bx b_1 (e64.fl x_37), own e8 v_33 x_32, OE.bx b_42 (e64.fl s.2)]) ?_ (0, (List.replicate 80 0)) ⟨rfl, List.length_replicate, (hS.pick [1, 2, 0] (by decide) rfl)⟩ h
  rintro k_123 ⟨x_44, x_45⟩ L w q_49 hI ih_48 h hk_47
  try dsimp only at hI
  obtain ⟨rfl, hL_46, hS⟩ := hI
  unfold F.ref4_long_L2 at h
  refine wpC_seq (wpC_seq (wpC_region (wpR_run 2 rfl ?_)))
  refine wpR_nil (QE_then_n ?_)
  refine wpC_cond rfl (fun hb_122 => ?_) (fun hb_122 => ?_)
  ·have h := if_t h hb_122
   refine wpC_skip (QE_then_n ?_)
   refine seq_join (r := q_49) (fun (g : List UInt64) L w => L = [(3, pB b_1 0), (5, v_33), (8, vI x_36), (9, pB b_42 0), (10, vI x_44)] ∧ g.length = 80 ∧ St [] w0 w [OE.bx b_1 (e64.fl x_37), own e8 v_33 x_32, OE.bx b_42 (e64.fl g)]) (F.ref4_long_K2 x_44) ?_ ?_
   rotate_left
   ·intro hK_75
    refine wpC_block ?_
    refine wpC_seq (wpC_seq (wpC_region (wpR_run 2 rfl ?_)))
    refine wpR_nil (QE_then_n ?_)
    refine wpC_cond rfl (fun hb_72 => ?_) (fun hb_72 => ?_)
    ·have h := if_t h hb_72
     refine wpC_seq (wpC_seq (wpC_region (wpR_run 1 rfl ?_)))
     refine wpR_nil (QE_then_n (wpC_block ?_))
     refine wpC_le [(3, pB b_1 0), (5, v_33), (8, vI x_36), (9, pB b_42 0), (10, vI x_44), (11, vI 0)] ⟨rfl, rfl, rfl, rfl, rfl, rfl, trivial⟩ ?_
     refine loop_ind (F.ref4_long_L3 x_32 x_36 x_44) (fun (s : Int × List UInt64) L w => L = [(3, pB b_1 0), (5, v_33), (8, vI x_36), (9, pB b_42 0), (10, vI x_44), (11, vI s.1)] ∧ s.2.length = 80 ∧ St [] w0 w [OE.bx b_1 (e64.fl x_37), own e8 v_33 x_32, OE.bx b_42 (e64.fl s.2)]) ?_ (0, x_45) ⟨rfl, hL_46, hS⟩ h
     rintro k_61 ⟨x_50, x_51⟩ L w q_55 hI ih_54 h hk_53
     try dsimp only at hI
     obtain ⟨rfl, hL_52, hS⟩ := hI
     unfold F.ref4_long_L3 at h
     refine wpC_seq (wpC_seq (wpC_region (wpR_run 2 rfl ?_)))
     refine wpR_nil (QE_then_n ?_)
     refine wpC_cond rfl (fun hb_60 => ?_) (fun hb_60 => ?_)
     ·have h := if_t h hb_60
      refine wpC_skip (QE_then_n (wpC_seq (wpC_block ?_)))
      refine wpC_regionS (fun w' => St [] w0 w' [OE.bx b_1 (e64.fl x_37), own e8 v_33 x_32, OE.bx b_42 (e64.fl x_51)]) (fun i => !([17].contains i)) hmix (fun _ _ _ hf => hf.2) (fun _ _ hf => hf) (by kernel_rfl) ?_
      have hS := hS.drew
      show lxE _ _ _ _ _ _ _ [0, 1, 2, 3, 4, 5, 6, 7, 8, 9, 10, 11, 12, 13, 14, 15, 16, 17] _ _
      refine lxE_v hS rfl rfl (fun w hF => OpV_move rfl) rfl ?_
      refine lxE_v hS rfl rfl (fun w hF => OpV_move rfl) rfl ?_
      obtain ⟨x_56, hx_56, h⟩ := obind_some h
      refine lxE_v hS rfl rfl (fun w hF => OpV_ixO Tryd.underlying64 sz53 rfl rfl (getO_bd hx_56 hL_52)) rfl ?_
      refine lxE_v hS rfl rfl (fun w hF => OpV_ldB Tryd.underlying53 rfl rfl (hF.bxg 2 rfl (Up.elr Up.last hx_56 rfl))) rfl ?_
      refine lxE_v hS rfl rfl (fun w hF => OpV_bin rfl rfl (b_shl64_64 _ x_56 8)) rfl ?_
      refine lxE_v hS rfl rfl (fun w hF => OpV_move rfl) rfl ?_
      refine lxE_v hS rfl rfl (fun w hF => OpV_move rfl) rfl ?_
      refine lxE_v hS rfl rfl (fun w hF => OpV_move rfl) rfl ?_
      refine lxE_v hS rfl rfl (fun w hF => OpV_bin rfl rfl (b_imul _ 8 x_44)) rfl ?_
      refine lxE_v hS rfl rfl (fun w hF => OpV_bin rfl rfl (b_iadd _ x_36 (wI (8 * x_44)))) rfl ?_
      refine lxE_v hS rfl rfl (fun w hF => OpV_move rfl) rfl ?_
      refine lxE_v hS rfl rfl (fun w hF => OpV_bin rfl rfl (b_iadd _ (wI (x_36 + (wI (8 * x_44)))) x_50)) rfl ?_
      obtain ⟨x_57, hx_57, h⟩ := obind_some h
      refine lxE_v hS rfl rfl (fun w hF => G_ix Tryd.underlying23 ti5 rfl rfl (hF.ro 1 rfl) hx_57) rfl ?_
      refine lxE_v hS rfl rfl (fun w hF => G_load Tryd.underlying5 rfl rfl (hF.ro 1 rfl) hx_57 rfl) rfl ?_
      refine lxE_v hS rfl rfl (fun w hF => OpV_conv rfl (cv_8_64 Tryd.underlying5 Tryd.underlying53 x_57)) rfl ?_
      refine lxE_v hS rfl rfl (fun w hF => OpV_bin rfl rfl (b_or64 _ (shl64 x_56 8) x_57.toUInt64)) rfl ?_
      obtain ⟨x_58, hx_58, h⟩ := obind_some h
      refine lxE_v hS rfl rfl (fun w hF => OpV_ixO Tryd.underlying64 sz53 rfl rfl (getO_bd hx_58 hL_52)) rfl ?_
      refine lxE_y hS rfl rfl (OpY_stU (m := 1) rfl sz53 rfl rfl rfl (Up.elt (t' := ((shl64 x_56 8) ||| x_57.toUInt64)) Up.last hx_58 rfl rfl) rfl rfl (one_one rfl) hS (i := 2)) ?_
      intro w hS
      replace hS : St _ w0 w [OE.bx b_1 (e64.fl x_37), own e8 v_33 x_32, OE.bx b_42 (e64.fl (x_51.set (x_44 : Int).toNat ((shl64 x_56 8) ||| x_57.toUInt64)))] := hS
      obtain ⟨x_59, hx_59, h⟩ := olet_some h
      rw [hx_59] at hS
      refine lxE_nil trivial ?_
      refine QE_blk_n ?_
      refine QE_then_n (wpC_region (wpR_run 3 rfl ?_))
      refine wpR_nil ?_
      exact QE_rnd (wpN_le _ (by exact ⟨rfl, rfl, rfl, rfl, rfl, rfl, trivial⟩) (ih_54 (wI (x_50 + 1), x_59) _ _ ⟨rfl, (by rw [← hx_59, List.length_set]; exact hL_52), hS⟩ (oinl_some h hk_53)))
     have h := if_f h hb_60
     refine wpC_exit ?_
     refine QE_then_x (QE_then_x ?_)
     have h := oinr_some h hk_53
     refine QE_blk_x ?_
     refine QE_then_n (wpC_exit ?_)
     refine QE_then_x (QE_blk_x ?_)
     refine QE_then_n ?_
     exact wpC_le _ (by exact ⟨rfl, rfl, rfl, rfl, rfl, trivial⟩) (hK_75 x_51 _ _ ⟨rfl, hL_52, hS⟩ h)
    have h := if_f h hb_72
    refine wpC_skip (QE_then_n (wpC_seq (wpC_region (wpR_run 2 rfl ?_))))
    obtain ⟨x_62, hx_62, h⟩ := obind_some h
    refine wpR_v (OpV_ixO Tryd.underlying64 sz53 rfl rfl (getO_bd hx_62 hL_46)) rfl ?_
    refine wpR_v (OpV_ldB Tryd.underlying53 rfl rfl (hS.bxg 2 rfl (Up.elr Up.last hx_62 rfl))) rfl ?_
    refine wpR_run 1 rfl ?_
    refine wpR_nil (QE_then_n (wpC_seq (wpC_region (wpR_run 2 rfl ?_))))
    obtain ⟨x_63, hx_63, h⟩ := obind_some h
    refine wpR_v (OpV_ixO Tryd.underlying64 sz53 rfl rfl (getO_bd hx_63 hL_46)) rfl ?_
    refine wpR_v (OpV_ldB Tryd.underlying53 rfl rfl (hS.bxg 2 rfl (Up.elr Up.last hx_63 rfl))) rfl ?_
    refine wpR_run 1 rfl ?_
    refine wpR_nil (QE_then_n ?_)
    refine wpC_regionS (fun w' => St [] w0 w' [OE.bx b_1 (e64.fl x_37), own e8 v_33 x_32, OE.bx b_42 (e64.fl x_45)]) (fun i => !([6, 8, 20, 22, 29].contains i)) hmix (fun _ _ _ hf => hf.2) (fun _ _ hf => hf) (by kernel_rfl) ?_
    have hS := hS.drew
    show lxE _ _ _ _ _ _ _ [0, 1, 2, 3, 4, 5, 6, 7, 8, 9, 10, 11, 12, 13, 14, 15, 16, 17, 18, 19, 20, 21, 22, 23, 24, 25, 26, 27, 28, 29] _ _
    refine lxE_v hS rfl rfl (fun w hF => OpV_move rfl) rfl ?_
    refine lxE_v hS rfl rfl (fun w hF => OpV_move rfl) rfl ?_
    refine lxE_v hS rfl rfl (fun w hF => OpV_bin rfl rfl (b_isub _ x_44 16)) rfl ?_
    obtain ⟨x_64, hx_64, h⟩ := obind_some h
    refine lxE_v hS rfl rfl (fun w hF => OpV_ixO Tryd.underlying64 sz53 rfl rfl (getO_bd hx_64 hL_46)) rfl ?_
    refine lxE_v hS rfl rfl (fun w hF => OpV_ldB Tryd.underlying53 rfl rfl (hF.bxg 2 rfl (Up.elr Up.last hx_64 rfl))) rfl ?_
    refine lxE_v hS rfl rfl (fun w hF => OpV_move rfl) rfl ?_
    obtain ⟨x_65, hx_65, h⟩ := obind_some h
    refine lxE_call hS rfl rfl (by kernel_rfl) rfl (c_ref4_turn64 _ x_62 1    _ hx_65) rfl ?_
    rintro _ w ⟨rfl, hS1⟩
    have hS := hS.call hS1
    simp only [List.cons_append, List.nil_append] at hS
    replace hS : St _ w0 w [OE.bx b_1 (e64.fl x_37), own e8 v_33 x_32, OE.bx b_42 (e64.fl x_45)] := hS
    refine lxE_v hS rfl rfl (fun w hF => OpV_move rfl) rfl ?_
    obtain ⟨x_66, hx_66, h⟩ := obind_some h
    refine lxE_call hS rfl rfl (by kernel_rfl) rfl (c_ref4_turn64 _ x_62 8    _ hx_66) rfl ?_
    rintro _ w ⟨rfl, hS1⟩
    have hS := hS.call hS1
    simp only [List.cons_append, List.nil_append] at hS
    replace hS : St _ w0 w [OE.bx b_1 (e64.fl x_37), own e8 v_33 x_32, OE.bx b_42 (e64.fl x_45)] := hS
    refine lxE_v hS rfl rfl (fun w hF => OpV_bin rfl rfl (b_xor64 _ x_65 x_66)) rfl ?_
    refine lxE_v hS rfl rfl (fun w hF => OpV_move rfl) rfl ?_
    refine lxE_v hS rfl rfl (fun w hF => OpV_bin rfl rfl (b_shr64_64 _ x_62 7)) rfl ?_
    refine lxE_v hS rfl rfl (fun w hF => OpV_bin rfl rfl (b_xor64 _ (x_65 ^^^ x_66) (shr64 x_62 7))) rfl ?_
    refine lxE_v hS rfl rfl (fun w hF => OpV_bin rfl rfl (b_add64 _ x_64 ((x_65 ^^^ x_66) ^^^ (shr64 x_62 7)))) rfl ?_
    refine lxE_v hS rfl rfl (fun w hF => OpV_move rfl) rfl ?_
    refine lxE_v hS rfl rfl (fun w hF => OpV_bin rfl rfl (b_isub _ x_44 7)) rfl ?_
    obtain ⟨x_67, hx_67, h⟩ := obind_some h
    refine lxE_v hS rfl rfl (fun w hF => OpV_ixO Tryd.underlying64 sz53 rfl rfl (getO_bd hx_67 hL_46)) rfl ?_
    refine lxE_v hS rfl rfl (fun w hF => OpV_ldB Tryd.underlying53 rfl rfl (hF.bxg 2 rfl (Up.elr Up.last hx_67 rfl))) rfl ?_
    refine lxE_v hS rfl rfl (fun w hF => OpV_bin rfl rfl (b_add64 _ (x_64 + ((x_65 ^^^ x_66) ^^^ (shr64 x_62 7))) x_67)) rfl ?_
    refine lxE_v hS rfl rfl (fun w hF => OpV_move rfl) rfl ?_
    obtain ⟨x_68, hx_68, h⟩ := obind_some h
    refine lxE_call hS rfl rfl (by kernel_rfl) rfl (c_ref4_turn64 _ x_63 19    _ hx_68) rfl ?_
    rintro _ w ⟨rfl, hS1⟩
    have hS := hS.call hS1
    simp only [List.cons_append, List.nil_append] at hS
    replace hS : St _ w0 w [OE.bx b_1 (e64.fl x_37), own e8 v_33 x_32, OE.bx b_42 (e64.fl x_45)] := hS
    refine lxE_v hS rfl rfl (fun w hF => OpV_move rfl) rfl ?_
    obtain ⟨x_69, hx_69, h⟩ := obind_some h
    refine lxE_call hS rfl rfl (by kernel_rfl) rfl (c_ref4_turn64 _ x_63 61    _ hx_69) rfl ?_
    rintro _ w ⟨rfl, hS1⟩
    have hS := hS.call hS1
    simp only [List.cons_append, List.nil_append] at hS
    replace hS : St _ w0 w [OE.bx b_1 (e64.fl x_37), own e8 v_33 x_32, OE.bx b_42 (e64.fl x_45)] := hS
    refine lxE_v hS rfl rfl (fun w hF => OpV_bin rfl rfl (b_xor64 _ x_68 x_69)) rfl ?_
    refine lxE_v hS rfl rfl (fun w hF => OpV_move rfl) rfl ?_
    refine lxE_v hS rfl rfl (fun w hF => OpV_bin rfl rfl (b_shr64_64 _ x_63 6)) rfl ?_
    refine lxE_v hS rfl rfl (fun w hF => OpV_bin rfl rfl (b_xor64 _ (x_68 ^^^ x_69) (shr64 x_63 6))) rfl ?_
    refine lxE_v hS rfl rfl (fun w hF => OpV_bin rfl rfl (b_add64 _ ((x_64 + ((x_65 ^^^ x_66) ^^^ (shr64 x_62 7))) + x_67) ((x_68 ^^^ x_69) ^^^ (shr64 x_63 6)))) rfl ?_
    obtain ⟨x_70, hx_70, h⟩ := obind_some h
    refine lxE_v hS rfl rfl (fun w hF => OpV_ixO Tryd.underlying64 sz53 rfl rfl (getO_bd hx_70 hL_46)) rfl ?_
    refine lxE_y hS rfl rfl (OpY_stU (m := 1) rfl sz53 rfl rfl rfl (Up.elt (t' := (((x_64 + ((x_65 ^^^ x_66) ^^^ (shr64 x_62 7))) + x_67) + ((x_68 ^^^ x_69) ^^^ (shr64 x_63 6)))) Up.last hx_70 rfl rfl) rfl rfl (one_one rfl) hS (i := 2)) ?_
    intro w hS
    replace hS : St _ w0 w [OE.bx b_1 (e64.fl x_37), own e8 v_33 x_32, OE.bx b_42 (e64.fl (x_45.set (x_44 : Int).toNat (((x_64 + ((x_65 ^^^ x_66) ^^^ (shr64 x_62 7))) + x_67) + ((x_68 ^^^ x_69) ^^^ (shr64 x_63 6)))))] := hS
    obtain ⟨x_71, hx_71, h⟩ := olet_some h
    rw [hx_71] at hS
    refine lxE_nil trivial ?_
    refine QE_blk_n ?_
    refine QE_then_n ?_
    exact wpC_le _ (by exact ⟨rfl, rfl, rfl, rfl, rfl, trivial⟩) (hK_75 x_71 _ _ ⟨rfl, (by rw [← hx_71, List.length_set]; exact hL_46), hS⟩ h)
   rintro x_73 L w hJ h
   try dsimp only at hJ
   obtain ⟨rfl, hL_74, hS⟩ := hJ
   unfold F.ref4_long_K2 at h
   refine wpC_region (wpR_run 3 rfl ?_)
   refine wpR_nil ?_
   exact QE_rnd (wpN_le _ (by exact ⟨rfl, rfl, rfl, rfl, rfl, trivial⟩) (ih_48 (wI (x_44 + 1), x_73) _ _ ⟨rfl, hL_74, hS⟩ (oinl_some h hk_47)))
  have h := if_f h hb_122
  refine wpC_exit ?_
  refine QE_then_x (QE_then_x ?_)
  have h := oinr_some h hk_47
  refine QE_blk_x ?_
  refine QE_then_n (wpC_seq (wpC_region (wpR_v (OpV_ldA (us := e64.fl x_37) Tryd.underlying54 rfl sz54 (fl_len1 hL_38 rfl) rfl (hS.bxgs0 0 rfl Up.last)) rfl ?_)))
  refine wpR_x (OpX_alloc (cs := e64.fl (List.replicate 8 0)) tz54 (by kernel_rfl) hS) rfl ?_
  rintro _ w ⟨b_76, rfl, hS⟩
  refine wpR_y (OpY_stU (m := 8) (xs := e64.fl (List.replicate 8 0)) (xs' := e64.fl x_37) (i := 0) rfl sz54 rfl rfl rfl Up.last (fl_len1 List.length_replicate rfl) (fl_len1 hL_38 rfl) one_fl hS) ?_
  intro w hS
  replace hS : St _ w0 w [OE.bx b_76 (e64.fl x_37), OE.bx b_1 (e64.fl x_37), own e8 v_33 x_32, OE.bx b_42 (e64.fl x_45)] := hS
  refine wpR_nil (QE_then_n (wpC_seq (wpC_seq (wpC_region (wpR_run 1 rfl ?_)))))
  refine wpR_nil (QE_then_n (wpC_block ?_))
  refine wpC_le [(3, pB b_1 0), (5, v_33), (8, vI x_36), (9, pB b_42 0), (14, pB b_76 0), (15, vI 0)] ⟨rfl, rfl, rfl, rfl, rfl, rfl, trivial⟩ ?_
  refine loop_ind (F.ref4_long_L4 x_37 x_45 x_36) (fun (s : Int × List UInt64) L w => L = [(3, pB b_1 0), (5, v_33), (8, vI x_36), (9, pB b_42 0), (14, pB b_76 0), (15, vI s.1)] ∧ s.2.length = 8 ∧ St [] w0 w [OE.bx b_1 (e64.fl x_37), own e8 v_33 x_32, OE.bx b_42 (e64.fl x_45), OE.bx b_76 (e64.fl s.2)]) ?_ (0, x_37) ⟨rfl, hL_38, (hS.pick [1, 2, 3, 0] (by decide) rfl)⟩ h
  rintro k_121 ⟨x_78, x_79⟩ L w q_83 hI ih_82 h hk_81
  try dsimp only at hI
  obtain ⟨rfl, hL_80, hS⟩ := hI
  unfold F.ref4_long_L4 at h
  refine wpC_seq (wpC_seq (wpC_region (wpR_run 2 rfl ?_)))
  refine wpR_nil (QE_then_n ?_)
  refine wpC_cond rfl (fun hb_120 => ?_) (fun hb_120 => ?_)
  ·have h := if_t h hb_120
   refine wpC_skip (QE_then_n (wpC_seq (wpC_block ?_)))
   refine wpC_seq (wpC_region ?_)
   obtain ⟨x_84, hx_84, h⟩ := obind_some h
   refine wpR_v (OpV_ixO Tryd.underlying54 sz53 rfl rfl (getO_bd hx_84 hL_80)) rfl ?_
   refine wpR_v (OpV_ldB Tryd.underlying53 rfl rfl (hS.bxg 3 rfl (Up.elr Up.last hx_84 rfl))) rfl ?_
   refine wpR_run 1 rfl ?_
   refine wpR_nil (QE_then_n (wpC_seq (wpC_region ?_)))
   obtain ⟨x_85, hx_85, h⟩ := obind_some h
   refine wpR_v (OpV_ixO Tryd.underlying54 sz53 rfl rfl (getO_bd hx_85 hL_80)) rfl ?_
   refine wpR_v (OpV_ldB Tryd.underlying53 rfl rfl (hS.bxg 3 rfl (Up.elr Up.last hx_85 rfl))) rfl ?_
   refine wpR_run 1 rfl ?_
   refine wpR_nil (QE_then_n (wpC_seq ?_))
   refine wpC_regionT (fun w' => St [] w0 w' [OE.bx b_1 (e64.fl x_37), own e8 v_33 x_32, OE.bx b_42 (e64.fl x_45), OE.bx b_76 (e64.fl x_79)]) (fun i => !([3, 5, 8].contains i)) hmix (fun _ _ _ hf => hf.2) (fun _ _ hf => hf) (by kernel_rfl) ?_
   have hS := hS.drew
   show lxE _ _ _ _ _ _ _ [0, 1, 2, 3, 4, 5, 6, 7, 8, 9, 10, 11, 12, 13, 14, 15, 16, 17, 18, 19, 20, 21, 22, 23, 24, 25, 26, 27, 28, 29, 30] _ _
   obtain ⟨x_86, hx_86, h⟩ := obind_some h
   refine lxE_v hS rfl rfl (fun w hF => OpV_ixO Tryd.underlying54 sz53 rfl rfl (getO_bd hx_86 hL_80)) rfl ?_
   refine lxE_v hS rfl rfl (fun w hF => OpV_ldB Tryd.underlying53 rfl rfl (hF.bxg 3 rfl (Up.elr Up.last hx_86 rfl))) rfl ?_
   refine lxE_v hS rfl rfl (fun w hF => OpV_move rfl) rfl ?_
   obtain ⟨x_87, hx_87, h⟩ := obind_some h
   refine lxE_call hS rfl rfl (by kernel_rfl) rfl (c_ref4_turn64 _ x_85 14    _ hx_87) rfl ?_
   rintro _ w ⟨rfl, hS1⟩
   have hS := hS.call hS1
   simp only [List.cons_append, List.nil_append] at hS
   replace hS : St _ w0 w [OE.bx b_1 (e64.fl x_37), own e8 v_33 x_32, OE.bx b_42 (e64.fl x_45), OE.bx b_76 (e64.fl x_79)] := hS
   refine lxE_v hS rfl rfl (fun w hF => OpV_move rfl) rfl ?_
   obtain ⟨x_88, hx_88, h⟩ := obind_some h
   refine lxE_call hS rfl rfl (by kernel_rfl) rfl (c_ref4_turn64 _ x_85 18    _ hx_88) rfl ?_
   rintro _ w ⟨rfl, hS1⟩
   have hS := hS.call hS1
   simp only [List.cons_append, List.nil_append] at hS
   replace hS : St _ w0 w [OE.bx b_1 (e64.fl x_37), own e8 v_33 x_32, OE.bx b_42 (e64.fl x_45), OE.bx b_76 (e64.fl x_79)] := hS
   refine lxE_v hS rfl rfl (fun w hF => OpV_bin rfl rfl (b_xor64 _ x_87 x_88)) rfl ?_
   refine lxE_v hS rfl rfl (fun w hF => OpV_move rfl) rfl ?_
   obtain ⟨x_89, hx_89, h⟩ := obind_some h
   refine lxE_call hS rfl rfl (by kernel_rfl) rfl (c_ref4_turn64 _ x_85 41    _ hx_89) rfl ?_
   rintro _ w ⟨rfl, hS1⟩
   have hS := hS.call hS1
   simp only [List.cons_append, List.nil_append] at hS
   replace hS : St _ w0 w [OE.bx b_1 (e64.fl x_37), own e8 v_33 x_32, OE.bx b_42 (e64.fl x_45), OE.bx b_76 (e64.fl x_79)] := hS
   refine lxE_v hS rfl rfl (fun w hF => OpV_bin rfl rfl (b_xor64 _ (x_87 ^^^ x_88) x_89)) rfl ?_
   refine lxE_v hS rfl rfl (fun w hF => OpV_bin rfl rfl (b_add64 _ x_86 ((x_87 ^^^ x_88) ^^^ x_89))) rfl ?_
   refine lxE_v hS rfl rfl (fun w hF => OpV_move rfl) rfl ?_
   obtain ⟨x_90, hx_90, h⟩ := obind_some h
   refine lxE_v hS rfl rfl (fun w hF => OpV_ixO Tryd.underlying54 sz53 rfl rfl (getO_bd hx_90 hL_80)) rfl ?_
   refine lxE_v hS rfl rfl (fun w hF => OpV_ldB Tryd.underlying53 rfl rfl (hF.bxg 3 rfl (Up.elr Up.last hx_90 rfl))) rfl ?_
   refine lxE_v hS rfl rfl (fun w hF => OpV_bin rfl rfl (b_and64 _ x_85 x_90)) rfl ?_
   refine lxE_v hS rfl rfl (fun w hF => OpV_move rfl) rfl ?_
   refine lxE_v hS rfl rfl (fun w hF => OpV_un rfl (u_xor64 x_85)) rfl ?_
   obtain ⟨x_91, hx_91, h⟩ := obind_some h
   refine lxE_v hS rfl rfl (fun w hF => OpV_ixO Tryd.underlying54 sz53 rfl rfl (getO_bd hx_91 hL_80)) rfl ?_
   refine lxE_v hS rfl rfl (fun w hF => OpV_ldB Tryd.underlying53 rfl rfl (hF.bxg 3 rfl (Up.elr Up.last hx_91 rfl))) rfl ?_
   refine lxE_v hS rfl rfl (fun w hF => OpV_bin rfl rfl (b_and64 _ (~~~ x_85) x_91)) rfl ?_
   refine lxE_v hS rfl rfl (fun w hF => OpV_bin rfl rfl (b_xor64 _ (x_85 &&& x_90) ((~~~ x_85) &&& x_91))) rfl ?_
   refine lxE_v hS rfl rfl (fun w hF => OpV_bin rfl rfl (b_add64 _ (x_86 + ((x_87 ^^^ x_88) ^^^ x_89)) ((x_85 &&& x_90) ^^^ ((~~~ x_85) &&& x_91)))) rfl ?_
   refine lxE_v hS rfl rfl (fun w hF => OpV_move rfl) rfl ?_
   obtain ⟨x_92, hx_92, h⟩ := obind_some h
   refine lxE_v hS rfl rfl (fun w hF => OpV_ixO Tryd.underlying64 sz53 rfl rfl (getO_bd hx_92 (show F.tab_ref4_k512.length = 80 from rfl))) rfl ?_
   refine lxE_v hS rfl rfl (fun w hF => OpV_ldB Tryd.underlying53 rfl rfl (hT.ref4_k512.cell hF.fr hx_92 rfl)) rfl ?_
   refine lxE_v hS rfl rfl (fun w hF => OpV_bin rfl rfl (b_add64 _ ((x_86 + ((x_87 ^^^ x_88) ^^^ x_89)) + ((x_85 &&& x_90) ^^^ ((~~~ x_85) &&& x_91))) x_92)) rfl ?_
   refine lxE_v hS rfl rfl (fun w hF => OpV_move rfl) rfl ?_
   obtain ⟨x_93, hx_93, h⟩ := obind_some h
   refine lxE_v hS rfl rfl (fun w hF => OpV_ixO Tryd.underlying64 sz53 rfl rfl (getO_bd hx_93 hL_46)) rfl ?_
   refine lxE_v hS rfl rfl (fun w hF => OpV_ldB Tryd.underlying53 rfl rfl (hF.bxg 2 rfl (Up.elr Up.last hx_93 rfl))) rfl ?_
   refine lxE_v hS rfl rfl (fun w hF => OpV_bin rfl rfl (b_add64 _ (((x_86 + ((x_87 ^^^ x_88) ^^^ x_89)) + ((x_85 &&& x_90) ^^^ ((~~~ x_85) &&& x_91))) + x_92) x_93)) rfl ?_
   obtain ⟨x_94, hx_94, h⟩ := olet_some h
   refine lxE_v hS rfl rfl (fun w hF => OpV_assign (v := v64 x_94) (by rw [← hx_94]; rfl)) rfl ?_
   refine lxE_nil hS ?_
   refine QE_then_n (wpC_seq ?_)
   refine wpC_regionT (fun w' => St [] w0 w' [OE.bx b_1 (e64.fl x_37), own e8 v_33 x_32, OE.bx b_42 (e64.fl x_45), OE.bx b_76 (e64.fl x_79)]) (fun i => !([1, 3, 6].contains i)) hmix (fun _ _ _ hf => hf.2) (fun _ _ hf => hf) (by kernel_rfl) ?_
   have hS := hS.drew
   show lxE _ _ _ _ _ _ _ [0, 1, 2, 3, 4, 5, 6, 7, 8, 9, 10, 11, 12, 13, 14, 15, 16, 17, 18, 19, 20, 21, 22, 23, 24] _ _
   refine lxE_v hS rfl rfl (fun w hF => OpV_move rfl) rfl ?_
   obtain ⟨x_95, hx_95, h⟩ := obind_some h
   refine lxE_call hS rfl rfl (by kernel_rfl) rfl (c_ref4_turn64 _ x_84 28    _ hx_95) rfl ?_
   rintro _ w ⟨rfl, hS1⟩
   have hS := hS.call hS1
   simp only [List.cons_append, List.nil_append] at hS
   replace hS : St _ w0 w [OE.bx b_1 (e64.fl x_37), own e8 v_33 x_32, OE.bx b_42 (e64.fl x_45), OE.bx b_76 (e64.fl x_79)] := hS
   refine lxE_v hS rfl rfl (fun w hF => OpV_move rfl) rfl ?_
   obtain ⟨x_96, hx_96, h⟩ := obind_some h
   refine lxE_call hS rfl rfl (by kernel_rfl) rfl (c_ref4_turn64 _ x_84 34    _ hx_96) rfl ?_
   rintro _ w ⟨rfl, hS1⟩
   have hS := hS.call hS1
   simp only [List.cons_append, List.nil_append] at hS
   replace hS : St _ w0 w [OE.bx b_1 (e64.fl x_37), own e8 v_33 x_32, OE.bx b_42 (e64.fl x_45), OE.bx b_76 (e64.fl x_79)] := hS
   refine lxE_v hS rfl rfl (fun w hF => OpV_bin rfl rfl (b_xor64 _ x_95 x_96)) rfl ?_
   refine lxE_v hS rfl rfl (fun w hF => OpV_move rfl) rfl ?_
   obtain ⟨x_97, hx_97, h⟩ := obind_some h
   refine lxE_call hS rfl rfl (by kernel_rfl) rfl (c_ref4_turn64 _ x_84 39    _ hx_97) rfl ?_
   rintro _ w ⟨rfl, hS1⟩
   have hS := hS.call hS1
   simp only [List.cons_append, List.nil_append] at hS
   replace hS : St _ w0 w [OE.bx b_1 (e64.fl x_37), own e8 v_33 x_32, OE.bx b_42 (e64.fl x_45), OE.bx b_76 (e64.fl x_79)] := hS
   refine lxE_v hS rfl rfl (fun w hF => OpV_bin rfl rfl (b_xor64 _ (x_95 ^^^ x_96) x_97)) rfl ?_
   refine lxE_v hS rfl rfl (fun w hF => OpV_move rfl) rfl ?_
   obtain ⟨x_98, hx_98, h⟩ := obind_some h
   refine lxE_v hS rfl rfl (fun w hF => OpV_ixO Tryd.underlying54 sz53 rfl rfl (getO_bd hx_98 hL_80)) rfl ?_
   refine lxE_v hS rfl rfl (fun w hF => OpV_ldB Tryd.underlying53 rfl rfl (hF.bxg 3 rfl (Up.elr Up.last hx_98 rfl))) rfl ?_
   refine lxE_v hS rfl rfl (fun w hF => OpV_bin rfl rfl (b_and64 _ x_84 x_98)) rfl ?_
   refine lxE_v hS rfl rfl (fun w hF => OpV_move rfl) rfl ?_
   obtain ⟨x_99, hx_99, h⟩ := obind_some h
   refine lxE_v hS rfl rfl (fun w hF => OpV_ixO Tryd.underlying54 sz53 rfl rfl (getO_bd hx_99 hL_80)) rfl ?_
   refine lxE_v hS rfl rfl (fun w hF => OpV_ldB Tryd.underlying53 rfl rfl (hF.bxg 3 rfl (Up.elr Up.last hx_99 rfl))) rfl ?_
   refine lxE_v hS rfl rfl (fun w hF => OpV_bin rfl rfl (b_and64 _ x_84 x_99)) rfl ?_
   refine lxE_v hS rfl rfl (fun w hF => OpV_bin rfl rfl (b_xor64 _ (x_84 &&& x_98) (x_84 &&& x_99))) rfl ?_
   obtain ⟨x_100, hx_100, h⟩ := obind_some h
   refine lxE_v hS rfl rfl (fun w hF => OpV_ixO Tryd.underlying54 sz53 rfl rfl (getO_bd hx_100 hL_80)) rfl ?_
   refine lxE_v hS rfl rfl (fun w hF => OpV_ldB Tryd.underlying53 rfl rfl (hF.bxg 3 rfl (Up.elr Up.last hx_100 rfl))) rfl ?_
   obtain ⟨x_101, hx_101, h⟩ := obind_some h
   refine lxE_v hS rfl rfl (fun w hF => OpV_ixO Tryd.underlying54 sz53 rfl rfl (getO_bd hx_101 hL_80)) rfl ?_
   refine lxE_v hS rfl rfl (fun w hF => OpV_ldB Tryd.underlying53 rfl rfl (hF.bxg 3 rfl (Up.elr Up.last hx_101 rfl))) rfl ?_
   refine lxE_v hS rfl rfl (fun w hF => OpV_bin rfl rfl (b_and64 _ x_100 x_101)) rfl ?_
   refine lxE_v hS rfl rfl (fun w hF => OpV_bin rfl rfl (b_xor64 _ ((x_84 &&& x_98) ^^^ (x_84 &&& x_99)) (x_100 &&& x_101))) rfl ?_
   refine lxE_v hS rfl rfl (fun w hF => OpV_bin rfl rfl (b_add64 _ ((x_95 ^^^ x_96) ^^^ x_97) (((x_84 &&& x_98) ^^^ (x_84 &&& x_99)) ^^^ (x_100 &&& x_101)))) rfl ?_
   obtain ⟨x_102, hx_102, h⟩ := olet_some h
   refine lxE_v hS rfl rfl (fun w hF => OpV_assign (v := v64 x_102) (by rw [← hx_102]; rfl)) rfl ?_
   refine lxE_nil hS ?_
   refine QE_then_n (wpC_region (wpR_run 2 rfl ?_))
   refine wpR_v (OpV_bin rfl rfl (b_add64 _ x_94 x_102)) rfl ?_
   refine wpR_run 1 rfl ?_
   obtain ⟨x_103, hx_103, h⟩ := obind_some h
   refine wpR_v (OpV_ixO Tryd.underlying54 sz53 rfl rfl (getO_bd hx_103 hL_80)) rfl ?_
   refine wpR_v (OpV_ldB Tryd.underlying53 rfl rfl (hS.bxg 3 rfl (Up.elr Up.last hx_103 rfl))) rfl ?_
   obtain ⟨x_104, hx_104, h⟩ := obind_some h
   refine wpR_v (OpV_ixO Tryd.underlying54 sz53 rfl rfl (getO_bd hx_104 hL_80)) rfl ?_
   refine wpR_v (OpV_ldB Tryd.underlying53 rfl rfl (hS.bxg 3 rfl (Up.elr Up.last hx_104 rfl))) rfl ?_
   obtain ⟨x_105, hx_105, h⟩ := obind_some h
   refine wpR_v (OpV_ixO Tryd.underlying54 sz53 rfl rfl (getO_bd hx_105 hL_80)) rfl ?_
   refine wpR_v (OpV_ldB Tryd.underlying53 rfl rfl (hS.bxg 3 rfl (Up.elr Up.last hx_105 rfl))) rfl ?_
   refine wpR_run 1 rfl ?_
   refine wpR_v (OpV_bin rfl rfl (b_add64 _ x_105 x_94)) rfl ?_
   refine wpR_run 1 rfl ?_
   obtain ⟨x_106, hx_106, h⟩ := obind_some h
   refine wpR_v (OpV_ixO Tryd.underlying54 sz53 rfl rfl (getO_bd hx_106 hL_80)) rfl ?_
   refine wpR_v (OpV_ldB Tryd.underlying53 rfl rfl (hS.bxg 3 rfl (Up.elr Up.last hx_106 rfl))) rfl ?_
   obtain ⟨x_107, hx_107, h⟩ := obind_some h
   refine wpR_v (OpV_ixO Tryd.underlying54 sz53 rfl rfl (getO_bd hx_107 hL_80)) rfl ?_
   refine wpR_v (OpV_ldB Tryd.underlying53 rfl rfl (hS.bxg 3 rfl (Up.elr Up.last hx_107 rfl))) rfl ?_
   refine wpR_v (OpV_build (vs := [(0, v64 (x_94 + x_102), [v64 (x_94 + x_102)]), (1, v64 x_84, [v64 x_84]), (2, v64 x_103, [v64 x_103]), (3, v64 x_104, [v64 x_104]), (4, v64 (x_105 + x_94), [v64 (x_105 + x_94)]), (5, v64 x_85, [v64 x_85]), (6, v64 x_106, [v64 x_106]), (7, v64 x_107, [v64 x_107])]) (cells := [v64 (x_94 + x_102), v64 x_84, v64 x_103, v64 x_104, v64 (x_105 + x_94), v64 x_85, v64 x_106, v64 x_107]) rfl lay54 ⟨rfl, rfl, rfl, rfl, rfl, rfl, rfl, rfl, trivial⟩ (by kernel_rfl)) rfl ?_
   refine wpR_y (OpY_stU (m := 8) (xs := e64.fl x_79) (xs' := e64.fl ([x_94 + x_102, x_84, x_103, x_104, x_105 + x_94, x_85, x_106, x_107] : List UInt64)) (i := 3) rfl sz54 rfl rfl rfl Up.last (fl_len1 hL_80 rfl) (fl_len1 rfl rfl) one_fl hS) ?_
   intro w hS
   replace hS : St _ w0 w [OE.bx b_1 (e64.fl x_37), own e8 v_33 x_32, OE.bx b_42 (e64.fl x_45), OE.bx b_76 (e64.fl ([x_94 + x_102, x_84, x_103, x_104, x_105 + x_94, x_85, x_106, x_107] : List UInt64))] := hS
   refine wpR_nil (QE_blk_n ?_)
   refine QE_then_n (wpC_region (wpR_run 3 rfl ?_))
   refine wpR_nil ?_
   exact QE_rnd (wpN_le _ (by exact ⟨rfl, rfl, rfl, rfl, rfl, rfl, trivial⟩) (ih_82 (wI (x_78 + 1), ([x_94 + x_102, x_84, x_103, x_104, x_105 + x_94, x_85, x_106, x_107] : List UInt64)) _ _ ⟨rfl, rfl, hS⟩ (oinl_some h hk_81)))
  have h := if_f h hb_120
  refine wpC_exit ?_
  refine QE_then_x (QE_then_x ?_)
  have h := oinr_some h hk_81
  refine QE_blk_x ?_
  refine QE_then_n (wpC_seq (wpC_region (wpR_run 1 rfl ?_)))
  refine wpR_nil (QE_then_n (wpC_block ?_))
  refine wpC_le [(3, pB b_1 0), (5, v_33), (8, vI x_36), (14, pB b_76 0), (20, vI 0)] ⟨rfl, rfl, rfl, rfl, rfl, trivial⟩ ?_
  refine loop_ind (F.ref4_long_L5 x_36 x_79) (fun (s : Int × List UInt64) L w => L = [(3, pB b_1 0), (5, v_33), (8, vI x_36), (14, pB b_76 0), (20, vI s.1)] ∧ s.2.length = 8 ∧ St [] w0 w [OE.bx b_1 (e64.fl s.2), own e8 v_33 x_32, OE.bx b_76 (e64.fl x_79)]) ?_ (0, x_37) ⟨rfl, hL_38, (hS.pick [0, 1, 3] (by decide) rfl)⟩ h
  rintro k_119 ⟨x_108, x_109⟩ L w q_113 hI ih_112 h hk_111
  try dsimp only at hI
  obtain ⟨rfl, hL_110, hS⟩ := hI
  unfold F.ref4_long_L5 at h
  refine wpC_seq (wpC_seq (wpC_region (wpR_run 2 rfl ?_)))
  refine wpR_nil (QE_then_n ?_)
  refine wpC_cond rfl (fun hb_118 => ?_) (fun hb_118 => ?_)
  ·have h := if_t h hb_118
   refine wpC_skip (QE_then_n (wpC_seq (wpC_block ?_)))
   refine wpC_regionS (fun w' => St [] w0 w' [OE.bx b_1 (e64.fl x_109), own e8 v_33 x_32, OE.bx b_76 (e64.fl x_79)]) (fun i => !([9].contains i)) hmix (fun _ _ _ hf => hf.2) (fun _ _ hf => hf) (by kernel_rfl) ?_
   have hS := hS.drew
   show lxE _ _ _ _ _ _ _ [0, 1, 2, 3, 4, 5, 6, 7, 8, 9] _ _
   refine lxE_v hS rfl rfl (fun w hF => OpV_move rfl) rfl ?_
   refine lxE_v hS rfl rfl (fun w hF => OpV_move rfl) rfl ?_
   obtain ⟨x_114, hx_114, h⟩ := obind_some h
   refine lxE_v hS rfl rfl (fun w hF => OpV_ixO Tryd.underlying54 sz53 rfl rfl (getO_bd hx_114 hL_110)) rfl ?_
   refine lxE_v hS rfl rfl (fun w hF => OpV_ldB Tryd.underlying53 rfl rfl (hF.bxg 0 rfl (Up.elr Up.last hx_114 rfl))) rfl ?_
   refine lxE_v hS rfl rfl (fun w hF => OpV_move rfl) rfl ?_
   obtain ⟨x_115, hx_115, h⟩ := obind_some h
   refine lxE_v hS rfl rfl (fun w hF => OpV_ixO Tryd.underlying54 sz53 rfl rfl (getO_bd hx_115 hL_80)) rfl ?_
   refine lxE_v hS rfl rfl (fun w hF => OpV_ldB Tryd.underlying53 rfl rfl (hF.bxg 2 rfl (Up.elr Up.last hx_115 rfl))) rfl ?_
   refine lxE_v hS rfl rfl (fun w hF => OpV_bin rfl rfl (b_add64 _ x_114 x_115)) rfl ?_
   obtain ⟨x_116, hx_116, h⟩ := obind_some h
   refine lxE_v hS rfl rfl (fun w hF => OpV_ixO Tryd.underlying54 sz53 rfl rfl (getO_bd hx_116 hL_110)) rfl ?_
   refine lxE_y hS rfl rfl (OpY_stU (m := 1) rfl sz53 rfl rfl rfl (Up.elt (t' := (x_114 + x_115)) Up.last hx_116 rfl rfl) rfl rfl (one_one rfl) hS (i := 0)) ?_
   intro w hS
   replace hS : St _ w0 w [OE.bx b_1 (e64.fl (x_109.set (x_108 : Int).toNat (x_114 + x_115))), own e8 v_33 x_32, OE.bx b_76 (e64.fl x_79)] := hS
   obtain ⟨x_117, hx_117, h⟩ := olet_some h
   rw [hx_117] at hS
   refine lxE_nil trivial ?_
   refine QE_blk_n ?_
   refine QE_then_n (wpC_region (wpR_run 3 rfl ?_))
   refine wpR_nil ?_
   exact QE_rnd (wpN_le _ (by exact ⟨rfl, rfl, rfl, rfl, rfl, trivial⟩) (ih_112 (wI (x_108 + 1), x_117) _ _ ⟨rfl, (by rw [← hx_117, List.length_set]; exact hL_110), hS⟩ (oinl_some h hk_111)))
  have h := if_f h hb_118
  refine wpC_exit ?_
  refine QE_then_x (QE_then_x ?_)
  have h := oinr_some h hk_111
  refine QE_blk_x ?_
  refine QE_blk_n ?_
  refine QE_then_n (wpC_region (wpR_run 3 rfl ?_))
  refine wpR_nil ?_
  exact QE_rnd (wpN_le _ (by exact ⟨rfl, rfl, rfl, trivial⟩) (ih_40 (wI (x_36 + 128), x_109) _ _ ⟨rfl, hL_110, (hS.pick [0, 1] (by decide) rfl)⟩ (oinl_some h hk_39)))
 have h := if_f h hb_148
 refine wpC_exit ?_
 refine QE_then_x (QE_then_x ?_)
 have h := oinr_some h hk_39
 refine QE_blk_x ?_
 refine QE_then_n (wpC_seq (wpC_region (wpR_run 1 rfl ?_)))
 refine wpR_nil (QE_then_n (wpC_seq (wpC_seq (wpC_region (wpR_run 1 rfl ?_)))))
 refine wpR_nil (QE_then_n (wpC_block ?_))
 refine wpC_le [(3, pB b_1 0), (21, .slice none 0 0), (22, vI 0)] ⟨rfl, rfl, rfl, trivial⟩ ?_
 refine loop_ind (F.ref4_long_L6 x_37) (fun (s : List UInt8 × Int) L w => ∃ (v_125 : Value), L = [(3, pB b_1 0), (21, v_125), (22, vI s.2)] ∧ St [] w0 w [own e8 v_125 s.1, OE.bx b_1 (e64.fl x_37)]) ?_ ([], 0) ⟨.slice none 0 0, rfl, ((hS.nil e8).pick [0, 1] (by decide) rfl)⟩ h
 rintro k_147 ⟨x_124, x_127⟩ L w q_130 hI ih_129 h hk_128
 try dsimp only at hI
 obtain ⟨v_125, rfl, hS⟩ := hI
 unfold F.ref4_long_L6 at h
 refine wpC_seq (wpC_seq (wpC_region (wpR_run 2 rfl ?_)))
 refine wpR_nil (QE_then_n ?_)
 refine wpC_cond rfl (fun hb_146 => ?_) (fun hb_146 => ?_)
 ·have h := if_t h hb_146
  refine wpC_skip (QE_then_n (wpC_seq (wpC_block ?_)))
  refine wpC_seq (wpC_region (wpR_run 1 rfl ?_))
  refine wpR_nil (QE_then_n (wpC_block ?_))
  refine wpC_le [(3, pB b_1 0), (21, v_125), (22, vI x_127), (23, vI 7)] ⟨rfl, rfl, rfl, rfl, trivial⟩ ?_
  refine loop_ind (F.ref4_long_L7 x_37 x_127) (fun (s : List UInt8 × Int) L w => ∃ (v_132 : Value), L = [(3, pB b_1 0), (21, v_132), (22, vI x_127), (23, vI s.2)] ∧ St [] w0 w [own e8 v_132 s.1, OE.bx b_1 (e64.fl x_37)]) ?_ (x_124, 7) ⟨v_125, rfl, hS⟩ h
  rintro k_145 ⟨x_131, x_134⟩ L w q_137 hI ih_136 h hk_135
  try dsimp only at hI
  obtain ⟨v_132, rfl, hS⟩ := hI
  unfold F.ref4_long_L7 at h
  refine wpC_seq (wpC_seq (wpC_region (wpR_run 2 rfl ?_)))
  refine wpR_nil (QE_then_n ?_)
  refine wpC_cond rfl (fun hb_144 => ?_) (fun hb_144 => ?_)
  ·have h := if_t h hb_144
   refine wpC_skip (QE_then_n (wpC_seq (wpC_block ?_)))
   refine wpC_region (wpR_run 2 rfl ?_)
   obtain ⟨x_138, hx_138, h⟩ := obind_some h
   refine wpR_v (OpV_ixO Tryd.underlying54 sz53 rfl rfl (getO_bd hx_138 hL_38)) rfl ?_
   refine wpR_v (OpV_ldB Tryd.underlying53 rfl rfl (hS.bxg 1 rfl (Up.elr Up.last hx_138 rfl))) rfl ?_
   refine wpR_run 1 rfl ?_
   refine wpR_v (OpV_bin rfl rfl (b_imul _ 8 x_134)) rfl ?_
   refine wpR_v (OpV_conv rfl (cv_i_64 Tryd.underlying3 Tryd.underlying60 (wI (8 * x_134)))) rfl ?_
   refine wpR_v (OpV_bin rfl rfl (b_shr64_64 _ x_138 (UInt64.ofInt (wI (8 * x_134))))) rfl ?_
   refine wpR_v (OpV_bin rfl rfl (b_and64 _ (shr64 x_138 ((UInt64.ofInt (wI (8 * x_134))).toNat)) 255)) rfl ?_
   refine wpR_v (OpV_conv rfl (cv_64_8 Tryd.underlying53 Tryd.underlying5 ((shr64 x_138 ((UInt64.ofInt (wI (8 * x_134))).toNat)) &&& 255))) rfl ?_
   refine wpR_x (OpX_lit (e := e8) (l := [((shr64 x_138 ((UInt64.ofInt (wI (8 * x_134))).toNat)) &&& 255).toUInt8]) (vs := [v8 (((shr64 x_138 ((UInt64.ofInt (wI (8 * x_134))).toNat)) &&& 255).toUInt8)]) Tryd.underlying23 ti5 rfl rfl rfl rfl (by decide) (by decide) hS) rfl ?_
   rintro v_139 w hS
   obtain ⟨x_141, hx_141, h⟩ := obind_some h
   refine wpR_x (G_append Tryd.underlying23 ti5 rfl rfl rfl hS (i := 1) rfl (hS.ro 0 rfl) hx_141) rfl ?_
   rintro v_142 w hS
   refine wpR_run 1 rfl ?_
   refine wpR_nil (QE_blk_n ?_)
   refine QE_then_n (wpC_region (wpR_run 3 rfl ?_))
   refine wpR_nil ?_
   exact QE_rnd (wpN_le _ (by exact ⟨rfl, rfl, rfl, rfl, trivial⟩) (ih_136 (x_141, wI (x_134 - 1)) _ _ ⟨v_142, rfl, (hS.pick [1, 2] (by decide) rfl)⟩ (oinl_some h hk_135)))
  have h := if_f h hb_144
  refine wpC_exit ?_
  refine QE_then_x (QE_then_x ?_)
  have h := oinr_some h hk_135
  refine QE_blk_x ?_
  refine QE_blk_n ?_
  refine QE_then_n (wpC_region (wpR_run 3 rfl ?_))
  refine wpR_nil ?_
  exact QE_rnd (wpN_le _ (by exact ⟨rfl, rfl, rfl, trivial⟩) (ih_129 (x_131, wI (x_127 + 1)) _ _ ⟨v_132, rfl, hS⟩ (oinl_some h hk_128)))
 have h := if_f h hb_146
 refine wpC_exit ?_
 refine QE_then_x (QE_then_x ?_)
 have h := oinr_some h hk_128
 refine QE_blk_x ?_
 refine QE_then_n (wpC_seq (wpC_region (wpR_run 2 rfl ?_)))
 refine wpR_nil (QE_then_n (wpC_ret ?_))
 cases h
 exact QE_ret1 rfl rfl (hS.pick [0] (by decide) rfl)
theorem c_ref4_Sum (w0 : World) (a0 : Int) (a1 : List UInt8) (va1 : Value) (hT : TB [] w0) (ha1 : RP [] w0 e8 va1 a1) (r : List UInt8)
  (h : F.ref4_Sum a0 a1 = some r) : Calls Tryd.prog 21 #[vI a0, va1] w0 (Ret fun v w => St [] w0 w [own e8 v r]) := by
 refine calls_at 21 Tryd.func21 rfl rfl rfl ?_
 have hS := St.start w0
 refine wpC_le [(0, vI a0), (1, va1)] ⟨rfl, rfl, trivial⟩ ?_
 unfold F.ref4_Sum at h
 refine wpC_seq (wpC_region (wpR_run 1 rfl ?_))
 refine wpR_nil (QE_then_n (wpC_seq (wpC_seq (wpC_region (wpR_run 1 rfl ?_)))))
 refine wpR_nil (QE_then_n (wpC_block ?_))
 refine wpC_seq (wpC_region (wpR_run 2 rfl ?_))
 refine wpR_nil (QE_then_n ?_)
 refine wpC_cond rfl (fun hb_13 => ?_) (fun hb_13 => ?_)
 ·have h := if_t h hb_13
  refine wpC_seq (wpC_region (wpR_run 1 rfl ?_))
  obtain ⟨x_1, hx_1, h⟩ := obind_some h
  refine wpR_call (by kernel_rfl) rfl (c_ref4_short _ a1 va1  (hT.now hS.fr) (ha1.now hS.fr).rp _ hx_1) rfl ?_
  rintro v_2 w hS1
  have hS := hS.call hS1
  simp only [List.cons_append, List.nil_append] at hS
  refine wpR_run 1 rfl ?_
  refine wpR_nil (QE_then_n (wpC_ret (QE_blk_r ?_)))
  refine QE_then_r ?_
  cases h
  exact QE_ret1 rfl rfl (hS.pick [0] (by decide) rfl)
 have h := if_f h hb_13
 refine wpC_seq (wpC_region (wpR_run 2 rfl ?_))
 refine wpR_nil (QE_then_n ?_)
 refine wpC_cond rfl (fun hb_12 => ?_) (fun hb_12 => ?_)
 ·have h := if_t h hb_12
  refine wpC_seq (wpC_region (wpR_run 1 rfl ?_))
  refine wpR_v (OpV_ldA (us := e64.fl F.tab_ref4_start384) Tryd.underlying54 rfl sz54 (fl_len1 (show F.tab_ref4_start384.length = 8 from rfl) rfl) rfl (hT.ref4_start384.cells hS.fr)) rfl ?_
  obtain ⟨x_4, hx_4, h⟩ := obind_some h
  refine wpR_call (by kernel_rfl) rfl (c_ref4_long _ a1 F.tab_ref4_start384 va1  (hT.now hS.fr) (ha1.now hS.fr).rp (show F.tab_ref4_start384.length = 8 from rfl) _ hx_4) rfl ?_
  rintro v_5 w hS1
  have hS := hS.call hS1
  simp only [List.cons_append, List.nil_append] at hS
  obtain ⟨hg_7, h⟩ := grd_some h
  refine wpR_v (G_slh Tryd.underlying23 ti5 rfl rfl (hS.ro 0 rfl) (tkO_of hg_7)) rfl ?_
  refine wpR_run 1 rfl ?_
  refine wpR_nil (QE_then_n (wpC_ret (QE_blk_r ?_)))
  refine QE_then_r ?_
  cases h
  replace hS := hS.trunc (i := 0) rfl hg_7.2
  exact QE_ret1 rfl rfl (hS.pick [0] (by decide) rfl)
 have h := if_f h hb_12
 refine wpC_seq (wpC_region (wpR_run 2 rfl ?_))
 refine wpR_nil (QE_then_n ?_)
 refine wpC_cond rfl (fun hb_11 => ?_) (fun hb_11 => ?_)
 ·have h := if_t h hb_11
  refine wpC_seq (wpC_region (wpR_run 1 rfl ?_))
  refine wpR_v (OpV_ldA (us := e64.fl F.tab_ref4_start512) Tryd.underlying54 rfl sz54 (fl_len1 (show F.tab_ref4_start512.length = 8 from rfl) rfl) rfl (hT.ref4_start512.cells hS.fr)) rfl ?_
  obtain ⟨x_8, hx_8, h⟩ := obind_some h
  refine wpR_call (by kernel_rfl) rfl (c_ref4_long _ a1 F.tab_ref4_start512 va1  (hT.now hS.fr) (ha1.now hS.fr).rp (show F.tab_ref4_start512.length = 8 from rfl) _ hx_8) rfl ?_
  rintro v_9 w hS1
  have hS := hS.call hS1
  simp only [List.cons_append, List.nil_append] at hS
  refine wpR_run 1 rfl ?_
  refine wpR_nil (QE_then_n (wpC_ret (QE_blk_r ?_)))
  refine QE_then_r ?_
  cases h
  exact QE_ret1 rfl rfl (hS.pick [0] (by decide) rfl)
 have h := if_f h hb_11
 refine wpC_skip (QE_blk_n ?_)
 refine QE_then_n (wpC_seq (wpC_region (wpR_run 1 rfl ?_)))
 refine wpR_nil (QE_then_n (wpC_ret ?_))
 cases h
 exact QE_ret1 rfl rfl ((hS.nil e8).pick [0] (by decide) rfl)
end Go.Proofs
