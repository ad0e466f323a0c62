import Derived.Test.YtmpcjpcipmdgeaaDoorTW0
import Derived.Test.YtmpcjpcipmdgeaaDoorGkFref5
import Derived.Test.YtmpcjpcipmdgeaaDoorTWref4
set_option linter.unusedVariables false
set_option linter.unusedSimpArgs false
set_option linter.unusedVariables false
set_option maxRecDepth 4000
namespace Go.Proofs
open Go Go.RowKit Go.Gk
theorem c_ref5_Block (w0 : World) (a0 : Int)   (r : Int)
  (h : F.ref5_Block a0 = some r) : Calls Tryd.prog 19 #[vI a0] w0 (Ret fun v w => v = vI r ∧ St [] w0 w []) := by
 refine calls_at 9 Tryd.func19 rfl rfl rfl ?_
 have hS := St.start w0
 refine wpC_le [(0, vI a0)] ⟨rfl, trivial⟩ ?_
 unfold F.ref5_Block at h
 refine wpC_seq (wpC_region (wpR_run 1 rfl ?_))
 refine wpR_nil (QE_then_n (wpC_seq (wpC_seq (wpC_region (wpR_run 1 rfl ?_)))))
 refine wpR_nil (QE_then_n (wpC_block ?_))
 refine wpC_seq (wpC_region (wpR_run 2 rfl ?_))
 refine wpR_nil (QE_then_n ?_)
 refine wpC_cond rfl (fun hb_5 => ?_) (fun hb_5 => ?_)
 ·have h := if_t h hb_5
  refine wpC_seq (wpC_region (wpR_run 1 rfl ?_))
  refine wpR_nil (QE_then_n (wpC_ret (QE_blk_r ?_)))
  refine QE_then_r ?_
  cases h
  exact QE_ret1 rfl rfl ⟨rfl, hS⟩
 have h := if_f h hb_5
 refine seq_join (r := r) (fun (g : Bool) L w => L = [(6, vB g)] ∧ St [] w0 w []) (F.ref5_Block_K1) ?_ ?_
 rotate_left
 ·intro hK_3
  refine wpC_seq (wpC_region (wpR_run 2 rfl ?_))
  refine wpR_nil (QE_then_n ?_)
  refine wpC_cond rfl (fun hb_1 => ?_) (fun hb_1 => ?_)
  ·have h := if_t h hb_1
   refine wpC_skip (QE_then_n ?_)
   exact wpC_le _ (by exact ⟨rfl, trivial⟩) (hK_3 (a0 == 2) _ _ ⟨rfl, hS⟩ h)
  have h := if_f h hb_1
  refine wpC_region (wpR_run 2 rfl ?_)
  refine wpR_nil (QE_then_n ?_)
  exact wpC_le _ (by exact ⟨rfl, trivial⟩) (hK_3 (a0 == 3) _ _ ⟨rfl, hS⟩ h)
 rintro x_2 L w hJ h
 try dsimp only at hJ
 obtain ⟨rfl, hS⟩ := hJ
 unfold F.ref5_Block_K1 at h
 refine wpC_cond rfl (fun hb_4 => ?_) (fun hb_4 => ?_)
 ·have h := if_t h hb_4
  refine wpC_seq (wpC_region (wpR_run 1 rfl ?_))
  refine wpR_nil (QE_then_n (wpC_ret (QE_blk_r ?_)))
  refine QE_then_r ?_
  cases h
  exact QE_ret1 rfl rfl ⟨rfl, hS⟩
 have h := if_f h hb_4
 refine wpC_skip (QE_blk_n ?_)
 refine QE_then_n (wpC_seq (wpC_region (wpR_run 1 rfl ?_)))
 refine wpR_nil (QE_then_n (wpC_ret ?_))
 cases h
 exact QE_ret1 rfl rfl ⟨rfl, hS⟩
theorem c_ref5_Filled (w0 : World) (a0 : Int) (a1 : List UInt8) (a2 : UInt8) (va1 : Value) (hT : TB [] w0) (ha1 : RP [] w0 e8 va1 a1) (r : List UInt8)
  (h : F.ref5_Filled a0 a1 a2 = some r) : Calls Tryd.prog 20 #[vI a0, va1, v8 a2] w0 (Ret fun v w => St [] w0 w [own e8 v r]) := by
 refine calls_at 41 Tryd.func20 rfl rfl rfl ?_
 have hS := St.start w0
 refine wpC_le [(0, vI a0), (1, va1), (2, v8 a2)] ⟨rfl, rfl, rfl, trivial⟩ ?_
 unfold F.ref5_Filled at h
 refine wpC_seq (wpC_region (wpR_run 1 rfl ?_))
 refine wpR_nil (QE_then_n (wpC_seq (wpC_region (wpR_run 2 rfl ?_))))
 refine wpR_nil (QE_then_n (wpC_seq (wpC_seq (wpC_region (wpR_run 1 rfl ?_)))))
 refine wpR_v (OpV_len Tryd.underlying23 rfl (ha1.now hS.fr)) rfl ?_
 refine wpR_run 1 rfl ?_
 obtain ⟨x_6, hx_6, h⟩ := obind_some h
 refine wpR_call (by kernel_rfl) rfl (c_ref5_Block _ a0    _ hx_6) rfl ?_
 rintro _ w ⟨rfl, hS1⟩
 have hS := hS.call hS1
 simp only [List.cons_append, List.nil_append] at hS
 refine wpR_run 1 rfl ?_
 refine wpR_nil (QE_then_n ?_)
 refine wpC_cond rfl (fun hb_48 => ?_) (fun hb_48 => ?_)
 ·have h := if_t h hb_48
  refine wpC_region (wpR_run 2 rfl ?_)
  obtain ⟨x_7, hx_7, h⟩ := obind_some h
  refine wpR_call (by kernel_rfl) rfl (c_ref4_Sum _ a0 a1 va1  (hT.now hS.fr) (ha1.now hS.fr).rp _ hx_7) rfl ?_
  rintro v_8 w hS1
  have hS := hS.call hS1
  simp only [List.cons_append, List.nil_append] at hS
  refine wpR_run 1 rfl ?_
  refine wpR_nil (QE_then_n (wpC_seq (wpC_region (wpR_run 1 rfl ?_))))
  refine wpR_nil (QE_then_n (wpC_seq (wpC_seq (wpC_region (wpR_run 1 rfl ?_)))))
  refine wpR_nil (QE_then_n (wpC_block ?_))
  refine wpC_le [(0, vI a0), (2, v8 a2), (7, v_8), (8, .slice none 0 0), (9, vI 0)] ⟨rfl, rfl, rfl, rfl, rfl, trivial⟩ ?_
  refine loop_ind (F.ref5_Filled_L1 a0 x_7 a2) (fun (s : List UInt8 × Int) L w => ∃ (v_11 : Value), L = [(0, vI a0), (2, v8 a2), (7, v_8), (8, v_11), (9, vI s.2)] ∧ St [] w0 w [own e8 v_11 s.1, own e8 v_8 x_7]) ?_ ([], 0) ⟨.slice none 0 0, rfl, (hS.nil e8)⟩ h
  rintro k_28 ⟨x_10, x_13⟩ L w q_16 hI ih_15 h hk_14
  try dsimp only at hI
  obtain ⟨v_11, rfl, hS⟩ := hI
  unfold F.ref5_Filled_L1 at h
  refine wpC_seq (wpC_seq (wpC_region (wpR_run 2 rfl ?_)))
  obtain ⟨x_17, hx_17, h⟩ := obind_some h
  refine wpR_call (by kernel_rfl) rfl (c_ref5_Block _ a0    _ hx_17) rfl ?_
  rintro _ w ⟨rfl, hS1⟩
  have hS := hS.call hS1
  simp only [List.cons_append, List.nil_append] at hS
  refine wpR_run 1 rfl ?_
  refine wpR_nil (QE_then_n ?_)
  refine wpC_cond rfl (fun hb_27 => ?_) (fun hb_27 => ?_)
  ·have h := if_t h hb_27
   refine wpC_skip (QE_then_n (wpC_seq (wpC_block ?_)))
   refine wpC_seq (wpC_region (wpR_run 1 rfl ?_))
   refine wpR_nil (QE_then_n ?_)
   refine seq_join (r := q_16) (fun (g : UInt8) L w => L = [(0, vI a0), (2, v8 a2), (7, v_8), (8, v_11), (9, vI x_13), (10, v8 g)] ∧ St [] w0 w [own e8 v_8 x_7, own e8 v_11 x_10]) (F.ref5_Filled_K1 a2 x_10 x_13) ?_ ?_
   rotate_left
   ·intro hK_21
    refine wpC_seq (wpC_region (wpR_run 2 rfl ?_))
    refine wpR_v (OpV_len Tryd.underlying23 rfl (hS.ro 1 rfl)) rfl ?_
    refine wpR_run 1 rfl ?_
    refine wpR_nil (QE_then_n ?_)
    refine wpC_cond rfl (fun hb_19 => ?_) (fun hb_19 => ?_)
    ·have h := if_t h hb_19
     refine wpC_region (wpR_run 2 rfl ?_)
     obtain ⟨x_18, hx_18, h⟩ := obind_some h
     refine wpR_v (G_ix Tryd.underlying23 ti5 rfl rfl (hS.ro 1 rfl) hx_18) rfl ?_
     refine wpR_v (G_load Tryd.underlying5 rfl rfl (hS.ro 1 rfl) hx_18 rfl) rfl ?_
     refine wpR_run 1 rfl ?_
     refine wpR_nil (QE_then_n ?_)
     exact wpC_le _ (by exact ⟨rfl, rfl, rfl, rfl, rfl, rfl, trivial⟩) (hK_21 x_18 _ _ ⟨rfl, (hS.pick [1, 0] (by decide) rfl)⟩ h)
    have h := if_f h hb_19
    refine wpC_skip (QE_then_n ?_)
    exact wpC_le _ (by exact ⟨rfl, rfl, rfl, rfl, rfl, rfl, trivial⟩) (hK_21 0 _ _ ⟨rfl, (hS.pick [1, 0] (by decide) rfl)⟩ h)
   rintro x_20 L w hJ h
   try dsimp only at hJ
   obtain ⟨rfl, hS⟩ := hJ
   unfold F.ref5_Filled_K1 at h
   refine wpC_region (wpR_run 3 rfl ?_)
   refine wpR_v (OpV_bin rfl rfl (b_xor8 _ x_20 a2)) rfl ?_
   refine wpR_x (OpX_lit (e := e8) (l := [x_20 ^^^ a2]) (vs := [v8 (x_20 ^^^ a2)]) Tryd.underlying23 ti5 rfl rfl rfl rfl (by decide) (by decide) hS) rfl ?_
   rintro v_22 w hS
   obtain ⟨x_24, hx_24, h⟩ := obind_some h
   refine wpR_x (G_append Tryd.underlying23 ti5 rfl rfl rfl hS (i := 2) rfl (hS.ro 0 rfl) hx_24) rfl ?_
   rintro v_25 w hS
   refine wpR_run 1 rfl ?_
   refine wpR_nil (QE_blk_n ?_)
   refine QE_then_n (wpC_region (wpR_run 3 rfl ?_))
   refine wpR_nil ?_
   exact QE_rnd (wpN_le _ (by exact ⟨rfl, rfl, rfl, rfl, rfl, trivial⟩) (ih_15 (x_24, wI (x_13 + 1)) _ _ ⟨v_25, rfl, (hS.pick [2, 1] (by decide) rfl)⟩ (oinl_some h hk_14)))
  have h := if_f h hb_27
  refine wpC_exit ?_
  refine QE_then_x (QE_then_x ?_)
  have h := oinr_some h hk_14
  refine QE_blk_x ?_
  refine QE_then_n (wpC_seq (wpC_region (wpR_run 2 rfl ?_)))
  refine wpR_nil (QE_then_n (wpC_ret ?_))
  cases h
  exact QE_ret1 rfl rfl (hS.pick [0] (by decide) rfl)
 have h := if_f h hb_48
 refine wpC_skip (QE_then_n (wpC_seq (wpC_region (wpR_run 1 rfl ?_))))
 refine wpR_nil (QE_then_n (wpC_seq (wpC_seq (wpC_region (wpR_run 1 rfl ?_)))))
 refine wpR_nil (QE_then_n (wpC_block ?_))
 refine wpC_le [(0, vI a0), (2, v8 a2), (7, va1), (8, .slice none 0 0), (9, vI 0)] ⟨rfl, rfl, rfl, rfl, rfl, trivial⟩ ?_
 refine loop_ind (F.ref5_Filled_L2 a0 a1 a2) (fun (s : List UInt8 × Int) L w => ∃ (v_30 : Value), L = [(0, vI a0), (2, v8 a2), (7, va1), (8, v_30), (9, vI s.2)] ∧ St [] w0 w [own e8 v_30 s.1]) ?_ ([], 0) ⟨.slice none 0 0, rfl, (hS.nil e8)⟩ h
 rintro k_47 ⟨x_29, x_32⟩ L w q_35 hI ih_34 h hk_33
 try dsimp only at hI
 obtain ⟨v_30, rfl, hS⟩ := hI
 unfold F.ref5_Filled_L2 at h
 refine wpC_seq (wpC_seq (wpC_region (wpR_run 2 rfl ?_)))
 obtain ⟨x_36, hx_36, h⟩ := obind_some h
 refine wpR_call (by kernel_rfl) rfl (c_ref5_Block _ a0    _ hx_36) rfl ?_
 rintro _ w ⟨rfl, hS1⟩
 have hS := hS.call hS1
 simp only [List.cons_append, List.nil_append] at hS
 refine wpR_run 1 rfl ?_
 refine wpR_nil (QE_then_n ?_)
 refine wpC_cond rfl (fun hb_46 => ?_) (fun hb_46 => ?_)
 ·have h := if_t h hb_46
  refine wpC_skip (QE_then_n (wpC_seq (wpC_block ?_)))
  refine wpC_seq (wpC_region (wpR_run 1 rfl ?_))
  refine wpR_nil (QE_then_n ?_)
  refine seq_join (r := q_35) (fun (g : UInt8) L w => L = [(0, vI a0), (2, v8 a2), (7, va1), (8, v_30), (9, vI x_32), (10, v8 g)] ∧ St [] w0 w [own e8 v_30 x_29]) (F.ref5_Filled_K2 a2 x_29 x_32) ?_ ?_
  rotate_left
  ·intro hK_40
   refine wpC_seq (wpC_region (wpR_run 2 rfl ?_))
   refine wpR_v (OpV_len Tryd.underlying23 rfl (ha1.now hS.fr)) rfl ?_
   refine wpR_run 1 rfl ?_
   refine wpR_nil (QE_then_n ?_)
   refine wpC_cond rfl (fun hb_38 => ?_) (fun hb_38 => ?_)
   ·have h := if_t h hb_38
    refine wpC_region (wpR_run 2 rfl ?_)
    obtain ⟨x_37, hx_37, h⟩ := obind_some h
    refine wpR_v (G_ix Tryd.underlying23 ti5 rfl rfl (ha1.now hS.fr) hx_37) rfl ?_
    refine wpR_v (G_load Tryd.underlying5 rfl rfl (ha1.now hS.fr) hx_37 rfl) rfl ?_
    refine wpR_run 1 rfl ?_
    refine wpR_nil (QE_then_n ?_)
    exact wpC_le _ (by exact ⟨rfl, rfl, rfl, rfl, rfl, rfl, trivial⟩) (hK_40 x_37 _ _ ⟨rfl, hS⟩ h)
   have h := if_f h hb_38
   refine wpC_skip (QE_then_n ?_)
   exact wpC_le _ (by exact ⟨rfl, rfl, rfl, rfl, rfl, rfl, trivial⟩) (hK_40 0 _ _ ⟨rfl, hS⟩ h)
  rintro x_39 L w hJ h
  try dsimp only at hJ
  obtain ⟨rfl, hS⟩ := hJ
  unfold F.ref5_Filled_K2 at h
  refine wpC_region (wpR_run 3 rfl ?_)
  refine wpR_v (OpV_bin rfl rfl (b_xor8 _ x_39 a2)) rfl ?_
  refine wpR_x (OpX_lit (e := e8) (l := [x_39 ^^^ a2]) (vs := [v8 (x_39 ^^^ a2)]) Tryd.underlying23 ti5 rfl rfl rfl rfl (by decide) (by decide) hS) rfl ?_
  rintro v_41 w hS
  obtain ⟨x_43, hx_43, h⟩ := obind_some h
  refine wpR_x (G_append Tryd.underlying23 ti5 rfl rfl rfl hS (i := 1) rfl (hS.ro 0 rfl) hx_43) rfl ?_
  rintro v_44 w hS
  refine wpR_run 1 rfl ?_
  refine wpR_nil (QE_blk_n ?_)
  refine QE_then_n (wpC_region (wpR_run 3 rfl ?_))
  refine wpR_nil ?_
  exact QE_rnd (wpN_le _ (by exact ⟨rfl, rfl, rfl, rfl, rfl, trivial⟩) (ih_34 (x_43, wI (x_32 + 1)) _ _ ⟨v_44, rfl, (hS.pick [1] (by decide) rfl)⟩ (oinl_some h hk_33)))
 have h := if_f h hb_46
 refine wpC_exit ?_
 refine QE_then_x (QE_then_x ?_)
 have h := oinr_some h hk_33
 refine QE_blk_x ?_
 refine QE_then_n (wpC_seq (wpC_region (wpR_run 2 rfl ?_)))
 refine wpR_nil (QE_then_n (wpC_ret ?_))
 cases h
 exact QE_ret1 rfl rfl (hS.pick [0] (by decide) rfl)
theorem c_ref5_Sum (w0 : World) (a0 : Int) (a1 : List UInt8) (a2 : List UInt8) (va1 : Value) (va2 : Value) (hT : TB [] w0) (ha1 : RP [] w0 e8 va1 a1) (ha2 : RP [] w0 e8 va2 a2) (r : List UInt8)
  (h : F.ref5_Sum a0 a1 a2 = some r) : Calls Tryd.prog 15 #[vI a0, va1, va2] w0 (Ret fun v w => St [] w0 w [own e8 v r]) := by
 refine calls_at 53 Tryd.func15 rfl rfl rfl ?_
 have hS := St.start w0
 refine wpC_le [(0, vI a0), (1, va1), (2, va2)] ⟨rfl, rfl, rfl, trivial⟩ ?_
 unfold F.ref5_Sum at h
 refine wpC_seq (wpC_region (wpR_run 1 rfl ?_))
 refine wpR_nil (QE_then_n (wpC_seq (wpC_seq (wpC_region (wpR_run 1 rfl ?_)))))
 obtain ⟨x_1, hx_1, h⟩ := obind_some h
 refine wpR_call (by kernel_rfl) rfl (c_ref5_Block _ a0    _ hx_1) rfl ?_
 rintro _ w ⟨rfl, hS1⟩
 have hS := hS.call hS1
 simp only [List.cons_append, List.nil_append] at hS
 refine wpR_run 1 rfl ?_
 refine wpR_nil (QE_then_n ?_)
 refine wpC_cond rfl (fun hb_44 => ?_) (fun hb_44 => ?_)
 ·have h := if_t h hb_44
  refine wpC_seq (wpC_region (wpR_run 1 rfl ?_))
  refine wpR_nil (QE_then_n (wpC_ret (QE_then_r ?_)))
  cases h
  exact QE_ret1 rfl rfl ((hS.nil e8).pick [0] (by decide) rfl)
 have h := if_f h hb_44
 refine wpC_skip (QE_then_n (wpC_seq (wpC_region (wpR_run 2 rfl ?_))))
 obtain ⟨x_2, hx_2, h⟩ := obind_some h
 refine wpR_call (by kernel_rfl) rfl (c_ref5_Filled _ a0 a1 54 va1  (hT.now hS.fr) (ha1.now hS.fr).rp _ hx_2) rfl ?_
 rintro v_3 w hS1
 have hS := hS.call hS1
 simp only [List.cons_append, List.nil_append] at hS
 refine wpR_run 1 rfl ?_
 refine wpR_nil (QE_then_n (wpC_seq (wpC_seq (wpC_region (wpR_run 1 rfl ?_)))))
 refine wpR_nil (QE_then_n (wpC_block ?_))
 refine wpC_le [(0, vI a0), (1, va1), (2, va2), (7, v_3), (8, vI 0)] ⟨rfl, rfl, rfl, rfl, rfl, trivial⟩ ?_
 refine loop_ind (F.ref5_Sum_L1 a0 a1 a2) (fun (s : List UInt8 × Int) L w => ∃ (v_6 : Value), L = [(0, vI a0), (1, va1), (2, va2), (7, v_6), (8, vI s.2)] ∧ St [] w0 w [own e8 v_6 s.1]) ?_ (x_2, 0) ⟨v_3, rfl, hS⟩ h
 rintro k_43 ⟨x_5, x_8⟩ L w q_11 hI ih_10 h hk_9
 try dsimp only at hI
 obtain ⟨v_6, rfl, hS⟩ := hI
 unfold F.ref5_Sum_L1 at h
 refine wpC_seq (wpC_seq (wpC_region (wpR_run 2 rfl ?_)))
 refine wpR_v (OpV_len Tryd.underlying23 rfl (ha2.now hS.fr)) rfl ?_
 refine wpR_run 1 rfl ?_
 refine wpR_nil (QE_then_n ?_)
 refine wpC_cond rfl (fun hb_42 => ?_) (fun hb_42 => ?_)
 ·have h := if_t h hb_42
  refine wpC_skip (QE_then_n (wpC_seq (wpC_block ?_)))
  refine wpC_region (wpR_run 3 rfl ?_)
  obtain ⟨x_12, hx_12, h⟩ := obind_some h
  refine wpR_v (G_ix Tryd.underlying23 ti5 rfl rfl (ha2.now hS.fr) hx_12) rfl ?_
  refine wpR_v (G_load Tryd.underlying5 rfl rfl (ha2.now hS.fr) hx_12 rfl) rfl ?_
  refine wpR_x (OpX_lit (e := e8) (l := [x_12]) (vs := [v8 x_12]) Tryd.underlying23 ti5 rfl rfl rfl rfl (by decide) (by decide) hS) rfl ?_
  rintro v_13 w hS
  obtain ⟨x_15, hx_15, h⟩ := obind_some h
  refine wpR_x (G_append Tryd.underlying23 ti5 rfl rfl rfl hS (i := 1) rfl (hS.ro 0 rfl) hx_15) rfl ?_
  rintro v_16 w hS
  refine wpR_run 1 rfl ?_
  refine wpR_nil (QE_blk_n ?_)
  refine QE_then_n (wpC_region (wpR_run 3 rfl ?_))
  refine wpR_nil ?_
  exact QE_rnd (wpN_le _ (by exact ⟨rfl, rfl, rfl, rfl, rfl, trivial⟩) (ih_10 (x_15, wI (x_8 + 1)) _ _ ⟨v_16, rfl, (hS.pick [1] (by decide) rfl)⟩ (oinl_some h hk_9)))
 have h := if_f h hb_42
 refine wpC_exit ?_
 refine QE_then_x (QE_then_x ?_)
 have h := oinr_some h hk_9
 refine QE_blk_x ?_
 refine QE_then_n (wpC_seq (wpC_region (wpR_run 2 rfl ?_)))
 obtain ⟨x_18, hx_18, h⟩ := obind_some h
 refine wpR_call (by kernel_rfl) rfl (c_ref4_Sum _ a0 x_5 v_6  (hT.now hS.fr) (hS.ro 0 rfl).rp _ hx_18) rfl ?_
 rintro v_19 w hS1
 have hS := hS.call hS1
 simp only [List.cons_append, List.nil_append] at hS
 refine wpR_run 1 rfl ?_
 refine wpR_nil (QE_then_n (wpC_seq (wpC_region (wpR_run 2 rfl ?_))))
 obtain ⟨x_21, hx_21, h⟩ := obind_some h
 refine wpR_call (by kernel_rfl) rfl (c_ref5_Filled _ a0 a1 92 va1  (hT.now hS.fr) (ha1.now hS.fr).rp _ hx_21) rfl ?_
 rintro v_22 w hS1
 have hS := hS.call hS1
 simp only [List.cons_append, List.nil_append] at hS
 refine wpR_run 1 rfl ?_
 refine wpR_nil (QE_then_n (wpC_seq (wpC_seq (wpC_region (wpR_run 1 rfl ?_)))))
 refine wpR_nil (QE_then_n (wpC_block ?_))
 refine wpC_le [(0, vI a0), (9, v_19), (10, v_22), (11, vI 0)] ⟨rfl, rfl, rfl, rfl, trivial⟩ ?_
 refine loop_ind (F.ref5_Sum_L2 a0 x_18) (fun (s : List UInt8 × Int) L w => ∃ (v_25 : Value), L = [(0, vI a0), (9, v_19), (10, v_25), (11, vI s.2)] ∧ St [] w0 w [own e8 v_25 s.1, own e8 v_19 x_18]) ?_ (x_21, 0) ⟨v_22, rfl, (hS.pick [0, 1] (by decide) rfl)⟩ h
 rintro k_41 ⟨x_24, x_27⟩ L w q_30 hI ih_29 h hk_28
 try dsimp only at hI
 obtain ⟨v_25, rfl, hS⟩ := hI
 unfold F.ref5_Sum_L2 at h
 refine wpC_seq (wpC_seq (wpC_region (wpR_run 2 rfl ?_)))
 refine wpR_v (OpV_len Tryd.underlying23 rfl (hS.ro 1 rfl)) rfl ?_
 refine wpR_run 1 rfl ?_
 refine wpR_nil (QE_then_n ?_)
 refine wpC_cond rfl (fun hb_40 => ?_) (fun hb_40 => ?_)
 ·have h := if_t h hb_40
  refine wpC_skip (QE_then_n (wpC_seq (wpC_block ?_)))
  refine wpC_region (wpR_run 3 rfl ?_)
  obtain ⟨x_31, hx_31, h⟩ := obind_some h
  refine wpR_v (G_ix Tryd.underlying23 ti5 rfl rfl (hS.ro 1 rfl) hx_31) rfl ?_
  refine wpR_v (G_load Tryd.underlying5 rfl rfl (hS.ro 1 rfl) hx_31 rfl) rfl ?_
  refine wpR_x (OpX_lit (e := e8) (l := [x_31]) (vs := [v8 x_31]) Tryd.underlying23 ti5 rfl rfl rfl rfl (by decide) (by decide) hS) rfl ?_
  rintro v_32 w hS
  obtain ⟨x_34, hx_34, h⟩ := obind_some h
  refine wpR_x (G_append Tryd.underlying23 ti5 rfl rfl rfl hS (i := 1) rfl (hS.ro 0 rfl) hx_34) rfl ?_
  rintro v_35 w hS
  refine wpR_run 1 rfl ?_
  refine wpR_nil (QE_blk_n ?_)
  refine QE_then_n (wpC_region (wpR_run 3 rfl ?_))
  refine wpR_nil ?_
  exact QE_rnd (wpN_le _ (by exact ⟨rfl, rfl, rfl, rfl, trivial⟩) (ih_29 (x_34, wI (x_27 + 1)) _ _ ⟨v_35, rfl, (hS.pick [1, 2] (by decide) rfl)⟩ (oinl_some h hk_28)))
 have h := if_f h hb_40
 refine wpC_exit ?_
 refine QE_then_x (QE_then_x ?_)
 have h := oinr_some h hk_28
 refine QE_blk_x ?_
 refine QE_then_n (wpC_seq (wpC_region (wpR_run 2 rfl ?_)))
 obtain ⟨x_37, hx_37, h⟩ := obind_some h
 refine wpR_call (by kernel_rfl) rfl (c_ref4_Sum _ a0 x_24 v_25  (hT.now hS.fr) (hS.ro 0 rfl).rp _ hx_37) rfl ?_
 rintro v_38 w hS1
 have hS := hS.call hS1
 simp only [List.cons_append, List.nil_append] at hS
 refine wpR_run 1 rfl ?_
 refine wpR_nil (QE_then_n (wpC_ret ?_))
 cases h
 exact QE_ret1 rfl rfl (hS.pick [0] (by decide) rfl)
end Go.Proofs
