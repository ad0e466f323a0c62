import Derived.Test.YtpbgncmffgnohaaGreatTW0
import Derived.Test.YtpbgncmffgnohaaGreatGkFref11
import Derived.Test.YtpbgncmffgnohaaGreatTWref6
import Derived.Test.YtpbgncmffgnohaaGreatTWref7
set_option linter.unusedVariables false
set_option linter.unusedSimpArgs false
set_option linter.unusedVariables false
set_option maxRecDepth 4000
namespace Go.Proofs
open Go Go.RowKit Go.Gk
theorem c_ref11_Size (w0 : World) (a0 : Int)   (r : Int)
  (h : F.ref11_Size a0 = some r) : Calls Tryz.prog 41 #[vI a0] w0 (Ret fun v w => v = vI r ∧ St [] w0 w []) := by
 refine calls_at 8 Tryz.func41 rfl rfl rfl ?_
 have hS := St.start w0
 refine wpC_le [(0, vI a0)] ⟨rfl, trivial⟩ ?_
 unfold F.ref11_Size at h
 refine wpC_seq (wpC_region (wpR_run 1 rfl ?_))
 refine wpR_nil (QE_then_n (wpC_seq (wpC_seq (wpC_region (wpR_run 1 rfl ?_)))))
 refine wpR_nil (QE_then_n (wpC_block ?_))
 refine wpC_seq (wpC_region (wpR_run 2 rfl ?_))
 refine wpR_nil (QE_then_n ?_)
 refine wpC_cond rfl (fun hb_2 => ?_) (fun hb_2 => ?_)
 ·have h := if_t h hb_2
  refine wpC_seq (wpC_region (wpR_run 1 rfl ?_))
  refine wpR_nil (QE_then_n (wpC_ret (QE_blk_r ?_)))
  refine QE_then_r ?_
  cases h
  exact QE_ret1 rfl rfl ⟨rfl, hS⟩
 have h := if_f h hb_2
 refine wpC_seq (wpC_region (wpR_run 2 rfl ?_))
 refine wpR_nil (QE_then_n ?_)
 refine wpC_cond rfl (fun hb_1 => ?_) (fun hb_1 => ?_)
 ·have h := if_t h hb_1
  refine wpC_seq (wpC_region (wpR_run 1 rfl ?_))
  refine wpR_nil (QE_then_n (wpC_ret (QE_blk_r ?_)))
  refine QE_then_r ?_
  cases h
  exact QE_ret1 rfl rfl ⟨rfl, hS⟩
 have h := if_f h hb_1
 refine wpC_skip (QE_blk_n ?_)
 refine QE_then_n (wpC_seq (wpC_region (wpR_run 1 rfl ?_)))
 refine wpR_nil (QE_then_n (wpC_ret ?_))
 cases h
 exact QE_ret1 rfl rfl ⟨rfl, hS⟩
theorem c_ref11_Proper (w0 : World) (a0 : List UInt32) (va0 : Value) (ha0 : RP [] w0 e32 va0 a0) (r : List UInt32)
  (h : F.ref11_Proper a0 = some r) : Calls Tryz.prog 53 #[va0] w0 (Ret fun v w => St [] w0 w [own e32 v r]) := by
 refine calls_at 33 Tryz.func53 rfl rfl rfl ?_
 have hS := St.start w0
 refine wpC_le [(0, va0)] ⟨rfl, trivial⟩ ?_
 unfold F.ref11_Proper at h
 refine wpC_seq (wpC_region (wpR_run 1 rfl ?_))
 refine wpR_nil (QE_then_n (wpC_seq (wpC_region (wpR_run 1 rfl ?_))))
 refine wpR_nil (QE_then_n (wpC_seq (wpC_region (wpR_run 1 rfl ?_))))
 refine wpR_v (OpV_len Tryz.underlying25 rfl (ha0.now hS.fr)) rfl ?_
 refine wpR_run 1 rfl ?_
 refine wpR_nil (QE_then_n (wpC_seq (wpC_block ?_)))
 refine wpC_le [(0, va0), (3, .slice none 0 0), (4, vI (a0.length : Int))] ⟨rfl, rfl, rfl, trivial⟩ ?_
 refine loop_ind (F.ref11_Proper_L1 a0) (fun (s : Int) L w => L = [(0, va0), (3, .slice none 0 0), (4, vI s)] ∧ St [] w0 w []) ?_ (a0.length : Int) ⟨rfl, hS⟩ h
 rintro k_25 x_1 L w q_4 hI ih_3 h hk_2
 try dsimp only at hI
 obtain ⟨rfl, hS⟩ := hI
 unfold F.ref11_Proper_L1 at h
 refine wpC_seq ?_
 refine seq_join (r := q_4) (fun (g : Bool) L w => L = [(0, va0), (3, .slice none 0 0), (4, vI x_1), (17, vB g)] ∧ St [] w0 w []) (F.ref11_Proper_K1 x_1 a0) ?_ ?_
 rotate_left
 ·intro hK_8
  refine wpC_region (wpR_run 3 rfl ?_)
  cases hb_5 : (decide ((0 : Int) < x_1))
  case true =>
   have h := if_t h hb_5
   try simp only [hb_5]
   refine wpR_run 3 rfl ?_
   obtain ⟨x_6, hx_6, h⟩ := obind_some h
   refine wpR_gv (t := 10) rfl rfl (G_ix Tryz.underlying25 ti52 rfl rfl (ha0.now hS.fr) hx_6) rfl ?_
   refine wpR_gv (t := 10) rfl rfl (G_load Tryz.underlying52 rfl rfl (ha0.now hS.fr) hx_6 rfl) rfl ?_
   refine wpR_gv (t := 10) rfl rfl (OpV_bin rfl rfl (b_eql32 _ x_6 0)) rfl ?_
   refine wpR_run 1 rfl ?_
   refine wpR_nil (QE_then_n ?_)
   exact wpC_le _ (by exact ⟨rfl, rfl, rfl, rfl, trivial⟩) (hK_8 (x_6 == 0) _ _ ⟨rfl, hS⟩ h)
  case false =>
   have h := if_f h hb_5
   try simp only [hb_5]
   refine wpR_run 7 rfl ?_
   refine wpR_nil (QE_then_n ?_)
   exact wpC_le _ (by exact ⟨rfl, rfl, rfl, rfl, trivial⟩) (hK_8 false _ _ ⟨rfl, hS⟩ h)
 rintro x_7 L w hJ h
 try dsimp only at hJ
 obtain ⟨rfl, hS⟩ := hJ
 unfold F.ref11_Proper_K1 at h
 refine wpC_cond rfl (fun hb_24 => ?_) (fun hb_24 => ?_)
 ·have h := if_t h hb_24
  refine wpC_skip (QE_then_n (wpC_block ?_))
  refine wpC_region (wpR_run 3 rfl ?_)
  refine wpR_nil (QE_blk_n ?_)
  exact QE_rnd (wpN_le _ (by exact ⟨rfl, rfl, rfl, trivial⟩) (ih_3 (wI (x_1 - 1)) _ _ ⟨rfl, hS⟩ (oinl_some h hk_2)))
 have h := if_f h hb_24
 refine wpC_exit ?_
 refine QE_then_x (QE_then_x ?_)
 have h := oinr_some h hk_2
 refine QE_blk_x ?_
 refine QE_then_n (wpC_seq (wpC_seq (wpC_region (wpR_run 1 rfl ?_))))
 refine wpR_nil (QE_then_n (wpC_block ?_))
 refine wpC_le [(0, va0), (3, .slice none 0 0), (4, vI x_1), (5, vI 0)] ⟨rfl, rfl, rfl, rfl, trivial⟩ ?_
 refine loop_ind (F.ref11_Proper_L2 a0 x_1) (fun (s : List UInt32 × Int) L w => ∃ (v_10 : Value), L = [(0, va0), (3, v_10), (4, vI x_1), (5, vI s.2)] ∧ St [] w0 w [own e32 v_10 s.1]) ?_ ([], 0) ⟨.slice none 0 0, rfl, (hS.nil e32)⟩ h
 rintro k_23 ⟨x_9, x_12⟩ L w q_15 hI ih_14 h hk_13
 try dsimp only at hI
 obtain ⟨v_10, rfl, hS⟩ := hI
 unfold F.ref11_Proper_L2 at h
 refine wpC_seq (wpC_seq (wpC_region (wpR_run 3 rfl ?_)))
 refine wpR_nil (QE_then_n ?_)
 refine wpC_cond rfl (fun hb_22 => ?_) (fun hb_22 => ?_)
 ·have h := if_t h hb_22
  refine wpC_skip (QE_then_n (wpC_seq (wpC_block ?_)))
  refine wpC_region (wpR_run 3 rfl ?_)
  obtain ⟨x_16, hx_16, h⟩ := obind_some h
  refine wpR_v (G_ix Tryz.underlying25 ti52 rfl rfl (ha0.now hS.fr) hx_16) rfl ?_
  refine wpR_v (G_load Tryz.underlying52 rfl rfl (ha0.now hS.fr) hx_16 rfl) rfl ?_
  refine wpR_x (OpX_lit (e := e32) (l := ([x_16] : List UInt32)) (vs := [v32 x_16]) Tryz.underlying25 ti52 rfl rfl rfl rfl (by decide) (by decide) hS) rfl ?_
  rintro v_17 w hS
  obtain ⟨x_19, hx_19, h⟩ := obind_some h
  refine wpR_x (G_append Tryz.underlying25 ti52 rfl rfl rfl hS (i := 1) rfl (hS.ro 0 rfl) hx_19) rfl ?_
  rintro v_20 w hS
  refine wpR_run 1 rfl ?_
  refine wpR_nil (QE_blk_n ?_)
  refine QE_then_n (wpC_region (wpR_run 3 rfl ?_))
  refine wpR_nil ?_
  exact QE_rnd (wpN_le _ (by exact ⟨rfl, rfl, rfl, rfl, trivial⟩) (ih_14 (x_19, wI (x_12 + 1)) _ _ ⟨v_20, rfl, (hS.pick [1] (by decide) rfl)⟩ (oinl_some h hk_13)))
 have h := if_f h hb_22
 refine wpC_exit ?_
 refine QE_then_x (QE_then_x ?_)
 have h := oinr_some h hk_13
 refine QE_blk_x ?_
 refine QE_then_n (wpC_seq (wpC_region (wpR_run 2 rfl ?_)))
 refine wpR_nil (QE_then_n (wpC_ret ?_))
 cases h
 exact QE_ret1 rfl rfl (hS.pick [0] (by decide) rfl)
theorem c_ref11_digit (w0 : World) (a0 : UInt8)   (r : UInt32)
  (h : F.ref11_digit a0 = some r) : Calls Tryz.prog 82 #[v8 a0] w0 (Ret fun v w => v = v32 r ∧ St [] w0 w []) := by
 refine calls_at 12 Tryz.func82 rfl rfl rfl ?_
 have hS := St.start w0
 refine wpC_le [(0, v8 a0)] ⟨rfl, trivial⟩ ?_
 unfold F.ref11_digit at h
 refine wpC_seq (wpC_region (wpR_run 1 rfl ?_))
 refine wpR_nil (QE_then_n (wpC_seq (wpC_seq (wpC_region (wpR_run 1 rfl ?_)))))
 refine wpR_v (OpV_bin rfl rfl (b_geq8 _ a0 97)) rfl ?_
 refine wpR_nil (QE_then_n ?_)
 refine wpC_cond rfl (fun hb_1 => ?_) (fun hb_1 => ?_)
 ·have h := if_t h hb_1
  refine wpC_seq (wpC_region (wpR_run 1 rfl ?_))
  refine wpR_v (OpV_bin rfl rfl (b_sub8 _ a0 97)) rfl ?_
  refine wpR_v (OpV_conv rfl (cv_8_32 Tryz.underlying5 Tryz.underlying52 (a0 - 97))) rfl ?_
  refine wpR_v (OpV_bin rfl rfl (b_add32 _ ((a0 - 97).toUInt32) 10)) rfl ?_
  refine wpR_run 1 rfl ?_
  refine wpR_nil (QE_then_n (wpC_ret (QE_then_r ?_)))
  cases h
  exact QE_ret1 rfl rfl ⟨rfl, hS⟩
 have h := if_f h hb_1
 refine wpC_skip (QE_then_n (wpC_seq (wpC_region (wpR_run 1 rfl ?_))))
 refine wpR_v (OpV_bin rfl rfl (b_sub8 _ a0 48)) rfl ?_
 refine wpR_v (OpV_conv rfl (cv_8_32 Tryz.underlying5 Tryz.underlying52 (a0 - 48))) rfl ?_
 refine wpR_run 1 rfl ?_
 refine wpR_nil (QE_then_n (wpC_ret ?_))
 cases h
 exact QE_ret1 rfl rfl ⟨rfl, hS⟩
theorem c_ref11_number (w0 : World) (a0 : List UInt8)   (r : List UInt32)
  (h : F.ref11_number a0 = some r) : Calls Tryz.prog 46 #[vS a0] w0 (Ret fun v w => St [] w0 w [own e32 v r]) := by
 refine calls_at 32 Tryz.func46 rfl rfl rfl ?_
 have hS := St.start w0
 refine wpC_le [(0, vS a0)] ⟨rfl, trivial⟩ ?_
 unfold F.ref11_number at h
 refine wpC_seq (wpC_region (wpR_run 1 rfl ?_))
 refine wpR_nil (QE_then_n (wpC_seq (wpC_region (wpR_run 1 rfl ?_))))
 refine wpR_nil (QE_then_n (wpC_seq (wpC_seq (wpC_region (wpR_run 1 rfl ?_)))))
 refine wpR_v (OpV_lenS Tryz.underlying9 rfl) rfl ?_
 refine wpR_run 1 rfl ?_
 refine wpR_nil (QE_then_n (wpC_block ?_))
 refine wpC_le [(0, vS a0), (3, .slice none 0 0), (4, vI (a0.length : Int))] ⟨rfl, rfl, rfl, trivial⟩ ?_
 refine loop_ind (F.ref11_number_L1 a0) (fun (s : List UInt32 × Int) L w => ∃ (v_2 : Value), L = [(0, vS a0), (3, v_2), (4, vI s.2)] ∧ St [] w0 w [own e32 v_2 s.1]) ?_ ([], (a0.length : Int)) ⟨.slice none 0 0, rfl, (hS.nil e32)⟩ h
 rintro k_23 ⟨x_1, x_4⟩ L w q_7 hI ih_6 h hk_5
 try dsimp only at hI
 obtain ⟨v_2, rfl, hS⟩ := hI
 unfold F.ref11_number_L1 at h
 refine wpC_seq (wpC_seq (wpC_region (wpR_run 2 rfl ?_)))
 refine wpR_nil (QE_then_n ?_)
 refine wpC_cond rfl (fun hb_22 => ?_) (fun hb_22 => ?_)
 ·have h := if_t h hb_22
  refine wpC_skip (QE_then_n (wpC_seq (wpC_block ?_)))
  refine wpC_seq (wpC_region (wpR_run 1 rfl ?_))
  refine wpR_nil (QE_then_n (wpC_seq (wpC_seq (wpC_region (wpR_run 3 rfl ?_)))))
  refine wpR_nil (QE_then_n (wpC_block ?_))
  refine wpC_le [(0, vS a0), (3, v_2), (4, vI x_4), (5, v32 0), (6, vI (wI (x_4 - 8)))] ⟨rfl, rfl, rfl, rfl, rfl, trivial⟩ ?_
  refine loop_ind (F.ref11_number_L2 a0 x_1 x_4) (fun (s : UInt32 × Int) L w => L = [(0, vS a0), (3, v_2), (4, vI x_4), (5, v32 s.1), (6, vI s.2)] ∧ St [] w0 w [own e32 v_2 x_1]) ?_ (0, wI (x_4 - 8)) ⟨rfl, hS⟩ h
  rintro k_21 ⟨x_8, x_9⟩ L w q_12 hI ih_11 h hk_10
  try dsimp only at hI
  obtain ⟨rfl, hS⟩ := hI
  unfold F.ref11_number_L2 at h
  refine wpC_seq (wpC_seq (wpC_region (wpR_run 3 rfl ?_)))
  refine wpR_nil (QE_then_n ?_)
  refine wpC_cond rfl (fun hb_20 => ?_) (fun hb_20 => ?_)
  ·have h := if_t h hb_20
   refine wpC_skip (QE_then_n (wpC_seq (wpC_block ?_)))
   refine wpC_region (wpR_run 1 rfl ?_)
   refine wpR_v (OpV_bin rfl rfl (b_mul32 _ 16 x_8)) rfl ?_
   refine wpR_run 2 rfl ?_
   obtain ⟨x_13, hx_13, h⟩ := obind_some h
   refine wpR_v (G_ixS Tryz.underlying9 rfl rfl hx_13) rfl ?_
   obtain ⟨x_14, hx_14, h⟩ := obind_some h
   refine wpR_call (by kernel_rfl) rfl (c_ref11_digit _ x_13    _ hx_14) rfl ?_
   rintro _ w ⟨rfl, hS1⟩
   have hS := hS.call hS1
   simp only [List.cons_append, List.nil_append] at hS
   refine wpR_v (OpV_bin rfl rfl (b_add32 _ (16 * x_8) x_14)) rfl ?_
   refine wpR_run 1 rfl ?_
   refine wpR_nil (QE_blk_n ?_)
   refine QE_then_n (wpC_region (wpR_run 3 rfl ?_))
   refine wpR_nil ?_
   exact QE_rnd (wpN_le _ (by exact ⟨rfl, rfl, rfl, rfl, rfl, trivial⟩) (ih_11 ((16 * x_8) + x_14, wI (x_9 + 1)) _ _ ⟨rfl, hS⟩ (oinl_some h hk_10)))
  have h := if_f h hb_20
  refine wpC_exit ?_
  refine QE_then_x (QE_then_x ?_)
  have h := oinr_some h hk_10
  refine QE_blk_x ?_
  refine QE_then_n (wpC_region (wpR_run 2 rfl ?_))
  refine wpR_x (OpX_lit (e := e32) (l := ([x_8] : List UInt32)) (vs := [v32 x_8]) Tryz.underlying25 ti52 rfl rfl rfl rfl (by decide) (by decide) hS) rfl ?_
  rintro v_15 w hS
  obtain ⟨x_17, hx_17, h⟩ := obind_some h
  refine wpR_x (G_append Tryz.underlying25 ti52 rfl rfl rfl hS (i := 1) rfl (hS.ro 0 rfl) hx_17) rfl ?_
  rintro v_18 w hS
  refine wpR_run 1 rfl ?_
  refine wpR_nil (QE_blk_n ?_)
  refine QE_then_n (wpC_region (wpR_run 3 rfl ?_))
  refine wpR_nil ?_
  exact QE_rnd (wpN_le _ (by exact ⟨rfl, rfl, rfl, trivial⟩) (ih_6 (x_17, wI (x_4 - 8)) _ _ ⟨v_18, rfl, (hS.pick [1] (by decide) rfl)⟩ (oinl_some h hk_5)))
 have h := if_f h hb_22
 refine wpC_exit ?_
 refine QE_then_x (QE_then_x ?_)
 have h := oinr_some h hk_5
 refine QE_blk_x ?_
 refine QE_then_n (wpC_seq (wpC_region (wpR_run 2 rfl ?_)))
 refine wpR_nil (QE_then_n (wpC_ret ?_))
 cases h
 exact QE_ret1 rfl rfl (hS.pick [0] (by decide) rfl)
theorem c_ref11_Field (w0 : World) (a0 : Int)   (r : List UInt32)
  (h : F.ref11_Field a0 = some r) : Calls Tryz.prog 55 #[vI a0] w0 (Ret fun v w => St [] w0 w [own e32 v r]) := by
 refine calls_at 10 Tryz.func55 rfl rfl rfl ?_
 have hS := St.start w0
 refine wpC_le [(0, vI a0)] ⟨rfl, trivial⟩ ?_
 unfold F.ref11_Field at h
 refine wpC_seq (wpC_region (wpR_run 1 rfl ?_))
 refine wpR_nil (QE_then_n (wpC_seq (wpC_seq (wpC_region (wpR_run 1 rfl ?_)))))
 refine wpR_nil (QE_then_n (wpC_block ?_))
 refine wpC_seq (wpC_region (wpR_run 2 rfl ?_))
 refine wpR_nil (QE_then_n ?_)
 refine wpC_cond rfl (fun hb_8 => ?_) (fun hb_8 => ?_)
 ·have h := if_t h hb_8
  refine wpC_seq (wpC_region ?_)
  obtain ⟨x_1, hx_1, h⟩ := obind_some h
  refine wpR_call (by kernel_rfl) rfl (c_ref11_number _ [102, 102, 102, 102, 102, 102, 102, 102, 48, 48, 48, 48, 48, 48, 48, 49, 48, 48, 48, 48, 48, 48, 48, 48, 48, 48, 48, 48, 48, 48, 48, 48, 48, 48, 48, 48, 48, 48, 48, 48, 102, 102, 102, 102, 102, 102, 102, 102, 102, 102, 102, 102, 102, 102, 102, 102, 102, 102, 102, 102, 102, 102, 102, 102]    _ hx_1) rfl ?_
  rintro v_2 w hS1
  have hS := hS.call hS1
  simp only [List.cons_append, List.nil_append] at hS
  refine wpR_run 1 rfl ?_
  refine wpR_nil (QE_then_n (wpC_ret (QE_blk_r ?_)))
  refine QE_then_r ?_
  cases h
  exact QE_ret1 rfl rfl (hS.pick [0] (by decide) rfl)
 have h := if_f h hb_8
 refine wpC_seq (wpC_region (wpR_run 2 rfl ?_))
 refine wpR_nil (QE_then_n ?_)
 refine wpC_cond rfl (fun hb_7 => ?_) (fun hb_7 => ?_)
 ·have h := if_t h hb_7
  refine wpC_seq (wpC_region ?_)
  obtain ⟨x_4, hx_4, h⟩ := obind_some h
  refine wpR_call (by kernel_rfl) rfl (c_ref11_number _ [102, 102, 102, 102, 102, 102, 102, 102, 102, 102, 102, 102, 102, 102, 102, 102, 102, 102, 102, 102, 102, 102, 102, 102, 102, 102, 102, 102, 102, 102, 102, 102, 102, 102, 102, 102, 102, 102, 102, 102, 102, 102, 102, 102, 102, 102, 102, 102, 102, 102, 102, 102, 102, 102, 102, 102, 102, 102, 102, 102, 102, 102, 102, 101, 102, 102, 102, 102, 102, 102, 102, 102, 48, 48, 48, 48, 48, 48, 48, 48, 48, 48, 48, 48, 48, 48, 48, 48, 102, 102, 102, 102, 102, 102, 102, 102]    _ hx_4) rfl ?_
  rintro v_5 w hS1
  have hS := hS.call hS1
  simp only [List.cons_append, List.nil_append] at hS
  refine wpR_run 1 rfl ?_
  refine wpR_nil (QE_then_n (wpC_ret (QE_blk_r ?_)))
  refine QE_then_r ?_
  cases h
  exact QE_ret1 rfl rfl (hS.pick [0] (by decide) rfl)
 have h := if_f h hb_7
 refine wpC_skip (QE_blk_n ?_)
 refine QE_then_n (wpC_seq (wpC_region (wpR_run 1 rfl ?_)))
 refine wpR_nil (QE_then_n (wpC_ret ?_))
 cases h
 exact QE_ret1 rfl rfl ((hS.nil e32).pick [0] (by decide) rfl)
theorem c_ref11_mul (w0 : World) (a0 : Int) (a1 : List UInt32) (a2 : List UInt32) (va1 : Value) (va2 : Value) (ha1 : RP [] w0 e32 va1 a1) (ha2 : RP [] w0 e32 va2 a2) (r : List UInt32)
  (h : F.ref11_mul a0 a1 a2 = some r) : Calls Tryz.prog 57 #[vI a0, va1, va2] w0 (Ret fun v w => St [] w0 w [own e32 v r]) := by
 refine calls_at 18 Tryz.func57 rfl rfl rfl ?_
 have hS := St.start w0
 refine wpC_le [(0, vI a0), (1, va1), (2, va2)] ⟨rfl, rfl, rfl, trivial⟩ ?_
 unfold F.ref11_mul at h
 refine wpC_seq (wpC_region (wpR_run 1 rfl ?_))
 refine wpR_nil (QE_then_n (wpC_seq (wpC_region (wpR_run 3 rfl ?_))))
 obtain ⟨x_1, hx_1, h⟩ := obind_some h
 refine wpR_call (by kernel_rfl) rfl (c_ref11_Field _ a0    _ hx_1) rfl ?_
 rintro v_2 w hS1
 have hS := hS.call hS1
 simp only [List.cons_append, List.nil_append] at hS
 obtain ⟨x_4, hx_4, h⟩ := obind_some h
 refine wpR_call (by kernel_rfl) rfl (c_ref7_Mul _ a1 a2 x_1 va1 va2 v_2  (ha1.now hS.fr).rp (ha2.now hS.fr).rp (hS.ro 0 rfl).rp _ hx_4) rfl ?_
 rintro _ w ⟨v_5, rfl, hS1⟩
 have hS := hS.call hS1
 simp only [List.cons_append, List.nil_append] at hS
 refine wpR_run 5 rfl ?_
 refine wpR_nil (QE_then_n (wpC_seq (wpC_region (wpR_run 2 rfl ?_))))
 refine wpR_nil (QE_then_n (wpC_ret ?_))
 cases h
 exact QE_ret1 rfl rfl (hS.pick [0] (by decide) rfl)
theorem c_ref11_sub (w0 : World) (a0 : Int) (a1 : List UInt32) (a2 : List UInt32) (va1 : Value) (va2 : Value) (ha1 : RP [] w0 e32 va1 a1) (ha2 : RP [] w0 e32 va2 a2) (r : List UInt32)
  (h : F.ref11_sub a0 a1 a2 = some r) : Calls Tryz.prog 51 #[vI a0, va1, va2] w0 (Ret fun v w => St [] w0 w [own e32 v r]) := by
 refine calls_at 18 Tryz.func51 rfl rfl rfl ?_
 have hS := St.start w0
 refine wpC_le [(0, vI a0), (1, va1), (2, va2)] ⟨rfl, rfl, rfl, trivial⟩ ?_
 unfold F.ref11_sub at h
 refine wpC_seq (wpC_region (wpR_run 1 rfl ?_))
 refine wpR_nil (QE_then_n (wpC_seq (wpC_region (wpR_run 3 rfl ?_))))
 obtain ⟨x_1, hx_1, h⟩ := obind_some h
 refine wpR_call (by kernel_rfl) rfl (c_ref11_Field _ a0    _ hx_1) rfl ?_
 rintro v_2 w hS1
 have hS := hS.call hS1
 simp only [List.cons_append, List.nil_append] at hS
 obtain ⟨x_4, hx_4, h⟩ := obind_some h
 refine wpR_call (by kernel_rfl) rfl (c_ref7_Sub _ a1 a2 x_1 va1 va2 v_2  (ha1.now hS.fr).rp (ha2.now hS.fr).rp (hS.ro 0 rfl).rp _ hx_4) rfl ?_
 rintro _ w ⟨v_5, rfl, hS1⟩
 have hS := hS.call hS1
 simp only [List.cons_append, List.nil_append] at hS
 refine wpR_run 5 rfl ?_
 refine wpR_nil (QE_then_n (wpC_seq (wpC_region (wpR_run 2 rfl ?_))))
 refine wpR_nil (QE_then_n (wpC_ret ?_))
 cases h
 exact QE_ret1 rfl rfl (hS.pick [0] (by decide) rfl)
theorem c_ref11_b (w0 : World) (a0 : Int)   (r : List UInt32)
  (h : F.ref11_b a0 = some r) : Calls Tryz.prog 58 #[vI a0] w0 (Ret fun v w => St [] w0 w [own e32 v r]) := by
 refine calls_at 7 Tryz.func58 rfl rfl rfl ?_
 have hS := St.start w0
 refine wpC_le [(0, vI a0)] ⟨rfl, trivial⟩ ?_
 unfold F.ref11_b at h
 refine wpC_seq (wpC_region (wpR_run 1 rfl ?_))
 refine wpR_nil (QE_then_n (wpC_seq (wpC_seq (wpC_region (wpR_run 2 rfl ?_)))))
 refine wpR_nil (QE_then_n ?_)
 refine wpC_cond rfl (fun hb_7 => ?_) (fun hb_7 => ?_)
 ·have h := if_t h hb_7
  refine wpC_seq (wpC_region ?_)
  obtain ⟨x_1, hx_1, h⟩ := obind_some h
  refine wpR_call (by kernel_rfl) rfl (c_ref11_number _ [53, 97, 99, 54, 51, 53, 100, 56, 97, 97, 51, 97, 57, 51, 101, 55, 98, 51, 101, 98, 98, 100, 53, 53, 55, 54, 57, 56, 56, 54, 98, 99, 54, 53, 49, 100, 48, 54, 98, 48, 99, 99, 53, 51, 98, 48, 102, 54, 51, 98, 99, 101, 51, 99, 51, 101, 50, 55, 100, 50, 54, 48, 52, 98]    _ hx_1) rfl ?_
  rintro v_2 w hS1
  have hS := hS.call hS1
  simp only [List.cons_append, List.nil_append] at hS
  refine wpR_run 1 rfl ?_
  refine wpR_nil (QE_then_n (wpC_ret (QE_then_r ?_)))
  cases h
  exact QE_ret1 rfl rfl (hS.pick [0] (by decide) rfl)
 have h := if_f h hb_7
 refine wpC_skip (QE_then_n (wpC_seq (wpC_region ?_)))
 obtain ⟨x_4, hx_4, h⟩ := obind_some h
 refine wpR_call (by kernel_rfl) rfl (c_ref11_number _ [98, 51, 51, 49, 50, 102, 97, 55, 101, 50, 51, 101, 101, 55, 101, 52, 57, 56, 56, 101, 48, 53, 54, 98, 101, 51, 102, 56, 50, 100, 49, 57, 49, 56, 49, 100, 57, 99, 54, 101, 102, 101, 56, 49, 52, 49, 49, 50, 48, 51, 49, 52, 48, 56, 56, 102, 53, 48, 49, 51, 56, 55, 53, 97, 99, 54, 53, 54, 51, 57, 56, 100, 56, 97, 50, 101, 100, 49, 57, 100, 50, 97, 56, 53, 99, 56, 101, 100, 100, 51, 101, 99, 50, 97, 101, 102]    _ hx_4) rfl ?_
 rintro v_5 w hS1
 have hS := hS.call hS1
 simp only [List.cons_append, List.nil_append] at hS
 refine wpR_run 1 rfl ?_
 refine wpR_nil (QE_then_n (wpC_ret ?_))
 cases h
 exact QE_ret1 rfl rfl (hS.pick [0] (by decide) rfl)
theorem c_ref11_add (w0 : World) (a0 : Int) (a1 : List UInt32) (a2 : List UInt32) (va1 : Value) (va2 : Value) (ha1 : RP [] w0 e32 va1 a1) (ha2 : RP [] w0 e32 va2 a2) (r : List UInt32)
  (h : F.ref11_add a0 a1 a2 = some r) : Calls Tryz.prog 56 #[vI a0, va1, va2] w0 (Ret fun v w => St [] w0 w [own e32 v r]) := by
 refine calls_at 18 Tryz.func56 rfl rfl rfl ?_
 have hS := St.start w0
 refine wpC_le [(0, vI a0), (1, va1), (2, va2)] ⟨rfl, rfl, rfl, trivial⟩ ?_
 unfold F.ref11_add at h
 refine wpC_seq (wpC_region (wpR_run 1 rfl ?_))
 refine wpR_nil (QE_then_n (wpC_seq (wpC_region (wpR_run 3 rfl ?_))))
 obtain ⟨x_1, hx_1, h⟩ := obind_some h
 refine wpR_call (by kernel_rfl) rfl (c_ref11_Field _ a0    _ hx_1) rfl ?_
 rintro v_2 w hS1
 have hS := hS.call hS1
 simp only [List.cons_append, List.nil_append] at hS
 obtain ⟨x_4, hx_4, h⟩ := obind_some h
 refine wpR_call (by kernel_rfl) rfl (c_ref7_Add _ a1 a2 x_1 va1 va2 v_2  (ha1.now hS.fr).rp (ha2.now hS.fr).rp (hS.ro 0 rfl).rp _ hx_4) rfl ?_
 rintro _ w ⟨v_5, rfl, hS1⟩
 have hS := hS.call hS1
 simp only [List.cons_append, List.nil_append] at hS
 refine wpR_run 5 rfl ?_
 refine wpR_nil (QE_then_n (wpC_seq (wpC_region (wpR_run 2 rfl ?_))))
 refine wpR_nil (QE_then_n (wpC_ret ?_))
 cases h
 exact QE_ret1 rfl rfl (hS.pick [0] (by decide) rfl)
theorem c_ref11_On (w0 : World) (a0 : Int) (a1_0 : List UInt32) (a1_1 : List UInt32) (a1_2 : Bool) (va1_0 : Value) (va1_1 : Value) (ha1_0 : RP [] w0 e32 va1_0 a1_0) (ha1_1 : RP [] w0 e32 va1_1 a1_1) (r : Bool)
  (h : F.ref11_On a0 a1_0 a1_1 a1_2 = some r) : Calls Tryz.prog 25 #[vI a0, .agg #[va1_0, va1_1, vB a1_2]] w0 (Ret fun v w => v = vB r ∧ St [] w0 w []) := by
 refine calls_at 63 Tryz.func25 rfl rfl rfl ?_
 have hS := St.start w0
 refine wpC_le [(0, vI a0), (1, .agg #[va1_0, va1_1, vB a1_2])] ⟨rfl, rfl, trivial⟩ ?_
 unfold F.ref11_On at h
 refine wpC_seq (wpC_region (wpR_x (OpX_box (cs := [va1_0, va1_1, vB a1_2]) rfl rfl hS) rfl ?_))
 rintro _ w ⟨b_1, rfl, hS⟩
 refine wpR_run 1 rfl ?_
 refine wpR_nil (QE_then_n (wpC_seq (wpC_seq (wpC_region (wpR_run 1 rfl ?_)))))
 obtain ⟨x_3, hx_3, h⟩ := obind_some h
 refine wpR_call (by kernel_rfl) rfl (c_ref11_Size _ a0    _ hx_3) rfl ?_
 rintro _ w ⟨rfl, hS1⟩
 have hS := hS.call hS1
 simp only [List.cons_append, List.nil_append] at hS
 refine wpR_run 1 rfl ?_
 refine wpR_nil (QE_then_n ?_)
 refine wpC_cond rfl (fun hb_48 => ?_) (fun hb_48 => ?_)
 ·have h := if_t h hb_48
  refine wpC_seq (wpC_region (wpR_run 1 rfl ?_))
  refine wpR_nil (QE_then_n (wpC_ret (QE_then_r ?_)))
  cases h
  exact QE_ret1 rfl rfl ⟨rfl, hS.pick [] (by decide) rfl⟩
 have h := if_f h hb_48
 refine wpC_skip (QE_then_n (wpC_seq (wpC_region (wpR_v (OpV_fieldB (k := 0) Tryz.underlying27 rfl rfl nz25 rfl) rfl ?_))))
 refine wpR_v (OpV_ldB Tryz.underlying25 rfl rfl (hS.bxc 0 rfl 0)) rfl ?_
 obtain ⟨x_4, hx_4, h⟩ := obind_some h
 refine wpR_call (by kernel_rfl) rfl (c_ref11_Proper _ a1_0 va1_0  (ha1_0.now hS.fr).rp _ hx_4) rfl ?_
 rintro v_5 w hS1
 have hS := hS.call hS1
 simp only [List.cons_append, List.nil_append] at hS
 refine wpR_run 1 rfl ?_
 refine wpR_nil (QE_then_n (wpC_seq (wpC_region (wpR_v (OpV_fieldB (k := 1) Tryz.underlying27 rfl rfl nz25 rfl) rfl ?_))))
 refine wpR_v (OpV_ldB Tryz.underlying25 rfl rfl (hS.bxc 1 rfl 1)) rfl ?_
 obtain ⟨x_7, hx_7, h⟩ := obind_some h
 refine wpR_call (by kernel_rfl) rfl (c_ref11_Proper _ a1_1 va1_1  (ha1_1.now hS.fr).rp _ hx_7) rfl ?_
 rintro v_8 w hS1
 have hS := hS.call hS1
 simp only [List.cons_append, List.nil_append] at hS
 refine wpR_run 1 rfl ?_
 refine wpR_nil (QE_then_n (wpC_seq (wpC_seq (wpC_region (wpR_v (OpV_fieldB (k := 2) Tryz.underlying27 rfl rfl nz4 rfl) rfl ?_)))))
 refine wpR_v (OpV_ldB Tryz.underlying4 rfl rfl (hS.bxc 2 rfl 2)) rfl ?_
 refine wpR_nil (QE_then_n ?_)
 refine wpC_cond rfl (fun hb_47 => ?_) (fun hb_47 => ?_)
 ·have h := if_t h hb_47
  refine wpC_seq (wpC_region (wpR_run 1 rfl ?_))
  refine wpR_v (OpV_len Tryz.underlying25 rfl (hS.ro 1 rfl)) rfl ?_
  refine wpR_run 2 rfl ?_
  cases hb_10 : ((x_4.length : Int) == 0)
  case true =>
   have h := if_t h hb_10
   try simp only [hb_10]
   refine wpR_run 1 rfl ?_
   refine wpR_gv (t := 22) rfl rfl (OpV_len Tryz.underlying25 rfl (hS.ro 0 rfl)) rfl ?_
   refine wpR_run 3 rfl ?_
   refine wpR_nil (QE_then_n (wpC_ret (QE_then_r ?_)))
   cases h
   exact QE_ret1 rfl rfl ⟨rfl, hS.pick [] (by decide) rfl⟩
  case false =>
   have h := if_f h hb_10
   try simp only [hb_10]
   refine wpR_run 5 rfl ?_
   refine wpR_nil (QE_then_n (wpC_ret (QE_then_r ?_)))
   cases h
   exact QE_ret1 rfl rfl ⟨rfl, hS.pick [] (by decide) rfl⟩
 have h := if_f h hb_47
 refine wpC_skip (QE_then_n (wpC_seq ?_))
 refine seq_join (r := r) (fun (g : Bool) L w => L = [(0, vI a0), (5, v_5), (6, v_8), (38, vB g)] ∧ St [] w0 w [own e32 v_5 x_4, own e32 v_8 x_7]) (F.ref11_On_K1 a0 x_4 x_7) ?_ ?_
 rotate_left
 ·intro hK_21
  refine wpC_region (wpR_run 2 rfl ?_)
  obtain ⟨x_11, hx_11, h⟩ := obind_some h
  refine wpR_call (by kernel_rfl) rfl (c_ref11_Field _ a0    _ hx_11) rfl ?_
  rintro v_12 w hS1
  have hS := hS.call hS1
  simp only [List.cons_append, List.nil_append] at hS
  obtain ⟨x_14, hx_14, h⟩ := obind_some h
  refine wpR_call (by kernel_rfl) rfl (c_ref6_Cmp _ x_4 x_11 v_5 v_12  (hS.ro 2 rfl).rp (hS.ro 0 rfl).rp _ hx_14) rfl ?_
  rintro _ w ⟨rfl, hS1⟩
  have hS := hS.call hS1
  simp only [List.cons_append, List.nil_append] at hS
  refine wpR_run 2 rfl ?_
  cases hb_15 : (decide ((0 : Int) ≤ x_14))
  case true =>
   have h := if_t h hb_15
   try simp only [hb_15]
   refine wpR_run 6 rfl ?_
   refine wpR_nil (QE_then_n ?_)
   exact wpC_le _ (by exact ⟨rfl, rfl, rfl, rfl, trivial⟩) (hK_21 true _ _ ⟨rfl, (hS.pick [2, 1] (by decide) rfl)⟩ h)
  case false =>
   have h := if_f h hb_15
   try simp only [hb_15]
   refine wpR_run 2 rfl ?_
   obtain ⟨x_16, hx_16, h⟩ := obind_some h
   refine wpR_gcall (t := 32) rfl rfl (by kernel_rfl) rfl (c_ref11_Field _ a0    _ hx_16) rfl ?_
   rintro v_17 w hS1
   have hS := hS.call hS1
   simp only [List.cons_append, List.nil_append] at hS
   obtain ⟨x_19, hx_19, h⟩ := obind_some h
   refine wpR_gcall (t := 32) rfl rfl (by kernel_rfl) rfl (c_ref6_Cmp _ x_7 x_16 v_8 v_17  (hS.ro 2 rfl).rp (hS.ro 0 rfl).rp _ hx_19) rfl ?_
   rintro _ w ⟨rfl, hS1⟩
   have hS := hS.call hS1
   simp only [List.cons_append, List.nil_append] at hS
   refine wpR_run 2 rfl ?_
   refine wpR_nil (QE_then_n ?_)
   exact wpC_le _ (by exact ⟨rfl, rfl, rfl, rfl, trivial⟩) (hK_21 (decide ((0 : Int) ≤ x_19)) _ _ ⟨rfl, (hS.pick [3, 2] (by decide) rfl)⟩ h)
 rintro x_20 L w hJ h
 try dsimp only at hJ
 obtain ⟨rfl, hS⟩ := hJ
 unfold F.ref11_On_K1 at h
 refine wpC_cond rfl (fun hb_46 => ?_) (fun hb_46 => ?_)
 ·have h := if_t h hb_46
  refine wpC_seq (wpC_region (wpR_run 1 rfl ?_))
  refine wpR_nil (QE_then_n (wpC_ret (QE_then_r ?_)))
  cases h
  exact QE_ret1 rfl rfl ⟨rfl, hS.pick [] (by decide) rfl⟩
 have h := if_f h hb_46
 refine wpC_skip (QE_then_n (wpC_seq (wpC_region (wpR_run 7 rfl ?_))))
 obtain ⟨x_22, hx_22, h⟩ := obind_some h
 refine wpR_call (by kernel_rfl) rfl (c_ref11_mul _ a0 x_4 x_4 v_5 v_5  (hS.ro 0 rfl).rp (hS.ro 0 rfl).rp _ hx_22) rfl ?_
 rintro v_23 w hS1
 have hS := hS.call hS1
 simp only [List.cons_append, List.nil_append] at hS
 obtain ⟨x_25, hx_25, h⟩ := obind_some h
 refine wpR_call (by kernel_rfl) rfl (c_ref11_mul _ a0 x_4 x_22 v_5 v_23  (hS.ro 1 rfl).rp (hS.ro 0 rfl).rp _ hx_25) rfl ?_
 rintro v_26 w hS1
 have hS := hS.call hS1
 simp only [List.cons_append, List.nil_append] at hS
 refine wpR_run 1 rfl ?_
 refine wpR_x (OpX_lit (e := e32) (l := ([3] : List UInt32)) (vs := [v32 3]) Tryz.underlying25 ti52 rfl rfl rfl rfl (by decide) (by decide) hS) rfl ?_
 rintro v_28 w hS
 refine wpR_run 1 rfl ?_
 obtain ⟨x_30, hx_30, h⟩ := obind_some h
 refine wpR_call (by kernel_rfl) rfl (c_ref11_mul _ a0 ([3] : List UInt32) x_4 v_28 v_5  (hS.ro 0 rfl).rp (hS.ro 3 rfl).rp _ hx_30) rfl ?_
 rintro v_31 w hS1
 have hS := hS.call hS1
 simp only [List.cons_append, List.nil_append] at hS
 obtain ⟨x_33, hx_33, h⟩ := obind_some h
 refine wpR_call (by kernel_rfl) rfl (c_ref11_sub _ a0 x_25 x_30 v_26 v_31  (hS.ro 2 rfl).rp (hS.ro 0 rfl).rp _ hx_33) rfl ?_
 rintro v_34 w hS1
 have hS := hS.call hS1
 simp only [List.cons_append, List.nil_append] at hS
 refine wpR_run 1 rfl ?_
 obtain ⟨x_36, hx_36, h⟩ := obind_some h
 refine wpR_call (by kernel_rfl) rfl (c_ref11_b _ a0    _ hx_36) rfl ?_
 rintro v_37 w hS1
 have hS := hS.call hS1
 simp only [List.cons_append, List.nil_append] at hS
 obtain ⟨x_39, hx_39, h⟩ := obind_some h
 refine wpR_call (by kernel_rfl) rfl (c_ref11_add _ a0 x_33 x_36 v_34 v_37  (hS.ro 1 rfl).rp (hS.ro 0 rfl).rp _ hx_39) rfl ?_
 rintro v_40 w hS1
 have hS := hS.call hS1
 simp only [List.cons_append, List.nil_append] at hS
 refine wpR_run 1 rfl ?_
 refine wpR_nil (QE_then_n (wpC_seq (wpC_region (wpR_run 3 rfl ?_))))
 obtain ⟨x_42, hx_42, h⟩ := obind_some h
 refine wpR_call (by kernel_rfl) rfl (c_ref11_mul _ a0 x_7 x_7 v_8 v_8  (hS.ro 8 rfl).rp (hS.ro 8 rfl).rp _ hx_42) rfl ?_
 rintro v_43 w hS1
 have hS := hS.call hS1
 simp only [List.cons_append, List.nil_append] at hS
 refine wpR_run 1 rfl ?_
 obtain ⟨x_45, hx_45, h⟩ := obind_some h
 refine wpR_call (by kernel_rfl) rfl (c_ref6_Cmp _ x_42 x_39 v_43 v_40  (hS.ro 0 rfl).rp (hS.ro 1 rfl).rp _ hx_45) rfl ?_
 rintro _ w ⟨rfl, hS1⟩
 have hS := hS.call hS1
 simp only [List.cons_append, List.nil_append] at hS
 refine wpR_run 2 rfl ?_
 refine wpR_nil (QE_then_n (wpC_ret ?_))
 cases h
 exact QE_ret1 rfl rfl ⟨rfl, hS.pick [] (by decide) rfl⟩
theorem c_ref11_Decode (w0 : World) (a0 : Int) (a1 : List UInt8) (a2 : List UInt8) (va1 : Value) (va2 : Value) (ha1 : RP [] w0 e8 va1 a1) (ha2 : RP [] w0 e8 va2 a2) (r : List UInt32 × List UInt32 × Bool × Int)
  (h : F.ref11_Decode a0 a1 a2 = some r) : Calls Tryz.prog 10 #[vI a0, va1, va2] w0 (Ret fun v w => ∃ u0_0 u0_1 : Value, v = .tuple #[.agg #[u0_0, u0_1, vB r.2.2.1], vI r.2.2.2] ∧ St [] w0 w [own e32 u0_0 r.1, own e32 u0_1 r.2.1]) := by
 refine calls_at 38 Tryz.func10 rfl rfl rfl ?_
 have hS := St.start w0
 refine wpC_le [(0, vI a0), (1, va1), (2, va2)] ⟨rfl, rfl, rfl, trivial⟩ ?_
 unfold F.ref11_Decode at h
 refine wpC_seq (wpC_region (wpR_x (OpX_alloc (cs := [.slice none 0 0, .slice none 0 0, vB false]) tz27 rfl hS) rfl ?_))
 rintro _ w ⟨b_1, rfl, hS⟩
 refine wpR_run 1 rfl ?_
 refine wpR_nil (QE_then_n (wpC_seq ?_))
 refine seq_join (r := r) (fun (g : Bool) L w => L = [(0, vI a0), (1, va1), (2, va2), (6, pB b_1 0), (25, vB g)] ∧ St [] w0 w [OE.bx b_1 [.slice none 0 0, .slice none 0 0, vB false]]) (F.ref11_Decode_K1 a0 a1 a2) ?_ ?_
 rotate_left
 ·intro hK_9
  refine wpC_region (wpR_run 1 rfl ?_)
  obtain ⟨x_3, hx_3, h⟩ := obind_some h
  refine wpR_call (by kernel_rfl) rfl (c_ref11_Size _ a0    _ hx_3) rfl ?_
  rintro _ w ⟨rfl, hS1⟩
  have hS := hS.call hS1
  simp only [List.cons_append, List.nil_append] at hS
  refine wpR_run 2 rfl ?_
  cases hb_4 : (x_3 == 0)
  case true =>
   have h := if_t h hb_4
   try simp only [hb_4]
   refine wpR_run 13 rfl ?_
   refine wpR_nil (QE_then_n ?_)
   exact wpC_le _ (by exact ⟨rfl, rfl, rfl, rfl, rfl, trivial⟩) (hK_9 true _ _ ⟨rfl, hS⟩ h)
  case false =>
   have h := if_f h hb_4
   try simp only [hb_4]
   refine wpR_run 1 rfl ?_
   refine wpR_gv (t := 12) rfl rfl (OpV_len Tryz.underlying23 rfl (ha1.now hS.fr)) rfl ?_
   refine wpR_run 1 rfl ?_
   obtain ⟨x_5, hx_5, h⟩ := obind_some h
   refine wpR_gcall (t := 12) rfl rfl (by kernel_rfl) rfl (c_ref11_Size _ a0    _ hx_5) rfl ?_
   rintro _ w ⟨rfl, hS1⟩
   have hS := hS.call hS1
   simp only [List.cons_append, List.nil_append] at hS
   refine wpR_run 3 rfl ?_
   cases hb_6 : ((a1.length : Int) != x_5)
   case true =>
    have h := if_t h hb_6
    try simp only [hb_6]
    refine wpR_run 6 rfl ?_
    refine wpR_nil (QE_then_n ?_)
    exact wpC_le _ (by exact ⟨rfl, rfl, rfl, rfl, rfl, trivial⟩) (hK_9 true _ _ ⟨rfl, hS⟩ h)
   case false =>
    have h := if_f h hb_6
    try simp only [hb_6]
    refine wpR_run 1 rfl ?_
    refine wpR_gv (t := 19) rfl rfl (OpV_len Tryz.underlying23 rfl (ha2.now hS.fr)) rfl ?_
    refine wpR_run 1 rfl ?_
    obtain ⟨x_7, hx_7, h⟩ := obind_some h
    refine wpR_gcall (t := 19) rfl rfl (by kernel_rfl) rfl (c_ref11_Size _ a0    _ hx_7) rfl ?_
    rintro _ w ⟨rfl, hS1⟩
    have hS := hS.call hS1
    simp only [List.cons_append, List.nil_append] at hS
    refine wpR_run 2 rfl ?_
    refine wpR_nil (QE_then_n ?_)
    exact wpC_le _ (by exact ⟨rfl, rfl, rfl, rfl, rfl, trivial⟩) (hK_9 ((a2.length : Int) != x_7) _ _ ⟨rfl, hS⟩ h)
 rintro x_8 L w hJ h
 try dsimp only at hJ
 obtain ⟨rfl, hS⟩ := hJ
 unfold F.ref11_Decode_K1 at h
 refine wpC_cond rfl (fun hb_20 => ?_) (fun hb_20 => ?_)
 ·have h := if_t h hb_20
  refine wpC_seq (wpC_region (wpR_v (OpV_build (vs := []) (cells := [.slice none 0 0, .slice none 0 0, vB false]) rfl lay27 trivial rfl) rfl ?_))
  refine wpR_y (OpY_stB (i := 0) (us := [.slice none 0 0, .slice none 0 0, vB false]) rfl sz27 rfl rfl rfl ⟨rfl, rfl, rfl, trivial⟩ rfl hS) ?_
  intro w hS
  replace hS : St _ _ w [OE.bx b_1 [.slice none 0 0, .slice none 0 0, vB false]] := hS
  refine wpR_run 1 rfl ?_
  refine wpR_nil (QE_then_n (wpC_ret (QE_then_r ?_)))
  cases h
  exact QE_rv2 rfl ⟨_, rfl, run_ldAgg (us := [.slice none 0 0, .slice none 0 0, vB false]) Tryz.underlying27 rfl sz27 (hS.bxs 0 rfl rfl)⟩ rfl ⟨.slice none 0 0, .slice none 0 0, rfl, ((hS.nil e32).nil e32).pick [1, 0] (by decide) rfl⟩
 have h := if_f h hb_20
 refine wpC_skip (QE_then_n (wpC_seq (wpC_region (wpR_run 1 rfl ?_))))
 obtain ⟨x_10, hx_10, h⟩ := obind_some h
 refine wpR_call (by kernel_rfl) rfl (c_ref6_FromBytes _ a1 va1  (ha1.now hS.fr).rp _ hx_10) rfl ?_
 rintro v_11 w hS1
 have hS := hS.call hS1
 simp only [List.cons_append, List.nil_append] at hS
 refine wpR_run 1 rfl ?_
 obtain ⟨x_13, hx_13, h⟩ := obind_some h
 refine wpR_call (by kernel_rfl) rfl (c_ref6_FromBytes _ a2 va2  (ha2.now hS.fr).rp _ hx_13) rfl ?_
 rintro v_14 w hS1
 have hS := hS.call hS1
 simp only [List.cons_append, List.nil_append] at hS
 refine wpR_v (OpV_build (vs := [(0, v_11, [v_11]), (1, v_14, [v_14])]) (cells := [v_11, v_14, vB false]) rfl lay27 ⟨(cells_one (hS.ro 1 rfl).one), (cells_one (hS.ro 0 rfl).one), trivial⟩ rfl) rfl ?_
 refine wpR_x (OpX_alloc (cs := [.slice none 0 0, .slice none 0 0, vB false]) tz27 rfl hS) rfl ?_
 rintro _ w ⟨b_16, rfl, hS⟩
 refine wpR_y (OpY_stB (i := 0) (us := [v_11, v_14, vB false]) rfl sz27 rfl rfl rfl ⟨(hS.ro 2 rfl).one, (hS.ro 1 rfl).one, rfl, trivial⟩ rfl hS) ?_
 intro w hS
 replace hS : St _ _ w [OE.bx b_16 [v_11, v_14, vB false], own e32 v_14 x_13, own e32 v_11 x_10, OE.bx b_1 [.slice none 0 0, .slice none 0 0, vB false]] := hS
 refine wpR_nil (QE_then_n (wpC_seq (wpC_seq (wpC_region (wpR_run 1 rfl ?_)))))
 refine wpR_v (OpV_ldBs (us := [v_11, v_14, vB false]) Tryz.underlying27 rfl sz27 rfl (hS.bxs 0 rfl rfl)) rfl ?_
 obtain ⟨x_18, hx_18, h⟩ := obind_some h
 refine wpR_call (by kernel_rfl) rfl (c_ref11_On _ a0 x_10 x_13 false v_11 v_14  (hS.ro 2 rfl).rp (hS.ro 1 rfl).rp _ hx_18) rfl ?_
 rintro _ w ⟨rfl, hS1⟩
 have hS := hS.call hS1
 simp only [List.cons_append, List.nil_append] at hS
 refine wpR_run 1 rfl ?_
 refine wpR_nil (QE_then_n ?_)
 refine wpC_cond rfl (fun hb_19 => ?_) (fun hb_19 => ?_)
 ·have h := if_t h hb_19
  refine wpC_seq (wpC_region (wpR_v (OpV_build (vs := []) (cells := [.slice none 0 0, .slice none 0 0, vB false]) rfl lay27 trivial rfl) rfl ?_))
  refine wpR_y (OpY_stB (i := 3) (us := [.slice none 0 0, .slice none 0 0, vB false]) rfl sz27 rfl rfl rfl ⟨rfl, rfl, rfl, trivial⟩ rfl hS) ?_
  intro w hS
  replace hS : St _ _ w [OE.bx b_16 [v_11, v_14, vB false], own e32 v_14 x_13, own e32 v_11 x_10, OE.bx b_1 [.slice none 0 0, .slice none 0 0, vB false]] := hS
  refine wpR_run 1 rfl ?_
  refine wpR_nil (QE_then_n (wpC_ret (QE_then_r ?_)))
  cases h
  exact QE_rv2 rfl ⟨_, rfl, run_ldAgg (us := [.slice none 0 0, .slice none 0 0, vB false]) Tryz.underlying27 rfl sz27 (hS.bxs 3 rfl rfl)⟩ rfl ⟨.slice none 0 0, .slice none 0 0, rfl, ((hS.nil e32).nil e32).pick [1, 0] (by decide) rfl⟩
 have h := if_f h hb_19
 refine wpC_skip (QE_then_n (wpC_seq (wpC_region (wpR_v (OpV_ldBs (us := [v_11, v_14, vB false]) Tryz.underlying27 rfl sz27 rfl (hS.bxs 0 rfl rfl)) rfl ?_))))
 refine wpR_y (OpY_stB (i := 3) (us := [v_11, v_14, vB false]) rfl sz27 rfl rfl rfl ⟨(hS.ro 2 rfl).one, (hS.ro 1 rfl).one, rfl, trivial⟩ rfl hS) ?_
 intro w hS
 replace hS : St _ _ w [OE.bx b_16 [v_11, v_14, vB false], own e32 v_14 x_13, own e32 v_11 x_10, OE.bx b_1 [v_11, v_14, vB false]] := hS
 refine wpR_run 1 rfl ?_
 refine wpR_nil (QE_then_n (wpC_ret ?_))
 cases h
 exact QE_rv2 rfl ⟨_, rfl, run_ldAgg (us := [v_11, v_14, vB false]) Tryz.underlying27 rfl sz27 (hS.bxs 3 rfl rfl)⟩ rfl ⟨v_11, v_14, rfl, hS.pick [2, 1] (by decide) rfl⟩
theorem c_ref11_Encode (w0 : World) (a0 : Int) (a1_0 : List UInt32) (a1_1 : List UInt32) (a1_2 : Bool) (va1_0 : Value) (va1_1 : Value) (ha1_0 : RP [] w0 e32 va1_0 a1_0) (ha1_1 : RP [] w0 e32 va1_1 a1_1) (r : List UInt8 × List UInt8 × Int)
  (h : F.ref11_Encode a0 a1_0 a1_1 a1_2 = some r) : Calls Tryz.prog 11 #[vI a0, .agg #[va1_0, va1_1, vB a1_2]] w0 (Ret fun v w => ∃ u0 u1 : Value, v = .tuple #[u0, u1, vI r.2.2] ∧ St [] w0 w [own e8 u0 r.1, own e8 u1 r.2.1]) := by
 refine calls_at 37 Tryz.func11 rfl rfl rfl ?_
 have hS := St.start w0
 refine wpC_le [(0, vI a0), (1, .agg #[va1_0, va1_1, vB a1_2])] ⟨rfl, rfl, trivial⟩ ?_
 unfold F.ref11_Encode at h
 refine wpC_seq (wpC_region (wpR_x (OpX_box (cs := [va1_0, va1_1, vB a1_2]) rfl rfl hS) rfl ?_))
 rintro _ w ⟨b_1, rfl, hS⟩
 refine wpR_run 3 rfl ?_
 refine wpR_nil (QE_then_n (wpC_seq ?_))
 refine seq_join (r := r) (fun (g : Bool) L w => L = [(0, vI a0), (3, pB b_1 0), (18, vB g)] ∧ St [] w0 w [OE.bx b_1 [va1_0, va1_1, vB a1_2]]) (F.ref11_Encode_K1 a0 a1_0 a1_1) ?_ ?_
 rotate_left
 ·intro hK_6
  refine wpC_region (wpR_v (OpV_fieldB (k := 2) Tryz.underlying27 rfl rfl nz4 rfl) rfl ?_)
  refine wpR_v (OpV_ldB Tryz.underlying4 rfl rfl (hS.bxc 0 rfl 2)) rfl ?_
  refine wpR_run 1 rfl ?_
  cases hb_3 : a1_2
  case true =>
   have h := if_t h hb_3
   try simp only [hb_3]
   refine wpR_run 5 rfl ?_
   refine wpR_nil (QE_then_n ?_)
   exact wpC_le _ (by exact ⟨rfl, rfl, rfl, trivial⟩) (hK_6 true _ _ ⟨rfl, hS⟩ h)
  case false =>
   have h := if_f h hb_3
   try simp only [hb_3]
   refine wpR_run 1 rfl ?_
   refine wpR_gv (t := 13) rfl rfl (OpV_ldBs (us := [va1_0, va1_1, vB a1_2]) Tryz.underlying27 rfl sz27 rfl (hS.bxs 0 rfl rfl)) rfl ?_
   obtain ⟨x_4, hx_4, h⟩ := obind_some h
   refine wpR_gcall (t := 13) rfl rfl (by kernel_rfl) rfl (c_ref11_On _ a0 a1_0 a1_1 a1_2 va1_0 va1_1  (ha1_0.now hS.fr).rp (ha1_1.now hS.fr).rp _ hx_4) rfl ?_
   rintro _ w ⟨rfl, hS1⟩
   have hS := hS.call hS1
   simp only [List.cons_append, List.nil_append] at hS
   refine wpR_run 2 rfl ?_
   refine wpR_nil (QE_then_n ?_)
   exact wpC_le _ (by exact ⟨rfl, rfl, rfl, trivial⟩) (hK_6 (!x_4) _ _ ⟨rfl, hS⟩ h)
 rintro x_5 L w hJ h
 try dsimp only at hJ
 obtain ⟨rfl, hS⟩ := hJ
 unfold F.ref11_Encode_K1 at h
 refine wpC_cond rfl (fun hb_15 => ?_) (fun hb_15 => ?_)
 ·have h := if_t h hb_15
  refine wpC_seq (wpC_region (wpR_run 3 rfl ?_))
  refine wpR_nil (QE_then_n (wpC_ret (QE_then_r ?_)))
  cases h
  exact QE_ret3 rfl rfl rfl rfl ⟨.slice none 0 0, .slice none 0 0, rfl, ((hS.nil e8).nil e8).pick [1, 0] (by decide) rfl⟩
 have h := if_f h hb_15
 refine wpC_skip (QE_then_n (wpC_seq ?_))
 refine wpC_regionT (fun w' => St [] w0 w' [OE.bx b_1 [va1_0, va1_1, vB a1_2]]) (fun i => !([3, 4].contains i)) hmix (fun _ _ _ hf => hf.2) (fun _ _ hf => hf) (by kernel_rfl) ?_
 have hS := hS.drew
 show lxE _ _ _ _ _ _ _ [0, 1, 2, 3, 4, 5, 6, 7, 8, 9] _ _
 refine lxE_v hS rfl rfl (fun w hF => OpV_fieldB (k := 0) Tryz.underlying27 rfl rfl nz25 rfl) rfl ?_
 refine lxE_v hS rfl rfl (fun w hF => OpV_ldB Tryz.underlying25 rfl rfl (hF.bxc 0 rfl 0)) rfl ?_
 refine lxE_v hS rfl rfl (fun w hF => OpV_move rfl) rfl ?_
 obtain ⟨x_7, hx_7, h⟩ := obind_some h
 refine lxE_call hS rfl rfl (by kernel_rfl) rfl (c_ref11_Size _ a0    _ hx_7) rfl ?_
 rintro _ w ⟨rfl, hS1⟩
 have hS := hS.call hS1
 simp only [List.cons_append, List.nil_append] at hS
 obtain ⟨x_8, hx_8, h⟩ := obind_some h
 refine lxE_call hS rfl rfl (by kernel_rfl) rfl (c_ref6_Fixed _ a1_0 x_7 va1_0  (ha1_0.now hS.fr).rp _ hx_8) rfl ?_
 rintro _ w ⟨v_9, rfl, hS1⟩
 have hS := hS.call hS1
 simp only [List.cons_append, List.nil_append] at hS
 refine lxE_v (hS.pick [1] (by decide) rfl) rfl rfl (fun w hF => OpV_move rfl) rfl ?_
 refine lxE_v (hS.pick [1] (by decide) rfl) rfl rfl (fun w hF => OpV_extract rfl rfl) rfl ?_
 refine lxE_v (hS.pick [1] (by decide) rfl) rfl rfl (fun w hF => OpV_extract rfl rfl) rfl ?_
 refine lxE_v (hS.pick [1] (by decide) rfl) rfl rfl (fun w hF => OpV_assign rfl) rfl ?_
 refine lxE_v (hS.pick [1] (by decide) rfl) rfl rfl (fun w hF => OpV_assign rfl) rfl ?_
 refine lxE_nil (hS.pick [1] (by decide) rfl) ?_
 refine QE_then_n (wpC_seq ?_)
 refine wpC_regionT (fun w' => St [] w0 w' [own e8 v_9 x_8.1, OE.bx b_1 [va1_0, va1_1, vB a1_2]]) (fun i => !([3, 4].contains i)) hmix (fun _ _ _ hf => hf.2) (fun _ _ hf => hf) (by kernel_rfl) ?_
 have hS := hS.drew
 show lxE _ _ _ _ _ _ _ [0, 1, 2, 3, 4, 5, 6, 7, 8, 9] _ _
 refine lxE_v hS rfl rfl (fun w hF => OpV_fieldB (k := 1) Tryz.underlying27 rfl rfl nz25 rfl) rfl ?_
 refine lxE_v hS rfl rfl (fun w hF => OpV_ldB Tryz.underlying25 rfl rfl (hF.bxc 1 rfl 1)) rfl ?_
 refine lxE_v hS rfl rfl (fun w hF => OpV_move rfl) rfl ?_
 obtain ⟨x_11, hx_11, h⟩ := obind_some h
 refine lxE_call hS rfl rfl (by kernel_rfl) rfl (c_ref11_Size _ a0    _ hx_11) rfl ?_
 rintro _ w ⟨rfl, hS1⟩
 have hS := hS.call hS1
 simp only [List.cons_append, List.nil_append] at hS
 obtain ⟨x_12, hx_12, h⟩ := obind_some h
 refine lxE_call hS rfl rfl (by kernel_rfl) rfl (c_ref6_Fixed _ a1_1 x_11 va1_1  (ha1_1.now hS.fr).rp _ hx_12) rfl ?_
 rintro _ w ⟨v_13, rfl, hS1⟩
 have hS := hS.call hS1
 simp only [List.cons_append, List.nil_append] at hS
 refine lxE_v (hS.pick [1, 2] (by decide) rfl) rfl rfl (fun w hF => OpV_move rfl) rfl ?_
 refine lxE_v (hS.pick [1, 2] (by decide) rfl) rfl rfl (fun w hF => OpV_extract rfl rfl) rfl ?_
 refine lxE_v (hS.pick [1, 2] (by decide) rfl) rfl rfl (fun w hF => OpV_extract rfl rfl) rfl ?_
 refine lxE_v (hS.pick [1, 2] (by decide) rfl) rfl rfl (fun w hF => OpV_assign rfl) rfl ?_
 refine lxE_v (hS.pick [1, 2] (by decide) rfl) rfl rfl (fun w hF => OpV_assign rfl) rfl ?_
 refine lxE_nil (hS.pick [1, 2] (by decide) rfl) ?_
 refine QE_then_n (wpC_seq (wpC_region (wpR_run 5 rfl ?_)))
 refine wpR_nil (QE_then_n (wpC_ret ?_))
 cases h
 exact QE_ret3 rfl rfl rfl rfl ⟨v_9, v_13, rfl, hS.pick [1, 0] (by decide) rfl⟩
theorem c_ref11_Base (w0 : World) (a0 : Int)   (r : List UInt32 × List UInt32 × Bool)
  (h : F.ref11_Base a0 = some r) : Calls Tryz.prog 17 #[vI a0] w0 (Ret fun v w => ∃ u0_0 u0_1 : Value, v = .agg #[u0_0, u0_1, vB r.2.2] ∧ St [] w0 w [own e32 u0_0 r.1, own e32 u0_1 r.2.1]) := by
 refine calls_at 15 Tryz.func17 rfl rfl rfl ?_
 have hS := St.start w0
 refine wpC_le [(0, vI a0)] ⟨rfl, trivial⟩ ?_
 unfold F.ref11_Base at h
 refine wpC_seq (wpC_region (wpR_x (OpX_alloc (cs := [.slice none 0 0, .slice none 0 0, vB false]) tz27 rfl hS) rfl ?_))
 rintro _ w ⟨b_1, rfl, hS⟩
 refine wpR_nil (QE_then_n (wpC_seq (wpC_seq (wpC_region (wpR_run 1 rfl ?_)))))
 refine wpR_nil (QE_then_n (wpC_block ?_))
 refine wpC_seq (wpC_region (wpR_run 2 rfl ?_))
 refine wpR_nil (QE_then_n ?_)
 refine wpC_cond rfl (fun hb_16 => ?_) (fun hb_16 => ?_)
 ·have h := if_t h hb_16
  refine wpC_seq (wpC_region ?_)
  obtain ⟨x_3, hx_3, h⟩ := obind_some h
  refine wpR_call (by kernel_rfl) rfl (c_ref11_number _ [54, 98, 49, 55, 100, 49, 102, 50, 101, 49, 50, 99, 52, 50, 52, 55, 102, 56, 98, 99, 101, 54, 101, 53, 54, 51, 97, 52, 52, 48, 102, 50, 55, 55, 48, 51, 55, 100, 56, 49, 50, 100, 101, 98, 51, 51, 97, 48, 102, 52, 97, 49, 51, 57, 52, 53, 100, 56, 57, 56, 99, 50, 57, 54]    _ hx_3) rfl ?_
  rintro v_4 w hS1
  have hS := hS.call hS1
  simp only [List.cons_append, List.nil_append] at hS
  obtain ⟨x_6, hx_6, h⟩ := obind_some h
  refine wpR_call (by kernel_rfl) rfl (c_ref11_number _ [52, 102, 101, 51, 52, 50, 101, 50, 102, 101, 49, 97, 55, 102, 57, 98, 56, 101, 101, 55, 101, 98, 52, 97, 55, 99, 48, 102, 57, 101, 49, 54, 50, 98, 99, 101, 51, 51, 53, 55, 54, 98, 51, 49, 53, 101, 99, 101, 99, 98, 98, 54, 52, 48, 54, 56, 51, 55, 98, 102, 53, 49, 102, 53]    _ hx_6) rfl ?_
  rintro v_7 w hS1
  have hS := hS.call hS1
  simp only [List.cons_append, List.nil_append] at hS
  refine wpR_v (OpV_build (vs := [(0, v_4, [v_4]), (1, v_7, [v_7])]) (cells := [v_4, v_7, vB false]) rfl lay27 ⟨(cells_one (hS.ro 1 rfl).one), (cells_one (hS.ro 0 rfl).one), trivial⟩ rfl) rfl ?_
  refine wpR_y (OpY_stB (i := 2) (us := [v_4, v_7, vB false]) rfl sz27 rfl rfl rfl ⟨(hS.ro 1 rfl).one, (hS.ro 0 rfl).one, rfl, trivial⟩ rfl hS) ?_
  intro w hS
  replace hS : St _ _ w [own e32 v_7 x_6, own e32 v_4 x_3, OE.bx b_1 [v_4, v_7, vB false]] := hS
  refine wpR_nil (QE_then_n (wpC_ret (QE_blk_r ?_)))
  refine QE_then_r ?_
  cases h
  exact QE_rv1 rfl ⟨_, rfl, run_ldAgg (us := [v_4, v_7, vB false]) Tryz.underlying27 rfl sz27 (hS.bxs 2 rfl rfl)⟩ ⟨v_4, v_7, rfl, hS.pick [1, 0] (by decide) rfl⟩
 have h := if_f h hb_16
 refine wpC_seq (wpC_region (wpR_run 2 rfl ?_))
 refine wpR_nil (QE_then_n ?_)
 refine wpC_cond rfl (fun hb_15 => ?_) (fun hb_15 => ?_)
 ·have h := if_t h hb_15
  refine wpC_seq (wpC_region ?_)
  obtain ⟨x_9, hx_9, h⟩ := obind_some h
  refine wpR_call (by kernel_rfl) rfl (c_ref11_number _ [97, 97, 56, 55, 99, 97, 50, 50, 98, 101, 56, 98, 48, 53, 51, 55, 56, 101, 98, 49, 99, 55, 49, 101, 102, 51, 50, 48, 97, 100, 55, 52, 54, 101, 49, 100, 51, 98, 54, 50, 56, 98, 97, 55, 57, 98, 57, 56, 53, 57, 102, 55, 52, 49, 101, 48, 56, 50, 53, 52, 50, 97, 51, 56, 53, 53, 48, 50, 102, 50, 53, 100, 98, 102, 53, 53, 50, 57, 54, 99, 51, 97, 53, 52, 53, 101, 51, 56, 55, 50, 55, 54, 48, 97, 98, 55]    _ hx_9) rfl ?_
  rintro v_10 w hS1
  have hS := hS.call hS1
  simp only [List.cons_append, List.nil_append] at hS
  obtain ⟨x_12, hx_12, h⟩ := obind_some h
  refine wpR_call (by kernel_rfl) rfl (c_ref11_number _ [51, 54, 49, 55, 100, 101, 52, 97, 57, 54, 50, 54, 50, 99, 54, 102, 53, 100, 57, 101, 57, 56, 98, 102, 57, 50, 57, 50, 100, 99, 50, 57, 102, 56, 102, 52, 49, 100, 98, 100, 50, 56, 57, 97, 49, 52, 55, 99, 101, 57, 100, 97, 51, 49, 49, 51, 98, 53, 102, 48, 98, 56, 99, 48, 48, 97, 54, 48, 98, 49, 99, 101, 49, 100, 55, 101, 56, 49, 57, 100, 55, 97, 52, 51, 49, 100, 55, 99, 57, 48, 101, 97, 48, 101, 53, 102]    _ hx_12) rfl ?_
  rintro v_13 w hS1
  have hS := hS.call hS1
  simp only [List.cons_append, List.nil_append] at hS
  refine wpR_v (OpV_build (vs := [(0, v_10, [v_10]), (1, v_13, [v_13])]) (cells := [v_10, v_13, vB false]) rfl lay27 ⟨(cells_one (hS.ro 1 rfl).one), (cells_one (hS.ro 0 rfl).one), trivial⟩ rfl) rfl ?_
  refine wpR_y (OpY_stB (i := 2) (us := [v_10, v_13, vB false]) rfl sz27 rfl rfl rfl ⟨(hS.ro 1 rfl).one, (hS.ro 0 rfl).one, rfl, trivial⟩ rfl hS) ?_
  intro w hS
  replace hS : St _ _ w [own e32 v_13 x_12, own e32 v_10 x_9, OE.bx b_1 [v_10, v_13, vB false]] := hS
  refine wpR_nil (QE_then_n (wpC_ret (QE_blk_r ?_)))
  refine QE_then_r ?_
  cases h
  exact QE_rv1 rfl ⟨_, rfl, run_ldAgg (us := [v_10, v_13, vB false]) Tryz.underlying27 rfl sz27 (hS.bxs 2 rfl rfl)⟩ ⟨v_10, v_13, rfl, hS.pick [1, 0] (by decide) rfl⟩
 have h := if_f h hb_15
 refine wpC_skip (QE_blk_n ?_)
 refine QE_then_n (wpC_seq (wpC_region (wpR_v (OpV_build (vs := []) (cells := [.slice none 0 0, .slice none 0 0, vB false]) rfl lay27 trivial rfl) rfl ?_)))
 refine wpR_y (OpY_stB (i := 0) (us := [.slice none 0 0, .slice none 0 0, vB false]) rfl sz27 rfl rfl rfl ⟨rfl, rfl, rfl, trivial⟩ rfl hS) ?_
 intro w hS
 replace hS : St _ _ w [OE.bx b_1 [.slice none 0 0, .slice none 0 0, vB false]] := hS
 refine wpR_nil (QE_then_n (wpC_ret ?_))
 cases h
 exact QE_rv1 rfl ⟨_, rfl, run_ldAgg (us := [.slice none 0 0, .slice none 0 0, vB false]) Tryz.underlying27 rfl sz27 (hS.bxs 0 rfl rfl)⟩ ⟨.slice none 0 0, .slice none 0 0, rfl, ((hS.nil e32).nil e32).pick [1, 0] (by decide) rfl⟩
end Go.Proofs
