import Derived.Test.YtpbgncmffgnohaaGreatTW0
import Derived.Test.YtpbgncmffgnohaaGreatGkFref6
set_option linter.unusedVariables false
set_option linter.unusedSimpArgs false
set_option linter.unusedVariables false
set_option maxRecDepth 4000
namespace Go.Proofs
open Go Go.RowKit Go.Gk
theorem c_ref6_Proper (w0 : World) (a0 : List UInt32) (va0 : Value) (ha0 : RP [] w0 e32 va0 a0) (r : List UInt32)
  (h : F.ref6_Proper a0 = some r) : Calls Tryz.prog 80 #[va0] w0 (Ret fun v w => St [] w0 w [own e32 v r]) := by
 refine calls_at 33 Tryz.func80 rfl rfl rfl ?_
 have hS := St.start w0
 refine wpC_le [(0, va0)] ⟨rfl, trivial⟩ ?_
 unfold F.ref6_Proper at h
 refine wpC_seq (wpC_region (wpR_run 1 rfl ?_))
 refine wpR_nil (QE_then_n (wpC_seq (wpC_region (wpR_run 1 rfl ?_))))
 refine wpR_v (OpV_len Tryz.underlying25 rfl (ha0.now hS.fr)) rfl ?_
 refine wpR_run 1 rfl ?_
 refine wpR_nil (QE_then_n (wpC_seq (wpC_block ?_)))
 refine wpC_le [(0, va0), (3, vI (a0.length : Int))] ⟨rfl, rfl, trivial⟩ ?_
 refine loop_ind (F.ref6_Proper_L1 a0) (fun (s : Int) L w => L = [(0, va0), (3, vI s)] ∧ St [] w0 w []) ?_ (a0.length : Int) ⟨rfl, hS⟩ h
 rintro k_25 x_1 L w q_4 hI ih_3 h hk_2
 try dsimp only at hI
 obtain ⟨rfl, hS⟩ := hI
 unfold F.ref6_Proper_L1 at h
 refine wpC_seq ?_
 refine seq_join (r := q_4) (fun (g : Bool) L w => L = [(0, va0), (3, vI x_1), (17, vB g)] ∧ St [] w0 w []) (F.ref6_Proper_K1 x_1 a0) ?_ ?_
 rotate_left
 ·intro hK_8
  refine wpC_region (wpR_run 3 rfl ?_)
  cases hb_5 : (decide ((0 : Int) < x_1))
  case true =>
   have h := if_t h hb_5
   try simp only [hb_5]
   refine wpR_run 3 rfl ?_
   obtain ⟨x_6, hx_6, h⟩ := obind_some h
   refine wpR_gv (t := 10) rfl rfl (G_ix Tryz.underlying25 ti52 rfl rfl (ha0.now hS.fr) hx_6) rfl ?_
   refine wpR_gv (t := 10) rfl rfl (G_load Tryz.underlying52 rfl rfl (ha0.now hS.fr) hx_6 rfl) rfl ?_
   refine wpR_gv (t := 10) rfl rfl (OpV_bin rfl rfl (b_eql32 _ x_6 0)) rfl ?_
   refine wpR_run 1 rfl ?_
   refine wpR_nil (QE_then_n ?_)
   exact wpC_le _ (by exact ⟨rfl, rfl, rfl, trivial⟩) (hK_8 (x_6 == 0) _ _ ⟨rfl, hS⟩ h)
  case false =>
   have h := if_f h hb_5
   try simp only [hb_5]
   refine wpR_run 7 rfl ?_
   refine wpR_nil (QE_then_n ?_)
   exact wpC_le _ (by exact ⟨rfl, rfl, rfl, trivial⟩) (hK_8 false _ _ ⟨rfl, hS⟩ h)
 rintro x_7 L w hJ h
 try dsimp only at hJ
 obtain ⟨rfl, hS⟩ := hJ
 unfold F.ref6_Proper_K1 at h
 refine wpC_cond rfl (fun hb_24 => ?_) (fun hb_24 => ?_)
 ·have h := if_t h hb_24
  refine wpC_skip (QE_then_n (wpC_block ?_))
  refine wpC_region (wpR_run 3 rfl ?_)
  refine wpR_nil (QE_blk_n ?_)
  exact QE_rnd (wpN_le _ (by exact ⟨rfl, rfl, trivial⟩) (ih_3 (wI (x_1 - 1)) _ _ ⟨rfl, hS⟩ (oinl_some h hk_2)))
 have h := if_f h hb_24
 refine wpC_exit ?_
 refine QE_then_x (QE_then_x ?_)
 have h := oinr_some h hk_2
 refine QE_blk_x ?_
 refine QE_then_n (wpC_seq (wpC_region (wpR_run 1 rfl ?_)))
 refine wpR_nil (QE_then_n (wpC_seq (wpC_seq (wpC_region (wpR_run 1 rfl ?_)))))
 refine wpR_nil (QE_then_n (wpC_block ?_))
 refine wpC_le [(0, va0), (3, vI x_1), (4, .slice none 0 0), (5, vI 0)] ⟨rfl, rfl, rfl, rfl, trivial⟩ ?_
 refine loop_ind (F.ref6_Proper_L2 a0 x_1) (fun (s : List UInt32 × Int) L w => ∃ (v_10 : Value), L = [(0, va0), (3, vI x_1), (4, v_10), (5, vI s.2)] ∧ St [] w0 w [own e32 v_10 s.1]) ?_ ([], 0) ⟨.slice none 0 0, rfl, (hS.nil e32)⟩ h
 rintro k_23 ⟨x_9, x_12⟩ L w q_15 hI ih_14 h hk_13
 try dsimp only at hI
 obtain ⟨v_10, rfl, hS⟩ := hI
 unfold F.ref6_Proper_L2 at h
 refine wpC_seq (wpC_seq (wpC_region (wpR_run 3 rfl ?_)))
 refine wpR_nil (QE_then_n ?_)
 refine wpC_cond rfl (fun hb_22 => ?_) (fun hb_22 => ?_)
 ·have h := if_t h hb_22
  refine wpC_skip (QE_then_n (wpC_seq (wpC_block ?_)))
  refine wpC_region (wpR_run 3 rfl ?_)
  obtain ⟨x_16, hx_16, h⟩ := obind_some h
  refine wpR_v (G_ix Tryz.underlying25 ti52 rfl rfl (ha0.now hS.fr) hx_16) rfl ?_
  refine wpR_v (G_load Tryz.underlying52 rfl rfl (ha0.now hS.fr) hx_16 rfl) rfl ?_
  refine wpR_x (OpX_lit (e := e32) (l := ([x_16] : List UInt32)) (vs := [v32 x_16]) Tryz.underlying25 ti52 rfl rfl rfl rfl (by decide) (by decide) hS) rfl ?_
  rintro v_17 w hS
  obtain ⟨x_19, hx_19, h⟩ := obind_some h
  refine wpR_x (G_append Tryz.underlying25 ti52 rfl rfl rfl hS (i := 1) rfl (hS.ro 0 rfl) hx_19) rfl ?_
  rintro v_20 w hS
  refine wpR_run 1 rfl ?_
  refine wpR_nil (QE_blk_n ?_)
  refine QE_then_n (wpC_region (wpR_run 3 rfl ?_))
  refine wpR_nil ?_
  exact QE_rnd (wpN_le _ (by exact ⟨rfl, rfl, rfl, rfl, trivial⟩) (ih_14 (x_19, wI (x_12 + 1)) _ _ ⟨v_20, rfl, (hS.pick [1] (by decide) rfl)⟩ (oinl_some h hk_13)))
 have h := if_f h hb_22
 refine wpC_exit ?_
 refine QE_then_x (QE_then_x ?_)
 have h := oinr_some h hk_13
 refine QE_blk_x ?_
 refine QE_then_n (wpC_seq (wpC_region (wpR_run 2 rfl ?_)))
 refine wpR_nil (QE_then_n (wpC_ret ?_))
 cases h
 exact QE_ret1 rfl rfl (hS.pick [0] (by decide) rfl)
theorem c_ref6_FromBytes (w0 : World) (a0 : List UInt8) (va0 : Value) (ha0 : RP [] w0 e8 va0 a0) (r : List UInt32)
  (h : F.ref6_FromBytes a0 = some r) : Calls Tryz.prog 42 #[va0] w0 (Ret fun v w => St [] w0 w [own e32 v r]) := by
 refine calls_at 37 Tryz.func42 rfl rfl rfl ?_
 have hS := St.start w0
 refine wpC_le [(0, va0)] ⟨rfl, trivial⟩ ?_
 unfold F.ref6_FromBytes at h
 refine wpC_seq (wpC_region (wpR_run 1 rfl ?_))
 refine wpR_nil (QE_then_n (wpC_seq (wpC_region (wpR_run 1 rfl ?_))))
 refine wpR_nil (QE_then_n (wpC_seq (wpC_seq (wpC_region (wpR_run 1 rfl ?_)))))
 refine wpR_v (OpV_len Tryz.underlying23 rfl (ha0.now hS.fr)) rfl ?_
 refine wpR_run 1 rfl ?_
 refine wpR_nil (QE_then_n (wpC_block ?_))
 refine wpC_le [(0, va0), (3, .slice none 0 0), (4, vI (a0.length : Int))] ⟨rfl, rfl, rfl, trivial⟩ ?_
 refine loop_ind (F.ref6_FromBytes_L1 a0) (fun (s : List UInt32 × Int) L w => ∃ (v_2 : Value), L = [(0, va0), (3, v_2), (4, vI s.2)] ∧ St [] w0 w [own e32 v_2 s.1]) ?_ ([], (a0.length : Int)) ⟨.slice none 0 0, rfl, (hS.nil e32)⟩ h
 rintro k_29 ⟨x_1, x_4⟩ L w q_7 hI ih_6 h hk_5
 try dsimp only at hI
 obtain ⟨v_2, rfl, hS⟩ := hI
 unfold F.ref6_FromBytes_L1 at h
 refine wpC_seq (wpC_seq (wpC_region (wpR_run 2 rfl ?_)))
 refine wpR_nil (QE_then_n ?_)
 refine wpC_cond rfl (fun hb_28 => ?_) (fun hb_28 => ?_)
 ·have h := if_t h hb_28
  refine wpC_skip (QE_then_n (wpC_seq (wpC_block ?_)))
  refine wpC_seq (wpC_region (wpR_run 1 rfl ?_))
  refine wpR_nil (QE_then_n (wpC_seq (wpC_seq (wpC_region (wpR_run 3 rfl ?_)))))
  refine wpR_nil (QE_then_n (wpC_block ?_))
  refine wpC_le [(0, va0), (3, v_2), (4, vI x_4), (5, v32 0), (6, vI (wI (x_4 - 4)))] ⟨rfl, rfl, rfl, rfl, rfl, trivial⟩ ?_
  refine loop_ind (F.ref6_FromBytes_L2 a0 x_1 x_4) (fun (s : UInt32 × Int) L w => L = [(0, va0), (3, v_2), (4, vI x_4), (5, v32 s.1), (6, vI s.2)] ∧ St [] w0 w [own e32 v_2 x_1]) ?_ (0, wI (x_4 - 4)) ⟨rfl, hS⟩ h
  rintro k_24 ⟨x_8, x_9⟩ L w q_12 hI ih_11 h hk_10
  try dsimp only at hI
  obtain ⟨rfl, hS⟩ := hI
  unfold F.ref6_FromBytes_L2 at h
  refine wpC_seq (wpC_seq (wpC_region (wpR_run 3 rfl ?_)))
  refine wpR_nil (QE_then_n ?_)
  refine wpC_cond rfl (fun hb_23 => ?_) (fun hb_23 => ?_)
  ·have h := if_t h hb_23
   refine wpC_skip (QE_then_n ?_)
   refine seq_join (r := q_12) (fun (g : UInt32) L w => L = [(0, va0), (3, v_2), (4, vI x_4), (5, v32 g), (6, vI x_9)] ∧ St [] w0 w [own e32 v_2 x_1]) (F.ref6_FromBytes_K1 x_9) ?_ ?_
   rotate_left
   ·intro hK_17
    refine wpC_block ?_
    refine wpC_seq (wpC_region (wpR_run 1 rfl ?_))
    refine wpR_v (OpV_bin rfl rfl (b_mul32 _ x_8 256)) rfl ?_
    refine wpR_run 1 rfl ?_
    refine wpR_nil (QE_then_n (wpC_seq (wpC_region (wpR_run 2 rfl ?_))))
    refine wpR_nil (QE_then_n ?_)
    refine wpC_cond rfl (fun hb_15 => ?_) (fun hb_15 => ?_)
    ·have h := if_t h hb_15
     refine wpC_region (wpR_run 3 rfl ?_)
     obtain ⟨x_13, hx_13, h⟩ := obind_some h
     refine wpR_v (G_ix Tryz.underlying23 ti5 rfl rfl (ha0.now hS.fr) hx_13) rfl ?_
     refine wpR_v (G_load Tryz.underlying5 rfl rfl (ha0.now hS.fr) hx_13 rfl) rfl ?_
     refine wpR_v (OpV_conv rfl (cv_8_32 Tryz.underlying5 Tryz.underlying52 x_13)) rfl ?_
     refine wpR_v (OpV_bin rfl rfl (b_add32 _ (x_8 * 256) x_13.toUInt32)) rfl ?_
     obtain ⟨x_14, hx_14, h⟩ := olet_some h
     refine wpR_v (OpV_assign (v := v32 x_14) (by rw [← hx_14]; rfl)) rfl ?_
     refine wpR_nil (QE_blk_n ?_)
     refine QE_then_n ?_
     exact wpC_le _ (by exact ⟨rfl, rfl, rfl, rfl, rfl, trivial⟩) (hK_17 x_14 _ _ ⟨rfl, hS⟩ h)
    have h := if_f h hb_15
    refine wpC_skip (QE_blk_n ?_)
    refine QE_then_n ?_
    exact wpC_le _ (by exact ⟨rfl, rfl, rfl, rfl, rfl, trivial⟩) (hK_17 (x_8 * 256) _ _ ⟨rfl, hS⟩ h)
   rintro x_16 L w hJ h
   try dsimp only at hJ
   obtain ⟨rfl, hS⟩ := hJ
   unfold F.ref6_FromBytes_K1 at h
   refine wpC_region (wpR_run 3 rfl ?_)
   refine wpR_nil ?_
   exact QE_rnd (wpN_le _ (by exact ⟨rfl, rfl, rfl, rfl, rfl, trivial⟩) (ih_11 (x_16, wI (x_9 + 1)) _ _ ⟨rfl, hS⟩ (oinl_some h hk_10)))
  have h := if_f h hb_23
  refine wpC_exit ?_
  refine QE_then_x (QE_then_x ?_)
  have h := oinr_some h hk_10
  refine QE_blk_x ?_
  refine QE_then_n (wpC_region (wpR_run 2 rfl ?_))
  refine wpR_x (OpX_lit (e := e32) (l := ([x_8] : List UInt32)) (vs := [v32 x_8]) Tryz.underlying25 ti52 rfl rfl rfl rfl (by decide) (by decide) hS) rfl ?_
  rintro v_18 w hS
  obtain ⟨x_20, hx_20, h⟩ := obind_some h
  refine wpR_x (G_append Tryz.underlying25 ti52 rfl rfl rfl hS (i := 1) rfl (hS.ro 0 rfl) hx_20) rfl ?_
  rintro v_21 w hS
  refine wpR_run 1 rfl ?_
  refine wpR_nil (QE_blk_n ?_)
  refine QE_then_n (wpC_region (wpR_run 3 rfl ?_))
  refine wpR_nil ?_
  exact QE_rnd (wpN_le _ (by exact ⟨rfl, rfl, rfl, trivial⟩) (ih_6 (x_20, wI (x_4 - 4)) _ _ ⟨v_21, rfl, (hS.pick [1] (by decide) rfl)⟩ (oinl_some h hk_5)))
 have h := if_f h hb_28
 refine wpC_exit ?_
 refine QE_then_x (QE_then_x ?_)
 have h := oinr_some h hk_5
 refine QE_blk_x ?_
 refine QE_then_n (wpC_seq (wpC_region (wpR_run 1 rfl ?_)))
 obtain ⟨x_25, hx_25, h⟩ := obind_some h
 refine wpR_call (by kernel_rfl) rfl (c_ref6_Proper _ x_1 v_2  (hS.ro 0 rfl).rp _ hx_25) rfl ?_
 rintro v_26 w hS1
 have hS := hS.call hS1
 simp only [List.cons_append, List.nil_append] at hS
 refine wpR_run 1 rfl ?_
 refine wpR_nil (QE_then_n (wpC_ret ?_))
 cases h
 exact QE_ret1 rfl rfl (hS.pick [0] (by decide) rfl)
theorem c_ref6_limb (w0 : World) (a0 : List UInt32) (a1 : Int) (va0 : Value) (ha0 : RP [] w0 e32 va0 a0) (r : UInt64)
  (h : F.ref6_limb a0 a1 = some r) : Calls Tryz.prog 89 #[va0, vI a1] w0 (Ret fun v w => v = v64 r ∧ St [] w0 w []) := by
 refine calls_at 14 Tryz.func89 rfl rfl rfl ?_
 have hS := St.start w0
 refine wpC_le [(0, va0), (1, vI a1)] ⟨rfl, rfl, trivial⟩ ?_
 unfold F.ref6_limb at h
 refine wpC_seq (wpC_region (wpR_run 1 rfl ?_))
 refine wpR_nil (QE_then_n (wpC_seq (wpC_seq (wpC_region (wpR_run 2 rfl ?_)))))
 refine wpR_v (OpV_len Tryz.underlying25 rfl (ha0.now hS.fr)) rfl ?_
 refine wpR_run 1 rfl ?_
 refine wpR_nil (QE_then_n ?_)
 refine wpC_cond rfl (fun hb_2 => ?_) (fun hb_2 => ?_)
 ·have h := if_t h hb_2
  refine wpC_seq (wpC_region (wpR_run 1 rfl ?_))
  refine wpR_nil (QE_then_n (wpC_ret (QE_then_r ?_)))
  cases h
  exact QE_ret1 rfl rfl ⟨rfl, hS⟩
 have h := if_f h hb_2
 refine wpC_skip (QE_then_n (wpC_seq (wpC_region (wpR_run 2 rfl ?_))))
 obtain ⟨x_1, hx_1, h⟩ := obind_some h
 refine wpR_v (G_ix Tryz.underlying25 ti52 rfl rfl (ha0.now hS.fr) hx_1) rfl ?_
 refine wpR_v (G_load Tryz.underlying52 rfl rfl (ha0.now hS.fr) hx_1 rfl) rfl ?_
 refine wpR_v (OpV_conv rfl (cv_32_64 Tryz.underlying52 Tryz.underlying94 x_1)) rfl ?_
 refine wpR_run 1 rfl ?_
 refine wpR_nil (QE_then_n (wpC_ret ?_))
 cases h
 exact QE_ret1 rfl rfl ⟨rfl, hS⟩
theorem c_ref6_Cmp (w0 : World) (a0 : List UInt32) (a1 : List UInt32) (va0 : Value) (va1 : Value) (ha0 : RP [] w0 e32 va0 a0) (ha1 : RP [] w0 e32 va1 a1) (r : Int)
  (h : F.ref6_Cmp a0 a1 = some r) : Calls Tryz.prog 54 #[va0, va1] w0 (Ret fun v w => v = vI r ∧ St [] w0 w []) := by
 refine calls_at 35 Tryz.func54 rfl rfl rfl ?_
 have hS := St.start w0
 refine wpC_le [(0, va0), (1, va1)] ⟨rfl, rfl, trivial⟩ ?_
 unfold F.ref6_Cmp at h
 refine wpC_seq (wpC_region (wpR_run 1 rfl ?_))
 refine wpR_nil (QE_then_n (wpC_seq (wpC_region (wpR_run 1 rfl ?_))))
 refine wpR_v (OpV_len Tryz.underlying25 rfl (ha0.now hS.fr)) rfl ?_
 refine wpR_run 1 rfl ?_
 refine wpR_nil (QE_then_n ?_)
 refine seq_join (r := r) (fun (g : Int) L w => L = [(0, va0), (1, va1), (5, vI g)] ∧ St [] w0 w []) (F.ref6_Cmp_K1 a0 a1) ?_ ?_
 rotate_left
 ·intro hK_3
  refine wpC_seq (wpC_region (wpR_run 1 rfl ?_))
  refine wpR_v (OpV_len Tryz.underlying25 rfl (ha1.now hS.fr)) rfl ?_
  refine wpR_run 2 rfl ?_
  refine wpR_nil (QE_then_n ?_)
  refine wpC_cond rfl (fun hb_1 => ?_) (fun hb_1 => ?_)
  ·have h := if_t h hb_1
   refine wpC_region (wpR_run 1 rfl ?_)
   refine wpR_v (OpV_len Tryz.underlying25 rfl (ha1.now hS.fr)) rfl ?_
   refine wpR_run 1 rfl ?_
   refine wpR_nil (QE_then_n ?_)
   exact wpC_le _ (by exact ⟨rfl, rfl, rfl, trivial⟩) (hK_3 (a1.length : Int) _ _ ⟨rfl, hS⟩ h)
  have h := if_f h hb_1
  refine wpC_skip (QE_then_n ?_)
  exact wpC_le _ (by exact ⟨rfl, rfl, rfl, trivial⟩) (hK_3 (a0.length : Int) _ _ ⟨rfl, hS⟩ h)
 rintro x_2 L w hJ h
 try dsimp only at hJ
 obtain ⟨rfl, hS⟩ := hJ
 unfold F.ref6_Cmp_K1 at h
 refine wpC_seq (wpC_seq (wpC_region (wpR_run 3 rfl ?_)))
 refine wpR_nil (QE_then_n (wpC_block ?_))
 refine wpC_le [(0, va0), (1, va1), (6, vI (wI (x_2 - 1)))] ⟨rfl, rfl, rfl, trivial⟩ ?_
 refine loop_ind (F.ref6_Cmp_L1 a0 a1) (fun (s : Int) L w => L = [(0, va0), (1, va1), (6, vI s)] ∧ St [] w0 w []) ?_ (wI (x_2 - 1)) ⟨rfl, hS⟩ h
 rintro k_13 x_4 L w q_7 hI ih_6 h hk_5
 try dsimp only at hI
 obtain ⟨rfl, hS⟩ := hI
 unfold F.ref6_Cmp_L1 at h
 refine wpC_seq (wpC_seq (wpC_region (wpR_run 2 rfl ?_)))
 refine wpR_nil (QE_then_n ?_)
 refine wpC_cond rfl (fun hb_12 => ?_) (fun hb_12 => ?_)
 ·have h := if_t h hb_12
  refine wpC_skip (QE_then_n (wpC_seq (wpC_block ?_)))
  refine wpC_seq (wpC_region (wpR_run 2 rfl ?_))
  obtain ⟨x_8, hx_8, h⟩ := obind_some h
  refine wpR_call (by kernel_rfl) rfl (c_ref6_limb _ a0 x_4 va0  (ha0.now hS.fr).rp _ hx_8) rfl ?_
  rintro _ w ⟨rfl, hS1⟩
  have hS := hS.call hS1
  simp only [List.cons_append, List.nil_append] at hS
  refine wpR_run 1 rfl ?_
  refine wpR_nil (QE_then_n (wpC_seq (wpC_region (wpR_run 2 rfl ?_))))
  obtain ⟨x_9, hx_9, h⟩ := obind_some h
  refine wpR_call (by kernel_rfl) rfl (c_ref6_limb _ a1 x_4 va1  (ha1.now hS.fr).rp _ hx_9) rfl ?_
  rintro _ w ⟨rfl, hS1⟩
  have hS := hS.call hS1
  simp only [List.cons_append, List.nil_append] at hS
  refine wpR_run 1 rfl ?_
  refine wpR_nil (QE_then_n (wpC_seq (wpC_seq (wpC_region (wpR_run 2 rfl ?_)))))
  refine wpR_v (OpV_bin rfl rfl (b_lss64 _ x_8 x_9)) rfl ?_
  refine wpR_nil (QE_then_n ?_)
  refine wpC_cond rfl (fun hb_11 => ?_) (fun hb_11 => ?_)
  ·have h := if_t h hb_11
   refine wpC_seq (wpC_region (wpR_run 1 rfl ?_))
   refine wpR_nil (QE_then_n (wpC_ret (QE_then_r (QE_blk_r ?_))))
   refine QE_then_r (QE_then_r ?_)
   have h := oinr_some h hk_5
   refine QE_blk_r ?_
   refine QE_then_r ?_
   cases h
   exact QE_ret1 rfl rfl ⟨rfl, hS⟩
  have h := if_f h hb_11
  refine wpC_skip (QE_then_n (wpC_seq (wpC_region (wpR_run 2 rfl ?_))))
  refine wpR_v (OpV_bin rfl rfl (b_gtr64 _ x_8 x_9)) rfl ?_
  refine wpR_nil (QE_then_n ?_)
  refine wpC_cond rfl (fun hb_10 => ?_) (fun hb_10 => ?_)
  ·have h := if_t h hb_10
   refine wpC_seq (wpC_region (wpR_run 1 rfl ?_))
   refine wpR_nil (QE_then_n (wpC_ret (QE_blk_r ?_)))
   refine QE_then_r (QE_then_r ?_)
   have h := oinr_some h hk_5
   refine QE_blk_r ?_
   refine QE_then_r ?_
   cases h
   exact QE_ret1 rfl rfl ⟨rfl, hS⟩
  have h := if_f h hb_10
  refine wpC_skip (QE_blk_n ?_)
  refine QE_then_n (wpC_region (wpR_run 3 rfl ?_))
  refine wpR_nil ?_
  exact QE_rnd (wpN_le _ (by exact ⟨rfl, rfl, rfl, trivial⟩) (ih_6 (wI (x_4 - 1)) _ _ ⟨rfl, hS⟩ (oinl_some h hk_5)))
 have h := if_f h hb_12
 refine wpC_exit ?_
 refine QE_then_x (QE_then_x ?_)
 have h := oinr_some h hk_5
 refine QE_blk_x ?_
 refine QE_then_n (wpC_seq (wpC_region (wpR_run 1 rfl ?_)))
 refine wpR_nil (QE_then_n (wpC_ret ?_))
 cases h
 exact QE_ret1 rfl rfl ⟨rfl, hS⟩
theorem c_ref6_byteAt (w0 : World) (a0 : List UInt32) (a1 : Int) (va0 : Value) (ha0 : RP [] w0 e32 va0 a0) (r : UInt8)
  (h : F.ref6_byteAt a0 a1 = some r) : Calls Tryz.prog 109 #[va0, vI a1] w0 (Ret fun v w => v = v8 r ∧ St [] w0 w []) := by
 refine calls_at 22 Tryz.func109 rfl rfl rfl ?_
 have hS := St.start w0
 refine wpC_le [(0, va0), (1, vI a1)] ⟨rfl, rfl, trivial⟩ ?_
 unfold F.ref6_byteAt at h
 refine wpC_seq (wpC_region (wpR_run 1 rfl ?_))
 refine wpR_nil (QE_then_n (wpC_seq (wpC_region (wpR_run 2 rfl ?_))))
 refine wpR_v (OpV_bin rfl rfl (b_iquo _ a1 4 (by decide))) rfl ?_
 obtain ⟨x_1, hx_1, h⟩ := obind_some h
 refine wpR_call (by kernel_rfl) rfl (c_ref6_limb _ a0 (wI (Int.tdiv a1 4)) va0  (ha0.now hS.fr).rp _ hx_1) rfl ?_
 rintro _ w ⟨rfl, hS1⟩
 have hS := hS.call hS1
 simp only [List.cons_append, List.nil_append] at hS
 refine wpR_run 1 rfl ?_
 refine wpR_nil (QE_then_n (wpC_seq (wpC_seq (wpC_region (wpR_run 1 rfl ?_)))))
 refine wpR_nil (QE_then_n (wpC_block ?_))
 refine wpC_le [(1, vI a1), (5, v64 x_1), (6, vI 0)] ⟨rfl, rfl, rfl, trivial⟩ ?_
 refine loop_ind (F.ref6_byteAt_L1 a1) (fun (s : UInt64 × Int) L w => L = [(1, vI a1), (5, v64 s.1), (6, vI s.2)] ∧ St [] w0 w []) ?_ (x_1, 0) ⟨rfl, hS⟩ h
 rintro k_8 ⟨x_2, x_3⟩ L w q_6 hI ih_5 h hk_4
 try dsimp only at hI
 obtain ⟨rfl, hS⟩ := hI
 unfold F.ref6_byteAt_L1 at h
 refine wpC_seq (wpC_seq (wpC_region (wpR_run 2 rfl ?_)))
 refine wpR_v (OpV_bin rfl rfl (b_irem _ a1 4 (by decide))) rfl ?_
 refine wpR_run 1 rfl ?_
 refine wpR_nil (QE_then_n ?_)
 refine wpC_cond rfl (fun hb_7 => ?_) (fun hb_7 => ?_)
 ·have h := if_t h hb_7
  refine wpC_skip (QE_then_n (wpC_seq (wpC_block ?_)))
  refine wpC_region (wpR_run 1 rfl ?_)
  refine wpR_v (OpV_bin rfl rfl (b_quo64 _ x_2 256 (by decide))) rfl ?_
  refine wpR_run 1 rfl ?_
  refine wpR_nil (QE_blk_n ?_)
  refine QE_then_n (wpC_region (wpR_run 3 rfl ?_))
  refine wpR_nil ?_
  exact QE_rnd (wpN_le _ (by exact ⟨rfl, rfl, rfl, trivial⟩) (ih_5 (x_2 / 256, wI (x_3 + 1)) _ _ ⟨rfl, hS⟩ (oinl_some h hk_4)))
 have h := if_f h hb_7
 refine wpC_exit ?_
 refine QE_then_x (QE_then_x ?_)
 have h := oinr_some h hk_4
 refine QE_blk_x ?_
 refine QE_then_n (wpC_seq (wpC_region (wpR_run 1 rfl ?_)))
 refine wpR_v (OpV_bin rfl rfl (b_rem64 _ x_2 256 (by decide))) rfl ?_
 refine wpR_v (OpV_conv rfl (cv_64_8 Tryz.underlying94 Tryz.underlying5 (x_2 % 256))) rfl ?_
 refine wpR_run 1 rfl ?_
 refine wpR_nil (QE_then_n (wpC_ret ?_))
 cases h
 exact QE_ret1 rfl rfl ⟨rfl, hS⟩
theorem c_ref6_Bytes (w0 : World) (a0 : List UInt32) (va0 : Value) (ha0 : RP [] w0 e32 va0 a0) (r : List UInt8)
  (h : F.ref6_Bytes a0 = some r) : Calls Tryz.prog 81 #[va0] w0 (Ret fun v w => St [] w0 w [own e8 v r]) := by
 refine calls_at 33 Tryz.func81 rfl rfl rfl ?_
 have hS := St.start w0
 refine wpC_le [(0, va0)] ⟨rfl, trivial⟩ ?_
 unfold F.ref6_Bytes at h
 refine wpC_seq (wpC_region (wpR_run 1 rfl ?_))
 refine wpR_nil (QE_then_n (wpC_seq (wpC_region (wpR_run 1 rfl ?_))))
 refine wpR_v (OpV_len Tryz.underlying25 rfl (ha0.now hS.fr)) rfl ?_
 refine wpR_v (OpV_bin rfl rfl (b_imul _ 4 (a0.length : Int))) rfl ?_
 obtain ⟨x_1, hx_1, h⟩ := olet_some h
 refine wpR_v (OpV_assign (v := vI x_1) (by rw [← hx_1]; rfl)) rfl ?_
 refine wpR_nil (QE_then_n (wpC_seq (wpC_block ?_)))
 refine wpC_le [(0, va0), (3, vI x_1)] ⟨rfl, rfl, trivial⟩ ?_
 refine loop_ind (F.ref6_Bytes_L1 a0) (fun (s : Int) L w => L = [(0, va0), (3, vI s)] ∧ St [] w0 w []) ?_ x_1 ⟨rfl, hS⟩ h
 rintro k_26 x_2 L w q_5 hI ih_4 h hk_3
 try dsimp only at hI
 obtain ⟨rfl, hS⟩ := hI
 unfold F.ref6_Bytes_L1 at h
 refine wpC_seq ?_
 refine seq_join (r := q_5) (fun (g : Bool) L w => L = [(0, va0), (3, vI x_2), (17, vB g)] ∧ St [] w0 w []) (F.ref6_Bytes_K1 x_2 a0) ?_ ?_
 rotate_left
 ·intro hK_9
  refine wpC_region (wpR_run 3 rfl ?_)
  cases hb_6 : (decide ((0 : Int) < x_2))
  case true =>
   have h := if_t h hb_6
   try simp only [hb_6]
   refine wpR_run 3 rfl ?_
   obtain ⟨x_7, hx_7, h⟩ := obind_some h
   refine wpR_gcall (t := 11) rfl rfl (by kernel_rfl) rfl (c_ref6_byteAt _ a0 (wI (x_2 - 1)) va0  (ha0.now hS.fr).rp _ hx_7) rfl ?_
   rintro _ w ⟨rfl, hS1⟩
   have hS := hS.call hS1
   simp only [List.cons_append, List.nil_append] at hS
   refine wpR_gv (t := 11) rfl rfl (OpV_bin rfl rfl (b_eql8 _ x_7 0)) rfl ?_
   refine wpR_run 1 rfl ?_
   refine wpR_nil (QE_then_n ?_)
   exact wpC_le _ (by exact ⟨rfl, rfl, rfl, trivial⟩) (hK_9 (x_7 == 0) _ _ ⟨rfl, hS⟩ h)
  case false =>
   have h := if_f h hb_6
   try simp only [hb_6]
   refine wpR_run 6 rfl ?_
   refine wpR_nil (QE_then_n ?_)
   exact wpC_le _ (by exact ⟨rfl, rfl, rfl, trivial⟩) (hK_9 false _ _ ⟨rfl, hS⟩ h)
 rintro x_8 L w hJ h
 try dsimp only at hJ
 obtain ⟨rfl, hS⟩ := hJ
 unfold F.ref6_Bytes_K1 at h
 refine wpC_cond rfl (fun hb_25 => ?_) (fun hb_25 => ?_)
 ·have h := if_t h hb_25
  refine wpC_skip (QE_then_n (wpC_block ?_))
  refine wpC_region (wpR_run 3 rfl ?_)
  refine wpR_nil (QE_blk_n ?_)
  exact QE_rnd (wpN_le _ (by exact ⟨rfl, rfl, trivial⟩) (ih_4 (wI (x_2 - 1)) _ _ ⟨rfl, hS⟩ (oinl_some h hk_3)))
 have h := if_f h hb_25
 refine wpC_exit ?_
 refine QE_then_x (QE_then_x ?_)
 have h := oinr_some h hk_3
 refine QE_blk_x ?_
 refine QE_then_n (wpC_seq (wpC_region (wpR_run 1 rfl ?_)))
 refine wpR_nil (QE_then_n (wpC_seq (wpC_seq (wpC_region (wpR_run 3 rfl ?_)))))
 refine wpR_nil (QE_then_n (wpC_block ?_))
 refine wpC_le [(0, va0), (4, .slice none 0 0), (5, vI (wI (x_2 - 1)))] ⟨rfl, rfl, rfl, trivial⟩ ?_
 refine loop_ind (F.ref6_Bytes_L2 a0) (fun (s : List UInt8 × Int) L w => ∃ (v_11 : Value), L = [(0, va0), (4, v_11), (5, vI s.2)] ∧ St [] w0 w [own e8 v_11 s.1]) ?_ ([], wI (x_2 - 1)) ⟨.slice none 0 0, rfl, (hS.nil e8)⟩ h
 rintro k_24 ⟨x_10, x_13⟩ L w q_16 hI ih_15 h hk_14
 try dsimp only at hI
 obtain ⟨v_11, rfl, hS⟩ := hI
 unfold F.ref6_Bytes_L2 at h
 refine wpC_seq (wpC_seq (wpC_region (wpR_run 2 rfl ?_)))
 refine wpR_nil (QE_then_n ?_)
 refine wpC_cond rfl (fun hb_23 => ?_) (fun hb_23 => ?_)
 ·have h := if_t h hb_23
  refine wpC_skip (QE_then_n (wpC_seq (wpC_block ?_)))
  refine wpC_region (wpR_run 3 rfl ?_)
  obtain ⟨x_17, hx_17, h⟩ := obind_some h
  refine wpR_call (by kernel_rfl) rfl (c_ref6_byteAt _ a0 x_13 va0  (ha0.now hS.fr).rp _ hx_17) rfl ?_
  rintro _ w ⟨rfl, hS1⟩
  have hS := hS.call hS1
  simp only [List.cons_append, List.nil_append] at hS
  refine wpR_x (OpX_lit (e := e8) (l := [x_17]) (vs := [v8 x_17]) Tryz.underlying23 ti5 rfl rfl rfl rfl (by decide) (by decide) hS) rfl ?_
  rintro v_18 w hS
  obtain ⟨x_20, hx_20, h⟩ := obind_some h
  refine wpR_x (G_append Tryz.underlying23 ti5 rfl rfl rfl hS (i := 1) rfl (hS.ro 0 rfl) hx_20) rfl ?_
  rintro v_21 w hS
  refine wpR_run 1 rfl ?_
  refine wpR_nil (QE_blk_n ?_)
  refine QE_then_n (wpC_region (wpR_run 3 rfl ?_))
  refine wpR_nil ?_
  exact QE_rnd (wpN_le _ (by exact ⟨rfl, rfl, rfl, trivial⟩) (ih_15 (x_20, wI (x_13 - 1)) _ _ ⟨v_21, rfl, (hS.pick [1] (by decide) rfl)⟩ (oinl_some h hk_14)))
 have h := if_f h hb_23
 refine wpC_exit ?_
 refine QE_then_x (QE_then_x ?_)
 have h := oinr_some h hk_14
 refine QE_blk_x ?_
 refine QE_then_n (wpC_seq (wpC_region (wpR_run 2 rfl ?_)))
 refine wpR_nil (QE_then_n (wpC_ret ?_))
 cases h
 exact QE_ret1 rfl rfl (hS.pick [0] (by decide) rfl)
theorem c_ref6_Fixed (w0 : World) (a0 : List UInt32) (a1 : Int) (va0 : Value) (ha0 : RP [] w0 e32 va0 a0) (r : List UInt8 × Bool)
  (h : F.ref6_Fixed a0 a1 = some r) : Calls Tryz.prog 43 #[va0, vI a1] w0 (Ret fun v w => ∃ u0 : Value, v = .tuple #[u0, vB r.2] ∧ St [] w0 w [own e8 u0 r.1]) := by
 refine calls_at 30 Tryz.func43 rfl rfl rfl ?_
 have hS := St.start w0
 refine wpC_le [(0, va0), (1, vI a1)] ⟨rfl, rfl, trivial⟩ ?_
 unfold F.ref6_Fixed at h
 refine wpC_seq (wpC_region (wpR_run 2 rfl ?_))
 refine wpR_nil (QE_then_n (wpC_seq (wpC_region (wpR_run 1 rfl ?_))))
 obtain ⟨x_1, hx_1, h⟩ := obind_some h
 refine wpR_call (by kernel_rfl) rfl (c_ref6_Bytes _ a0 va0  (ha0.now hS.fr).rp _ hx_1) rfl ?_
 rintro v_2 w hS1
 have hS := hS.call hS1
 simp only [List.cons_append, List.nil_append] at hS
 refine wpR_run 1 rfl ?_
 refine wpR_nil (QE_then_n (wpC_seq ?_))
 refine seq_join (r := r) (fun (g : Bool) L w => L = [(1, vI a1), (6, v_2), (21, vB g)] ∧ St [] w0 w [own e8 v_2 x_1]) (F.ref6_Fixed_K1 a1 x_1) ?_ ?_
 rotate_left
 ·intro hK_7
  refine wpC_region (wpR_run 3 rfl ?_)
  cases hb_4 : (decide (a1 < 0))
  case true =>
   have h := if_t h hb_4
   try simp only [hb_4]
   refine wpR_run 9 rfl ?_
   refine wpR_nil (QE_then_n ?_)
   exact wpC_le _ (by exact ⟨rfl, rfl, rfl, trivial⟩) (hK_7 true _ _ ⟨rfl, hS⟩ h)
  case false =>
   have h := if_f h hb_4
   try simp only [hb_4]
   refine wpR_run 4 rfl ?_
   cases hb_5 : (decide ((16384 : Int) < a1))
   case true =>
    have h := if_t h hb_5
    try simp only [hb_5]
    refine wpR_run 5 rfl ?_
    refine wpR_nil (QE_then_n ?_)
    exact wpC_le _ (by exact ⟨rfl, rfl, rfl, trivial⟩) (hK_7 true _ _ ⟨rfl, hS⟩ h)
   case false =>
    have h := if_f h hb_5
    try simp only [hb_5]
    refine wpR_run 1 rfl ?_
    refine wpR_gv (t := 16) rfl rfl (OpV_len Tryz.underlying23 rfl (hS.ro 0 rfl)) rfl ?_
    refine wpR_run 3 rfl ?_
    refine wpR_nil (QE_then_n ?_)
    exact wpC_le _ (by exact ⟨rfl, rfl, rfl, trivial⟩) (hK_7 (decide (a1 < (x_1.length : Int))) _ _ ⟨rfl, hS⟩ h)
 rintro x_6 L w hJ h
 try dsimp only at hJ
 obtain ⟨rfl, hS⟩ := hJ
 unfold F.ref6_Fixed_K1 at h
 refine wpC_cond rfl (fun hb_14 => ?_) (fun hb_14 => ?_)
 ·have h := if_t h hb_14
  refine wpC_seq (wpC_region (wpR_run 2 rfl ?_))
  refine wpR_nil (QE_then_n (wpC_ret (QE_then_r ?_)))
  cases h
  exact QE_ret2 rfl rfl rfl ⟨.slice none 0 0, rfl, (hS.nil e8).pick [0] (by decide) rfl⟩
 have h := if_f h hb_14
 refine wpC_skip (QE_then_n (wpC_seq (wpC_region (wpR_run 2 rfl ?_))))
 refine wpR_v (OpV_len Tryz.underlying23 rfl (hS.ro 0 rfl)) rfl ?_
 refine wpR_run 1 rfl ?_
 obtain ⟨x_8, hx_8, h⟩ := obind_some h
 refine wpR_x (G_make (e := e8) Tryz.underlying23 ti5 rfl rfl rfl hS hx_8) rfl ?_
 rintro v_9 w hS
 refine wpR_run 1 rfl ?_
 refine wpR_nil (QE_then_n (wpC_seq (wpC_region (wpR_run 2 rfl ?_))))
 obtain ⟨x_11, hx_11, h⟩ := obind_some h
 refine wpR_x (G_append Tryz.underlying23 ti5 rfl rfl rfl hS (i := 0) rfl (hS.ro 1 rfl) hx_11) rfl ?_
 rintro v_12 w hS
 refine wpR_run 2 rfl ?_
 refine wpR_nil (QE_then_n (wpC_ret ?_))
 cases h
 exact QE_ret2 rfl rfl rfl ⟨v_12, rfl, hS.pick [0] (by decide) rfl⟩
end Go.Proofs
