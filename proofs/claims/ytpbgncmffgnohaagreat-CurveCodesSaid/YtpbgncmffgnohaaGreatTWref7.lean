import Derived.Test.YtpbgncmffgnohaaGreatTW0
import Derived.Test.YtpbgncmffgnohaaGreatGkFref7
set_option linter.unusedVariables false
set_option linter.unusedSimpArgs false
set_option linter.unusedVariables false
set_option maxRecDepth 4000
namespace Go.Proofs
open Go Go.RowKit Go.Gk
theorem c_ref7_Trim (w0 : World) (a0 : List UInt32) (va0 : Value) (ha0 : RP [] w0 e32 va0 a0) (r : List UInt32)
  (h : F.ref7_Trim a0 = some r) : Calls Tryz.prog 135 #[va0] w0 (Ret fun v w => St [] w0 w [own e32 v r]) := by
 refine calls_at 24 Tryz.func135 rfl rfl rfl ?_
 have hS := St.start w0
 refine wpC_le [(0, va0)] ⟨rfl, trivial⟩ ?_
 unfold F.ref7_Trim at h
 refine wpC_seq (wpC_region (wpR_run 1 rfl ?_))
 refine wpR_nil (QE_then_n (wpC_seq (wpC_region (wpR_run 1 rfl ?_))))
 refine wpR_v (OpV_len Tryz.underlying25 rfl (ha0.now hS.fr)) rfl ?_
 refine wpR_run 1 rfl ?_
 refine wpR_nil (QE_then_n (wpC_seq (wpC_block ?_)))
 refine wpC_le [(0, va0), (3, vI (a0.length : Int))] ⟨rfl, rfl, trivial⟩ ?_
 refine loop_ind (F.ref7_Trim_L1 a0) (fun (s : Int) L w => L = [(0, va0), (3, vI s)] ∧ St [] w0 w []) ?_ (a0.length : Int) ⟨rfl, hS⟩ h
 rintro k_14 x_1 L w q_4 hI ih_3 h hk_2
 try dsimp only at hI
 obtain ⟨rfl, hS⟩ := hI
 unfold F.ref7_Trim_L1 at h
 refine wpC_seq ?_
 refine seq_join (r := q_4) (fun (g : Bool) L w => L = [(0, va0), (3, vI x_1), (16, vB g)] ∧ St [] w0 w []) (F.ref7_Trim_K1 a0 x_1) ?_ ?_
 rotate_left
 ·intro hK_8
  refine wpC_region (wpR_run 3 rfl ?_)
  cases hb_5 : (decide ((0 : Int) < x_1))
  case true =>
   have h := if_t h hb_5
   try simp only [hb_5]
   refine wpR_run 3 rfl ?_
   obtain ⟨x_6, hx_6, h⟩ := obind_some h
   refine wpR_gv (t := 9) rfl rfl (G_ix Tryz.underlying25 ti52 rfl rfl (ha0.now hS.fr) hx_6) rfl ?_
   refine wpR_gv (t := 9) rfl rfl (G_load Tryz.underlying52 rfl rfl (ha0.now hS.fr) hx_6 rfl) rfl ?_
   refine wpR_gv (t := 9) rfl rfl (OpV_bin rfl rfl (b_eql32 _ x_6 0)) rfl ?_
   refine wpR_run 1 rfl ?_
   refine wpR_nil (QE_then_n ?_)
   exact wpC_le _ (by exact ⟨rfl, rfl, rfl, trivial⟩) (hK_8 (x_6 == 0) _ _ ⟨rfl, hS⟩ h)
  case false =>
   have h := if_f h hb_5
   try simp only [hb_5]
   refine wpR_run 7 rfl ?_
   refine wpR_nil (QE_then_n ?_)
   exact wpC_le _ (by exact ⟨rfl, rfl, rfl, trivial⟩) (hK_8 false _ _ ⟨rfl, hS⟩ h)
 rintro x_7 L w hJ h
 try dsimp only at hJ
 obtain ⟨rfl, hS⟩ := hJ
 unfold F.ref7_Trim_K1 at h
 refine wpC_cond rfl (fun hb_13 => ?_) (fun hb_13 => ?_)
 ·have h := if_t h hb_13
  refine wpC_skip (QE_then_n (wpC_block ?_))
  refine wpC_region (wpR_run 3 rfl ?_)
  refine wpR_nil (QE_blk_n ?_)
  exact QE_rnd (wpN_le _ (by exact ⟨rfl, rfl, trivial⟩) (ih_3 (wI (x_1 - 1)) _ _ ⟨rfl, hS⟩ (oinl_some h hk_2)))
 have h := if_f h hb_13
 refine wpC_exit ?_
 refine QE_then_x (QE_then_x ?_)
 have h := oinr_some h hk_2
 refine QE_blk_x ?_
 refine QE_then_n (wpC_seq (wpC_region (wpR_run 1 rfl ?_)))
 refine wpR_nil (QE_then_n (wpC_seq (wpC_region (wpR_run 3 rfl ?_))))
 obtain ⟨x_9, hx_9, h⟩ := obind_some h
 refine wpR_v (G_slh Tryz.underlying25 ti52 rfl rfl (ha0.now hS.fr) hx_9) rfl ?_
 obtain ⟨x_10, hx_10, h⟩ := obind_some h
 refine wpR_x (G_append0 Tryz.underlying25 ti52 rfl rfl rfl hS ((ha0.g_slh hx_9).now hS.fr) hx_10) rfl ?_
 rintro v_11 w hS
 refine wpR_run 1 rfl ?_
 refine wpR_nil (QE_then_n (wpC_ret ?_))
 cases h
 exact QE_ret1 rfl rfl (hS.pick [0] (by decide) rfl)
theorem c_ref7_one (w0 : World)    (r : List UInt32)
  (h : F.ref7_one  = some r) : Calls Tryz.prog 137 #[] w0 (Ret fun v w => St [] w0 w [own e32 v r]) := by
 refine calls_at 2 Tryz.func137 rfl rfl rfl ?_
 have hS := St.start w0
 refine wpC_le [] trivial ?_
 unfold F.ref7_one at h
 refine wpC_seq (wpC_region (wpR_run 1 rfl ?_))
 refine wpR_nil (QE_then_n (wpC_seq (wpC_region ?_)))
 refine wpR_x (OpX_lit (e := e32) (l := ([1] : List UInt32)) (vs := [v32 1]) Tryz.underlying25 ti52 rfl rfl rfl rfl (by decide) (by decide) hS) rfl ?_
 rintro v_1 w hS
 refine wpR_run 1 rfl ?_
 refine wpR_nil (QE_then_n (wpC_ret ?_))
 cases h
 exact QE_ret1 rfl rfl (hS.pick [0] (by decide) rfl)
theorem c_ref7_limb (w0 : World) (a0 : List UInt32) (a1 : Int) (va0 : Value) (ha0 : RP [] w0 e32 va0 a0) (r : UInt64)
  (h : F.ref7_limb a0 a1 = some r) : Calls Tryz.prog 139 #[va0, vI a1] w0 (Ret fun v w => v = v64 r ∧ St [] w0 w []) := by
 refine calls_at 14 Tryz.func139 rfl rfl rfl ?_
 have hS := St.start w0
 refine wpC_le [(0, va0), (1, vI a1)] ⟨rfl, rfl, trivial⟩ ?_
 unfold F.ref7_limb at h
 refine wpC_seq (wpC_region (wpR_run 1 rfl ?_))
 refine wpR_nil (QE_then_n (wpC_seq (wpC_seq (wpC_region (wpR_run 2 rfl ?_)))))
 refine wpR_v (OpV_len Tryz.underlying25 rfl (ha0.now hS.fr)) rfl ?_
 refine wpR_run 1 rfl ?_
 refine wpR_nil (QE_then_n ?_)
 refine wpC_cond rfl (fun hb_2 => ?_) (fun hb_2 => ?_)
 ·have h := if_t h hb_2
  refine wpC_seq (wpC_region (wpR_run 1 rfl ?_))
  refine wpR_nil (QE_then_n (wpC_ret (QE_then_r ?_)))
  cases h
  exact QE_ret1 rfl rfl ⟨rfl, hS⟩
 have h := if_f h hb_2
 refine wpC_skip (QE_then_n (wpC_seq (wpC_region (wpR_run 2 rfl ?_))))
 obtain ⟨x_1, hx_1, h⟩ := obind_some h
 refine wpR_v (G_ix Tryz.underlying25 ti52 rfl rfl (ha0.now hS.fr) hx_1) rfl ?_
 refine wpR_v (G_load Tryz.underlying52 rfl rfl (ha0.now hS.fr) hx_1 rfl) rfl ?_
 refine wpR_v (OpV_conv rfl (cv_32_64 Tryz.underlying52 Tryz.underlying94 x_1)) rfl ?_
 refine wpR_run 1 rfl ?_
 refine wpR_nil (QE_then_n (wpC_ret ?_))
 cases h
 exact QE_ret1 rfl rfl ⟨rfl, hS⟩
theorem c_ref7_Cmp (w0 : World) (a0 : List UInt32) (a1 : List UInt32) (va0 : Value) (va1 : Value) (ha0 : RP [] w0 e32 va0 a0) (ha1 : RP [] w0 e32 va1 a1) (r : Int)
  (h : F.ref7_Cmp a0 a1 = some r) : Calls Tryz.prog 136 #[va0, va1] w0 (Ret fun v w => v = vI r ∧ St [] w0 w []) := by
 refine calls_at 30 Tryz.func136 rfl rfl rfl ?_
 have hS := St.start w0
 refine wpC_le [(0, va0), (1, va1)] ⟨rfl, rfl, trivial⟩ ?_
 unfold F.ref7_Cmp at h
 refine wpC_seq (wpC_region (wpR_run 1 rfl ?_))
 refine wpR_nil (QE_then_n (wpC_seq (wpC_seq (wpC_region (wpR_run 1 rfl ?_)))))
 refine wpR_v (OpV_len Tryz.underlying25 rfl (ha0.now hS.fr)) rfl ?_
 refine wpR_run 1 rfl ?_
 refine wpR_v (OpV_len Tryz.underlying25 rfl (ha1.now hS.fr)) rfl ?_
 refine wpR_v (OpV_max rfl rfl) rfl ?_
 refine wpR_run 1 rfl ?_
 obtain ⟨x_1, hx_1, h⟩ := olet_some h
 refine wpR_v (OpV_assign (v := vI x_1) (by rw [← hx_1]; rfl)) rfl ?_
 refine wpR_nil (QE_then_n (wpC_block ?_))
 refine wpC_le [(0, va0), (1, va1), (5, vI x_1)] ⟨rfl, rfl, rfl, trivial⟩ ?_
 refine loop_ind (F.ref7_Cmp_L1 a0 a1) (fun (s : Int) L w => L = [(0, va0), (1, va1), (5, vI s)] ∧ St [] w0 w []) ?_ x_1 ⟨rfl, hS⟩ h
 rintro k_13 x_2 L w q_5 hI ih_4 h hk_3
 try dsimp only at hI
 obtain ⟨rfl, hS⟩ := hI
 unfold F.ref7_Cmp_L1 at h
 refine wpC_seq (wpC_seq (wpC_region (wpR_run 2 rfl ?_)))
 refine wpR_nil (QE_then_n ?_)
 refine wpC_cond rfl (fun hb_12 => ?_) (fun hb_12 => ?_)
 ·have h := if_t h hb_12
  refine wpC_skip (QE_then_n (wpC_seq (wpC_block ?_)))
  refine wpC_seq (wpC_seq (wpC_region (wpR_run 2 rfl ?_)))
  obtain ⟨x_6, hx_6, h⟩ := obind_some h
  refine wpR_call (by kernel_rfl) rfl (c_ref7_limb _ a0 x_2 va0  (ha0.now hS.fr).rp _ hx_6) rfl ?_
  rintro _ w ⟨rfl, hS1⟩
  have hS := hS.call hS1
  simp only [List.cons_append, List.nil_append] at hS
  refine wpR_run 2 rfl ?_
  obtain ⟨x_7, hx_7, h⟩ := obind_some h
  refine wpR_call (by kernel_rfl) rfl (c_ref7_limb _ a1 x_2 va1  (ha1.now hS.fr).rp _ hx_7) rfl ?_
  rintro _ w ⟨rfl, hS1⟩
  have hS := hS.call hS1
  simp only [List.cons_append, List.nil_append] at hS
  refine wpR_v (OpV_bin rfl rfl (b_lss64 _ x_6 x_7)) rfl ?_
  refine wpR_nil (QE_then_n ?_)
  refine wpC_cond rfl (fun hb_11 => ?_) (fun hb_11 => ?_)
  ·have h := if_t h hb_11
   refine wpC_seq (wpC_region (wpR_run 1 rfl ?_))
   refine wpR_nil (QE_then_n (wpC_ret (QE_then_r (QE_blk_r ?_))))
   refine QE_then_r (QE_then_r ?_)
   have h := oinr_some h hk_3
   refine QE_blk_r ?_
   refine QE_then_r ?_
   cases h
   exact QE_ret1 rfl rfl ⟨rfl, hS⟩
  have h := if_f h hb_11
  refine wpC_skip (QE_then_n (wpC_seq (wpC_region (wpR_run 2 rfl ?_))))
  obtain ⟨x_8, hx_8, h⟩ := obind_some h
  refine wpR_call (by kernel_rfl) rfl (c_ref7_limb _ a0 x_2 va0  (ha0.now hS.fr).rp _ hx_8) rfl ?_
  rintro _ w ⟨rfl, hS1⟩
  have hS := hS.call hS1
  simp only [List.cons_append, List.nil_append] at hS
  refine wpR_run 2 rfl ?_
  obtain ⟨x_9, hx_9, h⟩ := obind_some h
  refine wpR_call (by kernel_rfl) rfl (c_ref7_limb _ a1 x_2 va1  (ha1.now hS.fr).rp _ hx_9) rfl ?_
  rintro _ w ⟨rfl, hS1⟩
  have hS := hS.call hS1
  simp only [List.cons_append, List.nil_append] at hS
  refine wpR_v (OpV_bin rfl rfl (b_gtr64 _ x_8 x_9)) rfl ?_
  refine wpR_nil (QE_then_n ?_)
  refine wpC_cond rfl (fun hb_10 => ?_) (fun hb_10 => ?_)
  ·have h := if_t h hb_10
   refine wpC_seq (wpC_region (wpR_run 1 rfl ?_))
   refine wpR_nil (QE_then_n (wpC_ret (QE_blk_r ?_)))
   refine QE_then_r (QE_then_r ?_)
   have h := oinr_some h hk_3
   refine QE_blk_r ?_
   refine QE_then_r ?_
   cases h
   exact QE_ret1 rfl rfl ⟨rfl, hS⟩
  have h := if_f h hb_10
  refine wpC_skip (QE_blk_n ?_)
  refine QE_then_n (wpC_region (wpR_run 3 rfl ?_))
  refine wpR_nil ?_
  exact QE_rnd (wpN_le _ (by exact ⟨rfl, rfl, rfl, trivial⟩) (ih_4 (wI (x_2 - 1)) _ _ ⟨rfl, hS⟩ (oinl_some h hk_3)))
 have h := if_f h hb_12
 refine wpC_exit ?_
 refine QE_then_x (QE_then_x ?_)
 have h := oinr_some h hk_3
 refine QE_blk_x ?_
 refine QE_then_n (wpC_seq (wpC_region (wpR_run 1 rfl ?_)))
 refine wpR_nil (QE_then_n (wpC_ret ?_))
 cases h
 exact QE_ret1 rfl rfl ⟨rfl, hS⟩
theorem c_ref7_wrong (w0 : World) (a0 : List UInt32) (a1 : List (List UInt32)) (va0 : Value) (va1 : Value) (s1 : List SV) (ha0 : RP [] w0 e32 va0 a0) (ha1 : RP [] w0 eV va1 s1) (hl1 : AllRP [] w0 e32 s1 a1) (r : Int)
  (h : F.ref7_wrong a0 a1 = some r) : Calls Tryz.prog 112 #[va0, va1] w0 (Ret fun v w => v = vI r ∧ St [] w0 w []) := by
 refine calls_at 27 Tryz.func112 rfl rfl rfl ?_
 have hS := St.start w0
 refine wpC_le [(0, va0), (1, va1)] ⟨rfl, rfl, trivial⟩ ?_
 unfold F.ref7_wrong at h
 refine wpC_seq (wpC_region (wpR_run 1 rfl ?_))
 refine wpR_nil (QE_then_n (wpC_seq (wpC_seq (wpC_region (wpR_run 1 rfl ?_)))))
 refine wpR_nil (QE_then_n (wpC_block ?_))
 refine wpC_le [(0, va0), (1, va1), (5, vI 0)] ⟨rfl, rfl, rfl, trivial⟩ ?_
 refine loop_ind (F.ref7_wrong_L1 a0 a1) (fun (s : Int) L w => L = [(0, va0), (1, va1), (5, vI s)] ∧ St [] w0 w []) ?_ 0 ⟨rfl, hS⟩ h
 rintro k_21 x_1 L w q_4 hI ih_3 h hk_2
 try dsimp only at hI
 obtain ⟨rfl, hS⟩ := hI
 unfold F.ref7_wrong_L1 at h
 refine wpC_seq (wpC_seq (wpC_region (wpR_run 2 rfl ?_)))
 refine wpR_v (L_len Tryz.underlying121 rfl (ha1.now hS.fr) hl1.len) rfl ?_
 refine wpR_run 1 rfl ?_
 refine wpR_nil (QE_then_n ?_)
 refine wpC_cond rfl (fun hb_20 => ?_) (fun hb_20 => ?_)
 ·have h := if_t h hb_20
  refine wpC_skip (QE_then_n (wpC_seq (wpC_block ?_)))
  refine wpC_seq (wpC_region (wpR_run 2 rfl ?_))
  obtain ⟨x_5, hx_5, h⟩ := obind_some h
  obtain ⟨sv_6, hsv_6, hRsv_6⟩ := hl1.get hx_5
  refine wpR_v (G_ix Tryz.underlying121 ti25 rfl rfl (ha1.now hS.fr) hsv_6) rfl ?_
  refine wpR_v (G_load Tryz.underlying25 rfl rfl (ha1.now hS.fr) hsv_6 rfl) rfl ?_
  obtain ⟨x_7, hx_7, h⟩ := obind_some h
  refine wpR_call (by kernel_rfl) rfl (c_ref7_Trim _ x_5 sv_6.v  (hRsv_6.now hS.fr).rp _ hx_7) rfl ?_
  rintro v_8 w hS1
  have hS := hS.call hS1
  simp only [List.cons_append, List.nil_append] at hS
  refine wpR_v (OpV_len Tryz.underlying25 rfl (hS.ro 0 rfl)) rfl ?_
  refine wpR_run 1 rfl ?_
  refine wpR_nil (QE_then_n ?_)
  refine wpC_cond rfl (fun hb_10 => ?_) (fun hb_10 => ?_)
  ·have h := if_t h hb_10
   refine wpC_seq (wpC_region (wpR_run 1 rfl ?_))
   refine wpR_nil (QE_then_n (wpC_ret (QE_blk_r ?_)))
   refine QE_then_r (QE_then_r ?_)
   have h := oinr_some h hk_2
   refine QE_blk_r ?_
   refine QE_then_r ?_
   cases h
   exact QE_ret1 rfl rfl ⟨rfl, hS.pick [] (by decide) rfl⟩
  have h := if_f h hb_10
  refine wpC_skip (QE_blk_n ?_)
  refine QE_then_n (wpC_region (wpR_run 3 rfl ?_))
  refine wpR_nil ?_
  exact QE_rnd (wpN_le _ (by exact ⟨rfl, rfl, rfl, trivial⟩) (ih_3 (wI (x_1 + 1)) _ _ ⟨rfl, (hS.pick [] (by decide) rfl)⟩ (oinl_some h hk_2)))
 have h := if_f h hb_20
 refine wpC_exit ?_
 refine QE_then_x (QE_then_x ?_)
 have h := oinr_some h hk_2
 refine QE_blk_x ?_
 refine QE_then_n (wpC_seq (wpC_seq (wpC_region (wpR_run 1 rfl ?_))))
 obtain ⟨x_11, hx_11, h⟩ := obind_some h
 refine wpR_call (by kernel_rfl) rfl (c_ref7_Trim _ a0 va0  (ha0.now hS.fr).rp _ hx_11) rfl ?_
 rintro v_12 w hS1
 have hS := hS.call hS1
 simp only [List.cons_append, List.nil_append] at hS
 refine wpR_v (OpV_len Tryz.underlying25 rfl (hS.ro 0 rfl)) rfl ?_
 refine wpR_run 1 rfl ?_
 refine wpR_nil (QE_then_n ?_)
 refine wpC_cond rfl (fun hb_19 => ?_) (fun hb_19 => ?_)
 ·have h := if_t h hb_19
  refine wpC_seq (wpC_region (wpR_run 1 rfl ?_))
  refine wpR_nil (QE_then_n (wpC_ret (QE_then_r ?_)))
  cases h
  exact QE_ret1 rfl rfl ⟨rfl, hS.pick [] (by decide) rfl⟩
 have h := if_f h hb_19
 refine wpC_skip (QE_then_n (wpC_seq (wpC_seq (wpC_region (wpR_run 1 rfl ?_)))))
 obtain ⟨x_14, hx_14, h⟩ := obind_some h
 refine wpR_call (by kernel_rfl) rfl (c_ref7_one _     _ hx_14) rfl ?_
 rintro v_15 w hS1
 have hS := hS.call hS1
 simp only [List.cons_append, List.nil_append] at hS
 obtain ⟨x_17, hx_17, h⟩ := obind_some h
 refine wpR_call (by kernel_rfl) rfl (c_ref7_Cmp _ a0 x_14 va0 v_15  (ha0.now hS.fr).rp (hS.ro 0 rfl).rp _ hx_17) rfl ?_
 rintro _ w ⟨rfl, hS1⟩
 have hS := hS.call hS1
 simp only [List.cons_append, List.nil_append] at hS
 refine wpR_run 1 rfl ?_
 refine wpR_nil (QE_then_n ?_)
 refine wpC_cond rfl (fun hb_18 => ?_) (fun hb_18 => ?_)
 ·have h := if_t h hb_18
  refine wpC_seq (wpC_region (wpR_run 1 rfl ?_))
  refine wpR_nil (QE_then_n (wpC_ret (QE_then_r ?_)))
  cases h
  exact QE_ret1 rfl rfl ⟨rfl, hS.pick [] (by decide) rfl⟩
 have h := if_f h hb_18
 refine wpC_skip (QE_then_n (wpC_seq (wpC_region (wpR_run 1 rfl ?_))))
 refine wpR_nil (QE_then_n (wpC_ret ?_))
 cases h
 exact QE_ret1 rfl rfl ⟨rfl, hS.pick [] (by decide) rfl⟩
theorem c_ref7_Times (w0 : World) (a0 : List UInt32) (a1 : List UInt32) (va0 : Value) (va1 : Value) (ha0 : RP [] w0 e32 va0 a0) (ha1 : RP [] w0 e32 va1 a1) (r : List UInt32)
  (h : F.ref7_Times a0 a1 = some r) : Calls Tryz.prog 117 #[va0, va1] w0 (Ret fun v w => St [] w0 w [own e32 v r]) := by
 refine calls_at 69 Tryz.func117 rfl rfl rfl ?_
 have hS := St.start w0
 refine wpC_le [(0, va0), (1, va1)] ⟨rfl, rfl, trivial⟩ ?_
 unfold F.ref7_Times at h
 refine wpC_seq (wpC_region (wpR_run 1 rfl ?_))
 refine wpR_nil (QE_then_n (wpC_seq (wpC_region (wpR_run 1 rfl ?_))))
 refine wpR_v (OpV_len Tryz.underlying25 rfl (ha0.now hS.fr)) rfl ?_
 refine wpR_run 1 rfl ?_
 refine wpR_v (OpV_len Tryz.underlying25 rfl (ha1.now hS.fr)) rfl ?_
 refine wpR_run 1 rfl ?_
 obtain ⟨x_1, hx_1, h⟩ := obind_some h
 refine wpR_x (G_make (e := e32) Tryz.underlying25 ti52 rfl rfl rfl hS hx_1) rfl ?_
 rintro v_2 w hS
 refine wpR_run 1 rfl ?_
 refine wpR_nil (QE_then_n (wpC_seq (wpC_seq (wpC_region (wpR_run 1 rfl ?_)))))
 refine wpR_nil (QE_then_n (wpC_block ?_))
 refine wpC_le [(0, va0), (1, va1), (5, v_2), (6, vI 0)] ⟨rfl, rfl, rfl, rfl, trivial⟩ ?_
 refine loop_ind (F.ref7_Times_L1 a0 a1) (fun (s : Int × List UInt32) L w => L = [(0, va0), (1, va1), (5, v_2), (6, vI s.1)] ∧ St [] w0 w [own e32 v_2 s.2]) ?_ (0, x_1) ⟨rfl, hS⟩ h
 rintro k_29 ⟨x_4, x_5⟩ L w q_8 hI ih_7 h hk_6
 try dsimp only at hI
 obtain ⟨rfl, hS⟩ := hI
 unfold F.ref7_Times_L1 at h
 refine wpC_seq (wpC_seq (wpC_region (wpR_run 2 rfl ?_)))
 refine wpR_v (OpV_len Tryz.underlying25 rfl (ha0.now hS.fr)) rfl ?_
 refine wpR_run 1 rfl ?_
 refine wpR_nil (QE_then_n ?_)
 refine wpC_cond rfl (fun hb_28 => ?_) (fun hb_28 => ?_)
 ·have h := if_t h hb_28
  refine wpC_skip (QE_then_n (wpC_seq (wpC_block ?_)))
  refine wpC_seq (wpC_region (wpR_run 1 rfl ?_))
  refine wpR_nil (QE_then_n (wpC_seq (wpC_seq (wpC_region (wpR_run 1 rfl ?_)))))
  refine wpR_nil (QE_then_n (wpC_block ?_))
  refine wpC_le [(0, va0), (1, va1), (5, v_2), (6, vI x_4), (7, v64 0), (8, vI 0)] ⟨rfl, rfl, rfl, rfl, rfl, rfl, trivial⟩ ?_
  refine loop_ind (F.ref7_Times_L2 a0 a1 x_4) (fun (s : UInt64 × Int × List UInt32) L w => L = [(0, va0), (1, va1), (5, v_2), (6, vI x_4), (7, v64 s.1), (8, vI s.2.1)] ∧ St [] w0 w [own e32 v_2 s.2.2]) ?_ (0, 0, x_5) ⟨rfl, hS⟩ h
  rintro k_24 ⟨x_9, x_10, x_11⟩ L w q_14 hI ih_13 h hk_12
  try dsimp only at hI
  obtain ⟨rfl, hS⟩ := hI
  unfold F.ref7_Times_L2 at h
  refine wpC_seq (wpC_seq (wpC_region (wpR_run 2 rfl ?_)))
  refine wpR_v (OpV_len Tryz.underlying25 rfl (ha1.now hS.fr)) rfl ?_
  refine wpR_run 1 rfl ?_
  refine wpR_nil (QE_then_n ?_)
  refine wpC_cond rfl (fun hb_23 => ?_) (fun hb_23 => ?_)
  ·have h := if_t h hb_23
   refine wpC_skip (QE_then_n (wpC_seq (wpC_block ?_)))
   refine wpC_seq ?_
   refine wpC_regionT (fun w' => St [] w0 w' [own e32 v_2 x_11]) (fun _ => true) hmix (fun _ _ _ hf => hf.2) (fun _ _ hf => hf) (by kernel_rfl) ?_
   have hS := hS.drew
   show lxE _ _ _ _ _ _ _ [0, 1, 2, 3, 4, 5, 6, 7, 8, 9, 10, 11, 12, 13, 14, 15, 16, 17, 18, 19, 20, 21] _ _
   refine lxE_v hS rfl rfl (fun w hF => OpV_move rfl) rfl ?_
   refine lxE_v hS rfl rfl (fun w hF => OpV_move rfl) rfl ?_
   refine lxE_v hS rfl rfl (fun w hF => OpV_move rfl) rfl ?_
   refine lxE_v hS rfl rfl (fun w hF => OpV_bin rfl rfl (b_iadd _ x_4 x_10)) rfl ?_
   obtain ⟨x_15, hx_15, h⟩ := obind_some h
   refine lxE_v hS rfl rfl (fun w hF => G_ix Tryz.underlying25 ti52 rfl rfl (hF.ro 0 rfl) hx_15) rfl ?_
   refine lxE_v hS rfl rfl (fun w hF => G_load Tryz.underlying52 rfl rfl (hF.ro 0 rfl) hx_15 rfl) rfl ?_
   refine lxE_v hS rfl rfl (fun w hF => OpV_conv rfl (cv_32_64 Tryz.underlying52 Tryz.underlying94 x_15)) rfl ?_
   refine lxE_v hS rfl rfl (fun w hF => OpV_move rfl) rfl ?_
   refine lxE_v hS rfl rfl (fun w hF => OpV_move rfl) rfl ?_
   obtain ⟨x_16, hx_16, h⟩ := obind_some h
   refine lxE_v hS rfl rfl (fun w hF => G_ix Tryz.underlying25 ti52 rfl rfl (ha0.now hF.fr) hx_16) rfl ?_
   refine lxE_v hS rfl rfl (fun w hF => G_load Tryz.underlying52 rfl rfl (ha0.now hF.fr) hx_16 rfl) rfl ?_
   refine lxE_v hS rfl rfl (fun w hF => OpV_conv rfl (cv_32_64 Tryz.underlying52 Tryz.underlying94 x_16)) rfl ?_
   refine lxE_v hS rfl rfl (fun w hF => OpV_move rfl) rfl ?_
   refine lxE_v hS rfl rfl (fun w hF => OpV_move rfl) rfl ?_
   obtain ⟨x_17, hx_17, h⟩ := obind_some h
   refine lxE_v hS rfl rfl (fun w hF => G_ix Tryz.underlying25 ti52 rfl rfl (ha1.now hF.fr) hx_17) rfl ?_
   refine lxE_v hS rfl rfl (fun w hF => G_load Tryz.underlying52 rfl rfl (ha1.now hF.fr) hx_17 rfl) rfl ?_
   refine lxE_v hS rfl rfl (fun w hF => OpV_conv rfl (cv_32_64 Tryz.underlying52 Tryz.underlying94 x_17)) rfl ?_
   refine lxE_v hS rfl rfl (fun w hF => OpV_bin rfl rfl (b_mul64 _ x_16.toUInt64 x_17.toUInt64)) rfl ?_
   refine lxE_v hS rfl rfl (fun w hF => OpV_bin rfl rfl (b_add64 _ x_15.toUInt64 (x_16.toUInt64 * x_17.toUInt64))) rfl ?_
   refine lxE_v hS rfl rfl (fun w hF => OpV_move rfl) rfl ?_
   refine lxE_v hS rfl rfl (fun w hF => OpV_bin rfl rfl (b_add64 _ (x_15.toUInt64 + (x_16.toUInt64 * x_17.toUInt64)) x_9)) rfl ?_
   obtain ⟨x_18, hx_18, h⟩ := olet_some h
   refine lxE_v hS rfl rfl (fun w hF => OpV_assign (v := v64 x_18) (by rw [← hx_18]; rfl)) rfl ?_
   refine lxE_nil hS ?_
   refine QE_then_n (wpC_seq (wpC_region (wpR_run 5 rfl ?_)))
   refine wpR_v (OpV_bin rfl rfl (b_and64 _ x_18 4294967295)) rfl ?_
   refine wpR_v (OpV_conv rfl (cv_64_32 Tryz.underlying94 Tryz.underlying52 (x_18 &&& 4294967295))) rfl ?_
   obtain ⟨x_19, hx_19, h⟩ := obind_some h
   refine wpR_v (G_ix Tryz.underlying25 ti52 rfl rfl (hS.ro 0 rfl) hx_19) rfl ?_
   refine wpR_y (G_storeE (t := ((x_18 &&& 4294967295).toUInt32)) ti52 rfl rfl hS (i := 0) rfl hx_19 rfl) ?_
   intro w hS
   obtain ⟨x_20, hx_20, h⟩ := olet_some h
   rw [hx_20] at hS
   refine wpR_nil (QE_then_n (wpC_region (wpR_run 1 rfl ?_)))
   refine wpR_v (OpV_bin rfl rfl (b_shr64_64 _ x_18 32)) rfl ?_
   refine wpR_run 1 rfl ?_
   refine wpR_nil (QE_blk_n ?_)
   refine QE_then_n (wpC_region (wpR_run 3 rfl ?_))
   refine wpR_nil ?_
   exact QE_rnd (wpN_le _ (by exact ⟨rfl, rfl, rfl, rfl, rfl, rfl, trivial⟩) (ih_13 (shr64 x_18 32, wI (x_10 + 1), x_20) _ _ ⟨rfl, hS⟩ (oinl_some h hk_12)))
  have h := if_f h hb_23
  refine wpC_exit ?_
  refine QE_then_x (QE_then_x ?_)
  have h := oinr_some h hk_12
  refine QE_blk_x ?_
  refine QE_then_n (wpC_region (wpR_run 3 rfl ?_))
  refine wpR_v (OpV_len Tryz.underlying25 rfl (ha1.now hS.fr)) rfl ?_
  refine wpR_run 2 rfl ?_
  refine wpR_v (OpV_conv rfl (cv_64_32 Tryz.underlying94 Tryz.underlying52 x_9)) rfl ?_
  obtain ⟨x_21, hx_21, h⟩ := obind_some h
  refine wpR_v (G_ix Tryz.underlying25 ti52 rfl rfl (hS.ro 0 rfl) hx_21) rfl ?_
  refine wpR_y (G_storeE (t := x_9.toUInt32) ti52 rfl rfl hS (i := 0) rfl hx_21 rfl) ?_
  intro w hS
  obtain ⟨x_22, hx_22, h⟩ := olet_some h
  rw [hx_22] at hS
  refine wpR_nil (QE_blk_n ?_)
  refine QE_then_n (wpC_region (wpR_run 3 rfl ?_))
  refine wpR_nil ?_
  exact QE_rnd (wpN_le _ (by exact ⟨rfl, rfl, rfl, rfl, trivial⟩) (ih_7 (wI (x_4 + 1), x_22) _ _ ⟨rfl, hS⟩ (oinl_some h hk_6)))
 have h := if_f h hb_28
 refine wpC_exit ?_
 refine QE_then_x (QE_then_x ?_)
 have h := oinr_some h hk_6
 refine QE_blk_x ?_
 refine QE_then_n (wpC_seq (wpC_region (wpR_run 1 rfl ?_)))
 obtain ⟨x_25, hx_25, h⟩ := obind_some h
 refine wpR_call (by kernel_rfl) rfl (c_ref7_Trim _ x_5 v_2  (hS.ro 0 rfl).rp _ hx_25) rfl ?_
 rintro v_26 w hS1
 have hS := hS.call hS1
 simp only [List.cons_append, List.nil_append] at hS
 refine wpR_run 1 rfl ?_
 refine wpR_nil (QE_then_n (wpC_ret ?_))
 cases h
 exact QE_ret1 rfl rfl (hS.pick [0] (by decide) rfl)
theorem c_ref7_Bit (w0 : World) (a0 : List UInt32) (a1 : Int) (va0 : Value) (ha0 : RP [] w0 e32 va0 a0) (r : Bool)
  (h : F.ref7_Bit a0 a1 = some r) : Calls Tryz.prog 148 #[va0, vI a1] w0 (Ret fun v w => v = vB r ∧ St [] w0 w []) := by
 refine calls_at 15 Tryz.func148 rfl rfl rfl ?_
 have hS := St.start w0
 refine wpC_le [(0, va0), (1, vI a1)] ⟨rfl, rfl, trivial⟩ ?_
 unfold F.ref7_Bit at h
 refine wpC_seq (wpC_region (wpR_run 1 rfl ?_))
 refine wpR_nil (QE_then_n (wpC_seq (wpC_region (wpR_run 2 rfl ?_))))
 refine wpR_v (OpV_bin rfl rfl (b_iquo _ a1 32 (by decide))) rfl ?_
 obtain ⟨x_1, hx_1, h⟩ := obind_some h
 refine wpR_call (by kernel_rfl) rfl (c_ref7_limb _ a0 (wI (Int.tdiv a1 32)) va0  (ha0.now hS.fr).rp _ hx_1) rfl ?_
 rintro _ w ⟨rfl, hS1⟩
 have hS := hS.call hS1
 simp only [List.cons_append, List.nil_append] at hS
 refine wpR_run 1 rfl ?_
 refine wpR_v (OpV_bin rfl rfl (b_irem _ a1 32 (by decide))) rfl ?_
 refine wpR_v (OpV_conv rfl (cv_i_64 Tryz.underlying3 Tryz.underlying92 (Int.tmod a1 32))) rfl ?_
 refine wpR_v (OpV_bin rfl rfl (b_shr64_64 _ x_1 (UInt64.ofInt (Int.tmod a1 32)))) rfl ?_
 refine wpR_v (OpV_bin rfl rfl (b_and64 _ (shr64 x_1 ((UInt64.ofInt (Int.tmod a1 32)).toNat)) 1)) rfl ?_
 refine wpR_v (OpV_bin rfl rfl (b_eql64 _ ((shr64 x_1 ((UInt64.ofInt (Int.tmod a1 32)).toNat)) &&& 1) 1)) rfl ?_
 refine wpR_run 1 rfl ?_
 refine wpR_nil (QE_then_n (wpC_ret ?_))
 cases h
 exact QE_ret1 rfl rfl ⟨rfl, hS⟩
theorem c_ref7_Divide (w0 : World) (a0 : List UInt32) (a1 : List UInt32) (va0 : Value) (va1 : Value) (ha0 : RP [] w0 e32 va0 a0) (ha1 : RP [] w0 e32 va1 a1) (r : List UInt32 × List UInt32)
  (h : F.ref7_Divide a0 a1 = some r) : Calls Tryz.prog 138 #[va0, va1] w0 (Ret fun v w => ∃ u0 u1 : Value, v = .tuple #[u0, u1] ∧ St [] w0 w [own e32 u0 r.1, own e32 u1 r.2]) := by
 refine calls_at 110 Tryz.func138 rfl rfl rfl ?_
 have hS := St.start w0
 refine wpC_le [(0, va0), (1, va1)] ⟨rfl, rfl, trivial⟩ ?_
 unfold F.ref7_Divide at h
 refine wpC_seq (wpC_region (wpR_run 2 rfl ?_))
 refine wpR_nil (QE_then_n (wpC_seq (wpC_region (wpR_run 1 rfl ?_))))
 obtain ⟨x_1, hx_1, h⟩ := obind_some h
 refine wpR_call (by kernel_rfl) rfl (c_ref7_Trim _ a0 va0  (ha0.now hS.fr).rp _ hx_1) rfl ?_
 rintro v_2 w hS1
 have hS := hS.call hS1
 simp only [List.cons_append, List.nil_append] at hS
 refine wpR_run 1 rfl ?_
 refine wpR_nil (QE_then_n (wpC_seq (wpC_region (wpR_run 1 rfl ?_))))
 obtain ⟨x_4, hx_4, h⟩ := obind_some h
 refine wpR_call (by kernel_rfl) rfl (c_ref7_Trim _ a1 va1  (ha1.now hS.fr).rp _ hx_4) rfl ?_
 rintro v_5 w hS1
 have hS := hS.call hS1
 simp only [List.cons_append, List.nil_append] at hS
 refine wpR_run 1 rfl ?_
 refine wpR_nil (QE_then_n (wpC_seq (wpC_region (wpR_run 1 rfl ?_))))
 refine wpR_v (OpV_len Tryz.underlying25 rfl (hS.ro 1 rfl)) rfl ?_
 obtain ⟨x_7, hx_7, h⟩ := obind_some h
 refine wpR_x (G_make (e := e32) Tryz.underlying25 ti52 rfl rfl rfl hS hx_7) rfl ?_
 rintro v_8 w hS
 refine wpR_run 1 rfl ?_
 refine wpR_nil (QE_then_n (wpC_seq (wpC_region (wpR_run 1 rfl ?_))))
 refine wpR_v (OpV_len Tryz.underlying25 rfl (hS.ro 1 rfl)) rfl ?_
 refine wpR_run 1 rfl ?_
 obtain ⟨x_10, hx_10, h⟩ := obind_some h
 refine wpR_x (G_make (e := e32) Tryz.underlying25 ti52 rfl rfl rfl hS hx_10) rfl ?_
 rintro v_11 w hS
 refine wpR_run 1 rfl ?_
 refine wpR_nil (QE_then_n (wpC_seq (wpC_seq (wpC_region (wpR_run 1 rfl ?_)))))
 refine wpR_v (OpV_len Tryz.underlying25 rfl (hS.ro 3 rfl)) rfl ?_
 refine wpR_v (OpV_bin rfl rfl (b_imul _ 32 (x_1.length : Int))) rfl ?_
 refine wpR_run 1 rfl ?_
 obtain ⟨x_13, hx_13, h⟩ := olet_some h
 refine wpR_v (OpV_assign (v := vI x_13) (by rw [← hx_13]; rfl)) rfl ?_
 refine wpR_nil (QE_then_n (wpC_block ?_))
 refine wpC_le [(0, v_2), (1, v_5), (6, v_8), (7, v_11), (8, vI x_13)] ⟨rfl, rfl, rfl, rfl, rfl, trivial⟩ ?_
 refine loop_ind (F.ref7_Divide_L1 x_1 x_4) (fun (s : Int × List UInt32 × List UInt32) L w => L = [(0, v_2), (1, v_5), (6, v_8), (7, v_11), (8, vI s.1)] ∧ St [] w0 w [own e32 v_2 x_1, own e32 v_5 x_4, own e32 v_8 s.2.1, own e32 v_11 s.2.2]) ?_ (x_13, x_7, x_10) ⟨rfl, (hS.pick [3, 2, 1, 0] (by decide) rfl)⟩ h
 rintro k_68 ⟨x_14, x_15, x_16⟩ L w q_19 hI ih_18 h hk_17
 try dsimp only at hI
 obtain ⟨rfl, hS⟩ := hI
 unfold F.ref7_Divide_L1 at h
 refine wpC_seq (wpC_seq (wpC_region (wpR_run 2 rfl ?_)))
 refine wpR_nil (QE_then_n ?_)
 refine wpC_cond rfl (fun hb_67 => ?_) (fun hb_67 => ?_)
 ·have h := if_t h hb_67
  refine wpC_skip (QE_then_n ?_)
  refine seq_join (r := q_19) (fun (g : List UInt32 × List UInt32) L w => L = [(0, v_2), (1, v_5), (6, v_8), (7, v_11), (8, vI x_14)] ∧ St [] w0 w [own e32 v_2 x_1, own e32 v_5 x_4, own e32 v_8 g.1, own e32 v_11 g.2]) (F.ref7_Divide_K1 x_14) ?_ ?_
  rotate_left
  ·intro hK_60
   refine wpC_block ?_
   refine wpC_seq (wpC_region (wpR_run 1 rfl ?_))
   refine wpR_nil (QE_then_n ?_)
   refine seq_join (r := q_19) (fun (g : UInt32) L w => L = [(0, v_2), (1, v_5), (6, v_8), (7, v_11), (8, vI x_14), (9, v32 g)] ∧ St [] w0 w [own e32 v_2 x_1, own e32 v_5 x_4, own e32 v_8 x_15, own e32 v_11 x_16]) (F.ref7_Divide_K2 x_16 x_4 x_15 x_14) ?_ ?_
   rotate_left
   ·intro hK_23
    refine wpC_seq (wpC_region (wpR_run 2 rfl ?_))
    obtain ⟨x_20, hx_20, h⟩ := obind_some h
    refine wpR_call (by kernel_rfl) rfl (c_ref7_Bit _ x_1 x_14 v_2  (hS.ro 0 rfl).rp _ hx_20) rfl ?_
    rintro _ w ⟨rfl, hS1⟩
    have hS := hS.call hS1
    simp only [List.cons_append, List.nil_append] at hS
    refine wpR_nil (QE_then_n ?_)
    refine wpC_cond rfl (fun hb_21 => ?_) (fun hb_21 => ?_)
    ·have h := if_t h hb_21
     refine wpC_region (wpR_run 1 rfl ?_)
     refine wpR_nil (QE_then_n ?_)
     exact wpC_le _ (by exact ⟨rfl, rfl, rfl, rfl, rfl, rfl, trivial⟩) (hK_23 1 _ _ ⟨rfl, hS⟩ h)
    have h := if_f h hb_21
    refine wpC_skip (QE_then_n ?_)
    exact wpC_le _ (by exact ⟨rfl, rfl, rfl, rfl, rfl, rfl, trivial⟩) (hK_23 0 _ _ ⟨rfl, hS⟩ h)
   rintro x_22 L w hJ h
   try dsimp only at hJ
   obtain ⟨rfl, hS⟩ := hJ
   unfold F.ref7_Divide_K2 at h
   refine wpC_seq (wpC_seq (wpC_region (wpR_run 1 rfl ?_)))
   refine wpR_nil (QE_then_n (wpC_block ?_))
   refine wpC_le [(0, v_2), (1, v_5), (6, v_8), (7, v_11), (8, vI x_14), (9, v32 x_22), (10, vI 0)] ⟨rfl, rfl, rfl, rfl, rfl, rfl, rfl, trivial⟩ ?_
   refine loop_ind (F.ref7_Divide_L2 x_4 x_15 x_14) (fun (s : UInt32 × Int × List UInt32) L w => L = [(0, v_2), (1, v_5), (6, v_8), (7, v_11), (8, vI x_14), (9, v32 s.1), (10, vI s.2.1)] ∧ St [] w0 w [own e32 v_2 x_1, own e32 v_5 x_4, own e32 v_8 x_15, own e32 v_11 s.2.2]) ?_ (x_22, 0, x_16) ⟨rfl, hS⟩ h
   rintro k_57 ⟨x_24, x_25, x_26⟩ L w q_29 hI ih_28 h hk_27
   try dsimp only at hI
   obtain ⟨rfl, hS⟩ := hI
   unfold F.ref7_Divide_L2 at h
   refine wpC_seq (wpC_seq (wpC_region (wpR_run 2 rfl ?_)))
   refine wpR_v (OpV_len Tryz.underlying25 rfl (hS.ro 3 rfl)) rfl ?_
   refine wpR_run 1 rfl ?_
   refine wpR_nil (QE_then_n ?_)
   refine wpC_cond rfl (fun hb_56 => ?_) (fun hb_56 => ?_)
   ·have h := if_t h hb_56
    refine wpC_skip (QE_then_n (wpC_seq (wpC_block ?_)))
    refine wpC_seq (wpC_region (wpR_run 2 rfl ?_))
    obtain ⟨x_30, hx_30, h⟩ := obind_some h
    refine wpR_v (G_ix Tryz.underlying25 ti52 rfl rfl (hS.ro 3 rfl) hx_30) rfl ?_
    refine wpR_v (G_load Tryz.underlying52 rfl rfl (hS.ro 3 rfl) hx_30 rfl) rfl ?_
    refine wpR_v (OpV_bin rfl rfl (b_shr32_64 _ x_30 31)) rfl ?_
    refine wpR_run 1 rfl ?_
    refine wpR_nil (QE_then_n (wpC_seq (wpC_region (wpR_run 4 rfl ?_))))
    obtain ⟨x_31, hx_31, h⟩ := obind_some h
    refine wpR_v (G_ix Tryz.underlying25 ti52 rfl rfl (hS.ro 3 rfl) hx_31) rfl ?_
    refine wpR_v (G_load Tryz.underlying52 rfl rfl (hS.ro 3 rfl) hx_31 rfl) rfl ?_
    refine wpR_v (OpV_bin rfl rfl (b_shl32_64 _ x_31 1)) rfl ?_
    refine wpR_run 1 rfl ?_
    refine wpR_v (OpV_bin rfl rfl (b_or32 _ (shl32 x_31 1) x_24)) rfl ?_
    obtain ⟨x_32, hx_32, h⟩ := obind_some h
    refine wpR_v (G_ix Tryz.underlying25 ti52 rfl rfl (hS.ro 3 rfl) hx_32) rfl ?_
    refine wpR_y (G_storeE (t := ((shl32 x_31 1) ||| x_24)) ti52 rfl rfl hS (i := 3) rfl hx_32 rfl) ?_
    intro w hS
    obtain ⟨x_33, hx_33, h⟩ := olet_some h
    rw [hx_33] at hS
    refine wpR_nil (QE_then_n (wpC_region (wpR_run 2 rfl ?_)))
    refine wpR_nil (QE_blk_n ?_)
    refine QE_then_n (wpC_region (wpR_run 3 rfl ?_))
    refine wpR_nil ?_
    exact QE_rnd (wpN_le _ (by exact ⟨rfl, rfl, rfl, rfl, rfl, rfl, rfl, trivial⟩) (ih_28 (shr32 x_30 31, wI (x_25 + 1), x_33) _ _ ⟨rfl, hS⟩ (oinl_some h hk_27)))
   have h := if_f h hb_56
   refine wpC_exit ?_
   refine QE_then_x (QE_then_x ?_)
   have h := oinr_some h hk_27
   refine QE_blk_x ?_
   refine QE_then_n (wpC_seq (wpC_region (wpR_run 2 rfl ?_)))
   obtain ⟨x_34, hx_34, h⟩ := obind_some h
   refine wpR_call (by kernel_rfl) rfl (c_ref7_Cmp _ x_26 x_4 v_11 v_5  (hS.ro 3 rfl).rp (hS.ro 1 rfl).rp _ hx_34) rfl ?_
   rintro _ w ⟨rfl, hS1⟩
   have hS := hS.call hS1
   simp only [List.cons_append, List.nil_append] at hS
   refine wpR_run 1 rfl ?_
   refine wpR_nil (QE_then_n ?_)
   refine wpC_cond rfl (fun hb_55 => ?_) (fun hb_55 => ?_)
   ·have h := if_t h hb_55
    refine wpC_seq (wpC_region (wpR_run 1 rfl ?_))
    refine wpR_nil (QE_then_n (wpC_seq (wpC_seq (wpC_region (wpR_run 1 rfl ?_)))))
    refine wpR_nil (QE_then_n (wpC_block ?_))
    refine wpC_le [(0, v_2), (1, v_5), (6, v_8), (7, v_11), (8, vI x_14), (12, v64 0), (13, vI 0)] ⟨rfl, rfl, rfl, rfl, rfl, rfl, rfl, trivial⟩ ?_
    refine loop_ind (F.ref7_Divide_L3 x_4 x_14 x_15) (fun (s : UInt64 × Int × List UInt32) L w => L = [(0, v_2), (1, v_5), (6, v_8), (7, v_11), (8, vI x_14), (12, v64 s.1), (13, vI s.2.1)] ∧ St [] w0 w [own e32 v_2 x_1, own e32 v_5 x_4, own e32 v_8 x_15, own e32 v_11 s.2.2]) ?_ (0, 0, x_26) ⟨rfl, hS⟩ h
    rintro k_54 ⟨x_35, x_36, x_37⟩ L w q_40 hI ih_39 h hk_38
    try dsimp only at hI
    obtain ⟨rfl, hS⟩ := hI
    unfold F.ref7_Divide_L3 at h
    refine wpC_seq (wpC_seq (wpC_region (wpR_run 2 rfl ?_)))
    refine wpR_v (OpV_len Tryz.underlying25 rfl (hS.ro 3 rfl)) rfl ?_
    refine wpR_run 1 rfl ?_
    refine wpR_nil (QE_then_n ?_)
    refine wpC_cond rfl (fun hb_53 => ?_) (fun hb_53 => ?_)
    ·have h := if_t h hb_53
     refine wpC_skip (QE_then_n (wpC_seq (wpC_block ?_)))
     refine wpC_seq (wpC_region (wpR_run 2 rfl ?_))
     obtain ⟨x_41, hx_41, h⟩ := obind_some h
     refine wpR_call (by kernel_rfl) rfl (c_ref7_limb _ x_4 x_36 v_5  (hS.ro 1 rfl).rp _ hx_41) rfl ?_
     rintro _ w ⟨rfl, hS1⟩
     have hS := hS.call hS1
     simp only [List.cons_append, List.nil_append] at hS
     refine wpR_run 1 rfl ?_
     refine wpR_v (OpV_bin rfl rfl (b_add64 _ x_41 x_35)) rfl ?_
     refine wpR_run 1 rfl ?_
     refine wpR_nil (QE_then_n (wpC_seq (wpC_region (wpR_run 2 rfl ?_))))
     obtain ⟨x_42, hx_42, h⟩ := obind_some h
     refine wpR_v (G_ix Tryz.underlying25 ti52 rfl rfl (hS.ro 3 rfl) hx_42) rfl ?_
     refine wpR_v (G_load Tryz.underlying52 rfl rfl (hS.ro 3 rfl) hx_42 rfl) rfl ?_
     refine wpR_v (OpV_conv rfl (cv_32_64 Tryz.underlying52 Tryz.underlying94 x_42)) rfl ?_
     refine wpR_run 1 rfl ?_
     refine wpR_nil (QE_then_n (wpC_seq (wpC_region (wpR_run 1 rfl ?_))))
     refine wpR_nil (QE_then_n ?_)
     refine seq_join (r := q_40) (fun (g : UInt64 × UInt64) L w => L = [(0, v_2), (1, v_5), (6, v_8), (7, v_11), (8, vI x_14), (12, v64 g.1), (13, vI x_36), (14, v64 (x_41 + x_35)), (15, v64 g.2)] ∧ St [] w0 w [own e32 v_2 x_1, own e32 v_5 x_4, own e32 v_8 x_15, own e32 v_11 x_37]) (F.ref7_Divide_K3 x_35 x_36 x_37 x_41) ?_ ?_
     rotate_left
     ·intro hK_47
      refine wpC_seq (wpC_region (wpR_run 2 rfl ?_))
      refine wpR_v (OpV_bin rfl rfl (b_lss64 _ x_42.toUInt64 (x_41 + x_35))) rfl ?_
      refine wpR_nil (QE_then_n ?_)
      refine wpC_cond rfl (fun hb_44 => ?_) (fun hb_44 => ?_)
      ·have h := if_t h hb_44
       refine wpC_seq (wpC_region (wpR_run 1 rfl ?_))
       refine wpR_v (OpV_bin rfl rfl (b_add64 _ x_42.toUInt64 4294967296)) rfl ?_
       obtain ⟨x_43, hx_43, h⟩ := olet_some h
       refine wpR_v (OpV_assign (v := v64 x_43) (by rw [← hx_43]; rfl)) rfl ?_
       refine wpR_nil (QE_then_n (wpC_region (wpR_run 1 rfl ?_)))
       refine wpR_nil (QE_then_n ?_)
       exact wpC_le _ (by exact ⟨rfl, rfl, rfl, rfl, rfl, rfl, rfl, rfl, rfl, trivial⟩) (hK_47 (1, x_43) _ _ ⟨rfl, hS⟩ h)
      have h := if_f h hb_44
      refine wpC_skip (QE_then_n ?_)
      exact wpC_le _ (by exact ⟨rfl, rfl, rfl, rfl, rfl, rfl, rfl, rfl, rfl, trivial⟩) (hK_47 (0, x_42.toUInt64) _ _ ⟨rfl, hS⟩ h)
     rintro ⟨x_45, x_46⟩ L w hJ h
     try dsimp only at hJ
     obtain ⟨rfl, hS⟩ := hJ
     unfold F.ref7_Divide_K3 at h
     refine wpC_region (wpR_run 4 rfl ?_)
     refine wpR_v (OpV_bin rfl rfl (b_sub64 _ x_46 (x_41 + x_35))) rfl ?_
     refine wpR_v (OpV_conv rfl (cv_64_32 Tryz.underlying94 Tryz.underlying52 (x_46 - (x_41 + x_35)))) rfl ?_
     obtain ⟨x_48, hx_48, h⟩ := obind_some h
     refine wpR_v (G_ix Tryz.underlying25 ti52 rfl rfl (hS.ro 3 rfl) hx_48) rfl ?_
     refine wpR_y (G_storeE (t := ((x_46 - (x_41 + x_35)).toUInt32)) ti52 rfl rfl hS (i := 3) rfl hx_48 rfl) ?_
     intro w hS
     obtain ⟨x_49, hx_49, h⟩ := olet_some h
     rw [hx_49] at hS
     refine wpR_nil (QE_blk_n ?_)
     refine QE_then_n (wpC_region (wpR_run 3 rfl ?_))
     refine wpR_nil ?_
     exact QE_rnd (wpN_le _ (by exact ⟨rfl, rfl, rfl, rfl, rfl, rfl, rfl, trivial⟩) (ih_39 (x_45, wI (x_36 + 1), x_49) _ _ ⟨rfl, hS⟩ (oinl_some h hk_38)))
    have h := if_f h hb_53
    refine wpC_exit ?_
    refine QE_then_x (QE_then_x ?_)
    have h := oinr_some h hk_38
    refine QE_blk_x ?_
    refine QE_then_n (wpC_region (wpR_run 2 rfl ?_))
    refine wpR_v (OpV_bin rfl rfl (b_iquo _ x_14 32 (by decide))) rfl ?_
    refine wpR_run 2 rfl ?_
    refine wpR_v (OpV_bin rfl rfl (b_iquo _ x_14 32 (by decide))) rfl ?_
    obtain ⟨x_50, hx_50, h⟩ := obind_some h
    refine wpR_v (G_ix Tryz.underlying25 ti52 rfl rfl (hS.ro 2 rfl) hx_50) rfl ?_
    refine wpR_v (G_load Tryz.underlying52 rfl rfl (hS.ro 2 rfl) hx_50 rfl) rfl ?_
    refine wpR_run 1 rfl ?_
    refine wpR_v (OpV_bin rfl rfl (b_irem _ x_14 32 (by decide))) rfl ?_
    refine wpR_v (OpV_conv rfl (cv_i_64 Tryz.underlying3 Tryz.underlying92 (Int.tmod x_14 32))) rfl ?_
    refine wpR_v (OpV_bin rfl rfl (b_shl32_64 _ 1 (UInt64.ofInt (Int.tmod x_14 32)))) rfl ?_
    refine wpR_v (OpV_bin rfl rfl (b_or32 _ x_50 (shl32 1 ((UInt64.ofInt (Int.tmod x_14 32)).toNat)))) rfl ?_
    obtain ⟨x_51, hx_51, h⟩ := obind_some h
    refine wpR_v (G_ix Tryz.underlying25 ti52 rfl rfl (hS.ro 2 rfl) hx_51) rfl ?_
    refine wpR_y (G_storeE (t := (x_50 ||| (shl32 1 ((UInt64.ofInt (Int.tmod x_14 32)).toNat)))) ti52 rfl rfl hS (i := 2) rfl hx_51 rfl) ?_
    intro w hS
    obtain ⟨x_52, hx_52, h⟩ := olet_some h
    rw [hx_52] at hS
    refine wpR_nil (QE_blk_n ?_)
    refine QE_then_n ?_
    exact wpC_le _ (by exact ⟨rfl, rfl, rfl, rfl, rfl, trivial⟩) (hK_60 (x_52, x_37) _ _ ⟨rfl, hS⟩ h)
   have h := if_f h hb_55
   refine wpC_skip (QE_blk_n ?_)
   refine QE_then_n ?_
   exact wpC_le _ (by exact ⟨rfl, rfl, rfl, rfl, rfl, trivial⟩) (hK_60 (x_15, x_26) _ _ ⟨rfl, hS⟩ h)
  rintro ⟨x_58, x_59⟩ L w hJ h
  try dsimp only at hJ
  obtain ⟨rfl, hS⟩ := hJ
  unfold F.ref7_Divide_K1 at h
  refine wpC_region (wpR_run 3 rfl ?_)
  refine wpR_nil ?_
  exact QE_rnd (wpN_le _ (by exact ⟨rfl, rfl, rfl, rfl, rfl, trivial⟩) (ih_18 (wI (x_14 - 1), x_58, x_59) _ _ ⟨rfl, hS⟩ (oinl_some h hk_17)))
 have h := if_f h hb_67
 refine wpC_exit ?_
 refine QE_then_x (QE_then_x ?_)
 have h := oinr_some h hk_17
 refine QE_blk_x ?_
 refine QE_then_n (wpC_seq (wpC_region (wpR_run 1 rfl ?_)))
 obtain ⟨x_61, hx_61, h⟩ := obind_some h
 refine wpR_call (by kernel_rfl) rfl (c_ref7_Trim _ x_15 v_8  (hS.ro 2 rfl).rp _ hx_61) rfl ?_
 rintro v_62 w hS1
 have hS := hS.call hS1
 simp only [List.cons_append, List.nil_append] at hS
 refine wpR_run 1 rfl ?_
 obtain ⟨x_64, hx_64, h⟩ := obind_some h
 refine wpR_call (by kernel_rfl) rfl (c_ref7_Trim _ x_16 v_11  (hS.ro 4 rfl).rp _ hx_64) rfl ?_
 rintro v_65 w hS1
 have hS := hS.call hS1
 simp only [List.cons_append, List.nil_append] at hS
 refine wpR_run 2 rfl ?_
 refine wpR_nil (QE_then_n (wpC_ret ?_))
 cases h
 exact QE_ret2 rfl rfl rfl ⟨v_62, v_65, rfl, hS.pick [1, 0] (by decide) rfl⟩
theorem c_ref7_rest (w0 : World) (a0 : List UInt32) (a1 : List UInt32) (va0 : Value) (va1 : Value) (ha0 : RP [] w0 e32 va0 a0) (ha1 : RP [] w0 e32 va1 a1) (r : List UInt32)
  (h : F.ref7_rest a0 a1 = some r) : Calls Tryz.prog 113 #[va0, va1] w0 (Ret fun v w => St [] w0 w [own e32 v r]) := by
 refine calls_at 14 Tryz.func113 rfl rfl rfl ?_
 have hS := St.start w0
 refine wpC_le [(0, va0), (1, va1)] ⟨rfl, rfl, trivial⟩ ?_
 unfold F.ref7_rest at h
 refine wpC_seq (wpC_region (wpR_run 1 rfl ?_))
 refine wpR_nil (QE_then_n (wpC_seq (wpC_region (wpR_run 2 rfl ?_))))
 obtain ⟨x_1, hx_1, h⟩ := obind_some h
 refine wpR_call (by kernel_rfl) rfl (c_ref7_Divide _ a0 a1 va0 va1  (ha0.now hS.fr).rp (ha1.now hS.fr).rp _ hx_1) rfl ?_
 rintro _ w ⟨v_2, v_4, rfl, hS1⟩
 have hS := hS.call hS1
 simp only [List.cons_append, List.nil_append] at hS
 refine wpR_run 5 rfl ?_
 refine wpR_nil (QE_then_n (wpC_seq (wpC_region (wpR_run 2 rfl ?_))))
 refine wpR_nil (QE_then_n (wpC_ret ?_))
 cases h
 exact QE_ret1 rfl rfl (hS.pick [1] (by decide) rfl)
theorem c_ref7_Mul (w0 : World) (a0 : List UInt32) (a1 : List UInt32) (a2 : List UInt32) (va0 : Value) (va1 : Value) (va2 : Value) (ha0 : RP [] w0 e32 va0 a0) (ha1 : RP [] w0 e32 va1 a1) (ha2 : RP [] w0 e32 va2 a2) (r : List UInt32 × Int)
  (h : F.ref7_Mul a0 a1 a2 = some r) : Calls Tryz.prog 91 #[va0, va1, va2] w0 (Ret fun v w => ∃ u0 : Value, v = .tuple #[u0, vI r.2] ∧ St [] w0 w [own e32 u0 r.1]) := by
 refine calls_at 22 Tryz.func91 rfl rfl rfl ?_
 have hS := St.start w0
 refine wpC_le [(0, va0), (1, va1), (2, va2)] ⟨rfl, rfl, rfl, trivial⟩ ?_
 unfold F.ref7_Mul at h
 refine wpC_seq (wpC_region (wpR_run 2 rfl ?_))
 refine wpR_nil (QE_then_n (wpC_seq (wpC_region (wpR_run 3 rfl ?_))))
 refine wpR_x (OpX_lit (e := eV) (l := ([SV.of va0, SV.of va1] : List SV)) (vs := [va0, va1]) Tryz.underlying121 ti25 rfl rfl rfl (fl_eVc (ha0.now hS.fr).sv (fl_eVc (ha1.now hS.fr).sv rfl)) (by decide) (by decide) hS) rfl ?_
 rintro v_1 w hS
 obtain ⟨x_3, hx_3, h⟩ := obind_some h
 refine wpR_call (by kernel_rfl) rfl (c_ref7_wrong _ a2 [a0, a1] va2 v_1 [SV.of va0, SV.of va1] (ha2.now hS.fr).rp (hS.ro 0 rfl).rp ⟨(ha0.now hS.fr).svrp, (ha1.now hS.fr).svrp, trivial⟩ _ hx_3) rfl ?_
 rintro _ w ⟨rfl, hS1⟩
 have hS := hS.call hS1
 simp only [List.cons_append, List.nil_append] at hS
 refine wpR_run 1 rfl ?_
 refine wpR_nil (QE_then_n (wpC_seq (wpC_seq (wpC_region (wpR_run 2 rfl ?_)))))
 refine wpR_nil (QE_then_n ?_)
 refine wpC_cond rfl (fun hb_10 => ?_) (fun hb_10 => ?_)
 ·have h := if_t h hb_10
  refine wpC_seq (wpC_region (wpR_run 3 rfl ?_))
  refine wpR_nil (QE_then_n (wpC_ret (QE_then_r ?_)))
  cases h
  exact QE_ret2 rfl rfl rfl ⟨.slice none 0 0, rfl, (hS.nil e32).pick [0] (by decide) rfl⟩
 have h := if_f h hb_10
 refine wpC_skip (QE_then_n (wpC_seq (wpC_region (wpR_run 2 rfl ?_))))
 obtain ⟨x_4, hx_4, h⟩ := obind_some h
 refine wpR_call (by kernel_rfl) rfl (c_ref7_Times _ a0 a1 va0 va1  (ha0.now hS.fr).rp (ha1.now hS.fr).rp _ hx_4) rfl ?_
 rintro v_5 w hS1
 have hS := hS.call hS1
 simp only [List.cons_append, List.nil_append] at hS
 refine wpR_run 1 rfl ?_
 obtain ⟨x_7, hx_7, h⟩ := obind_some h
 refine wpR_call (by kernel_rfl) rfl (c_ref7_rest _ x_4 a2 v_5 va2  (hS.ro 0 rfl).rp (ha2.now hS.fr).rp _ hx_7) rfl ?_
 rintro v_8 w hS1
 have hS := hS.call hS1
 simp only [List.cons_append, List.nil_append] at hS
 refine wpR_run 2 rfl ?_
 refine wpR_nil (QE_then_n (wpC_ret ?_))
 cases h
 exact QE_ret2 rfl rfl rfl ⟨v_8, rfl, hS.pick [0] (by decide) rfl⟩
theorem c_ref7_Plus (w0 : World) (a0 : List UInt32) (a1 : List UInt32) (va0 : Value) (va1 : Value) (ha0 : RP [] w0 e32 va0 a0) (ha1 : RP [] w0 e32 va1 a1) (r : List UInt32)
  (h : F.ref7_Plus a0 a1 = some r) : Calls Tryz.prog 115 #[va0, va1] w0 (Ret fun v w => St [] w0 w [own e32 v r]) := by
 refine calls_at 37 Tryz.func115 rfl rfl rfl ?_
 have hS := St.start w0
 refine wpC_le [(0, va0), (1, va1)] ⟨rfl, rfl, trivial⟩ ?_
 unfold F.ref7_Plus at h
 refine wpC_seq (wpC_region (wpR_run 1 rfl ?_))
 refine wpR_nil (QE_then_n (wpC_seq (wpC_region (wpR_run 1 rfl ?_))))
 refine wpR_nil (QE_then_n (wpC_seq (wpC_region (wpR_run 1 rfl ?_))))
 refine wpR_nil (QE_then_n (wpC_seq (wpC_seq (wpC_region (wpR_run 1 rfl ?_)))))
 refine wpR_nil (QE_then_n (wpC_block ?_))
 refine wpC_le [(0, va0), (1, va1), (5, .slice none 0 0), (6, v64 0), (7, vI 0)] ⟨rfl, rfl, rfl, rfl, rfl, trivial⟩ ?_
 refine loop_ind (F.ref7_Plus_L1 a0 a1) (fun (s : List UInt32 × UInt64 × Int) L w => ∃ (v_2 : Value), L = [(0, va0), (1, va1), (5, v_2), (6, v64 s.2.1), (7, vI s.2.2)] ∧ St [] w0 w [own e32 v_2 s.1]) ?_ ([], 0, 0) ⟨.slice none 0 0, rfl, (hS.nil e32)⟩ h
 rintro k_21 ⟨x_1, x_4, x_5⟩ L w q_8 hI ih_7 h hk_6
 try dsimp only at hI
 obtain ⟨v_2, rfl, hS⟩ := hI
 unfold F.ref7_Plus_L1 at h
 refine wpC_seq (wpC_seq (wpC_region (wpR_run 2 rfl ?_)))
 refine wpR_v (OpV_len Tryz.underlying25 rfl (ha0.now hS.fr)) rfl ?_
 refine wpR_run 1 rfl ?_
 refine wpR_v (OpV_len Tryz.underlying25 rfl (ha1.now hS.fr)) rfl ?_
 refine wpR_v (OpV_max rfl rfl) rfl ?_
 refine wpR_run 1 rfl ?_
 refine wpR_nil (QE_then_n ?_)
 refine wpC_cond rfl (fun hb_20 => ?_) (fun hb_20 => ?_)
 ·have h := if_t h hb_20
  refine wpC_skip (QE_then_n (wpC_seq (wpC_block ?_)))
  refine wpC_seq (wpC_region (wpR_run 2 rfl ?_))
  obtain ⟨x_9, hx_9, h⟩ := obind_some h
  refine wpR_call (by kernel_rfl) rfl (c_ref7_limb _ a0 x_5 va0  (ha0.now hS.fr).rp _ hx_9) rfl ?_
  rintro _ w ⟨rfl, hS1⟩
  have hS := hS.call hS1
  simp only [List.cons_append, List.nil_append] at hS
  refine wpR_run 2 rfl ?_
  obtain ⟨x_10, hx_10, h⟩ := obind_some h
  refine wpR_call (by kernel_rfl) rfl (c_ref7_limb _ a1 x_5 va1  (ha1.now hS.fr).rp _ hx_10) rfl ?_
  rintro _ w ⟨rfl, hS1⟩
  have hS := hS.call hS1
  simp only [List.cons_append, List.nil_append] at hS
  refine wpR_v (OpV_bin rfl rfl (b_add64 _ x_9 x_10)) rfl ?_
  refine wpR_run 1 rfl ?_
  refine wpR_v (OpV_bin rfl rfl (b_add64 _ (x_9 + x_10) x_4)) rfl ?_
  refine wpR_run 1 rfl ?_
  refine wpR_nil (QE_then_n (wpC_seq (wpC_region (wpR_run 2 rfl ?_))))
  refine wpR_v (OpV_bin rfl rfl (b_and64 _ ((x_9 + x_10) + x_4) 4294967295)) rfl ?_
  refine wpR_v (OpV_conv rfl (cv_64_32 Tryz.underlying94 Tryz.underlying52 (((x_9 + x_10) + x_4) &&& 4294967295))) rfl ?_
  refine wpR_x (OpX_lit (e := e32) (l := ([(((x_9 + x_10) + x_4) &&& 4294967295).toUInt32] : List UInt32)) (vs := [v32 ((((x_9 + x_10) + x_4) &&& 4294967295).toUInt32)]) Tryz.underlying25 ti52 rfl rfl rfl rfl (by decide) (by decide) hS) rfl ?_
  rintro v_11 w hS
  obtain ⟨x_13, hx_13, h⟩ := obind_some h
  refine wpR_x (G_append Tryz.underlying25 ti52 rfl rfl rfl hS (i := 1) rfl (hS.ro 0 rfl) hx_13) rfl ?_
  rintro v_14 w hS
  refine wpR_run 1 rfl ?_
  refine wpR_nil (QE_then_n (wpC_region (wpR_run 1 rfl ?_)))
  refine wpR_v (OpV_bin rfl rfl (b_shr64_64 _ ((x_9 + x_10) + x_4) 32)) rfl ?_
  obtain ⟨x_16, hx_16, h⟩ := olet_some h
  refine wpR_v (OpV_assign (v := v64 x_16) (by rw [← hx_16]; rfl)) rfl ?_
  refine wpR_nil (QE_blk_n ?_)
  refine QE_then_n (wpC_region (wpR_run 3 rfl ?_))
  refine wpR_nil ?_
  exact QE_rnd (wpN_le _ (by exact ⟨rfl, rfl, rfl, rfl, rfl, trivial⟩) (ih_7 (x_13, x_16, wI (x_5 + 1)) _ _ ⟨v_14, rfl, (hS.pick [1] (by decide) rfl)⟩ (oinl_some h hk_6)))
 have h := if_f h hb_20
 refine wpC_exit ?_
 refine QE_then_x (QE_then_x ?_)
 have h := oinr_some h hk_6
 refine QE_blk_x ?_
 refine QE_then_n (wpC_seq (wpC_region (wpR_run 1 rfl ?_)))
 obtain ⟨x_17, hx_17, h⟩ := obind_some h
 refine wpR_call (by kernel_rfl) rfl (c_ref7_Trim _ x_1 v_2  (hS.ro 0 rfl).rp _ hx_17) rfl ?_
 rintro v_18 w hS1
 have hS := hS.call hS1
 simp only [List.cons_append, List.nil_append] at hS
 refine wpR_run 1 rfl ?_
 refine wpR_nil (QE_then_n (wpC_ret ?_))
 cases h
 exact QE_ret1 rfl rfl (hS.pick [0] (by decide) rfl)
theorem c_ref7_Minus (w0 : World) (a0 : List UInt32) (a1 : List UInt32) (va0 : Value) (va1 : Value) (ha0 : RP [] w0 e32 va0 a0) (ha1 : RP [] w0 e32 va1 a1) (r : List UInt32)
  (h : F.ref7_Minus a0 a1 = some r) : Calls Tryz.prog 114 #[va0, va1] w0 (Ret fun v w => St [] w0 w [own e32 v r]) := by
 refine calls_at 38 Tryz.func114 rfl rfl rfl ?_
 have hS := St.start w0
 refine wpC_le [(0, va0), (1, va1)] ⟨rfl, rfl, trivial⟩ ?_
 unfold F.ref7_Minus at h
 refine wpC_seq (wpC_region (wpR_run 1 rfl ?_))
 refine wpR_nil (QE_then_n (wpC_seq (wpC_region (wpR_run 1 rfl ?_))))
 refine wpR_nil (QE_then_n (wpC_seq (wpC_region (wpR_run 1 rfl ?_))))
 refine wpR_nil (QE_then_n (wpC_seq (wpC_seq (wpC_region (wpR_run 1 rfl ?_)))))
 refine wpR_nil (QE_then_n (wpC_block ?_))
 refine wpC_le [(0, va0), (1, va1), (5, .slice none 0 0), (6, v64 0), (7, vI 0)] ⟨rfl, rfl, rfl, rfl, rfl, trivial⟩ ?_
 refine loop_ind (F.ref7_Minus_L1 a0 a1) (fun (s : List UInt32 × UInt64 × Int) L w => ∃ (v_2 : Value), L = [(0, va0), (1, va1), (5, v_2), (6, v64 s.2.1), (7, vI s.2.2)] ∧ St [] w0 w [own e32 v_2 s.1]) ?_ ([], 0, 0) ⟨.slice none 0 0, rfl, (hS.nil e32)⟩ h
 rintro k_24 ⟨x_1, x_4, x_5⟩ L w q_8 hI ih_7 h hk_6
 try dsimp only at hI
 obtain ⟨v_2, rfl, hS⟩ := hI
 unfold F.ref7_Minus_L1 at h
 refine wpC_seq (wpC_seq (wpC_region (wpR_run 2 rfl ?_)))
 refine wpR_v (OpV_len Tryz.underlying25 rfl (ha0.now hS.fr)) rfl ?_
 refine wpR_run 1 rfl ?_
 refine wpR_nil (QE_then_n ?_)
 refine wpC_cond rfl (fun hb_23 => ?_) (fun hb_23 => ?_)
 ·have h := if_t h hb_23
  refine wpC_skip (QE_then_n (wpC_seq (wpC_block ?_)))
  refine wpC_seq (wpC_region (wpR_run 2 rfl ?_))
  obtain ⟨x_9, hx_9, h⟩ := obind_some h
  refine wpR_call (by kernel_rfl) rfl (c_ref7_limb _ a0 x_5 va0  (ha0.now hS.fr).rp _ hx_9) rfl ?_
  rintro _ w ⟨rfl, hS1⟩
  have hS := hS.call hS1
  simp only [List.cons_append, List.nil_append] at hS
  refine wpR_run 1 rfl ?_
  refine wpR_nil (QE_then_n (wpC_seq (wpC_region (wpR_run 2 rfl ?_))))
  obtain ⟨x_10, hx_10, h⟩ := obind_some h
  refine wpR_call (by kernel_rfl) rfl (c_ref7_limb _ a1 x_5 va1  (ha1.now hS.fr).rp _ hx_10) rfl ?_
  rintro _ w ⟨rfl, hS1⟩
  have hS := hS.call hS1
  simp only [List.cons_append, List.nil_append] at hS
  refine wpR_run 1 rfl ?_
  refine wpR_v (OpV_bin rfl rfl (b_add64 _ x_10 x_4)) rfl ?_
  refine wpR_run 1 rfl ?_
  refine wpR_nil (QE_then_n (wpC_seq (wpC_region (wpR_run 1 rfl ?_))))
  refine wpR_nil (QE_then_n ?_)
  refine seq_join (r := q_8) (fun (g : UInt64 × UInt64) L w => L = [(0, va0), (1, va1), (5, v_2), (6, v64 g.1), (7, vI x_5), (8, v64 g.2), (9, v64 (x_10 + x_4))] ∧ St [] w0 w [own e32 v_2 x_1]) (F.ref7_Minus_K1 x_1 x_4 x_5 x_10) ?_ ?_
  rotate_left
  ·intro hK_14
   refine wpC_seq (wpC_region (wpR_run 2 rfl ?_))
   refine wpR_v (OpV_bin rfl rfl (b_lss64 _ x_9 (x_10 + x_4))) rfl ?_
   refine wpR_nil (QE_then_n ?_)
   refine wpC_cond rfl (fun hb_11 => ?_) (fun hb_11 => ?_)
   ·have h := if_t h hb_11
    refine wpC_seq (wpC_region (wpR_run 1 rfl ?_))
    refine wpR_v (OpV_bin rfl rfl (b_add64 _ x_9 4294967296)) rfl ?_
    refine wpR_run 1 rfl ?_
    refine wpR_nil (QE_then_n (wpC_region (wpR_run 1 rfl ?_)))
    refine wpR_nil (QE_then_n ?_)
    exact wpC_le _ (by exact ⟨rfl, rfl, rfl, rfl, rfl, rfl, rfl, trivial⟩) (hK_14 (1, x_9 + 4294967296) _ _ ⟨rfl, hS⟩ h)
   have h := if_f h hb_11
   refine wpC_skip (QE_then_n ?_)
   exact wpC_le _ (by exact ⟨rfl, rfl, rfl, rfl, rfl, rfl, rfl, trivial⟩) (hK_14 (0, x_9) _ _ ⟨rfl, hS⟩ h)
  rintro ⟨x_12, x_13⟩ L w hJ h
  try dsimp only at hJ
  obtain ⟨rfl, hS⟩ := hJ
  unfold F.ref7_Minus_K1 at h
  refine wpC_region (wpR_run 3 rfl ?_)
  refine wpR_v (OpV_bin rfl rfl (b_sub64 _ x_13 (x_10 + x_4))) rfl ?_
  refine wpR_v (OpV_conv rfl (cv_64_32 Tryz.underlying94 Tryz.underlying52 (x_13 - (x_10 + x_4)))) rfl ?_
  refine wpR_x (OpX_lit (e := e32) (l := ([(x_13 - (x_10 + x_4)).toUInt32] : List UInt32)) (vs := [v32 ((x_13 - (x_10 + x_4)).toUInt32)]) Tryz.underlying25 ti52 rfl rfl rfl rfl (by decide) (by decide) hS) rfl ?_
  rintro v_15 w hS
  obtain ⟨x_17, hx_17, h⟩ := obind_some h
  refine wpR_x (G_append Tryz.underlying25 ti52 rfl rfl rfl hS (i := 1) rfl (hS.ro 0 rfl) hx_17) rfl ?_
  rintro v_18 w hS
  refine wpR_run 1 rfl ?_
  refine wpR_nil (QE_blk_n ?_)
  refine QE_then_n (wpC_region (wpR_run 3 rfl ?_))
  refine wpR_nil ?_
  exact QE_rnd (wpN_le _ (by exact ⟨rfl, rfl, rfl, rfl, rfl, trivial⟩) (ih_7 (x_17, x_12, wI (x_5 + 1)) _ _ ⟨v_18, rfl, (hS.pick [1] (by decide) rfl)⟩ (oinl_some h hk_6)))
 have h := if_f h hb_23
 refine wpC_exit ?_
 refine QE_then_x (QE_then_x ?_)
 have h := oinr_some h hk_6
 refine QE_blk_x ?_
 refine QE_then_n (wpC_seq (wpC_region (wpR_run 1 rfl ?_)))
 obtain ⟨x_20, hx_20, h⟩ := obind_some h
 refine wpR_call (by kernel_rfl) rfl (c_ref7_Trim _ x_1 v_2  (hS.ro 0 rfl).rp _ hx_20) rfl ?_
 rintro v_21 w hS1
 have hS := hS.call hS1
 simp only [List.cons_append, List.nil_append] at hS
 refine wpR_run 1 rfl ?_
 refine wpR_nil (QE_then_n (wpC_ret ?_))
 cases h
 exact QE_ret1 rfl rfl (hS.pick [0] (by decide) rfl)
theorem c_ref7_Sub (w0 : World) (a0 : List UInt32) (a1 : List UInt32) (a2 : List UInt32) (va0 : Value) (va1 : Value) (va2 : Value) (ha0 : RP [] w0 e32 va0 a0) (ha1 : RP [] w0 e32 va1 a1) (ha2 : RP [] w0 e32 va2 a2) (r : List UInt32 × Int)
  (h : F.ref7_Sub a0 a1 a2 = some r) : Calls Tryz.prog 87 #[va0, va1, va2] w0 (Ret fun v w => ∃ u0 : Value, v = .tuple #[u0, vI r.2] ∧ St [] w0 w [own e32 u0 r.1]) := by
 refine calls_at 28 Tryz.func87 rfl rfl rfl ?_
 have hS := St.start w0
 refine wpC_le [(0, va0), (1, va1), (2, va2)] ⟨rfl, rfl, rfl, trivial⟩ ?_
 unfold F.ref7_Sub at h
 refine wpC_seq (wpC_region (wpR_run 2 rfl ?_))
 refine wpR_nil (QE_then_n (wpC_seq (wpC_region (wpR_run 3 rfl ?_))))
 refine wpR_x (OpX_lit (e := eV) (l := ([SV.of va0, SV.of va1] : List SV)) (vs := [va0, va1]) Tryz.underlying121 ti25 rfl rfl rfl (fl_eVc (ha0.now hS.fr).sv (fl_eVc (ha1.now hS.fr).sv rfl)) (by decide) (by decide) hS) rfl ?_
 rintro v_1 w hS
 obtain ⟨x_3, hx_3, h⟩ := obind_some h
 refine wpR_call (by kernel_rfl) rfl (c_ref7_wrong _ a2 [a0, a1] va2 v_1 [SV.of va0, SV.of va1] (ha2.now hS.fr).rp (hS.ro 0 rfl).rp ⟨(ha0.now hS.fr).svrp, (ha1.now hS.fr).svrp, trivial⟩ _ hx_3) rfl ?_
 rintro _ w ⟨rfl, hS1⟩
 have hS := hS.call hS1
 simp only [List.cons_append, List.nil_append] at hS
 refine wpR_run 1 rfl ?_
 refine wpR_nil (QE_then_n (wpC_seq (wpC_seq (wpC_region (wpR_run 2 rfl ?_)))))
 refine wpR_nil (QE_then_n ?_)
 refine wpC_cond rfl (fun hb_19 => ?_) (fun hb_19 => ?_)
 ·have h := if_t h hb_19
  refine wpC_seq (wpC_region (wpR_run 3 rfl ?_))
  refine wpR_nil (QE_then_n (wpC_ret (QE_then_r ?_)))
  cases h
  exact QE_ret2 rfl rfl rfl ⟨.slice none 0 0, rfl, (hS.nil e32).pick [0] (by decide) rfl⟩
 have h := if_f h hb_19
 refine wpC_skip (QE_then_n (wpC_seq (wpC_region (wpR_run 2 rfl ?_))))
 obtain ⟨x_4, hx_4, h⟩ := obind_some h
 refine wpR_call (by kernel_rfl) rfl (c_ref7_rest _ a0 a2 va0 va2  (ha0.now hS.fr).rp (ha2.now hS.fr).rp _ hx_4) rfl ?_
 rintro v_5 w hS1
 have hS := hS.call hS1
 simp only [List.cons_append, List.nil_append] at hS
 refine wpR_run 1 rfl ?_
 obtain ⟨x_7, hx_7, h⟩ := obind_some h
 refine wpR_call (by kernel_rfl) rfl (c_ref7_Plus _ x_4 a2 v_5 va2  (hS.ro 0 rfl).rp (ha2.now hS.fr).rp _ hx_7) rfl ?_
 rintro v_8 w hS1
 have hS := hS.call hS1
 simp only [List.cons_append, List.nil_append] at hS
 refine wpR_run 2 rfl ?_
 obtain ⟨x_10, hx_10, h⟩ := obind_some h
 refine wpR_call (by kernel_rfl) rfl (c_ref7_rest _ a1 a2 va1 va2  (ha1.now hS.fr).rp (ha2.now hS.fr).rp _ hx_10) rfl ?_
 rintro v_11 w hS1
 have hS := hS.call hS1
 simp only [List.cons_append, List.nil_append] at hS
 obtain ⟨x_13, hx_13, h⟩ := obind_some h
 refine wpR_call (by kernel_rfl) rfl (c_ref7_Minus _ x_7 x_10 v_8 v_11  (hS.ro 1 rfl).rp (hS.ro 0 rfl).rp _ hx_13) rfl ?_
 rintro v_14 w hS1
 have hS := hS.call hS1
 simp only [List.cons_append, List.nil_append] at hS
 refine wpR_run 1 rfl ?_
 obtain ⟨x_16, hx_16, h⟩ := obind_some h
 refine wpR_call (by kernel_rfl) rfl (c_ref7_rest _ x_13 a2 v_14 va2  (hS.ro 0 rfl).rp (ha2.now hS.fr).rp _ hx_16) rfl ?_
 rintro v_17 w hS1
 have hS := hS.call hS1
 simp only [List.cons_append, List.nil_append] at hS
 refine wpR_run 2 rfl ?_
 refine wpR_nil (QE_then_n (wpC_ret ?_))
 cases h
 exact QE_ret2 rfl rfl rfl ⟨v_17, rfl, hS.pick [0] (by decide) rfl⟩
theorem c_ref7_Add (w0 : World) (a0 : List UInt32) (a1 : List UInt32) (a2 : List UInt32) (va0 : Value) (va1 : Value) (va2 : Value) (ha0 : RP [] w0 e32 va0 a0) (ha1 : RP [] w0 e32 va1 a1) (ha2 : RP [] w0 e32 va2 a2) (r : List UInt32 × Int)
  (h : F.ref7_Add a0 a1 a2 = some r) : Calls Tryz.prog 90 #[va0, va1, va2] w0 (Ret fun v w => ∃ u0 : Value, v = .tuple #[u0, vI r.2] ∧ St [] w0 w [own e32 u0 r.1]) := by
 refine calls_at 22 Tryz.func90 rfl rfl rfl ?_
 have hS := St.start w0
 refine wpC_le [(0, va0), (1, va1), (2, va2)] ⟨rfl, rfl, rfl, trivial⟩ ?_
 unfold F.ref7_Add at h
 refine wpC_seq (wpC_region (wpR_run 2 rfl ?_))
 refine wpR_nil (QE_then_n (wpC_seq (wpC_region (wpR_run 3 rfl ?_))))
 refine wpR_x (OpX_lit (e := eV) (l := ([SV.of va0, SV.of va1] : List SV)) (vs := [va0, va1]) Tryz.underlying121 ti25 rfl rfl rfl (fl_eVc (ha0.now hS.fr).sv (fl_eVc (ha1.now hS.fr).sv rfl)) (by decide) (by decide) hS) rfl ?_
 rintro v_1 w hS
 obtain ⟨x_3, hx_3, h⟩ := obind_some h
 refine wpR_call (by kernel_rfl) rfl (c_ref7_wrong _ a2 [a0, a1] va2 v_1 [SV.of va0, SV.of va1] (ha2.now hS.fr).rp (hS.ro 0 rfl).rp ⟨(ha0.now hS.fr).svrp, (ha1.now hS.fr).svrp, trivial⟩ _ hx_3) rfl ?_
 rintro _ w ⟨rfl, hS1⟩
 have hS := hS.call hS1
 simp only [List.cons_append, List.nil_append] at hS
 refine wpR_run 1 rfl ?_
 refine wpR_nil (QE_then_n (wpC_seq (wpC_seq (wpC_region (wpR_run 2 rfl ?_)))))
 refine wpR_nil (QE_then_n ?_)
 refine wpC_cond rfl (fun hb_10 => ?_) (fun hb_10 => ?_)
 ·have h := if_t h hb_10
  refine wpC_seq (wpC_region (wpR_run 3 rfl ?_))
  refine wpR_nil (QE_then_n (wpC_ret (QE_then_r ?_)))
  cases h
  exact QE_ret2 rfl rfl rfl ⟨.slice none 0 0, rfl, (hS.nil e32).pick [0] (by decide) rfl⟩
 have h := if_f h hb_10
 refine wpC_skip (QE_then_n (wpC_seq (wpC_region (wpR_run 2 rfl ?_))))
 obtain ⟨x_4, hx_4, h⟩ := obind_some h
 refine wpR_call (by kernel_rfl) rfl (c_ref7_Plus _ a0 a1 va0 va1  (ha0.now hS.fr).rp (ha1.now hS.fr).rp _ hx_4) rfl ?_
 rintro v_5 w hS1
 have hS := hS.call hS1
 simp only [List.cons_append, List.nil_append] at hS
 refine wpR_run 1 rfl ?_
 obtain ⟨x_7, hx_7, h⟩ := obind_some h
 refine wpR_call (by kernel_rfl) rfl (c_ref7_rest _ x_4 a2 v_5 va2  (hS.ro 0 rfl).rp (ha2.now hS.fr).rp _ hx_7) rfl ?_
 rintro v_8 w hS1
 have hS := hS.call hS1
 simp only [List.cons_append, List.nil_append] at hS
 refine wpR_run 2 rfl ?_
 refine wpR_nil (QE_then_n (wpC_ret ?_))
 cases h
 exact QE_ret2 rfl rfl rfl ⟨v_8, rfl, hS.pick [0] (by decide) rfl⟩
end Go.Proofs
