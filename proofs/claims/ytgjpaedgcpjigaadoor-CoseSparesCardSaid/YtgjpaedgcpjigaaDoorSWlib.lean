import Derived.Test.YtgjpaedgcpjigaaDoorSW0
import Derived.Test.YtgjpaedgcpjigaaDoorGkFlib
set_option linter.unusedVariables false
set_option linter.unusedSimpArgs false
set_option linter.unusedVariables false
set_option maxRecDepth 4000
namespace Go.Proofs
open Go Go.RowKit Go.Gk
theorem c_cmp_isNaN_byte (w0 : World) (a0 : UInt8)   (r : Bool)
  (h : F.cmp_isNaN_byte a0 = some r) : Calls Tryd.prog 77 #[v8 a0] w0 (Ret fun v w => v = vB r ∧ St [] w0 w []) := by
 refine calls_at 6 Tryd.func77 rfl rfl rfl ?_
 have hS := St.start w0
 refine wpC_le [(0, v8 a0)] ⟨rfl, trivial⟩ ?_
 unfold F.cmp_isNaN_byte at h
 refine wpC_seq (wpC_region (wpR_run 1 rfl ?_))
 refine wpR_nil (QE_then_n (wpC_seq (wpC_region (wpR_run 2 rfl ?_))))
 refine wpR_v (OpV_bin rfl rfl (b_neq8 _ a0 a0)) rfl ?_
 refine wpR_run 1 rfl ?_
 refine wpR_nil (QE_then_n (wpC_ret ?_))
 cases h
 exact QE_ret1 rfl rfl ⟨rfl, hS⟩
theorem c_cmp_Compare_byte (w0 : World) (a0 : UInt8) (a1 : UInt8)   (r : Int)
  (h : F.cmp_Compare_byte a0 a1 = some r) : Calls Tryd.prog 70 #[v8 a0, v8 a1] w0 (Ret fun v w => v = vI r ∧ St [] w0 w []) := by
 refine calls_at 20 Tryd.func70 rfl rfl rfl ?_
 have hS := St.start w0
 refine wpC_le [(0, v8 a0), (1, v8 a1)] ⟨rfl, rfl, trivial⟩ ?_
 unfold F.cmp_Compare_byte at h
 refine wpC_seq (wpC_region (wpR_run 1 rfl ?_))
 refine wpR_nil (QE_then_n (wpC_seq (wpC_region (wpR_run 1 rfl ?_))))
 obtain ⟨x_1, hx_1, h⟩ := obind_some h
 refine wpR_call (by kernel_rfl) rfl (c_cmp_isNaN_byte _ a0    _ hx_1) rfl ?_
 rintro _ w ⟨rfl, hS1⟩
 have hS := hS.call hS1
 simp only [List.cons_append, List.nil_append] at hS
 refine wpR_run 1 rfl ?_
 refine wpR_nil (QE_then_n (wpC_seq (wpC_region (wpR_run 1 rfl ?_))))
 obtain ⟨x_2, hx_2, h⟩ := obind_some h
 refine wpR_call (by kernel_rfl) rfl (c_cmp_isNaN_byte _ a1    _ hx_2) rfl ?_
 rintro _ w ⟨rfl, hS1⟩
 have hS := hS.call hS1
 simp only [List.cons_append, List.nil_append] at hS
 refine wpR_run 1 rfl ?_
 refine wpR_nil (QE_then_n (wpC_seq (wpC_seq (wpC_region (wpR_run 1 rfl ?_)))))
 refine wpR_nil (QE_then_n ?_)
 refine wpC_cond rfl (fun hb_7 => ?_) (fun hb_7 => ?_)
 ·have h := if_t h hb_7
  refine wpC_seq (wpC_seq (wpC_region (wpR_run 1 rfl ?_)))
  refine wpR_nil (QE_then_n ?_)
  refine wpC_cond rfl (fun hb_3 => ?_) (fun hb_3 => ?_)
  ·have h := if_t h hb_3
   refine wpC_seq (wpC_region (wpR_run 1 rfl ?_))
   refine wpR_nil (QE_then_n (wpC_ret (QE_then_r (QE_then_r ?_))))
   cases h
   exact QE_ret1 rfl rfl ⟨rfl, hS⟩
  have h := if_f h hb_3
  refine wpC_skip (QE_then_n (wpC_seq (wpC_region (wpR_run 1 rfl ?_))))
  refine wpR_nil (QE_then_n (wpC_ret (QE_then_r ?_)))
  cases h
  exact QE_ret1 rfl rfl ⟨rfl, hS⟩
 have h := if_f h hb_7
 refine wpC_skip (QE_then_n (wpC_seq (wpC_seq (wpC_region (wpR_run 1 rfl ?_)))))
 refine wpR_nil (QE_then_n ?_)
 refine wpC_cond rfl (fun hb_6 => ?_) (fun hb_6 => ?_)
 ·have h := if_t h hb_6
  refine wpC_seq (wpC_region (wpR_run 1 rfl ?_))
  refine wpR_nil (QE_then_n (wpC_ret (QE_then_r ?_)))
  cases h
  exact QE_ret1 rfl rfl ⟨rfl, hS⟩
 have h := if_f h hb_6
 refine wpC_skip (QE_then_n (wpC_seq (wpC_seq (wpC_region (wpR_run 2 rfl ?_)))))
 refine wpR_v (OpV_bin rfl rfl (b_lss8 _ a0 a1)) rfl ?_
 refine wpR_nil (QE_then_n ?_)
 refine wpC_cond rfl (fun hb_5 => ?_) (fun hb_5 => ?_)
 ·have h := if_t h hb_5
  refine wpC_seq (wpC_region (wpR_run 1 rfl ?_))
  refine wpR_nil (QE_then_n (wpC_ret (QE_then_r ?_)))
  cases h
  exact QE_ret1 rfl rfl ⟨rfl, hS⟩
 have h := if_f h hb_5
 refine wpC_skip (QE_then_n (wpC_seq (wpC_seq (wpC_region (wpR_run 2 rfl ?_)))))
 refine wpR_v (OpV_bin rfl rfl (b_gtr8 _ a0 a1)) rfl ?_
 refine wpR_nil (QE_then_n ?_)
 refine wpC_cond rfl (fun hb_4 => ?_) (fun hb_4 => ?_)
 ·have h := if_t h hb_4
  refine wpC_seq (wpC_region (wpR_run 1 rfl ?_))
  refine wpR_nil (QE_then_n (wpC_ret (QE_then_r ?_)))
  cases h
  exact QE_ret1 rfl rfl ⟨rfl, hS⟩
 have h := if_f h hb_4
 refine wpC_skip (QE_then_n (wpC_seq (wpC_region (wpR_run 1 rfl ?_))))
 refine wpR_nil (QE_then_n (wpC_ret ?_))
 cases h
 exact QE_ret1 rfl rfl ⟨rfl, hS⟩
theorem c_slices_Compare_byte_byte (w0 : World) (a0 : List UInt8) (a1 : List UInt8) (va0 : Value) (va1 : Value) (ha0 : RP [] w0 e8 va0 a0) (ha1 : RP [] w0 e8 va1 a1) (r : Int)
  (h : F.slices_Compare_byte_byte a0 a1 = some r) : Calls Tryd.prog 54 #[va0, va1] w0 (Ret fun v w => v = vI r ∧ St [] w0 w []) := by
 refine calls_at 36 Tryd.func54 rfl rfl rfl ?_
 have hS := St.start w0
 refine wpC_le [(0, va0), (1, va1)] ⟨rfl, rfl, trivial⟩ ?_
 unfold F.slices_Compare_byte_byte at h
 refine wpC_seq (wpC_region (wpR_run 1 rfl ?_))
 refine wpR_nil (QE_then_n (wpC_seq (wpC_seq (wpC_region (wpR_run 1 rfl ?_)))))
 refine wpR_v (OpV_len Tryd.underlying22 rfl (ha0.now hS.fr)) rfl ?_
 refine wpR_run 1 rfl ?_
 refine wpR_nil (QE_then_n (wpC_block ?_))
 refine wpC_le [(0, va0), (1, va1), (9, va0), (10, vI (a0.length : Int)), (11, vI 0)] ⟨rfl, rfl, rfl, rfl, rfl, trivial⟩ ?_
 refine loop_ind (F.slices_Compare_byte_byte_L1 a0 a1) (fun (s : Int) L w => L = [(0, va0), (1, va1), (9, va0), (10, vI (a0.length : Int)), (11, vI s)] ∧ St [] w0 w []) ?_ 0 ⟨rfl, hS⟩ h
 rintro k_12 x_1 L w q_4 hI ih_3 h hk_2
 try dsimp only at hI
 obtain ⟨rfl, hS⟩ := hI
 unfold F.slices_Compare_byte_byte_L1 at h
 refine wpC_seq (wpC_region (wpR_run 1 rfl ?_))
 refine wpR_nil (QE_then_n (wpC_seq ?_))
 refine wpC_cond rfl (fun hb_11 => ?_) (fun hb_11 => ?_)
 ·have h := if_t h hb_11
  refine wpC_skip (QE_then_n (wpC_seq (wpC_block ?_)))
  refine wpC_seq (wpC_region (wpR_run 1 rfl ?_))
  obtain ⟨x_5, hx_5, h⟩ := obind_some h
  refine wpR_v (G_ix Tryd.underlying22 ti5 rfl rfl (ha0.now hS.fr) hx_5) rfl ?_
  refine wpR_v (G_load Tryd.underlying5 rfl rfl (ha0.now hS.fr) hx_5 rfl) rfl ?_
  refine wpR_run 2 rfl ?_
  refine wpR_nil (QE_then_n (wpC_seq (wpC_seq (wpC_region (wpR_run 2 rfl ?_)))))
  refine wpR_v (OpV_len Tryd.underlying22 rfl (ha1.now hS.fr)) rfl ?_
  refine wpR_run 1 rfl ?_
  refine wpR_nil (QE_then_n ?_)
  refine wpC_cond rfl (fun hb_9 => ?_) (fun hb_9 => ?_)
  ·have h := if_t h hb_9
   refine wpC_seq (wpC_region (wpR_run 1 rfl ?_))
   refine wpR_nil (QE_then_n (wpC_ret (QE_then_r (QE_blk_r ?_))))
   refine QE_then_r (QE_then_r ?_)
   have h := oinr_some h hk_2
   refine QE_blk_r ?_
   refine QE_then_r ?_
   cases h
   exact QE_ret1 rfl rfl ⟨rfl, hS⟩
  have h := if_f h hb_9
  refine wpC_skip (QE_then_n (wpC_seq (wpC_region (wpR_run 2 rfl ?_))))
  obtain ⟨x_6, hx_6, h⟩ := obind_some h
  refine wpR_v (G_ix Tryd.underlying22 ti5 rfl rfl (ha1.now hS.fr) hx_6) rfl ?_
  refine wpR_v (G_load Tryd.underlying5 rfl rfl (ha1.now hS.fr) hx_6 rfl) rfl ?_
  refine wpR_run 1 rfl ?_
  refine wpR_nil (QE_then_n (wpC_seq (wpC_region (wpR_run 2 rfl ?_))))
  obtain ⟨x_7, hx_7, h⟩ := obind_some h
  refine wpR_call (by kernel_rfl) rfl (c_cmp_Compare_byte _ x_5 x_6    _ hx_7) rfl ?_
  rintro _ w ⟨rfl, hS1⟩
  have hS := hS.call hS1
  simp only [List.cons_append, List.nil_append] at hS
  refine wpR_run 1 rfl ?_
  refine wpR_nil (QE_then_n (wpC_seq (wpC_region (wpR_run 2 rfl ?_))))
  refine wpR_nil (QE_then_n ?_)
  refine wpC_cond rfl (fun hb_8 => ?_) (fun hb_8 => ?_)
  ·have h := if_t h hb_8
   refine wpC_seq (wpC_region (wpR_run 2 rfl ?_))
   refine wpR_nil (QE_then_n (wpC_ret (QE_blk_r ?_)))
   refine QE_then_r (QE_then_r ?_)
   have h := oinr_some h hk_2
   refine QE_blk_r ?_
   refine QE_then_r ?_
   cases h
   exact QE_ret1 rfl rfl ⟨rfl, hS⟩
  have h := if_f h hb_8
  refine wpC_skip (QE_blk_n ?_)
  refine QE_then_n (wpC_region (wpR_run 2 rfl ?_))
  refine wpR_nil ?_
  exact QE_rnd (wpN_le _ (by exact ⟨rfl, rfl, rfl, rfl, rfl, trivial⟩) (ih_3 (wI (x_1 + 1)) _ _ ⟨rfl, hS⟩ (oinl_some h hk_2)))
 have h := if_f h hb_11
 refine wpC_exit ?_
 refine QE_then_x (QE_then_x ?_)
 have h := oinr_some h hk_2
 refine QE_blk_x ?_
 refine QE_then_n (wpC_seq (wpC_seq (wpC_region (wpR_run 1 rfl ?_))))
 refine wpR_v (OpV_len Tryd.underlying22 rfl (ha0.now hS.fr)) rfl ?_
 refine wpR_run 1 rfl ?_
 refine wpR_v (OpV_len Tryd.underlying22 rfl (ha1.now hS.fr)) rfl ?_
 refine wpR_run 1 rfl ?_
 refine wpR_nil (QE_then_n ?_)
 refine wpC_cond rfl (fun hb_10 => ?_) (fun hb_10 => ?_)
 ·have h := if_t h hb_10
  refine wpC_seq (wpC_region (wpR_run 1 rfl ?_))
  refine wpR_nil (QE_then_n (wpC_ret (QE_then_r ?_)))
  cases h
  exact QE_ret1 rfl rfl ⟨rfl, hS⟩
 have h := if_f h hb_10
 refine wpC_skip (QE_then_n (wpC_seq (wpC_region (wpR_run 1 rfl ?_))))
 refine wpR_nil (QE_then_n (wpC_ret ?_))
 cases h
 exact QE_ret1 rfl rfl ⟨rfl, hS⟩
theorem c_slices_Clone_byte_byte (w0 : World) (a0 : List UInt8) (va0 : Value) (ha0 : RP [] w0 e8 va0 a0) (r : List UInt8)
  (h : F.slices_Clone_byte_byte a0 = some r) : Calls Tryd.prog 58 #[va0] w0 (Ret fun v w => St [] w0 w [own e8 v r]) := by
 refine calls_at 8 Tryd.func58 rfl rfl rfl ?_
 have hS := St.start w0
 refine wpC_le [(0, va0)] ⟨rfl, trivial⟩ ?_
 unfold F.slices_Clone_byte_byte at h
 refine wpC_seq (wpC_region (wpR_run 1 rfl ?_))
 refine wpR_nil (QE_then_n (wpC_seq (wpC_seq (wpC_region (wpR_run 1 rfl ?_)))))
 rcases ha0.isnil Tryd.underlying22 with ⟨hz_1, hq_2, hp_3⟩ | ⟨hq_2, hp_3⟩
 ·refine wpR_v (OpV_bin rfl rfl hq_2) rfl ?_
  have h := (show some [] = some r by rw [hz_1] at h; exact h)
  refine wpR_nil (QE_then_n (wpC_condT rfl ?_))
  refine wpC_seq (wpC_region (wpR_run 1 rfl ?_))
  refine wpR_nil (QE_then_n (wpC_ret (QE_then_r ?_)))
  cases h
  exact QE_ret1 rfl rfl ((hS.nil e8).pick [0] (by decide) rfl)
 ·refine wpR_v (OpV_bin rfl rfl hq_2) rfl ?_
  refine wpR_nil (QE_then_n (wpC_condF rfl ?_))
  refine wpC_skip (QE_then_n (wpC_seq (wpC_region (wpR_x (OpX_lit0 (e := e8) Tryd.underlying22 ti5 hS) rfl ?_))))
  rintro v_4 w hS
  refine wpR_run 1 rfl ?_
  obtain ⟨x_6, hx_6, h⟩ := obind_some h
  refine wpR_x (G_append Tryd.underlying22 ti5 rfl rfl rfl hS (i := 0) rfl (ha0.now hS.fr) hx_6) rfl ?_
  rintro v_7 w hS
  refine wpR_run 1 rfl ?_
  refine wpR_nil (QE_then_n (wpC_ret ?_))
  cases h
  exact QE_ret1 rfl rfl (hS.pick [0] (by decide) rfl)
theorem c_slices_Index_int_int (w0 : World) (a0 : List Int) (a1 : Int) (va0 : Value) (ha0 : RP [] w0 eI va0 a0) (r : Int)
  (h : F.slices_Index_int_int a0 a1 = some r) : Calls Tryd.prog 45 #[va0, vI a1] w0 (Ret fun v w => v = vI r ∧ St [] w0 w []) := by
 refine calls_at 19 Tryd.func45 rfl rfl rfl ?_
 have hS := St.start w0
 refine wpC_le [(0, va0), (1, vI a1)] ⟨rfl, rfl, trivial⟩ ?_
 unfold F.slices_Index_int_int at h
 refine wpC_seq (wpC_region (wpR_run 1 rfl ?_))
 refine wpR_nil (QE_then_n (wpC_seq (wpC_seq (wpC_region (wpR_run 1 rfl ?_)))))
 refine wpR_v (OpV_len Tryd.underlying60 rfl (ha0.now hS.fr)) rfl ?_
 refine wpR_run 1 rfl ?_
 refine wpR_nil (QE_then_n (wpC_block ?_))
 refine wpC_le [(0, va0), (1, vI a1), (7, vI (a0.length : Int)), (8, vI 0)] ⟨rfl, rfl, rfl, rfl, trivial⟩ ?_
 refine loop_ind (F.slices_Index_int_int_L1 a0 a1) (fun (s : Int) L w => L = [(0, va0), (1, vI a1), (7, vI (a0.length : Int)), (8, vI s)] ∧ St [] w0 w []) ?_ 0 ⟨rfl, hS⟩ h
 rintro k_8 x_1 L w q_4 hI ih_3 h hk_2
 try dsimp only at hI
 obtain ⟨rfl, hS⟩ := hI
 unfold F.slices_Index_int_int_L1 at h
 refine wpC_seq (wpC_region (wpR_run 1 rfl ?_))
 refine wpR_nil (QE_then_n (wpC_seq ?_))
 refine wpC_cond rfl (fun hb_7 => ?_) (fun hb_7 => ?_)
 ·have h := if_t h hb_7
  refine wpC_skip (QE_then_n (wpC_seq (wpC_block ?_)))
  refine wpC_seq (wpC_region (wpR_run 2 rfl ?_))
  refine wpR_nil (QE_then_n (wpC_seq (wpC_region (wpR_run 3 rfl ?_))))
  obtain ⟨x_5, hx_5, h⟩ := obind_some h
  refine wpR_v (G_ix Tryd.underlying60 ti3 rfl rfl (ha0.now hS.fr) hx_5) rfl ?_
  refine wpR_v (G_load Tryd.underlying3 rfl rfl (ha0.now hS.fr) hx_5 rfl) rfl ?_
  refine wpR_run 1 rfl ?_
  refine wpR_nil (QE_then_n ?_)
  refine wpC_cond rfl (fun hb_6 => ?_) (fun hb_6 => ?_)
  ·have h := if_t h hb_6
   refine wpC_seq (wpC_region (wpR_run 2 rfl ?_))
   refine wpR_nil (QE_then_n (wpC_ret (QE_blk_r ?_)))
   refine QE_then_r (QE_then_r ?_)
   have h := oinr_some h hk_2
   refine QE_blk_r ?_
   refine QE_then_r ?_
   cases h
   exact QE_ret1 rfl rfl ⟨rfl, hS⟩
  have h := if_f h hb_6
  refine wpC_skip (QE_blk_n ?_)
  refine QE_then_n (wpC_region (wpR_run 2 rfl ?_))
  refine wpR_nil ?_
  exact QE_rnd (wpN_le _ (by exact ⟨rfl, rfl, rfl, rfl, trivial⟩) (ih_3 (wI (x_1 + 1)) _ _ ⟨rfl, hS⟩ (oinl_some h hk_2)))
 have h := if_f h hb_7
 refine wpC_exit ?_
 refine QE_then_x (QE_then_x ?_)
 have h := oinr_some h hk_2
 refine QE_blk_x ?_
 refine QE_then_n (wpC_seq (wpC_region (wpR_run 1 rfl ?_)))
 refine wpR_nil (QE_then_n (wpC_ret ?_))
 cases h
 exact QE_ret1 rfl rfl ⟨rfl, hS⟩
theorem c_slices_Contains_int_int (w0 : World) (a0 : List Int) (a1 : Int) (va0 : Value) (ha0 : RP [] w0 eI va0 a0) (r : Bool)
  (h : F.slices_Contains_int_int a0 a1 = some r) : Calls Tryd.prog 28 #[va0, vI a1] w0 (Ret fun v w => v = vB r ∧ St [] w0 w []) := by
 refine calls_at 9 Tryd.func28 rfl rfl rfl ?_
 have hS := St.start w0
 refine wpC_le [(0, va0), (1, vI a1)] ⟨rfl, rfl, trivial⟩ ?_
 unfold F.slices_Contains_int_int at h
 refine wpC_seq (wpC_region (wpR_run 1 rfl ?_))
 refine wpR_nil (QE_then_n (wpC_seq (wpC_region (wpR_run 2 rfl ?_))))
 obtain ⟨x_1, hx_1, h⟩ := obind_some h
 refine wpR_call (by kernel_rfl) rfl (c_slices_Index_int_int _ a0 a1 va0  (ha0.now hS.fr).rp _ hx_1) rfl ?_
 rintro _ w ⟨rfl, hS1⟩
 have hS := hS.call hS1
 simp only [List.cons_append, List.nil_append] at hS
 refine wpR_run 2 rfl ?_
 refine wpR_nil (QE_then_n (wpC_ret ?_))
 cases h
 exact QE_ret1 rfl rfl ⟨rfl, hS⟩
end Go.Proofs
